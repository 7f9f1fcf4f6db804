
/- Data trees in memory: what a slice of structs, with slices in it, reads as; kept where its blocks are kept. -/
import Derived.Test.YtbakpddomlgjbaaShort
import Derived.WalkKit
import Derived.Lib.Hide
import Derived.Deep.QuietTactic
import Derived.BigQuiet
import Derived.KernelRfl
import Derived.Laws.AppendOwn
import Derived.OrdersHeld
import Derived.Maps.AppendAt
import Derived.Deep.LoopGhost
import Derived.Deep.MidRow
import Derived.Lib.SliceRun
set_option linter.unusedSimpArgs false
set_option linter.unusedVariables false
namespace Go.Tr
open Go Go.RowKit
inductive D where
 |v (x:Value)
 |sl (n:Nat) (ds:List D)
def aM(w:World)(b off:Nat)(us:List Value):Prop:=∀j u,us[j]? =some u->w.cell? ⟨b,off+j,none⟩=some u
mutual
def T1(w:World):D->List Nat->Value->Prop
 | .v x,bs,u=>u=x/\bs=[]/\x.oneCell'=true
 | .sl n ds,bs,u=>∃A c,u=.slice A n c/\n<=c/\c<=maxLen/\((n=0/\ds=[]/\bs=[])\/(0<n/\∃b off us bs',A=some ⟨b,off,none⟩/\bs=b::bs'/\b<w.heap.size/\aM w b off us/\TN w ds bs' us))
def TN(w:World):List D->List Nat->List Value->Prop
 |[],bs,us=>us=[]/\bs=[]
 |d::ds,bs,us=>∃b1 b2 u us',us=u::us'/\bs=b1++b2/\T1 w d b1 u/\TN w ds b2 us'
end
def Keeps(w w':World)(bs:List Nat):Prop:=w.heap.size<=w'.heap.size/\∀b∈bs,w'.heap[b]? =w.heap[b]?
theorem Keeps.cell{w w':World}{bs:aG}(h:Keeps w w' bs){b:Nat}(hb:b∈bs)(o:Nat):w'.cell? ⟨b,o,none⟩=w.cell? ⟨b,o,none⟩:=
 World.cell?_of_block (h.2 b hb)
theorem Keeps.sub{w w':World}{bs cs:aG}(h:Keeps w w' bs)(hs:∀b∈cs,b∈bs):Keeps w w' cs:=⟨h.1,fun b hb=>h.2 b (hs b hb)⟩
theorem aM.keep{w w':World}{b off:Nat}{us:aO}(h:aM w b off us)(hk:w'.heap[b]? =w.heap[b]?):aM w' b off us:=
 fun j u hu=>(World.cell?_of_block hk).trans (h j u hu)
mutual
theorem T1.keep{w w':World}:∀{d:D} {bs:aG} {u:Value},T1 w d bs u->Keeps w w' bs->T1 w' d bs u
 | .v x,bs,u,h,_=>by unfold T1 at*;exact h
 | .sl n ds,bs,u,h,hk=>by
  unfold T1 at h |-;obtain⟨A,c,rfl,hn,hc,h⟩:=h;refine⟨A,c,rfl,hn,hc,?_⟩;rcases h with h|⟨h0,b,off,us,bs',rfl,rfl,hb,hca,ht⟩
  .exact .inl h
  .exact .inr ⟨h0,b,off,us,bs',rfl,rfl,qW hb hk.1,hca.keep (hk.2 b (by simp)),TN.keep ht (hk.sub fun b' hb'=>by simp[hb'])⟩
theorem TN.keep{w w':World}:∀{ds:List D} {bs:aG} {us:aO},TN w ds bs us->Keeps w w' bs->TN w' ds bs us
 |[],bs,us,h,_=>by unfold TN at*;exact h
 |d::ds,bs,us,h,hk=>by
  unfold TN at h |-;obtain⟨b1,b2,u,us',rfl,rfl,h1,h2⟩:=h;exact⟨b1,b2,u,us',rfl,rfl,T1.keep h1 (hk.sub fun b hb=>by simp[hb]),TN.keep h2 (hk.sub fun b hb=>by simp[hb])⟩
end
mutual
theorem T1.lt{w:World}:∀{d:D} {bs:aG} {u:Value},T1 w d bs u->∀b∈bs,b<w.heap.size
 | .v x,bs,u,h=>by unfold T1 at h;obtain⟨_,rfl,_⟩:=h;simp
 | .sl n ds,bs,u,h=>by
  unfold T1 at h;obtain⟨A,c,rfl,hn,hc,h⟩:=h;rcases h with⟨_,_,rfl⟩|⟨h0,b,off,us,bs',rfl,rfl,hb,hca,ht⟩
  .simp
  .intro b' hb';rcases List.mem_cons.1 hb' with rfl|hb'
   .exact hb
   .exact TN.lt ht b' hb'
theorem TN.lt{w:World}:∀{ds:List D} {bs:aG} {us:aO},TN w ds bs us->∀b∈bs,b<w.heap.size
 |[],bs,us,h=>by unfold TN at h;obtain⟨_,rfl⟩:=h;simp
 |d::ds,bs,us,h=>by
  unfold TN at h;obtain⟨b1,b2,u,us',rfl,rfl,h1,h2⟩:=h;intro b hb;rcases qT.1 hb with hb|hb
  .exact T1.lt h1 b hb
  .exact TN.lt h2 b hb
end
theorem Keeps.of_below{w w':World}{B:Nat}{bs:aG}(h:Below B w w')(hl:∀b∈bs,b<B):Keeps w w' bs:=⟨h.size,fun b hb=>h.block b (hl b hb)⟩
theorem TN.below{w w':World}{ds bs us}(h:TN w ds bs us)(hb:Below w.heap.size w w'):TN w' ds bs us:=h.keep (.of_below hb h.lt)
theorem T1.below{w w':World}{d bs u}(h:T1 w d bs u)(hb:Below w.heap.size w w'):T1 w' d bs u:=h.keep (.of_below hb h.lt)
theorem TN.length{w:World}:∀{ds:List D} {bs us},TN w ds bs us->us.length=ds.length
 |[],bs,us,h=>by unfold TN at h;simp[h.1]
 |d::ds,bs,us,h=>by
  unfold TN at h;obtain⟨b1,b2,u,us',rfl,rfl,h1,h2⟩:=h;simp[h2.length]
theorem TN.nil{w:World}{bs us}:TN w [] bs us↔us=[]/\bs=[]:=by unfold TN;rfl
theorem TN.cons{w:World}{d ds bs us}:TN w (d::ds) bs us↔∃b1 b2 u us',us=u::us'/\bs=b1++b2/\T1 w d b1 u/\TN w ds b2 us':=by rw[TN]
theorem T1.v{w:World}{x bs u}:T1 w (.v x) bs u↔u=x/\bs=[]/\x.oneCell'=true:=by rw[T1]
theorem TN.append{w:World}:∀{ds es:List D} {bs us},TN w (ds++es) bs us↔∃b1 b2 u1 u2,us=u1++u2/\bs=b1++b2/\TN w ds b1 u1/\TN w es b2 u2
 |[],es,bs,us=>by
  constructor
  .intro h;exact⟨[],bs,[],us,rfl,rfl,TN.nil.2 ⟨rfl,rfl⟩,h⟩
  .rintro⟨b1,b2,u1,u2,rfl,rfl,h1,h2⟩;obtain⟨rfl,rfl⟩:=TN.nil.1 h1;exact h2
 |d::ds,es,bs,us=>by
  rw[List.cons_append,TN.cons];constructor
  .rintro⟨b1,b2,u,us',rfl,rfl,h1,h2⟩;obtain⟨c1,c2,u1,u2,rfl,rfl,h3,h4⟩:=TN.append.1 h2;exact⟨b1++c1,c2,u::u1,u2,rfl,by simp,TN.cons.2 ⟨b1,c1,u,u1,rfl,rfl,h1,h3⟩,h4⟩
  .rintro⟨b1,b2,u1,u2,rfl,rfl,h1,h2⟩;obtain⟨c1,c2,u,us',rfl,rfl,h3,h4⟩:=TN.cons.1 h1;exact⟨c1,c2++b2,u,us'++u2,rfl,by simp,h3,TN.append.2 ⟨c2,b2,us',u2,rfl,rfl,h4,h2⟩⟩
theorem TN.scalars{w:World}:∀{us:aO},us.all (·.oneCell')=true->TN w (us.map D.v) [] us
 |[],_=>TN.nil.2 ⟨rfl,rfl⟩
 |u::us,h=>by
  simp only[List.all_cons,qD]at h;exact TN.cons.2 ⟨[],[],u,us,rfl,rfl,T1.v.2 ⟨rfl,rfl,h.1⟩,TN.scalars h.2⟩
theorem TN.vE{w:World}:∀{us:aO} {bs vs},TN w (us.map D.v) bs vs->bs=[]/\vs=us
 |[],bs,vs,h=>by obtain⟨rfl,rfl⟩:=TN.nil.1 h;exact⟨rfl,rfl⟩
 |u::us,bs,vs,h=>by
  obtain⟨b1,b2,x,us',rfl,rfl,h1,h2⟩:=TN.cons.1 h;obtain⟨rfl,rfl,_⟩:=T1.v.1 h1;obtain⟨rfl,rfl⟩:=TN.vE h2;exact⟨rfl,rfl⟩
theorem TN.OP{α:Type}{w:World}(f:α->aO)(h1:∀x,(f x).all (·.oneCell')=true):∀xs:List α,TN w (xs.flatMap fun x=>(f x).map D.v) [] (xs.flatMap f)
 |[]=>TN.nil.2 ⟨rfl,rfl⟩
 |x::xs=>TN.append.2 ⟨[],[],f x,_,rfl,rfl,TN.scalars (h1 x),TN.OP f h1 xs⟩
theorem Ew{α β:Type}(f:α->List β){xs:List α}{k:Nat}{x:α}(h:Hid (xs[k]? =some x)):(xs.take (k+1)).flatMap f=(xs.take k).flatMap f++f x:=by
 rw[List.take_add_one,h.out];simp
theorem jV{α β:Type}(f:α->List β)(s:Nat)(hs:∀x,(f x).length=s)(xs:List α):(xs.flatMap f).length=xs.length*s:=by
 induction xs with
 |nil=>simp
 |cons x xs ih=>simp[ih,hs,Nat.add_mul,Nat.add_comm]
theorem IY{α β:Type}(f:α->List β)(s:Nat)(hs:∀x,(f x).length=s){xs:List α}{n k:Nat}(hn:Hid (xs.length=n))(hk:k<=n):Hid (((xs.take k).flatMap f).length=k*s):=by
 show _=_;rw[jV f s hs,List.length_take,hn.out,Nat.min_eq_left hk]
theorem flat_get{α:Type}(f:α->List D)(s:Nat)(hs:∀x,(f x).length=s):∀(xs:List α) (k:Nat) (hk:k<xs.length),∃l r,xs.flatMap f=l++f xs[k]++r/\l=(xs.take k).flatMap f/\r=(xs.drop (k+1)).flatMap f/\l.length=k*s
 |x::xs,0,_=>⟨[],xs.flatMap f,by simp,by simp,by simp,by simp⟩
 |x::xs,k+1,hk=>by
  obtain⟨l,r,h,h1,h2,h3⟩:=flat_get f s hs xs k (by simpa using hk);refine⟨f x++l,r,by simp[h],by simp[h1],by simp[h2],by simp[h3,hs,Nat.add_mul,Nat.add_comm]⟩
theorem T1.at_{α:Type}{f:α->List D}{s:Nat}(hs:∀x,(f x).length=s){w:World}{xs:List α}{bs:aG}{A:Option Addr}{n c m:Nat}(h:T1 w (.sl m (xs.flatMap f)) bs (.slice A n c))(hm:xs.length=m){k:Nat}(hk:k<m):
  n=m/\∃b off b1 b2 b3 us,A=some ⟨b,off,none⟩/\bs=b::(b1++b2++b3)/\b<w.heap.size/\aM w b (off+k*s) us/\TN w (f (xs[k]'(hm▸hk))) b2 us:=by
 unfold T1 at h;obtain⟨A',c',he,hn,hc,h⟩:=h;injection he with hA hn' hc'
 subst hA hn' hc';refine⟨rfl,?_⟩;rcases h with⟨rfl,_,_⟩|⟨h0,b,off,us,bs',rfl,rfl,hb,hca,ht⟩
 .omega
 .obtain⟨l,r,he,_,_,hl⟩:=flat_get f s hs xs k (hm▸hk);rw[he]at ht;obtain⟨b1,b3,u1,u3,rfl,rfl,h1,h3⟩:=TN.append.1 ht;obtain⟨b1,b2,u1,u2,rfl,rfl,h1,h2⟩:=TN.append.1 h1;refine⟨b,off,b1,b2,b3,u2,rfl,rfl,hb,?_,h2⟩;intro j u hu;have hl1:=h1.length
  have:=hca (k*s+j) u (by
   rw[qF,qL (by omega),qM (by
    have:=(qE.1 hu).1;omega)]
   rw[hl1,hl,Nat.add_sub_cancel_left];exact hu)
  rwa[<-Nat.add_assoc]at this
structure bf(w:World) where
 to:World
 h:Below w.heap.size w to
instance (w:World):Inhabited (bf w):=⟨⟨w,Below.refl _ _⟩⟩
theorem bf.cell{w:World}:∀(e:bf w) (b o:Nat),b<w.heap.size->e.to.cell? ⟨b,o,none⟩=w.cell? ⟨b,o,none⟩:=fun e _ _ hb=>World.cell?_of_block (e.h.block _ hb)
theorem Ej{P:Program}{id:Nat}{Q:Exit->Act->World->Prop}{a:Act}{w:World}{l:List Oper}(hm:P.follows .mixedOrders=true)(hB:Region.lexB .any l.toArray=true)
  (h:wpQuiet P l.toArray (fun w'=>∃e:bf w,w'=e.to) (fun a'=>∀w',(∃e:bf w,w'=e.to)->Q .normal a' w') l a):(Code.region id l.toArray true).wp P Q a w:=
 wp_region_quiet (C:=fun w'=>∃e:bf w,w'=e.to) hm hB ⟨⟨w.drew,(Below.refl _ _).drew⟩,rfl⟩ (by simpa using h)
theorem Calls.NM{P:Program}{f:FuncId}{args:Array Value}{w:World}{e:bf w}{v:Value}
  (h:Calls P f args e.to fun x w'=>x=.returned v/\Below e.to.heap.size e.to w'):Calls P f args e.to fun x w''=>x=.returned v/\∃e:bf w,w''=e.to:=
 h.mono fun _ w' ⟨he,hm⟩=>⟨he,⟨w',e.h.trans (hm.mono e.h.size)⟩,rfl⟩
theorem Km{α:Type}{xs ys:List α}{k:Nat}{x y:α}(h:Hid (xs.take k=ys.take k))(hx:Hid (xs[k]? =some x))(hy:Hid (ys[k]? =some y))(e:x=y):Hid (xs.take (k+1)=ys.take (k+1)):=by
 show _=_;rw[List.take_add_one,List.take_add_one,h.out,hx.out,hy.out,e]
theorem take_eq_all{α:Type}{xs ys:List α}{n:Nat}(h:Hid (xs.take n=ys.take n))(hx:Hid (xs.length=n))(hy:Hid (ys.length=n)):xs=ys:=by
 have h1:=h.out
 rwa[qN (by rw[hx.out];exact Nat.le_refl _),qN (by rw[hy.out];exact Nat.le_refl _)]at h1
theorem Uc{α:Type}{xs ys:List α}{k:Nat}{x y:α}(hx:Hid (xs[k]? =some x))(hy:Hid (ys[k]? =some y))(e:x≠y):xs≠ys:=by
 rintro rfl;exact e (Option.some.inj (hx.out.symm.trans hy.out))
theorem Sl{α:Type}{xs ys:List α}{n m:Nat}(hx:Hid (xs.length=n))(hy:Hid (ys.length=m))(e:n≠m):xs≠ys:=by
 rintro rfl;exact e (hx.out.symm.trans hy.out)
def fu(w:World)(g:Nat)(t:TypeId)(n sz:Nat)(vs:List Value):Prop:=
 ∃cur,w.heap[g]? =some (.cells cur t (0,0))/\cur.size=n*sz/\cur.toList.take vs.length=vs
theorem fu.new(w:World)(cur:Array Value)(t:TypeId)(n sz:Nat)(h:cur.size=n*sz):fu (w.alloc (.cells cur t)) w.heap.size t n sz []:=
 ⟨cur,heap_alloc_new w _,h,by simp⟩
theorem fu.lt{w:World}{g t n sz vs}(h:fu w g t n sz vs):g<w.heap.size:=by
 obtain⟨cur,h,_⟩:=h;exact(Array.getElem?_eq_some_iff.1 h).1
theorem fu.keep{w w':World}{g t n sz vs}(h:fu w g t n sz vs)(hk:w'.heap[g]? =w.heap[g]?):fu w' g t n sz vs:=by
 obtain⟨cur,h,r⟩:=h;exact⟨cur,hk.trans h,r⟩
theorem fu.below{w w':World}{g t n sz vs}(h:fu w g t n sz vs)(hb:Below w.heap.size w w'):fu w' g t n sz vs:=h.keep (hb.block g h.lt)
theorem fu.cells{w:World}{g t n sz vs}(h:fu w g t n sz vs):aM w g 0 vs:=by
 obtain⟨cur,h,_,ht⟩:=h;intro j u hu;rw[Nat.zero_add];have:w.cell? ⟨g,j,none⟩=cur[j]? :=cell_of_row w g j cur t (0,0) h;rw[this];rw[<-ht,List.getElem?_take]at hu;split at hu
 .simpa using hu
 .cases hu
theorem fu.Qs{w:World}{g t n sz vs}(h:fu w g t n sz vs){o:Nat}(ho:o<n*sz):∃v,w.cell? ⟨g,o,none⟩=some v:=by
 obtain⟨cur,h,hs,_⟩:=h;exact⟨cur[o]'(by omega),by rw[cell_of_row w g o cur t (0,0) h];simp[hs,ho]⟩
theorem T1.zm{w:World}{g t n sz vs ds bs}(h:fu w g t n sz vs)(hn:0<n)(hm:n<=maxLen)(ht:TN w ds bs vs):T1 w (.sl n ds) (g::bs) (.slice (some ⟨g,0,none⟩) n n):=by
 unfold T1;exact⟨_,_,rfl,Nat.le_refl _,hm,.inr ⟨hn,g,0,vs,bs,rfl,rfl,h.lt,h.cells,ht⟩⟩
theorem T1.empty{w:World}(A:Option Addr):T1 w (.sl 0 []) [] (.slice A 0 0):=by
 unfold T1;exact⟨_,_,rfl,Nat.le_refl _,Nat.zero_le _,.inl ⟨rfl,rfl,rfl⟩⟩
theorem T1.lit(w:World)(t:TypeId)(us:aO)(n:Nat)(hn:0<n)(hm:n<=maxLen)(h1:us.all (·.oneCell')=true):T1 (w.alloc (.cells us.toArray t)) (.sl n (us.map D.v)) [w.heap.size] (.slice (some ⟨w.heap.size,0,none⟩) n n):=by
 unfold T1;refine⟨_,_,rfl,Nat.le_refl _,hm,.inr ⟨hn,w.heap.size,0,us,[],rfl,rfl,by simp,fun j u hu=> ?_,TN.scalars h1⟩⟩;rw[Nat.zero_add,cell_of_row _ _ j us.toArray t (0,0) (heap_alloc_new w _)];simpa using hu
theorem vM{P:Program}{w:World}{g t n sz:Nat}{vs:aO}{ty:TypeId}{k:Nat}{v:Value}(h:fu w g t n sz vs)(hk:vs.length=k*sz)(hkn:k<n)
  (hi:(P.info? ty).map (·.size)=some sz) (hv:v.cells.size=sz) (h1:∀u∈v.cells.toList,u.oneCell'=true):
  ∃w',(Instr.storeAt ty (.pointer (some ⟨g,k*sz,none⟩)) v).run P w=.ok () w'/\fu w' g t n sz (vs++v.cells.toList)/\Below g w w'/\w'.heap.size=w.heap.size/\(∀b,b≠g->w'.heap[b]? =w.heap[b]?):=by
 obtain⟨cur,hg,hs,ht⟩:=h
 have hfit:k*sz+v.cells.toList.length<=cur.size:=by
  have:=Nat.mul_le_mul_right sz (show k+1<=n by omega);rw[Nat.add_mul]at this;simp[hv,hs];omega
 have hst:=run_storeCells_at P g (k*sz) t v.cells.toList 0 cur w hg (by simpa using hfit) h1;simp only[Nat.add_zero]at hst
 have hrun:(Instr.storeAt ty (.pointer (some ⟨g,k*sz,none⟩)) v).run P w=.ok () (w.setRow g (cur.toList.take (k*sz)++v.cells.toList++cur.toList.drop (k*sz+v.cells.toList.length)).toArray):=by
  cases hq:P.info? ty with
  |none=>simp[hq]at hi
  |some i=>
   have hsz:v.cells.size=i.size:=by simp[hq]at hi;omega
   simp only[Instr.storeAt,Instr.sureAddr,Sem.run_bind,Sem.run_pure,Result.andThen_ok];simp[storeVar,sizeOf,typeInfo,hq,hsz,hst]
 have htk:(cur.toList.take (k*sz))=vs:=by rw[<-hk];exact ht
 refine⟨_,hrun,⟨_,setRow_heap w g cur _ t _ hg,?_,?_⟩,⟨rfl,rfl,rfl,by simp,fun b hb=>setRow_other w g b _ (by omega)⟩,by simp,fun b hb=>setRow_other w g b _ hb⟩
 .simp only[List.size_toArray,qA,List.length_take,List.length_drop,Array.length_toList]at hfit |-;omega
 .simp only[];rw[htk,List.take_left'];rfl
theorem Ei{P:Program}{ops:Array Oper}{rest:List Oper}{op:Oper}{a:Act}{w:World}{Q:Exit->Act->World->Prop}(hgd:op.guard=none)(ty:TypeId)(x y:Operand)(ho:op.op=.store ty x y)
  (g t n sz k:Nat) (vs:List Value) (v:Value) (hx:a.eval x=.pointer (some ⟨g,k*sz,none⟩)) (hy:a.eval y=v) (h:fu w g t n sz vs) (hk:vs.length=k*sz) (hkn:k<n)
  (hi:(P.info? ty).map (·.size)=some sz) (hv:v.cells.size=sz) (h1:v.cells.toList.all (·.oneCell')=true)
  (hc:∀w',fu w' g t n sz (vs++v.cells.toList)->Below g w w'->w'.heap.size=w.heap.size->(∀b,b≠g->w'.heap[b]? =w.heap[b]?)->wpList P ops Q rest (a.put op.dst undef) w'):wpList P ops Q (op::rest) a w:=
 wpList_plain hgd fun _ hK=>by
  obtain⟨w',hr,h2,h3,h4,h5⟩:=vM (P:=P) h hk hkn hi hv (List.all_eq_true.1 h1);unfold Oper.wp execOp;simp only[ho,hx,hy,Sem.run_bind,hr,Result.andThen_ok,Sem.run_pure];exact hK _ _ (hc w' h2 h3 h4 h5)
theorem _root_.Go.RowKit.Below.drewN{B:Nat}{a w:World}(h:Below B a w)(n:Nat):Below B a (w.drewN n):=⟨h.os,h.tape,h.output,h.size,h.block⟩
def bX:List Int->List Int->Bool
 |x::xs,y::ys=>x==y&&bX xs ys
 |_,_=>true
theorem lF{P:Program}(w:World)(d:Nat):∀(fs:List Field) (pre:Nat) (l:List (String×TypeId×Nat)) (xs ys:List Int) (px py:aO),
  fs.map (fun f => (f.name, f.type, f.offset)) = l -> (∀ t ∈ l.map (·.2.1), P.underlying t = some (.int .i64)) -> l.map (·.2.2) = List.range' pre l.length -> (l.all fun x => x.1 != "_") = true -> xs.length = l.length -> ys.length = l.length -> px.length = pre -> py.length = pre ->
  (Op.eqFields (d+1) (px++xs.map (Value.int .i64)).toArray (py++ys.map (Value.int .i64)).toArray fs).run P w=.ok (bX xs ys) w
 |[],pre,l,xs,ys,px,py,hl,_,_,_,hx,hy,_,_=>by
  simp at hl;subst hl;obtain rfl:xs=[]:=List.eq_nil_of_length_eq_zero (by simpa using hx);obtain rfl:ys=[]:=List.eq_nil_of_length_eq_zero (by simpa using hy);simp[Op.eqFields,bX]
 |f::fs,pre,l,xs,ys,px,py,hl,hu,ho,hnm,hx,hy,hpx,hpy=>by
  subst hl
  match xs,ys,hx,hy with
  |x::xs,y::ys,hx,hy=>
   simp only[List.map_cons,qI,List.range'_succ,List.cons.injEq,List.all_cons,qD,bne_iff_ne,ne_eq]at ho hnm;have hut:P.underlying f.type=some (.int .i64):=hu _ (by simp)
   have hp:∀(pz:List Value) (z:Int) (zs:List Int),pz.length=pre->(part f.type (pz++(z::zs).map (Value.int .i64)).toArray f.offset).run P w=.ok (.int .i64 z) w:=by
    intro pz z zs hz
    have hg:(pz++(z::zs).map (Value.int .i64)).toArray[f.offset]? =some (.int .i64 z):=by
     rw[ho.1];simp[<-hz]
    simp only[part,isAgg,Sem.run_bind,run_underlying hut,Result.andThen_ok,hg];simp
   have ih:=lF (P:=P) w d fs (pre+1) _ xs ys (px++[.int .i64 x]) (py++[.int .i64 y]) rfl (fun t ht=>hu t (by simp at ht |-;exact .inr ht)) (by simpa using ho.2) hnm.2 (by simpa using hx) (by simpa using hy) (by simp[hpx]) (by simp[hpy]);simp only[qF,List.singleton_append]at ih;simp only[Op.eqFields,ne_eq,hnm.1,not_false_eq_true,if_true,Sem.run_bind,hp px x xs hpx,hp py y ys hpy,Result.andThen_ok,run_equalIn_int w d f.type .i64 .i64 x y hut]
   by_cases hxy:x=y
   .subst hxy;simp only[beq_self_eq_true,Bool.not_true,Bool.false_eq_true,if_false,bX,Bool.true_and];exact ih
   .have:(x==y)=false:=by simpa using hxy
    simp[this,bX]
theorem jK{P:Program}(w:World)(d:Nat)(t:TypeId)(l:List (String×TypeId×Nat))(ht:P.underlying t=some (.struct (P.fieldsOf t)))(hp:P.stoodInHeld t=false)
  (hl:(P.fieldsOf t).toList.map (fun f=>(f.name,f.type,f.offset))=l) (hu:∀t∈l.map (·.2.1),P.underlying t=some (.int .i64)) (xs ys:List Int)
  (ho : (l.map (·.2.2) == List.range' 0 l.length && l.all fun x => x.1 != "_") = true) (hxy : (xs.length == l.length && ys.length == l.length) = true) :
  (Op.equalIn (d+2) t (.agg (xs.map (Value.int .i64)).toArray) (.agg (ys.map (Value.int .i64)).toArray)).run P w=.ok (bX xs ys) w:=by
 simp only[qD,beq_iff_eq]at ho hxy;rw[run_equalIn_struct w (d+1) t _ _ ht hp];exact lF (P:=P) w d _ 0 l xs ys [] [] hl hu ho.1 ho.2 hxy.1 hxy.2 rfl rfl
noncomputable def Jt{α:Type}(x y:α):Bool:= @decide (x=y) (Classical.propDecidable _)
theorem TR{α:Type}{x y:α}(h:Jt x y=true):x=y:=by simpa[Jt]using h
theorem TQ{α:Type}{x y:α}(h:x≠y):Jt x y=false:=by simpa[Jt]using h
theorem RL{α:Type}{x y:α}(h:Jt x y=false):x≠y:=by simpa[Jt]using h
theorem F3{α:Type}(x:α):Jt x x=true:=by simp[Jt]
theorem RN{α:Type}{x y:α}(h:x=y):Jt x y=true:=by subst h;exact F3 x
theorem T1.slice{w:World}{n ds bs u}(h:T1 w (.sl n ds) bs u):∃A c,u=.slice A n c/\n<=c/\c<=maxLen:=by
 unfold T1 at h;obtain⟨A,c,h1,h2,h3,_⟩:=h;exact⟨A,c,h1,h2,h3⟩
theorem TN.sF{w:World}{x ds bs us}(h:TN w (.v x::ds) bs us):∃us',us=x::us'/\TN w ds bs us':=by
 obtain⟨b1,b2,u,us',rfl,rfl,h1,h2⟩:=TN.cons.1 h;obtain⟨rfl,rfl,_⟩:=T1.v.1 h1;exact⟨us',rfl,h2⟩
theorem TN.Bl{w:World}{x ds bs us}(h1:x.oneCell'=true)(h:TN w ds bs us):TN w (.v x::ds) bs (x::us):=TN.cons.2 ⟨[],bs,x,us,rfl,rfl,T1.v.2 ⟨rfl,rfl,h1⟩,h⟩
theorem TN.uG{w:World}{n es ds bs us}(h:TN w (.sl n es::ds) bs us):∃A c b1 b2 us',us=.slice A n c::us'/\bs=b1++b2/\T1 w (.sl n es) b1 (.slice A n c)/\n<=c/\c<=maxLen/\TN w ds b2 us':=by
 obtain⟨b1,b2,u,us',rfl,rfl,h1,h2⟩:=TN.cons.1 h;obtain⟨A,c,rfl,h3,h4⟩:=h1.slice;exact⟨A,c,b1,b2,us',rfl,rfl,h1,h3,h4,h2⟩
theorem TN.Ih{w:World}{d ds b1 b2 u us}(h:T1 w d b1 u)(h2:TN w ds b2 us):TN w (d::ds) (b1++b2) (u::us):=TN.cons.2 ⟨b1,b2,u,us,rfl,rfl,h,h2⟩
theorem TN.end_{w:World}{bs us}(h:TN w [] bs us):us=[]/\bs=[]:=TN.nil.1 h
theorem TN.done{w:World}:TN w [] [] []:=TN.nil.2 ⟨rfl,rfl⟩
theorem T1.wQ{w:World}:∀{d:D} {bs:aG} {u:Value},T1 w d bs u->u.oneCell'=true
 | .v x,bs,u,h=>by obtain⟨rfl,_,h⟩:=T1.v.1 h;exact h
 | .sl n ds,bs,u,h=>by obtain⟨A,c,rfl,_,_⟩:=h.slice;rfl
theorem TN.wQ{w:World}:∀{ds:List D} {bs us},TN w ds bs us->us.all (·.oneCell')=true
 |[],bs,us,h=>by obtain⟨rfl,_⟩:=TN.nil.1 h;rfl
 |d::ds,bs,us,h=>by
  obtain⟨b1,b2,u,us',rfl,rfl,h1,h2⟩:=TN.cons.1 h;simp[h1.wQ,List.all_eq_true.1 h2.wQ];exact fun x hx=>List.all_eq_true.1 h2.wQ x hx
structure But(g:Nat)(w w':World):Prop where
 os:w'.os=w.os
 tape:w'.tape=w.tape
 output:w'.output=w.output
 size:w.heap.size<=w'.heap.size
 block:∀k,k<w.heap.size->k≠g->w'.heap[k]? =w.heap[k]?
theorem But.refl(g:Nat)(w:World):But g w w:=⟨rfl,rfl,rfl,Nat.le_refl _,fun _ _ _=>rfl⟩
theorem But.trans{g:Nat}{a b c:World}(h:But g a b)(k:But g b c):But g a c:=
 ⟨k.os.trans h.os,k.tape.trans h.tape,k.output.trans h.output,Nat.le_trans h.size k.size,fun i hi hg=>(k.block i (qW hi h.size) hg).trans (h.block i hi hg)⟩
theorem But.of_below{g:Nat}{w w':World}(h:Below w.heap.size w w'):But g w w':=⟨h.os,h.tape,h.output,h.size,fun k hk _=>h.block k hk⟩
theorem But.below{B g:Nat}{w w':World}(h:But g w w')(hB:B<=w.heap.size)(hg:B<=g):Below B w w':=⟨h.os,h.tape,h.output,h.size,fun k hk=>h.block k (by omega) (by omega)⟩
theorem But.drewN{g:Nat}{w w':World}(h:But g w w')(n:Nat):But g w (w'.drewN n):=⟨h.os,h.tape,h.output,h.size,h.block⟩
theorem But.setCell{g:Nat}{w w':World}(h:But g w w')(o:Nat)(v:Value):But g w (w'.setCell ⟨g,o,none⟩ v):=
 h.trans ⟨rfl,rfl,rfl,by simp[World.setCell],fun k _ hg=>Below.heap_setCell _ _ _ _ hg⟩
theorem T1.but{w w':World}{g d bs u}(h:T1 w d bs u)(hb:But g w w')(hg:g∉bs):T1 w' d bs u:=h.keep ⟨hb.size,fun b hb'=>hb.block b (h.lt b hb') (fun e=>hg (e▸hb'))⟩
theorem TN.but{w w':World}{g ds bs us}(h:TN w ds bs us)(hb:But g w w')(hg:g∉bs):TN w' ds bs us:=h.keep ⟨hb.size,fun b hb'=>hb.block b (h.lt b hb') (fun e=>hg (e▸hb'))⟩
def Own(lo:Nat)(w:World)(bs:List Nat):Prop:=bs.Nodup/\∀b∈bs,lo<=b/\∃cur t,w.heap[b]? =some (.cells cur t (0,0))
theorem Own.nil(lo:Nat)(w:World):Own lo w []:=⟨List.nodup_nil,by simp⟩
theorem Own.lt{lo w bs}(h:Own lo w bs):∀b∈bs,b<w.heap.size:=fun b hb=>by
 obtain⟨_,cur,t,h⟩:=h.2 b hb;exact(Array.getElem?_eq_some_iff.1 h).1
theorem Own.but{lo g:Nat}{w w':World}{bs}(h:Own lo w bs)(hb:But g w w')(hg:g∉bs):Own lo w' bs:=
 ⟨h.1,fun b hb'=>⟨(h.2 b hb').1,by
  obtain⟨_,cur,t,h2⟩:=h.2 b hb';exact⟨cur,t,(hb.block b (h.lt b hb') (fun e=>hg (e▸hb'))).trans h2⟩⟩⟩
theorem Own.below{lo:Nat}{w w':World}{bs}(h:Own lo w bs)(hb:Below w.heap.size w w'):Own lo w' bs:=
 ⟨h.1,fun b hb'=>⟨(h.2 b hb').1,by
  obtain⟨_,cur,t,h2⟩:=h.2 b hb';exact⟨cur,t,(hb.block b (h.lt b hb')).trans h2⟩⟩⟩
theorem Own.mono{lo lo':Nat}{w:World}{bs}(h:Own lo w bs)(hl:lo'<=lo):Own lo' w bs:=⟨h.1,fun b hb=>⟨Nat.le_trans hl (h.2 b hb).1,(h.2 b hb).2⟩⟩
theorem Own.Pt{lo:Nat}{w:World}{bs}(h:Own lo w bs){g:Nat}(hg:g<lo):g∉bs:=fun hb=>by have:=(h.2 g hb).1;omega
theorem Own.append{lo hi:Nat}{w:World}{b1 b2}(h1:Own lo w b1)(hl:∀b∈b1,b<hi)(h2:Own hi w b2)(hlo:lo<=hi):Own lo w (b1++b2):=
 ⟨List.nodup_append.2 ⟨h1.1,h2.1,fun a ha b hb e=>by
  subst e;have:=hl a ha;have:=(h2.2 a hb).1;omega⟩,fun b hb=>by
  rcases qT.1 hb with h|h
  .exact h1.2 b h
  .exact⟨Nat.le_trans hlo (h2.2 b h).1,(h2.2 b h).2⟩⟩
theorem Own.cons{lo g:Nat}{w:World}{bs}{cur t}(hg:w.heap[g]? =some (.cells cur t (0,0)))(hlo:lo<=g)(h:Own (g+1) w bs):Own lo w (g::bs):=
 ⟨List.nodup_cons.2 ⟨h.Pt (by omega),h.1⟩,fun b hb=>by
  rcases List.mem_cons.1 hb with rfl|hb
  .exact⟨hlo,cur,t,hg⟩
  .have:=(h.2 b hb).1;exact⟨by omega,(h.2 b hb).2⟩⟩
theorem TH{W w1:World}(hb:Below W.heap.size W w1):(∀b o,b<W.heap.size->w1.cell? ⟨b,o,none⟩=W.cell? ⟨b,o,none⟩)/\(∀b o,b<W.heap.size->w1.frozen? ⟨b,o,none⟩=W.frozen? ⟨b,o,none⟩):=
 ⟨fun b o h=>hb.cell (p:=⟨b,o,none⟩) h,fun b o h=>hb.frozen (p:=⟨b,o,none⟩) h⟩
def tK(x:Int):List D:=[.v (.int .i64 x)]
def P8(s:List UInt8):List D:=[.v (.string ⟨s.toArray⟩)]
def CS(b:Bool):List D:=[.v (.bool b)]
theorem Dq{w:World}{x bs us}(h:TN w (tK x) bs us):us=[.int .i64 x]/\bs=[]:=by
 obtain⟨us',rfl,h2⟩:=TN.sF h;obtain⟨rfl,rfl⟩:=h2.end_;exact⟨rfl,rfl⟩
theorem JE{w:World}{xs:List Int}{bs:aG}{A:Option Addr}{n c:Nat}(h:T1 w (.sl n (xs.flatMap tK)) bs (.slice A n c))(hm:xs.length=n){k:Nat}(hk:k<n):
  ∃b off x,A=some ⟨b,off,none⟩/\b∈bs/\b<w.heap.size/\Hid (xs[k]? =some x)/\w.cell? ⟨b,off+k,none⟩=some (.int .i64 x):=by
 obtain⟨_,b,off,b1,b2,b3,us,hA,rfl,hb,hc,ht⟩:=T1.at_ (s:=1) (fun _=>rfl) h hm hk;obtain⟨rfl,rfl⟩:=Dq ht;have:=hc 0 _ rfl;exact⟨b,off,xs[k],hA,by simp,hb,qB (hm▸hk),by simpa using this⟩
theorem Kl{w:World}{x bs us}(h:TN w (P8 x) bs us):us=[.string ⟨x.toArray⟩]/\bs=[]:=by
 obtain⟨us',rfl,h2⟩:=TN.sF h;obtain⟨rfl,rfl⟩:=h2.end_;exact⟨rfl,rfl⟩
theorem Q0{w:World}{xs:List (List UInt8)}{bs:aG}{A:Option Addr}{n c:Nat}(h:T1 w (.sl n (xs.flatMap P8)) bs (.slice A n c))(hm:xs.length=n){k:Nat}(hk:k<n):
  ∃b off x,A=some ⟨b,off,none⟩/\b∈bs/\b<w.heap.size/\Hid (xs[k]? =some x)/\w.cell? ⟨b,off+k,none⟩=some (.string ⟨x.toArray⟩):=by
 obtain⟨_,b,off,b1,b2,b3,us,hA,rfl,hb,hc,ht⟩:=T1.at_ (s:=1) (fun _=>rfl) h hm hk;obtain⟨rfl,rfl⟩:=Kl ht;have:=hc 0 _ rfl;exact⟨b,off,xs[k],hA,by simp,hb,qB (hm▸hk),by simpa using this⟩
theorem Fy{w:World}{x bs us}(h:TN w (CS x) bs us):us=[.bool x]/\bs=[]:=by
 obtain⟨us',rfl,h2⟩:=TN.sF h;obtain⟨rfl,rfl⟩:=h2.end_;exact⟨rfl,rfl⟩
theorem Oj{w:World}{xs:List Bool}{bs:aG}{A:Option Addr}{n c:Nat}(h:T1 w (.sl n (xs.flatMap CS)) bs (.slice A n c))(hm:xs.length=n){k:Nat}(hk:k<n):
  ∃b off x,A=some ⟨b,off,none⟩/\b∈bs/\b<w.heap.size/\Hid (xs[k]? =some x)/\w.cell? ⟨b,off+k,none⟩=some (.bool x):=by
 obtain⟨_,b,off,b1,b2,b3,us,hA,rfl,hb,hc,ht⟩:=T1.at_ (s:=1) (fun _=>rfl) h hm hk;obtain⟨rfl,rfl⟩:=Fy ht;have:=hc 0 _ rfl;exact⟨b,off,xs[k],hA,by simp,hb,qB (hm▸hk),by simpa using this⟩
def SI{α:Type}(f:α->List D)(xs:List α):List D:=[.sl xs.length (xs.flatMap f)]
theorem SK{α:Type}{f:α->List D}{w:World}{xs:List (List α)}{bs:aG}{A:Option Addr}{n c:Nat}(h:T1 w (.sl n (xs.flatMap (SI f))) bs (.slice A n c))(hm:xs.length=n){k:Nat}(hk:k<n):
  ∃(b off:Nat) (x:List α) (Ax:Option Addr) (cx:Nat) (px:List Nat),A=some ⟨b,off,none⟩/\b<w.heap.size/\Hid (xs[k]? =some x)/\w.cell? ⟨b,off+k,none⟩=some (.slice Ax x.length cx)/\
   T1 w (.sl x.length (x.flatMap f)) px (.slice Ax x.length cx)/\x.length<=cx/\cx<=maxLen:=by
 obtain⟨_,b,off,b1,b2,b3,us,hA,rfl,hb,hc,ht⟩:=T1.at_ (s:=1) (fun _=>rfl) h hm hk;obtain⟨Ax,cx,p1,p2,us',rfl,rfl,h1,h2,h3,h4⟩:=TN.uG ht;have:=hc 0 _ rfl;exact⟨b,off,xs[k],Ax,cx,p1,hA,hb,qB (hm▸hk),by simpa using this,h1,h2,h3⟩
def wG(lo:Nat)(w w':World):Prop:=w.heap.size<=w'.heap.size/\∀k,lo<=k->k<w.heap.size->w'.heap[k]? =w.heap[k]?
theorem wG.refl(lo:Nat)(w:World):wG lo w w:=⟨Nat.le_refl _,fun _ _ _=>rfl⟩
theorem wG.trans{lo:Nat}{a b c:World}(h:wG lo a b)(k:wG lo b c):wG lo a c:=⟨Nat.le_trans h.1 k.1,fun i hl hi=>(k.2 i hl (qW hi h.1)).trans (h.2 i hl hi)⟩
theorem wG.of_below{lo:Nat}{w w':World}(h:Below w.heap.size w w'):wG lo w w':=⟨h.size,fun k _ hk=>h.block k hk⟩
theorem wG.below{lo:Nat}{a w w':World}(h:wG lo a w)(h2:Below w.heap.size w w'):wG lo a w':=h.trans (.of_below h2)
theorem wG.setCell{lo:Nat}{a w:World}(h:wG lo a w){p:Addr}(hp:p.block<lo)(v:Value):wG lo a (w.setCell p v):=
 h.trans ⟨by simp[World.setCell],fun k hl _=>Below.heap_setCell _ _ _ _ (by omega)⟩
theorem wG.alloc{lo:Nat}{a w:World}(h:wG lo a w)(o:Obj):wG lo a (w.alloc o):=h.trans ⟨by simp,fun k _ hk=>Below.heap_alloc _ _ _ hk⟩
theorem T1.Rt{lo:Nat}{w w':World}{d bs u}(h:T1 w d bs u)(hb:wG lo w w')(hl:∀b∈bs,lo<=b):T1 w' d bs u:=h.keep ⟨hb.1,fun b hb'=>hb.2 b (hl b hb') (h.lt b hb')⟩
theorem TN.Rt{lo:Nat}{w w':World}{d bs u}(h:TN w d bs u)(hb:wG lo w w')(hl:∀b∈bs,lo<=b):TN w' d bs u:=h.keep ⟨hb.1,fun b hb'=>hb.2 b (hl b hb') (h.lt b hb')⟩
theorem Own.Rt{lo l:Nat}{w w':World}{bs}(h:Own lo w bs)(hb:wG l w w')(hl:l<=lo):Own lo w' bs:=
 ⟨h.1,fun b hb'=>⟨(h.2 b hb').1,by
  obtain⟨hlo,cur,t,h2⟩:=h.2 b hb';exact⟨cur,t,(hb.2 b (Nat.le_trans hl hlo) (h.lt b hb')).trans h2⟩⟩⟩
theorem Own.ge{lo:Nat}{w:World}{bs}(h:Own lo w bs):∀b∈bs,lo<=b:=fun b hb=>(h.2 b hb).1
theorem fu.Rt{lo:Nat}{w w':World}{g t n sz vs}(h:fu w g t n sz vs)(hb:wG lo w w')(hl:lo<=g):fu w' g t n sz vs:=h.keep (hb.2 g hl h.lt)
theorem fu.own{w:World}{g t n sz vs}(h:fu w g t n sz vs):∃cur t',w.heap[g]? =some (.cells cur t' (0,0)):=by
 obtain⟨cur,h,_⟩:=h;exact⟨cur,t,h⟩
theorem info_parts'{P:Program}{t:TypeId}{s:Nat}(h:(P.info? t).map (fun i=>(i.zero.isSome,i.size,decide (i.bytes<=100000000)))=some (true,s,true)):
  ∃i z,P.info? t=some i/\i.zero=some z/\i.size=s/\i.bytes<=100000000:=by
 obtain⟨i,hi,hzz⟩:=Option.map_eq_some_iff.1 h;simp only[Prod.mk.injEq,qQ]at hzz;obtain⟨z,hz⟩:=Option.isSome_iff_exists.1 hzz.1;exact⟨i,z,hi,hz,hzz.2.1,hzz.2.2⟩
theorem xq{b n:Nat}(hb:b<=100000000)(hn:n<=1048576):(b:Int)*(n:Int)<=281474976710656:=by
 have h:=Nat.mul_le_mul hb hn;rw[<-Int.natCast_mul];omega
structure Rq(P:Program)(e:TypeId)(s:Nat):Prop where
 h:(P.info? e).map (·.size)=some s
theorem ME{P:Program}{t e:TypeId}{s n:Nat}(h:(P.info? e).map (fun i=>(i.zero.isSome,i.size,decide (i.bytes<=100000000)))=some (true,s,true))(hu:P.underlying t=some (.slice e))(hn:n<=1048576):
  ∃M:Array Value,M.size=n*s/\(∀W:World,(Instr.makeSlice t (.int .i64 n) (.int .i64 n)).run P W=.ok (.slice (some ⟨W.heap.size,0,none⟩) n n) (W.alloc (.cells M e)))/\Rq P e s:=by
 obtain⟨i0,z0,hi0,hz0,hz1,hz2⟩:=info_parts' h;refine⟨madeCells z0.cells (n*i0.size),by rw[size_madeCells,hz1],fun W=> ?_,⟨by rw[hi0,<-hz1];rfl⟩⟩;have:=run_make (P:=P) (w:=W) t e i0 z0 hu hi0 hz0 .i64 .i64 n n (by omega) (by omega) (xq hz2 hn) (by omega);simpa using this
theorem Um(w:World)(a b c:Obj):(((w.alloc a).alloc b).alloc c).heap[w.heap.size]? =some a/\(((w.alloc a).alloc b).alloc c).heap[w.heap.size+1]? =some b/\(((w.alloc a).alloc b).alloc c).heap[w.heap.size+1+1]? =some c:=by
 have s1:(w.alloc a).heap.size=w.heap.size+1:=by simp
 have s2:((w.alloc a).alloc b).heap.size=w.heap.size+1+1:=by simp
 have n1:=heap_alloc_new w a;have n2:=heap_alloc_new (w.alloc a) b;have n3:=heap_alloc_new ((w.alloc a).alloc b) c;rw[s1]at n2;rw[s2]at n3;exact⟨(Below.heap_alloc _ _ _ (by omega)).trans ((Below.heap_alloc _ _ _ (by omega)).trans n1),(Below.heap_alloc _ _ _ (by omega)).trans n2,n3⟩
theorem cB{w:World}{g:Nat}{cs:Array Value}{t:TypeId}(h:w.heap[g]? =some (.cells cs t (0,0)))(o:Nat):w.frozen? ⟨g,o,none⟩=false:=by
 simp[World.frozen?,h]
theorem Rows.jN{w:World}{b i:Nat}{cs:Array Value}{T:TypeId}{fr:Nat×Nat}{v:Value}(hb:w.heap[b]? =some (.cells cs T fr)):
  (w.setCell ⟨b,i,none⟩ v).heap[b]? =some (.cells (cs.setIfInBounds i v) T fr):=by
 simp[World.setCell,Array.getElem?_modify,hb]
def Nq{α:Type}(f:α->Nat)(xs:List α):Nat:=xs.length+(xs.map f).sum
theorem Qh{α:Type}(xs:List α):Nq (fun _=>0) xs=xs.length:=by
 unfold Nq
 induction xs with
 |nil=>rfl
 |cons x xs ih=>
  simp only[List.map_cons,List.sum_cons,qI];omega
theorem Ro{α:Type}{f:α->Nat}{xs:List α}{k:Nat}{x:α}(h:xs[k]? =some x):((xs.take (k+1)).map f).sum=((xs.take k).map f).sum+f x:=by
 rw[List.take_add_one,h];simp
def Rs(L:Int)(P:Prop)(W:Nat)(w:World)(e:Ending)(w':World):Prop:=
 Below w.heap.size w w'/\∃r:Int,e=.returned (.int .i64 r)/\(r= -1\/(0<=r/\r=L-W/\P))
theorem I6{α:Type}{xs:List α}{k:Nat}{x:α}{P:α->Prop}(h:∀y∈xs.take k,P y)(hx:xs[k]? =some x)(hp:P x):∀y∈xs.take (k+1),P y:=by
 intro y hy;rw[List.take_add_one,hx]at hy;rcases qT.1 hy with hy|hy
 .exact h y hy
 .simp at hy;exact hy▸hp
abbrev Ext(w w1:World):Prop:=Below w.heap.size w w1
theorem Ext.trans{a b c:World}(h:Ext a b)(k:Ext b c):Ext a c:=Below.trans h (Below.mono k h.size)
def QC(P:Program)(w:World)(f:FuncId)(args:Array Value)(v:Value):Prop:=
 ∀W,Ext w W->Calls P f args W fun x w'=>x=.returned v/\Ext W w'
section
variable {P:Program}{w:World}{f:FuncId}{args:Array Value}{v:Value}
theorem QC.ext(h:QC P w f args v){w1:World}(h1:Ext w w1):QC P w1 f args v:=fun W hW=>h W (h1.trans hW)
theorem QC.at_(h:QC P w f args v)(e:bf w):Calls P f args e.to fun x w'=>x=.returned v/\∃e':bf w,w'=e'.to:=
 (h e.to e.h).mono fun _ w' ⟨hx,hb⟩=>⟨hx,⟨w',Ext.trans e.h hb⟩,rfl⟩
theorem QC.run(h:QC P w f args v):Calls P f args w fun x w'=>x=.returned v/\Ext w w':=h w (Below.refl _ _)
theorem K3(h:∀e:bf w,Calls P f args e.to fun x w'=>x=.returned v/\∃e':bf w,w'=e'.to):Calls P f args w fun x w'=>x=.returned v/\Ext w w':=
 (h ⟨w,Below.refl _ _⟩).mono fun _ _ ⟨a,e',b⟩=>⟨a,b▸e'.h⟩
end
theorem IQ{P:Program}{id:Nat}{Q:Exit->Act->World->Prop}{a:Act}{w:World}(e0:bf w){l:List Oper}(hm:P.follows .mixedOrders=true)(hB:Region.lexB .any l.toArray=true)
  (h:wpQuiet P l.toArray (fun w'=>∃e:bf w,w'=e.to) (fun a'=>∀e:bf w,Q .normal a' e.to) l a):(Code.region id l.toArray true).wp P Q a e0.to:=
 wp_region_quiet (C:=fun w'=>∃e:bf w,w'=e.to) hm hB ⟨⟨e0.to.drew,e0.h.drew⟩,rfl⟩ (by
  have e:(fun a'=>∀e:bf w,Q .normal a' e.to)=(fun a'=>∀w',(∃e:bf w,w'=e.to)->Q .normal a' w'):=by
   funext a'
   exact propext ⟨fun h w' ⟨e,he⟩=>he▸h e,fun h e=>h _ ⟨e,rfl⟩⟩
  rw[e]at h;simpa using h)
abbrev Kn(w:World)(b o:Nat)(v:Value):Prop:=∀e:bf w,e.to.cell? ⟨b,o,none⟩=some v
theorem Kn.ext{w w1:World}{b o:Nat}{v:Value}(h:Kn w b o v)(h1:Ext w w1):Kn w1 b o v:=fun e=>h ⟨e.to,h1.trans e.h⟩
structure iN(w:World)(b o:Nat)(ds:List D)(bs:List Nat):Prop where
 lt:b<w.heap.size
 ex:∃us,aM w b o us/\TN w ds bs us
theorem iN.ext{w w1:World}{b o ds bs}(h:iN w b o ds bs)(h1:Ext w w1):iN w1 b o ds bs:=by
 obtain⟨hlt,us,hc,ht⟩:=h;exact⟨qW hlt h1.size,us,hc.keep (h1.block b hlt),ht.below h1⟩
theorem aM.always{w:World}{b o:Nat}{us:aO}(hlt:b<w.heap.size)(hc:aM w b o us)(j:Nat)(u:Value)(hu:us[j]? =some u):Kn w b (o+j) u:=
 fun e=>(e.cell b (o+j) hlt).trans (hc j u hu)
theorem T1.elem{α:Type}{f:α->List D}{s:Nat}(hs:∀x,(f x).length=s){w:World}{xs:List α}{bs:aG}{A:Option Addr}{n n' c:Nat}(h:T1 w (.sl n (xs.flatMap f)) bs (.slice A n' c))(hm:Hid (xs.length=n)){k:Nat}(hk:k<n):
  ∃b off x bs',A=some ⟨b,off,none⟩/\Hid (xs[k]? =some x)/\iN w b (off+k*s) (f x) bs':=by
 obtain⟨_,b,off,p1,p2,p3,us,hA,_,hb,hc,ht⟩:=T1.at_ hs h hm.out hk;exact⟨b,off,_,p2,hA,qB (hm.out▸hk),hb,us,hc,ht⟩
theorem T1.Po{w:World}{n n' c:Nat}{ds bs A}(h:T1 w (.sl n ds) bs (.slice A n' c)):n<=9223372036854775807:=by
 obtain⟨A',c',he,h1,h2⟩:=h.slice;have:maxLen=9223372036854775807:=rfl;omega
theorem M7{P:Program}{c:Code}{Q:Exit->Act->World->Prop}{a:Act}{w:World}(e:bf w){g:Nat}(hg:e.to.heap.size=g){cs:Array Value}{t:TypeId}
  (h:∀(w1:World) (e1:bf w1),Ext w w1->w.heap.size<=g->g<w1.heap.size->aM w1 g 0 cs.toList->c.wp P Q a e1.to):c.wp P Q a (e.to.alloc (.cells cs t)):=by
 subst hg;have h1:Ext w (e.to.alloc (.cells cs t)):=e.h.alloc e.h.size _;refine h (e.to.alloc (.cells cs t)) ⟨_,Below.refl _ _⟩ h1 e.h.size (by simp) (fun j u hu=> ?_);rw[Nat.zero_add,cell_of_row _ _ j cs t (0,0) (heap_alloc_new e.to _)];simpa using hu
theorem Ep{e:World}{b:Nat}{us:aO}(o:Obj)(hlt:b<e.heap.size)(h:aM e b 0 us):aM (e.alloc o) b 0 us:=h.keep (Below.heap_alloc e o b hlt)
theorem xw(e:World)(cs:Array Value)(t:TypeId):aM (e.alloc (.cells cs t)) e.heap.size 0 cs.toList:=fun j u hu=>by
 rw[Nat.zero_add,cell_of_row _ _ j cs t (0,0) (heap_alloc_new e _)];simpa using hu
theorem K5{P:Program}{c:Code}{Q:Exit->Act->World->Prop}{a:Act}{w:World}(e:bf w){g g2:Nat}(hg:e.to.heap.size=g)(hg2:e.to.heap.size+1=g2){cs cs2:Array Value}{t t2:TypeId}
  (h:∀(w1:World) (e1:bf w1),Ext w w1->g<w1.heap.size->g2<w1.heap.size->aM w1 g 0 cs.toList->aM w1 g2 0 cs2.toList->c.wp P Q a e1.to):c.wp P Q a ((e.to.alloc (.cells cs t)).alloc (.cells cs2 t2)):=by
 subst hg hg2;have h1:Ext w ((e.to.alloc (.cells cs t)).alloc (.cells cs2 t2)):=(e.h.alloc e.h.size _).alloc (by have:=e.h.size;simp;omega) _;refine h ((e.to.alloc (.cells cs t)).alloc (.cells cs2 t2)) ⟨_,Below.refl _ _⟩ h1 (by simp;omega) (by simp) (Ep _ (by simp) (xw e.to cs t)) ?_;have:=xw (e.to.alloc (.cells cs t)) cs2 t2
 rwa[show(e.to.alloc (.cells cs t)).heap.size=e.to.heap.size+1 by simp]at this
theorem NI{P:Program}{c:Code}{Q:Exit->Act->World->Prop}{a:Act}{w:World}(e:bf w){g g2:Nat}(hg:e.to.heap.size=g)(hg2:e.to.heap.size+1=g2){cs cs2:Array Value}{t t2:TypeId}
  (h:∀w1:World,Ext w w1->w.heap.size<=g->g≠g2->w.heap.size<=g2->w1.heap[g]? =some (.cells cs t (0,0))->w1.heap[g2]? =some (.cells cs2 t2 (0,0))->c.wp P Q a w1):c.wp P Q a ((e.to.alloc (.cells cs t)).alloc (.cells cs2 t2)):=by
 subst hg hg2;have h1:Ext w ((e.to.alloc (.cells cs t)).alloc (.cells cs2 t2)):=(e.h.alloc e.h.size _).alloc (by have:=e.h.size;simp;omega) _;refine h _ h1 e.h.size (by omega) (by have:=e.h.size;omega) ?_ ?_
 .rw[Below.heap_alloc _ _ _ (by simp)];exact heap_alloc_new e.to _
 .have:=heap_alloc_new (e.to.alloc (.cells cs t)) (.cells cs2 t2)
  rwa[show(e.to.alloc (.cells cs t)).heap.size=e.to.heap.size+1 by simp]at this
theorem Kn.in_{w w1:World}{b o:Nat}{v:Value}(h:Kn w b o v)(h1:Ext w w1):w1.cell? ⟨b,o,none⟩=some v:=h ⟨w1,h1⟩
theorem jr{w:World}{g i:Nat}{cs:Array Value}{t:TypeId}{v:Value}(h:w.heap[g]? =some (.cells cs t (0,0)))(hi:cs[i]? =some v):w.cell? ⟨g,i,none⟩=some v:=(cell_of_row w g i cs t (0,0) h).trans hi
theorem iN.box{w:World}{g:Nat}{us:aO}{ds bs}(hlt:g<w.heap.size)(hc:aM w g 0 us)(ht:TN w ds bs us):iN w g 0 ds bs:=⟨hlt,us,hc,ht⟩
theorem bf.old{w w1:World}(h:Ext w w1)(e:bf w1):∃e':bf w,e.to=e'.to:=⟨⟨e.to,h.trans e.h⟩,rfl⟩
theorem iN.part{w:World}{b o:Nat}{ds1 ds2 ds3:List D}{bs:aG}(h:iN w b o (ds1++(ds2++ds3)) bs):∃bs',iN w b (o+ds1.length) ds2 bs':=by
 obtain⟨hlt,us,hc,ht⟩:=h;obtain⟨b1,b2,u1,u2,rfl,_,h1,h2⟩:=TN.append.1 ht;obtain⟨b3,b4,u3,u4,rfl,_,h3,_⟩:=TN.append.1 h2;refine⟨b3,hlt,u3,fun j u hu=> ?_,h3⟩;have hj:=(qE.1 hu).1;have:=hc (u1.length+j) u (by rw[qL (by omega),Nat.add_sub_cancel_left,qM hj];exact hu)
 rwa[<-Nat.add_assoc,h1.length]at this
theorem Qi{α:Type}{a:α}:Hid (a=a):=rfl
theorem QF{w:World}{x:Int}{b o bs}(h:iN w b o (tK x) bs):Kn w b o (.int .i64 x):=by
 obtain⟨hlt,us,hc,ht⟩:=h;obtain⟨rfl,rfl⟩:=Dq ht;exact hc.always hlt 0 _ rfl
def iR(n:Nat)(f:Nat->Bool):Bool:=(List.range n).all f
theorem Ll{n:Nat}{f:Nat->Bool}(h:Hid (iR n f=true))(hn:f n=true):Hid (iR (n+1) f=true):=by
 show _=_;have h:=h.out;unfold iR at*;rw[List.range_succ,List.all_append,h];simp[hn]
theorem Qm{n k:Nat}{f:Nat->Bool}(hk:k<n)(h:f k=false):iR n f=false:=by
 unfold iR;rw[Bool.eq_false_iff];intro ha;rw[List.all_eq_true]at ha;rw[ha k (by simpa using hk)]at h;cases h
theorem Ql(f:Nat->Bool):iR 0 f=true:=rfl
theorem zY{n:Nat}{f:Nat->Bool}(h:iR n f=true){k:Nat}(hk:k<n):f k=true:=by
 unfold iR at h;rw[List.all_eq_true]at h;exact h k (by simpa using hk)
def idxOf(n:Nat)(f:Nat->Bool):Int:=match(List.range n).find? f with|some k=>k|none=> -1
def KG(n:Nat)(f:Nat->Bool):Bool:= !iR n (fun k=> !f k)
theorem OX{n k:Nat}{f:Nat->Bool}(h:Hid (iR k (fun k=> !f k)=true))(hk:k<n)(hf:f k=true):idxOf n f=k:=by
 have h1:(List.range n).find? f=some k:=by
  rw[List.find?_range_eq_some];exact⟨hf,by simpa using hk,fun j hj=>zY h.out hj⟩
 unfold idxOf;rw[h1]
theorem BL{n:Nat}{f:Nat->Bool}(h:Hid (iR n (fun k=> !f k)=true)):idxOf n f= -1:=by
 have h1:(List.range n).find? f=none:=by
  rw[List.find?_eq_none];intro x hx;have:=zY h.out (by simpa using hx);simpa using this
 unfold idxOf;rw[h1]
theorem OY(n:Nat)(f:Nat->Bool):decide (0<=idxOf n f)=KG n f:=by
 unfold KG;cases h:iR n (fun k=> !f k)with
 |true=>rw[BL h];rfl
 |false=>
  unfold idxOf;cases hf:(List.range n).find? f with
  |some k=>simp
  |none=>
   exfalso;rw[List.find?_eq_none]at hf;unfold iR at h;rw[Bool.eq_false_iff]at h;apply h;rw[List.all_eq_true];intro x hx;have:=hf x hx;simpa using this
theorem KF{n:Nat}{f g:Nat->Bool}(h:∀k,k<n->f k=g k):iR n f=iR n g:=by
 unfold iR;rw[Bool.eq_iff_iff,List.all_eq_true,List.all_eq_true];constructor
 .intro ha x hx;rw[<-h x (by simpa using hx)];exact ha x hx
 .intro ha x hx;rw[h x (by simpa using hx)];exact ha x hx
end Go.Tr
namespace Go.Tr
open Go Go.RowKit
structure fq(P:Program)(t e:TypeId)(s:Nat):Prop where
 u:P.underlying t=some (.slice e)
 i:∃i z,P.info? e=some i/\i.zero=some z/\i.size=s/\z.cells.size=s/\i.bytes<=1000
 p:0<s
theorem fq.of{P:Program}{t e:TypeId}{s:Nat}(hu:P.underlying t=some (.slice e))(h:(P.info? e).map (fun i=>(i.zero.map (·.cells.size),i.size,decide (i.bytes<=1000)))=some (some s,s,true))(hp:0<s):fq P t e s:=by
 refine⟨hu,?_,hp⟩;cases hi:P.info? e with
 |none=>simp[hi]at h
 |some i=>
  rw[hi]at h;simp only[Option.map_some,Option.some.injEq,Prod.mk.injEq,qQ]at h;obtain⟨h1,h2,h3⟩:=h;cases hz:i.zero with
  |none=>rw[hz]at h1;simp at h1
  |some z=>rw[hz]at h1;exact⟨i,z,rfl,hz,h2,by simpa using h1,h3⟩
section
variable {P:Program}{w:World}
theorem AO{base:Nat}{e:TypeId}{s:Nat}{v:Value}{n:Nat}{xs:aO}(h:w.ownsRow base e s v n xs){w1:World}(h1:Ext w w1):w1.ownsRow base e s v n xs:=by
 refine⟨h.1,?_⟩;rcases h.2 with hn|⟨g,cap,cur,rfl,hb,hgg,rest⟩
 .exact .inl hn
 .exact .inr ⟨g,cap,cur,rfl,hb,(h1.block g (Array.getElem?_eq_some_iff.1 hgg).1).trans hgg,rest⟩
theorem Ns{f:FuncId}{args:Array Value}{R:Ending->World->Prop}(h:∀e:bf w,Calls P f args e.to fun x w'=>∃e':bf w,w'=e'.to/\R x w'):Calls P f args w fun x w'=>Ext w w'/\R x w':=
 (h ⟨w,Below.refl _ _⟩).mono fun _ _ ⟨e',hw,hr⟩=>⟨hw▸e'.h,hr⟩
theorem Np{ops:Array Oper}{rest:List Oper}{o:Oper}{a:Act}{Q:Exit->Act->World->Prop}(hgd:o.guard=none)(s x:Operand)(t:TypeId)
  (ho:o.op=.call { callee:=.builtin .append,args:= #[s,x],argTypes:= #[t,t]}) {e sz:Nat} (hE:fq P t e sz) (base:Nat) (v:Value) (n:Nat) (xs:List Value) (hs:a.eval s=v) (hown:w.ownsRow base e sz v n xs)
  (g m c:Nat) (cs:Array Value) (hx:a.eval x=.slice (some ⟨g,0,none⟩) m c) (hg:w.heap[g]? =some (.cells cs e (0,0))) (hl:cs.size=m*sz) (h1:cs.toList.all (·.oneCell')=true) (hb:n+m<=1073741824) (hbase:base<=w.heap.size)
  (h:∀v' w',w'.ownsRow base e sz v' (n+m) (xs++cs.toList)->w.grownBy w' v.ownBlock->wpList P ops Q rest (a.put o.dst v') w'):wpList P ops Q (o::rest) a w:=by
 obtain⟨i,z,hi,hz,hsz,hzs,hby⟩:=hE.i;refine wpList_append_own _ hgd s x t ho base e i z sz i.bytes hE.u hi hz hsz rfl hzs hE.p v n xs hs hown ⟨g,0,none⟩ m c cs.toList hx (by simpa using hl) (fun j u hu=> ?_) (List.all_eq_true.1 h1) ?_ ?_ hbase (fun v' w' h2 h3 _=>h v' w' h2 h3)
 .have hadd:(⟨g,0,none⟩:Addr).add j=⟨g,j,none⟩:=by unfold Addr.add;split<;>simp_all
  rw[hadd,cell_of_row w g j cs e (0,0) hg];simpa using hu
 .unfold maxLen;omega
 .calc (n+m)*i.bytes<=1073741824*1000:=Nat.mul_le_mul hb hby
   _<=140737488355328:=by omega
theorem Ext.grown{w0 w w':World}{row:Option Nat}(h:Ext w0 w)(hg:w.grownBy w' row)(hr:∀k,row=some k->w0.heap.size<=k):Ext w0 w':=Below.grown h hg h.size hr
theorem MP{base:Nat}{e:TypeId}{s:Nat}{v:Value}{n:Nat}{xs:aO}(h:w.ownsRow base e s v n xs):∀k,v.ownBlock=some k->base<=k:=fun k hk=>(h.lt k hk).1
theorem MQ{base:Nat}{e:TypeId}{s:Nat}{v:Value}{n:Nat}{xs:aO}(h:w.ownsRow base e s v n xs){ds:List D}{bs:aG}(ht:TN w ds bs xs):∃A c bs',v=.slice A n c/\T1 w (.sl n ds) bs' (.slice A n c):=by
 rcases h.2 with⟨rfl,rfl⟩|⟨g,cap,cur,rfl,hb,hgg,hnc,hcm,hcs,htk⟩
 .have h0:xs=[]:=List.eq_nil_of_length_eq_zero (by simpa using h.1);subst h0;have hd:ds=[]:=List.eq_nil_of_length_eq_zero (by simpa using ht.length.symm);subst hd;exact⟨none,0,[],rfl,T1.empty none⟩
 .rcases Nat.eq_zero_or_pos n with rfl|hn
  .have h0:xs=[]:=List.eq_nil_of_length_eq_zero (by simpa using h.1);subst h0;have hd:ds=[]:=List.eq_nil_of_length_eq_zero (by simpa using ht.length.symm);subst hd;refine⟨some ⟨g,0,none⟩,cap,[],rfl,?_⟩;unfold T1;exact⟨_,_,rfl,hnc,hcm,.inl ⟨rfl,rfl,rfl⟩⟩
  .refine⟨some ⟨g,0,none⟩,cap,g::bs,rfl,?_⟩;unfold T1;refine⟨_,_,rfl,hnc,hcm,.inr ⟨hn,g,0,xs,bs,rfl,rfl,(Array.getElem?_eq_some_iff.1 hgg).1,fun j u hu=> ?_,ht⟩⟩;rw[Nat.zero_add,cell_of_row w g j cur e (0,0) hgg];rw[<-htk,List.getElem?_take]at hu;split at hu
   .simpa using hu
   .cases hu
end
end Go.Tr
namespace Go.Tr
open Go Go.RowKit
structure Only(bs:List Nat)(w w':World):Prop where
 os:w'.os=w.os
 tape:w'.tape=w.tape
 output:w'.output=w.output
 size:w'.heap.size=w.heap.size
 other:∀b,b∉bs->w'.heap[b]? =w.heap[b]?
 row:∀(b:Nat) cs t,w.heap[b]? =some (.cells cs t (0,0))->∃cs',w'.heap[b]? =some (.cells cs' t (0,0))
theorem Only.refl(bs:aG)(w:World):Only bs w w:=⟨rfl,rfl,rfl,rfl,fun _ _=>rfl,fun _ cs _ h=>⟨cs,h⟩⟩
theorem Only.trans{bs:aG}{a b c:World}(h:Only bs a b)(k:Only bs b c):Only bs a c:=
 ⟨k.os.trans h.os,k.tape.trans h.tape,k.output.trans h.output,k.size.trans h.size,fun i hi=>(k.other i hi).trans (h.other i hi),
  fun b cs t hb=>by obtain⟨cs',h'⟩:=h.row b cs t hb;exact k.row b cs' t h'⟩
theorem Only.sub{bs cs:aG}{w w':World}(h:Only bs w w')(hs:∀b∈bs,b∈cs):Only cs w w':=⟨h.os,h.tape,h.output,h.size,fun b hb=>h.other b (fun hc=>hb (hs b hc)),h.row⟩
theorem Only.drewN{bs:aG}{w w':World}(h:Only bs w w')(n:Nat):Only bs w (w'.drewN n):=⟨h.os,h.tape,h.output,h.size,h.other,h.row⟩
theorem Only.below{B:Nat}{bs:aG}{w w':World}(h:Only bs w w')(hb:∀b∈bs,B<=b):Below B w w':=
 ⟨h.os,h.tape,h.output,by rw[h.size];exact Nat.le_refl _,fun k hk=>h.other k (fun hc=>by have:=hb k hc;omega)⟩
theorem Only.setCell{bs:aG}{w w':World}(h:Only bs w w'){b:Nat}(hb:b∈bs)(o:Nat)(v:Value):Only bs w (w'.setCell ⟨b,o,none⟩ v):=
 h.trans ⟨rfl,rfl,rfl,by simp[World.setCell],fun b' hb'=>Below.heap_setCell _ _ _ _ (fun e=>hb' (by simp at e;exact e▸hb)),fun b' cs t hr=>by
  by_cases e:b'=b
  .subst e;exact⟨_,Rows.jN hr⟩
  .exact⟨cs,(Below.heap_setCell _ _ _ _ e).trans hr⟩⟩
theorem T1.only{bs:aG}{w w':World}{d cs u}(h:T1 w d cs u)(ho:Only bs w w')(hd:∀b∈cs,b∉bs):T1 w' d cs u:=
 h.keep ⟨by rw[ho.size];exact Nat.le_refl _,fun b hb=>ho.other b (hd b hb)⟩
theorem TN.only{bs:aG}{w w':World}{d cs u}(h:TN w d cs u)(ho:Only bs w w')(hd:∀b∈cs,b∉bs):TN w' d cs u:=
 h.keep ⟨by rw[ho.size];exact Nat.le_refl _,fun b hb=>ho.other b (hd b hb)⟩
theorem Own.only{lo:Nat}{bs cs:aG}{w w':World}(h:Own lo w bs)(ho:Only cs w w'):Own lo w' bs:=
 ⟨h.1,fun b hb=>⟨(h.2 b hb).1,by obtain⟨_,cur,t,h2⟩:=h.2 b hb;obtain⟨cs',h3⟩:=ho.row b cur t h2;exact⟨cs',t,h3⟩⟩⟩
structure Em(b lo hi:Nat)(P:List Nat)(w w':World):Prop where
 only:Only (b::P) w w'
 cells:∀j,(j<lo\/hi<=j)->w'.cell? ⟨b,j,none⟩=w.cell? ⟨b,j,none⟩
theorem Em.refl(b lo hi:Nat)(P:aG)(w:World):Em b lo hi P w w:=⟨Only.refl _ _,fun _ _=>rfl⟩
theorem Em.trans{b lo hi:Nat}{P:aG}{x y z:World}(h:Em b lo hi P x y)(k:Em b lo hi P y z):Em b lo hi P x z:=⟨h.only.trans k.only,fun j hj=>(k.cells j hj).trans (h.cells j hj)⟩
theorem jR(w:World)(b o o':Nat)(v:Value)(h:o'≠o):(w.setCell ⟨b,o,none⟩ v).cell? ⟨b,o',none⟩=w.cell? ⟨b,o',none⟩:=by
 simp only[World.cell?,World.setCell,Array.getElem?_modify];cases hb:w.heap[b]? with
 |none=>simp
 |some ob=>cases ob<;>simp[Ne.symm h]
theorem Em.setCell{b lo hi:Nat}{P:aG}{w w':World}(h:Em b lo hi P w w'){o:Nat}(h1:lo<=o)(h2:o<hi)(v:Value):Em b lo hi P w (w'.setCell ⟨b,o,none⟩ v):=
 ⟨h.only.setCell (by simp) o v,fun j hj=>(jR _ _ _ _ _ (by omega)).trans (h.cells j hj)⟩
theorem Em.then{b lo hi:Nat}{P Q:aG}{w w1 w2:World}(h:Em b lo hi P w w1)(k:Only Q w1 w2)(hQ:∀x∈Q,x∈P)(hb:b∉Q):Em b lo hi P w w2:=
 ⟨h.only.trans (k.sub fun x hx=>by simp[hQ x hx]),fun j hj=>(World.cell?_of_block (a:=⟨b,j,none⟩) (k.other b hb)).trans (h.cells j hj)⟩
theorem T1.focus{α:Type}{f:α->List D}{s:Nat}(hs:∀x,(f x).length=s){w:World}{xs:List α}{bs:aG}{A:Option Addr}{n c:Nat}(h:T1 w (.sl n (xs.flatMap f)) bs (.slice A n c))(hm:xs.length=n){k:Nat}(hk:k<n):
  ∃b off b1 b2 b3 us,A=some ⟨b,off,none⟩/\bs=b::(b1++b2++b3)/\b<w.heap.size/\aM w b (off+k*s) us/\TN w (f (xs[k]'(hm▸hk))) b2 us/\
   ∀w' x' us',w.heap.size<=w'.heap.size->(∀j,(j<off+k*s\/off+k*s+s<=j)->w'.cell? ⟨b,j,none⟩=w.cell? ⟨b,j,none⟩)->(∀b'∈b1++b3,w'.heap[b']? =w.heap[b']?)->
    aM w' b (off+k*s) us'->TN w' (f x') b2 us'->T1 w' (.sl n ((xs.set k x').flatMap f)) bs (.slice A n c):=by
 have hk':k<xs.length:=hm▸hk;unfold T1 at h;obtain⟨A',c',he,hn,hc,h⟩:=h;injection he with hA hn' hc'
 subst hA hc';rcases h with⟨rfl,_,_⟩|⟨h0,b,off,us,bs',rfl,rfl,hb,hca,ht⟩
 .omega
 have hx:xs.flatMap f=(xs.take k).flatMap f++(f xs[k]++(xs.drop (k+1)).flatMap f):=by
  conv=>lhs;rw[<-List.take_append_drop k xs,List.drop_eq_getElem_cons hk',List.flatMap_append,qU]
 have hl:((xs.take k).flatMap f).length=k*s:=by rw[jV f s hs,List.length_take,Nat.min_eq_left (Nat.le_of_lt hk')]
 rw[hx]at ht;obtain⟨b1,b',u1,u',rfl,rfl,t1,ht⟩:=TN.append.1 ht;obtain⟨b2,b3,u2,u3,rfl,rfl,t2,t3⟩:=TN.append.1 ht;have l1:=t1.length;have l2:=t2.length;rw[hl]at l1;rw[hs]at l2;refine⟨b,off,b1,b2,b3,u2,rfl,by simp,hb,fun j u hu=> ?_,t2,fun w' x' us' hsz hcell hkeep hca' ht'=> ?_⟩
 .have hj:=(qE.1 hu).1
  have:=hca (k*s+j) u (by
   rw[qL (by omega),l1,Nat.add_sub_cancel_left,qM hj];exact hu)
  rwa[<-Nat.add_assoc]at this
 .have l2':=ht'.length;rw[hs]at l2';unfold T1;refine⟨_,_,rfl,hn,hc,.inr ⟨h0,b,off,u1++(us'++u3),b1++(b2++b3),rfl,rfl,qW hb hsz,fun j u hu=> ?_,?_⟩⟩
  .by_cases hj1:j<k*s
   .rw[qM (by omega)]at hu;rw[hcell _ (by omega)];exact hca j u (by rw[qM (by omega)];exact hu)
   .rw[qL (by omega),l1]at hu
    by_cases hj2:j-k*s<s
    .rw[qM (by omega)]at hu;have:=hca' (j-k*s) u hu
     rwa[show off+k*s+(j-k*s)=off+j by omega]at this
    .rw[qL (by omega),l2']at hu;rw[hcell _ (by omega)];exact hca j u (by rw[qL (by omega),l1,qL (by omega),l2];exact hu)
  .have e:(xs.set k x').flatMap f=(xs.take k).flatMap f++(f x'++(xs.drop (k+1)).flatMap f):=by
    rw[List.set_eq_take_append_cons_drop,if_pos hk',List.flatMap_append,qU]
   rw[e]
   exact TN.append.2 ⟨b1,_,u1,_,rfl,rfl,t1.keep ⟨hsz,fun b' hb'=>hkeep b' (by simp[hb'])⟩,
    TN.append.2 ⟨b2,b3,us',u3,rfl,rfl,ht',t3.keep ⟨hsz,fun b' hb'=>hkeep b' (by simp[hb'])⟩⟩⟩
theorem T1.foc{α:Type}{f:α->List D}{s:Nat}(hs:∀x,(f x).length=s){w:World}{xs:List α}{bs:aG}{A:Option Addr}{n c:Nat}(h:T1 w (.sl n (xs.flatMap f)) bs (.slice A n c))(hm:xs.length=n){k:Nat}(hk:k<n){lo:Nat}(ho:Own lo w bs):
  ∃b off P us x,A=some ⟨b,off,none⟩/\Hid (xs[k]? =some x)/\b∈bs/\(∀y∈P,y∈bs)/\b∉P/\b<w.heap.size/\(∀o,w.frozen? ⟨b,o,none⟩=false)/\Own lo w P/\aM w b (off+k*s) us/\TN w (f x) P us/\
   ∀w' x' us',Em b (off+k*s) (off+k*s+s) P w w'->aM w' b (off+k*s) us'->TN w' (f x') P us'->T1 w' (.sl n ((xs.set k x').flatMap f)) bs (.slice A n c)/\Only bs w w':=by
 obtain⟨b,off,b1,b2,b3,us,rfl,rfl,hb,hc,ht,hback⟩:=T1.focus hs h hm hk;have hk':k<xs.length:=hm▸hk;have hnd:=ho.1;rw[List.nodup_cons,List.nodup_append,List.nodup_append]at hnd;obtain⟨hb',⟨⟨n1,n2,n12⟩,n3,n123⟩⟩:=hnd;obtain⟨_,cur,t,hrow⟩:=ho.2 b (by simp);refine⟨b,off,b2,us,xs[k],rfl,qB hk',by simp,fun y hy=>by simp[hy],fun hc=>hb' (by simp[hc]),hb,fun o=>by simp[World.frozen?,hrow],⟨n2,fun y hy=>ho.2 y (by simp[hy])⟩,hc,ht,fun w' x' us' hf hc' ht'=>⟨hback w' x' us' (by rw[hf.only.size];exact Nat.le_refl _) hf.cells (fun b' hb2=>hf.only.other b' (fun hm=> ?_)) hc' ht',hf.only.sub (fun y hy=> ?_)⟩⟩
 .rcases List.mem_cons.1 hm with e|hm
  .subst e;rcases qT.1 hb2 with h|h
   .exact hb' (by simp[h])
   .exact hb' (by simp[h])
  .rcases qT.1 hb2 with h|h
   .exact n12 b' h b' hm rfl
   .exact n123 b' (by simp[hm]) b' h rfl
 .rcases List.mem_cons.1 hy with e|hy
  .simp[e]
  .simp[hy]
def Jb{α:Type}(M:α->Int->Prop)(c:α->Nat):List α->Int->Prop
 |[],_=>True
 |x::xs,k=>M x k/\Jb M c xs (k+c x)
def jM{α:Type}(c:α->Nat)(xs:List α):Nat:=(xs.map c).sum
theorem Jb.snoc{α:Type}{M:α->Int->Prop}{c:α->Nat}:∀{l:List α} {k:Int} {x:α},Jb M c l k->M x (k+jM c l)->Jb M c (l++[x]) k
 |[],k,x,_,h=>⟨by simpa[jM]using h,trivial⟩
 |y::l,k,x,h1,h=>⟨h1.1,Jb.snoc h1.2 (by
   have:k+((c y:Nat):Int)+(jM c l:Nat)=k+(jM c (y::l):Nat):=by simp only[jM,List.map_cons,List.sum_cons];omega
   rw[this];exact h)⟩
structure yw{α:Type}(M:α->Int->Prop)(c:α->Nat)(xs:List α)(k:Int)(n j:Nat)(ys:List α):Prop where
 len:ys.length=n
 rest:ys.drop j=xs.drop j
 done:Jb M c (ys.take j) k
 cnt:(ys.take j).map c=(xs.take j).map c
theorem yw.start{α:Type}{M:α->Int->Prop}{c:α->Nat}{xs:List α}{k:Int}{n:Nat}(h:xs.length=n):yw M c xs k n 0 xs:=⟨h,rfl,by simp[Jb],rfl⟩
theorem yw.step{α:Type}{M:α->Int->Prop}{c:α->Nat}{xs ys:List α}{k:Int}{n j:Nat}{x x':α}(h:yw M c xs k n j ys)(hx:ys[j]? =some x)(hm:M x' (k+jM c (xs.take j)))(hc:c x'=c x):
  yw M c xs k n (j+1) (ys.set j x')/\jM c (xs.take (j+1))=jM c (xs.take j)+c x:=by
 have hj:j<ys.length:=(qE.1 hx).1
 have hx2:xs[j]? =some x:=by
  have:=congrArg (fun l=>l[0]?) h.rest;simpa[List.getElem?_drop,hx]using this.symm
 have e1:(ys.set j x').take (j+1)=ys.take j++[x']:=by
  rw[List.take_add_one,List.take_set_of_le (Nat.le_refl _),List.getElem?_set_self hj];rfl
 have e2:xs.take (j+1)=xs.take j++[x]:=by rw[List.take_add_one,hx2];rfl
 have ec:jM c (ys.take j)=jM c (xs.take j):=by unfold jM;rw[h.cnt]
 refine⟨⟨by rw[List.length_set];exact h.len,?_,?_,?_⟩,?_⟩
 .rw[List.drop_set_of_lt (Nat.lt_succ_self j)];have:=congrArg (List.drop 1) h.rest;simpa[List.drop_drop,Nat.add_comm]using this
 .rw[e1];exact Jb.snoc h.done (by rw[ec];exact hm)
 .rw[e1,e2,qZ,qZ,h.cnt];simp[hc]
 .rw[e2];simp[jM]
theorem yw.fin{α:Type}{M:α->Int->Prop}{c:α->Nat}{xs ys:List α}{k:Int}{n:Nat}(h:yw M c xs k n n ys):Jb M c ys k/\ys.map c=xs.map c:=by
 have hl:xs.length<=n:=by
  have:=congrArg List.length h.rest;simp[h.len]at this;omega
 have h1:=h.done;have h2:=h.cnt;rw[qN (by rw[h.len];exact Nat.le_refl _)]at h1 h2;rw[qN hl]at h2;exact⟨h1,h2⟩
theorem Jh{α:Type}(c:α->Nat)(xs:List α)(j:Nat):jM c (xs.take j)<=jM c xs:=by
 have h:jM c xs=jM c (xs.take j)+jM c (xs.drop j):=by
  unfold jM;rw[<-List.sum_append,<-qZ,List.take_append_drop]
 omega
abbrev mInt(x k:Int):Prop:=x=k
abbrev cInt(_:Int):Nat:=1
theorem yw.next{α:Type}{M:α->Int->Prop}{c:α->Nat}{xs ys:List α}{k:Int}{n j:Nat}{x:α}(h:yw M c xs k n j ys)(hx:ys[j]? =some x):jM c (xs.take j)+c x<=jM c xs:=by
 have hx2:xs[j]? =some x:=by
  have:=congrArg (fun l=>l[0]?) h.rest;simpa[List.getElem?_drop,hx]using this.symm
 have e2:xs.take (j+1)=xs.take j++[x]:=by rw[List.take_add_one,hx2];rfl
 have:=Jh c xs (j+1);rw[e2]at this;simpa[jM]using this
def Ph(k:Int):List UInt8:=if k<=0 then[109,48]else 109::(Nat.toDigits 10 k.toNat).map (fun c=>c.toNat.toUInt8)
def mkV(x:Value)(k:Int):Value:=match x with
 | .int .i64 _=>.int .i64 k
 | .bool _=>.bool (k % 3==0)
 | .string _=>.string ⟨(Ph k).toArray⟩
 |x=>x
theorem QH(x:Value)(k:Int)(h:x.oneCell'=true):(mkV x k).oneCell'=true:=by
 unfold mkV;split<;>first|rfl|exact h
mutual
def KO:D->Int->D
 | .v x,k=>.v (mkV x k)
 | .sl n ds,k=>.sl n (Dv ds k)
def Dv:List D->Int->List D
 |[],_=>[]
 |d::ds,k=>KO d k::Dv ds (k+(cD d:Nat))
def cD:D->Nat
 | .v _=>1
 | .sl _ ds=>cN ds
def cN:List D->Nat
 |[]=>0
 |d::ds=>cD d+cN ds
end
theorem lX:cN []=0:=by unfold cN;rfl
theorem kG(d:D)(ds:List D):cN (d::ds)=cD d+cN ds:=by rw[cN]
theorem LD(x:Value):cD (.v x)=1:=by unfold cD;rfl
theorem Om(n:Nat)(ds:List D):cD (.sl n ds)=cN ds:=by rw[cD]
theorem Dw(k:Int):Dv [] k=[]:=by unfold Dv;rfl
theorem vB(d:D)(ds:List D)(k:Int):Dv (d::ds) k=KO d k::Dv ds (k+(cD d:Nat)):=by rw[Dv]
theorem Ub(x:Value)(k:Int):KO (.v x) k=.v (mkV x k):=by rw[KO]
theorem Sj(n:Nat)(ds:List D)(k:Int):KO (.sl n ds) k=.sl n (Dv ds k):=by rw[KO]
theorem QG(x k:Int):KO (.v (.int .i64 x)) k=.v (.int .i64 k):=by rw[KO];rfl
theorem mU:∀a b:List D,cN (a++b)=cN a+cN b
 |[],b=>by rw[lX];simp
 |d::a,b=>by rw[List.cons_append,kG,kG,mU a b];omega
theorem BQ:∀(a b:List D) (k:Int),Dv (a++b) k=Dv a k++Dv b (k+(cN a:Nat))
 |[],b,k=>by rw[Dw,lX];simp
 |d::a,b,k=>by
  rw[List.cons_append,vB,vB,BQ a b,List.cons_append,kG]
  congr 3
  omega
theorem JN:∀(a:List D) (k:Int),(Dv a k).length=a.length
 |[],k=>by rw[Dw]
 |d::a,k=>by rw[vB,qI,qI,JN a]
structure lK(bs:List Nat)(w w':World):Prop where
 os:w'.os=w.os
 tape:w'.tape=w.tape
 output:w'.output=w.output
 size:w.heap.size<=w'.heap.size
 other:∀b,b<w.heap.size->b∉bs->w'.heap[b]? =w.heap[b]?
 row:∀(b:Nat) cs t,w.heap[b]? =some (.cells cs t (0,0))->∃cs',w'.heap[b]? =some (.cells cs' t (0,0))
theorem bL{w:World}{b:Nat}{o:Obj}(h:w.heap[b]? =some o):b<w.heap.size:=(Array.getElem?_eq_some_iff.1 h).1
theorem lK.refl(bs:aG)(w:World):lK bs w w:=⟨rfl,rfl,rfl,Nat.le_refl _,fun _ _ _=>rfl,fun _ cs _ h=>⟨cs,h⟩⟩
theorem lK.trans{bs:aG}{a b c:World}(h:lK bs a b)(k:lK bs b c):lK bs a c:=
 ⟨k.os.trans h.os,k.tape.trans h.tape,k.output.trans h.output,Nat.le_trans h.size k.size,fun i hs hi=>(k.other i (qW hs h.size) hi).trans (h.other i hs hi),
  fun b cs t hb=>by obtain⟨cs',h'⟩:=h.row b cs t hb;exact k.row b cs' t h'⟩
theorem lK.sub{bs cs:aG}{w w':World}(h:lK bs w w')(hs:∀b∈bs,b∈cs):lK cs w w':=⟨h.os,h.tape,h.output,h.size,fun b hl hb=>h.other b hl (fun hc=>hb (hs b hc)),h.row⟩
theorem lK.kQ{bs:aG}{w w':World}(h:Below w.heap.size w w'):lK bs w w':=⟨h.os,h.tape,h.output,h.size,fun b hl _=>h.block b hl,fun b cs t hb=>⟨cs,(h.block b (bL hb)).trans hb⟩⟩
theorem lK.drewN{bs:aG}{w w':World}(h:lK bs w w')(n:Nat):lK bs w (w'.drewN n):=⟨h.os,h.tape,h.output,h.size,h.other,h.row⟩
theorem lK.below{B:Nat}{bs:aG}{w w':World}(h:lK bs w w')(hB:B<=w.heap.size)(hb:∀b∈bs,B<=b):Below B w w':=
 ⟨h.os,h.tape,h.output,h.size,fun k hk=>h.other k (by omega) (fun hc=>by have:=hb k hc;omega)⟩
theorem lK.setCell{bs:aG}{w w':World}(h:lK bs w w'){b:Nat}(hb:b∈bs)(o:Nat)(v:Value):lK bs w (w'.setCell ⟨b,o,none⟩ v):=
 h.trans ⟨rfl,rfl,rfl,by simp[World.setCell],fun b' _ hb'=>Below.heap_setCell _ _ _ _ (fun e=>hb' (by simp at e;exact e▸hb)),fun b' cs t hr=>by
  by_cases e:b'=b
  .subst e;exact⟨_,Rows.jN hr⟩
  .exact⟨cs,(Below.heap_setCell _ _ _ _ e).trans hr⟩⟩
theorem T1.MK{bs:aG}{w w':World}{d cs u}(h:T1 w d cs u)(ho:lK bs w w')(hd:∀b∈cs,b∉bs):T1 w' d cs u:=
 h.keep ⟨ho.size,fun b hb=>ho.other b (h.lt b hb) (hd b hb)⟩
theorem TN.MK{bs:aG}{w w':World}{d cs u}(h:TN w d cs u)(ho:lK bs w w')(hd:∀b∈cs,b∉bs):TN w' d cs u:=
 h.keep ⟨ho.size,fun b hb=>ho.other b (h.lt b hb) (hd b hb)⟩
theorem Own.MK{lo:Nat}{bs cs:aG}{w w':World}(h:Own lo w bs)(ho:lK cs w w'):Own lo w' bs:=
 ⟨h.1,fun b hb=>⟨(h.2 b hb).1,by obtain⟨_,cur,t,h2⟩:=h.2 b hb;obtain⟨cs',h3⟩:=ho.row b cur t h2;exact⟨cs',t,h3⟩⟩⟩
theorem Own.join{lo:Nat}{w:World}{a b:aG}(h1:Own lo w a)(h2:Own lo w b)(h:∀y∈a,y∉b):Own lo w (a++b):=
 ⟨List.nodup_append.2 ⟨h1.1,h2.1,fun y hy z hz e=>h y hy (e▸hz)⟩,fun y hy=>(qT.1 hy).elim (h1.2 y) (h2.2 y)⟩
theorem Own.parts{lo:Nat}{w:World}{a b:aG}(h:Own lo w (a++b)):Own lo w a/\Own lo w b/\∀y∈a,y∉b:=by
 obtain⟨h1,h2,h3⟩:=List.nodup_append.1 h.1;exact⟨⟨h1,fun y hy=>h.2 y (by simp[hy])⟩,⟨h2,fun y hy=>h.2 y (by simp[hy])⟩,fun y hy hb=>h3 y hy y hb rfl⟩
theorem T1.pos{w:World}{n n':Nat}{l r:List D}{d:D}{bs:aG}{A:Option Addr}{c:Nat}(h:T1 w (.sl n (l++d::r)) bs (.slice A n' c)):
  n'=n/\∃b off u b1 b2 b3,A=some ⟨b,off,none⟩/\bs=b::(b1++(b2++b3))/\b<w.heap.size/\w.cell? ⟨b,off+l.length,none⟩=some u/\T1 w d b2 u/\
   ∀(w':World) (d':D) (u':Value),w.heap.size<=w'.heap.size->(∀j,j≠off+l.length->w'.cell? ⟨b,j,none⟩=w.cell? ⟨b,j,none⟩)->(∀b'∈b1++b3,w'.heap[b']? =w.heap[b']?)->
    w'.cell? ⟨b,off+l.length,none⟩=some u'->T1 w' d' b2 u'->T1 w' (.sl n (l++d'::r)) bs (.slice A n' c):=by
 unfold T1 at h;obtain⟨A',c',he,hn,hc,h⟩:=h;injection he with hA hn' hc'
 subst hA hc' hn';refine⟨rfl,?_⟩;rcases h with⟨_,h,_⟩|⟨h0,b,off,us,bs',rfl,rfl,hb,hca,ht⟩
 .exact absurd h (by simp)
 obtain⟨b1,b',u1,u',rfl,rfl,t1,ht⟩:=TN.append.1 ht;obtain⟨b2,b3,u,u3,rfl,rfl,t2,t3⟩:=TN.cons.1 ht;have l1:=t1.length;refine⟨b,off,u,b1,b2,b3,rfl,rfl,hb,hca l.length u (by rw[qL (by omega),l1];simp),t2,fun w' d' u2 hsz hcell hkeep hc' ht'=> ?_⟩;unfold T1;refine⟨_,_,rfl,hn,hc,.inr ⟨h0,b,off,u1++(u2::u3),b1++(b2++b3),rfl,rfl,qW hb hsz,fun j v hv=> ?_,?_⟩⟩
 .by_cases hj:j=l.length
  .subst hj;rw[qL (by omega),l1]at hv;simp at hv;rw[hc',hv]
  .rw[hcell _ (by omega)];refine hca j v ?_
   by_cases hj1:j<l.length
   .rw[qM (by omega)]at hv |-;exact hv
   .rw[qL (by omega)]at hv |-;obtain⟨i,hi⟩:∃i,j-u1.length=i+1:=⟨j-u1.length-1,by omega⟩;rw[hi]at hv |-;simpa using hv
 .exact TN.append.2 ⟨b1,_,u1,_,rfl,rfl,t1.keep ⟨hsz,fun b' hb'=>hkeep b' (by simp[hb'])⟩,TN.cons.2 ⟨b2,b3,u2,u3,rfl,rfl,ht',t3.keep ⟨hsz,fun b' hb'=>hkeep b' (by simp[hb'])⟩⟩⟩
theorem T1.leaf{w:World}{n n':Nat}{l r:List D}{x:Value}{bs:aG}{A:Option Addr}{c lo o:Nat}(h:T1 w (.sl n (l++.v x::r)) bs (.slice A n' c))(ho:Own lo w bs){b off:Nat}(hA:A=some ⟨b,off,none⟩)(hl:off+l.length=o):
  w.cell? ⟨b,o,none⟩=some x/\∀y,y.oneCell'=true->T1 (w.setCell ⟨b,o,none⟩ y) (.sl n (l++.v y::r)) bs (.slice A n' c)/\lK bs w (w.setCell ⟨b,o,none⟩ y)/\Own lo (w.setCell ⟨b,o,none⟩ y) bs:=by
 subst hl;obtain⟨rfl,b',off',u,b1,b2,b3,hA',rfl,hb,hc,ht,hback⟩:=h.pos;obtain⟨rfl,rfl⟩:b'=b/\off'=off:=by rw[hA]at hA';simpa[eq_comm]using hA'
 obtain⟨rfl,rfl,_⟩:=T1.v.1 ht;refine⟨hc,fun y hy=> ?_⟩;have hon:lK (b'::(b1++([]++b3))) w (w.setCell ⟨b',off'+l.length,none⟩ y):=(lK.refl _ _).setCell (by simp) _ _;refine⟨hback _ _ y (by simp[World.setCell]) (fun j hj=>jR _ _ _ _ _ hj) (fun b2 hb2=>Below.heap_setCell _ _ _ _ (fun e=> ?_)) (World.cell?_setCell_same' _ _ _ (by rw[hc];rfl)) (T1.v.2 ⟨rfl,rfl,hy⟩),hon,ho.MK hon⟩;have hnd:=(List.nodup_cons.1 ho.1).1;simp only[List.nil_append]at hnd;exact hnd (by simp at e;rw[<-e];exact hb2)
theorem T1.row{w:World}{n n':Nat}{l r:List D}{d:D}{bs:aG}{A:Option Addr}{c lo:Nat}(h:T1 w (.sl n (l++d::r)) bs (.slice A n' c))(ho:Own lo w bs):
  ∃b off,A=some ⟨b,off,none⟩/\n'=n/\b∈bs/\b<w.heap.size/\lo<=b/\∀o,w.frozen? ⟨b,o,none⟩=false:=by
 obtain⟨rfl,b,off,u,b1,b2,b3,rfl,rfl,hb,hc,ht,hback⟩:=h.pos;obtain⟨hlo,cur,t,hrow⟩:=ho.2 b (by simp);exact⟨b,off,rfl,rfl,by simp,hb,hlo,fun o=>by simp[World.frozen?,hrow]⟩
theorem T1.sub{w:World}{n n' m:Nat}{l r es:List D}{bs:aG}{A:Option Addr}{c lo o:Nat}(h:T1 w (.sl n (l++.sl m es::r)) bs (.slice A n' c))(ho:Own lo w bs){b off:Nat}(hA:A=some ⟨b,off,none⟩)(hl:off+l.length=o):
  ∃A2 c2 b2,w.cell? ⟨b,o,none⟩=some (.slice A2 m c2)/\T1 w (.sl m es) b2 (.slice A2 m c2)/\m<=maxLen/\Own lo w b2/\b∉b2/\
   ∀w' es',lK b2 w w'->T1 w' (.sl m es') b2 (.slice A2 m c2)->T1 w' (.sl n (l++.sl m es'::r)) bs (.slice A n' c)/\lK bs w w'/\Own lo w' bs:=by
 subst hl;obtain⟨rfl,b',off',u,b1,b2,b3,hA',rfl,hb,hc,ht,hback⟩:=h.pos;obtain⟨rfl,rfl⟩:b'=b/\off'=off:=by rw[hA]at hA';simpa[eq_comm]using hA'
 obtain⟨A2,c2,rfl,hm1,hm2⟩:=ht.slice;have hnd:=ho.1;have hlt:∀y∈b1++b3,y<w.heap.size:=fun y hy=>ho.lt y (by rcases qT.1 hy with h|h<;>simp[h])
 rw[List.nodup_cons,List.nodup_append,List.nodup_append]at hnd;obtain⟨hb',n1,⟨n2,n3,n23⟩,n123⟩:=hnd;refine⟨A2,c2,b2,hc,ht,Nat.le_trans hm1 hm2,⟨n2,fun y hy=>ho.2 y (by simp[hy])⟩,fun hx=>hb' (by simp[hx]),fun w' es' hon ht'=> ?_⟩;have hon':lK (b'::(b1++(b2++b3))) w w':=hon.sub (fun y hy=>by simp[hy]);have hk:w'.heap[b']? =w.heap[b']? :=hon.other b' hb (fun hx=>hb' (by simp[hx]));refine⟨hback w' _ _ hon.size (fun j _=>World.cell?_of_block hk) (fun y hy=>hon.other y (hlt y hy) (fun hx=> ?_)) ((World.cell?_of_block hk).trans hc) ht',hon',ho.MK hon'⟩
 rcases qT.1 hy with hy|hy
 .exact n123 y hy y (by simp[hx]) rfl
 .exact n23 y hx y hy rfl
theorem Md{α:Type}(f:α->List D)(s:Nat)(hs:∀x,(f x).length=s){xs:List α}{n k:Nat}(hn:Hid (xs.length=n))(hk:k<n):
  ∃x,Hid (xs[k]? =some x)/\Hid (xs.flatMap f=(xs.take k).flatMap f++(f x++(xs.drop (k+1)).flatMap f))/\((xs.take k).flatMap f).length=k*s/\Hid ((xs.take (k+1)).flatMap f=(xs.take k).flatMap f++f x)/\Hid (xs.drop k=x::xs.drop (k+1)):=by
 have hk':k<xs.length:=hn.out▸hk;refine⟨xs[k],qB hk',?_,?_,Ew f (qB hk'),List.drop_eq_getElem_cons hk'⟩
 .show _=_
  conv=>lhs;rw[<-List.take_append_drop k xs,List.drop_eq_getElem_cons hk',List.flatMap_append,qU]
 .rw[jV f s hs,List.length_take,Nat.min_eq_left (Nat.le_of_lt hk')]
theorem LG{α:Type}(f:α->List D)(xs:List α)(k:Nat):cN ((xs.take k).flatMap f)<=cN (xs.flatMap f):=by
 conv=>rhs;rw[<-List.take_append_drop k xs,List.flatMap_append,mU]
 omega
theorem Qt{a b:D}{l m:List D}(h:a=b)(k:l=m):a::l=b::m:=by rw[h,k]
theorem Ut{a b:Int}(h:a=b):D.v (.int .i64 a)=D.v (.int .i64 b):=by rw[h]
theorem Uu{x y:Value}(h:x=y):D.v x=D.v y:=by rw[h]
theorem SN{n:Nat}{ds:List D}{a b:Int}(h:a=b):D.sl n (Dv ds a)=D.sl n (Dv ds b):=by rw[h]
theorem T1.Ua{w:World}{n n':Nat}{l r:List D}{x:Value}{bs:aG}{A:Option Addr}{c o:Nat}(h:T1 w (.sl n (l++.v x::r)) bs (.slice A n' c)){b off:Nat}(hA:A=some ⟨b,off,none⟩)(hl:off+l.length=o):Kn w b o x:=by
 subst hl;obtain⟨rfl,b',off',u,b1,b2,b3,hA',rfl,hb,hc,ht,hback⟩:=h.pos;obtain⟨rfl,rfl⟩:b'=b/\off'=off:=by rw[hA]at hA';simpa[eq_comm]using hA'
 obtain⟨rfl,rfl,_⟩:=T1.v.1 ht;exact fun e=>(e.cell b' _ hb).trans hc
theorem T1.ksub{w:World}{n n' m:Nat}{l r es:List D}{bs:aG}{A:Option Addr}{c o:Nat}(h:T1 w (.sl n (l++.sl m es::r)) bs (.slice A n' c)){b off:Nat}(hA:A=some ⟨b,off,none⟩)(hl:off+l.length=o):
  ∃A2 c2 b2,Kn w b o (.slice A2 m c2)/\T1 w (.sl m es) b2 (.slice A2 m c2)/\m<=maxLen:=by
 subst hl;obtain⟨rfl,b',off',u,b1,b2,b3,hA',rfl,hb,hc,ht,hback⟩:=h.pos;obtain⟨rfl,rfl⟩:b'=b/\off'=off:=by rw[hA]at hA';simpa[eq_comm]using hA'
 obtain⟨A2,c2,rfl,hm1,hm2⟩:=ht.slice;exact⟨A2,c2,b2,fun e=>(e.cell b' _ hb).trans hc,ht,Nat.le_trans hm1 hm2⟩
theorem T1.krow{w:World}{n n':Nat}{l r:List D}{d:D}{bs:aG}{A:Option Addr}{c:Nat}(h:T1 w (.sl n (l++d::r)) bs (.slice A n' c)):∃b off,A=some ⟨b,off,none⟩:=by
 obtain⟨_,b,off,u,b1,b2,b3,hA,_⟩:=h.pos;exact⟨b,off,hA⟩
theorem Kn.MK{w w':World}{b o:Nat}{v:Value}(h:Kn w b o v)(e:bf w){bs:aG}(hf:lK bs e.to w')(hb:b<w.heap.size)(hn:b∉bs):Kn w' b o v:=fun e'=>by
 have h1:=h e;rw[<-h1,bf.cell e' b o (qW (qW hb e.h.size) hf.size)];exact World.cell?_of_block (hf.other b (qW hb e.h.size) hn)
theorem QE(x:Int):cN (tK x)<=32*(1+(fun _=>0) x):=by unfold tK;rw[kG,lX,LD];omega
theorem Ol(x:Bool):cN (CS x)<=32*(1+(fun _=>0) x):=by unfold CS;rw[kG,lX,LD];omega
theorem uO{α:Type}{f:α->List D}{g:α->Nat}(h:∀x,cN (f x)<=32*(1+g x)):∀xs:List α,cN (xs.flatMap f)<=32*Nq g xs
 |[]=>by rw[List.flatMap_nil,lX];omega
 |x::xs=>by
  rw[qU,mU];have h1:=h x;have h2:=uO h xs;have h3:Nq g (x::xs)=1+g x+Nq g xs:=by unfold Nq;simp;omega
  omega
theorem SL{α:Type}{f:α->List D}{g:α->Nat}(h:∀x,cN (f x)<=32*(1+g x))(x:List α):cN (SI f x)<=32*(1+Nq g x):=by
 unfold SI;rw[kG,lX,Om];have:=uO h x;omega
theorem Qq(xs:List Int):cN (xs.flatMap tK)=xs.length:=by
 induction xs with
 |nil=>rw[List.flatMap_nil,lX];rfl
 |cons x xs ih=>rw[qU,mU,ih];unfold tK;rw[kG,lX,LD,qI];omega
def lG(n:Nat)(p:Nat->Bool):List Int:=((List.range n).filter p).map (fun(k:Nat)=>(k:Int))
theorem QU(p:Nat->Bool):lG 0 p=[]:=rfl
theorem QW{n:Nat}{p:Nat->Bool}(h:p n=true):lG (n+1) p=lG n p++[(n:Int)]:=by
 unfold lG;rw[List.range_succ,List.filter_append];simp[h]
theorem QV{n:Nat}{p:Nat->Bool}(h:p n=false):lG (n+1) p=lG n p:=by
 unfold lG;rw[List.range_succ,List.filter_append];simp[h]
theorem NR(n:Nat)(p:Nat->Bool):(lG n p).length<=n:=by
 unfold lG;have:=List.length_filter_le p (List.range n);simpa using this
theorem K7{n:Nat}{p q:Nat->Bool}(h:∀k,k<n->p k=q k):lG n p=lG n q:=by
 unfold lG;rw[List.filter_congr (q:=q) (fun k hk=>h k (by simpa using hk))]
def BM(l:List Int):List Value:=l.map (Value.int .i64)
theorem O6(a b:List Int):BM (a++b)=BM a++BM b:=by simp[BM]
theorem Dr(w:World):∀l:List Int,TN w (l.flatMap tK) [] (BM l)
 |[]=>TN.done
 |x::l=>TN.Bl rfl (Dr w l)
theorem TN.Pp{w:World}:∀{ds:List D} {us vs:aO} {bs:aG},TN w ds [] us->TN w ds bs vs->bs=[]
 |[],us,vs,bs,_,h=>(TN.nil.1 h).2
 |d::ds,us,vs,bs,h1,h2=>by
  obtain⟨b1,b2,u,us',rfl,hb,t1,t2⟩:=TN.cons.1 h1;obtain⟨c1,c2,v,vs',rfl,rfl,s1,s2⟩:=TN.cons.1 h2;have hb1:b1=[]:=by simp at hb;exact hb.1
  have hb2:b2=[]:=by simp at hb;exact hb.2
  subst hb1 hb2;have h3:=TN.Pp t2 s2
  have h4:c1=[]:=by
   cases d with
   |v x=>exact(T1.v.1 s1).2.1
   |sl n es=>
    unfold T1 at t1 s1;obtain⟨_,_,_,_,_,ht⟩:=t1;obtain⟨_,_,_,_,_,hs⟩:=s1;rcases ht with⟨h0,_,_⟩|⟨_,_,_,_,_,_,hc,_⟩
    .rcases hs with⟨_,_,h⟩|⟨h,_⟩
     .exact h
     .omega
    .cases hc
  rw[h3,h4];rfl
theorem mq{w:World}{base:Nat}{e:TypeId}{s:Nat}{v:Value}{n:Nat}{xs:aO}(h:w.ownsRow base e s v n xs){ds:List D}(ht:TN w ds [] xs)(hl:Hid (xs.length=n*s)):
  ∃A c bs',v=.slice A n c/\T1 w (.sl n ds) bs' (.slice A n c)/\Own base w bs':=by
 rcases h.2 with⟨rfl,rfl⟩|⟨g,cap,cur,rfl,hb,hgg,hnc,hcm,hcs,htk⟩
 .have h0:xs=[]:=List.eq_nil_of_length_eq_zero (by simpa using h.1);subst h0;have hd:ds=[]:=List.eq_nil_of_length_eq_zero (by simpa using ht.length.symm);subst hd;exact⟨none,0,[],rfl,T1.empty none,Own.nil _ _⟩
 .rcases Nat.eq_zero_or_pos n with rfl|hn
  .have h0:xs=[]:=List.eq_nil_of_length_eq_zero (by simpa using h.1);subst h0;have hd:ds=[]:=List.eq_nil_of_length_eq_zero (by simpa using ht.length.symm);subst hd;refine⟨some ⟨g,0,none⟩,cap,[],rfl,?_,Own.nil _ _⟩;unfold T1;exact⟨_,_,rfl,hnc,hcm,.inl ⟨rfl,rfl,rfl⟩⟩
  .refine⟨some ⟨g,0,none⟩,cap,[g],rfl,?_,⟨by simp,by simp only[qX,forall_eq];exact⟨hb,cur,e,hgg⟩⟩⟩;unfold T1;refine⟨_,_,rfl,hnc,hcm,.inr ⟨hn,g,0,xs,[],rfl,rfl,(Array.getElem?_eq_some_iff.1 hgg).1,fun j u hu=> ?_,ht⟩⟩;rw[Nat.zero_add,cell_of_row w g j cur e (0,0) hgg];rw[<-htk,List.getElem?_take]at hu;split at hu
   .simpa using hu
   .cases hu
theorem JY{w:World}{base:Nat}{e:TypeId}{s:Nat}{v:Value}{n:Nat}{xs:aO}(h:w.ownsRow base e s v n xs){ds:List D}(ht:TN w ds [] xs)(hl:Hid (xs.length=n*s)):
  ∃A c bs',v=.slice A n c/\T1 w (.sl n ds) bs' (.slice A n c)/\Own base w bs'/\∀b∈bs',v.ownBlock=some b:=by
 rcases h.2 with⟨rfl,rfl⟩|⟨g,cap,cur,rfl,hb,hgg,hnc,hcm,hcs,htk⟩
 .obtain⟨A,c,bs',h1,h2,h3⟩:=mq h ht hl;injection h1 with hA _ hc
  subst hA hc;refine⟨none,0,[],rfl,?_,Own.nil _ _,by simp⟩;have h0:xs=[]:=List.eq_nil_of_length_eq_zero (by simpa using h.1);subst h0;have hd:ds=[]:=List.eq_nil_of_length_eq_zero (by simpa using ht.length.symm);subst hd;exact T1.empty none
 .obtain⟨A,c,bs',h1,h2,h3⟩:=mq h ht hl;injection h1 with hA _ hc
  subst hA hc;refine⟨_,_,bs',rfl,h2,h3,fun b hb=> ?_⟩;rcases Nat.eq_zero_or_pos n with rfl|hn
  .have h4:=h2;unfold T1 at h4;obtain⟨A',c',he,_,_,h5⟩:=h4;rcases h5 with⟨_,_,rfl⟩|⟨h6,_⟩
   .cases hb
   .omega
  .have h4:=h2;unfold T1 at h4;obtain⟨A',c',he,_,_,h5⟩:=h4;rcases h5 with⟨h6,_,_⟩|⟨_,b',off,us,bs2,hA',rfl,_,_,ht2⟩
   .omega
   .injection he with he
    rw[<-he]at hA';injection hA' with hA'
    injection hA' with hb' _
    have hl2:=ht2.length
    have hbs2:bs2=[]:=by
     have:us=xs\/True:=.inr trivial;exact(TN.Pp ht ht2)
    subst hbs2;simp at hb;subst hb;simp[Value.ownBlock,hb']
theorem JX{w:World}{base:Nat}{e:TypeId}{v:Value}{l:List Int}(h:w.ownsRow base e 1 v l.length (BM l)):
  ∃A c bs',v=.slice A l.length c/\T1 w (.sl l.length (l.flatMap tK)) bs' (.slice A l.length c)/\Own base w bs':=
 mq h (Dr w l) (by show _=_;simp[BM])
def ET:Op->Bool
 | .move _| .assign _| .pick .. | .load .. | .binOp .. | .unOp .. | .convert .. | .fieldAddr .. | .field .. | .indexAddr .. | .index .. | .extract .. | .slice .. | .lookup .. | .build .. | .makeInterface .. | .makeFunc .. =>true
 | .nilCheck _=>true
 | .call { callee:=.builtin .len, .. }| .call { callee:=.builtin .cap, .. }=>true
 |_=>false
theorem K6{P:Program}{s:Sem Value}{w w':World}{n:Next}(h:(do pure (Next.value (<-s)):Sem Next).run P w=.ok n w'):∃u,n=.value u:=by
 rw[Sem.run_bind]at h;cases hs:s.run P w with
 |ok x w''=>rw[hs]at h;simp only[Result.andThen,Sem.run_pure]at h;injection h with h1 h2;exact⟨x,h1.symm⟩
 |halt x w''=>rw[hs]at h;simp[Result.andThen]at h
theorem EU{P:Program}{o:Oper}{ρ:Operand->Value}{w w':World}{n:Next}(hv:ET o.op=true)(h:(execOp ρ o).run P w=.ok n w'):∃u,n=.value u:=by
 unfold execOp at h;cases hop:o.op with
 |move x=>rw[hop]at h;dsimp only at h;rw[Sem.run_pure]at h;injection h with h1 h2;exact⟨_,h1.symm⟩
 |assign x=>rw[hop]at h;dsimp only at h;rw[Sem.run_pure]at h;injection h with h1 h2;exact⟨_,h1.symm⟩
 |pick c a b=>
  rw[hop]at h;dsimp only at h;rw[Sem.run_bind]at h;cases hs:(asBool (ρ c)).run P w with
  |ok x w''=>rw[hs]at h;simp only[Result.andThen,Sem.run_pure]at h;injection h with h1 h2;exact⟨_,h1.symm⟩
  |halt x w''=>rw[hs]at h;simp[Result.andThen]at h
 |nilCheck x=>
  rw[hop]at h;dsimp only at h;split at h
  all_goals first
   |(simp[runtimePanic,goPanic,go_sem]at h;done)
   |(rw[Sem.run_pure]at h;injection h with h1 h2;exact⟨_,h1.symm⟩)
   |skip
  split at h
  .simp[runtimePanic,goPanic,go_sem]at h
  .rw[Sem.run_bind]at h;revert h;generalize (program).run P w=r;intro h;cases r with
   |halt x w''=>simp[Result.andThen]at h
   |ok p w''=>
    simp only[Result.andThen]at h;rw[Sem.run_bind]at h;revert h;generalize Sem.run P (nilAhead _ _ _ _) w''=r2;intro h;cases r2 with
    |halt x w3=>simp[Result.andThen]at h
    |ok q w3=>
     simp only[Result.andThen]at h;split at h
     .simp[unsupported,go_sem]at h
     .rw[Sem.run_pure]at h;injection h with h1 h2;exact⟨_,h1.symm⟩
  .rw[Sem.run_pure]at h;injection h with h1 h2;exact⟨_,h1.symm⟩
 |call c=>
  obtain⟨callee,args,argTypes⟩:=c;rw[hop]at h hv;cases callee with
  |builtin b=>
   cases b<;>simp only[ET,Bool.false_eq_true]at hv
   all_goals
    dsimp only at h;rw[Sem.run_bind]at h;simp only[resolve,Sem.run_pure,Result.andThen,invoke,builtin]at h;exact K6 h
  |_=>simp[ET]at hv
 |_=>
  rw[hop]at h hv
  first
   |(simp only[ET,Bool.false_eq_true]at hv;done)
   |(dsimp only at h;exact K6 h)
theorem nQ{P:Program}{o:Oper}{a:Act}{C:World->Prop}{w:World}{v:Value}(hv:ET o.op=true)(h:o.quietAt P a C w v):(execOp a.eval o).run P w=.ok (.value v) w:=by
 unfold Oper.quietAt at h;generalize hr:(execOp a.eval o).run P w=r at h;cases r with
 |halt x w'=>simp only[Oper.quietUpon]at h
 |ok n w'=>
  obtain⟨u,rfl⟩:=EU hv hr;simp only[Oper.quietUpon]at h;rw[h.1,h.2]
section
variable {P:Program}{ops:Array Oper}{md:Region.Mode}
theorem Oper.wE{o:Oper}{a:Act}{w:World}{K:Act->World->Prop}{Q Q':Exit->Act->World->Prop}(h:∀e a w,e≠.normal->Q e a w->Q' e a w)(hh:o.wp P a w K Q):o.wp P a w K Q':=by
 unfold Oper.wp at*;generalize (execOp a.eval o).run P w=r at*;cases r with
 |ok n w'=>
  cases n<;>simp only[Oper.upon]at hh |- <;>
   first
    |exact hh
    |exact Calls.mono hh (fun e w'' he=>by cases e<;>first|exact he|exact h _ _ _ (by simp) he|exact he.imp fun _ he=>he.imp fun _ he=>h _ _ _ (by simp) he)
    |exact Rows.mono hh (fun _ _ he=>he)
 |halt x w'=>cases x<;>simp only[Oper.upon]at hh |- <;>first|exact hh|exact h _ _ _ (by simp) hh
theorem Cz{i:Nat}{a:Act}{w:World}{K:Act->World->Prop}{Q Q':Exit->Act->World->Prop}(h:∀e a w,Q e a w->Q' e a w)(hh:wpOp P ops Q i K a w):wpOp P ops Q' i K a w:=by
 unfold wpOp at*;split
 .simpa[*]using hh
 .rename_i o ho;simp only[ho]at hh;split
  .rename_i hw;simp only[hw,if_true]at hh;exact hh.imp (Oper.wE fun e a w _=>h e a w) (fun⟨x,a,w,q⟩=>⟨x,a,w,h _ _ _ q⟩)
  .rename_i hw;simpa only[hw,Bool.false_eq_true,if_false]using hh
theorem mI{Q Q':Exit->Act->World->Prop}(h:∀e a w,Q e a w->Q' e a w):∀(fuel:Nat) (listed:Array Bool) (a:Act) (w:World),wpAny P md ops Q fuel listed a w->wpAny P md ops Q' fuel listed a w
 |0,_,_,_,hh=>⟨hh.1,h _ _ _ hh.2⟩
 |fuel+1,_,_,_,hh=>⟨fun h0=>h _ _ _ (hh.1 h0),fun i hi=>wpOp_mono (fun a' w'=>mI h fuel _ a' w') (Cz h (hh.2 i hi))⟩
theorem qo{Q:Exit->Act->World->Prop}{S S':World->Prop}(h:∀w,S w->S' w):∀(fuel:Nat) (listed:Array Bool) (a:Act) (w:World),wpAnyH P md ops Q S fuel listed a w->wpAnyH P md ops Q S' fuel listed a w
 |0,_,_,_,hh=>hh
 |fuel+1,_,_,_,hh=>⟨hh.1,fun i hi=>wpOp_mono (fun a' w' hk=>⟨h _ hk.1,qo h fuel _ a' w' hk.2⟩) (hh.2 i hi)⟩
def dD(Q:Exit->Act->World->Prop):Exit->Act->World->Prop
 | .normal,a,w=>Q .normal a w
 |_,_,_=>False
def mJ(P:Program)(ops:Array Oper)(Q:Exit->Act->World->Prop)(fuel:Nat)(listed:Array Bool)(a:Act)(w:World):Prop:=
 ∀S:World->Prop,(∀e:bf w,S e.to)->∀e:bf w,wpAnyH P .any ops (dD Q) S fuel listed a e.to
theorem IU{id:Nat}{Q:Exit->Act->World->Prop}{a:Act}{w:World}(e0:bf w){l:List Oper}(hm:P.follows .mixedOrders=true)(n:Nat)(hn:(l.length==n)=true)
  (h:mJ P l.toArray Q n (List.replicate n false).toArray a w):(Code.region id l.toArray true).wp P Q a e0.to:=by
 refine wp_region_any hm ?_;have h1:=h (fun _=>True) (fun _=>trivial) ⟨e0.to.drew,e0.h.drew⟩;rw[beq_iff_eq]at hn;have:l.toArray.size=n:=by simpa using hn
 rw[this];have hr:Array.replicate n false=(List.replicate n false).toArray:=by simp
 rw[hr];exact mI (fun e a w hq=>by cases e<;>first|exact hq|exact hq.elim) _ _ _ _ (wpAny_of_held _ _ _ _ h1)
theorem Ny{Q:Exit->Act->World->Prop}{l:List Oper}{fuel:Nat}{listed:Array Bool}{a:Act}{w:World}(i:Nat){o:Oper}(hi:l[i]? =some o)
  (hc:(ET o.op&&Region.noSelect l.toArray&&Region.free .any l.toArray listed i&&(Region.ready .any l.toArray listed).contains i)=true)
  (h:wpQuiet P l.toArray (fun w'=>∃e:bf w,w'=e.to) (fun a'=>mJ P l.toArray Q fuel (listed.setIfInBounds i true) a' w) [o] a):mJ P l.toArray Q (fuel+1) listed a w:=by
 simp only[qD]at hc;obtain⟨⟨⟨hv,hs⟩,hf⟩,hr⟩:=hc;have hio:l.toArray[i]? =some o:=by simpa using hi
 intro S hS e
 have key:∃v,YieldsIf P l.toArray (fun w'=>∃e:bf w,w'=e.to) o v a/\mJ P l.toArray Q fuel (listed.setIfInBounds i true) (a.put o.dst v) w:=by
  unfold wpQuiet at h;split at h
  .rename_i hw;obtain⟨v,h1,h2⟩:=h;exact⟨v,.inl ⟨hw,fun w' hw'=>nQ hv (h1 w' hw')⟩,h2⟩
  .rename_i hw;exact⟨undef,.inr ⟨by simpa using hw,rfl⟩,h⟩
 obtain⟨v,hy,hg⟩:=key;refine qo (S:=fun w'=>∃e:bf w,w'=e.to) (fun w' ⟨e',he⟩=>he▸hS e') _ _ _ _ ?_;exact wpAnyH_take hio hs hf hr (fun _ _ _ h=>h) hy ⟨e,rfl⟩ (hg _ (fun e'=>⟨e',rfl⟩) e)
theorem Nw{Q:Exit->Act->World->Prop}{l:List Oper}{fuel:Nat}{listed:Array Bool}{a:Act}{w:World}(i:Nat){o:Oper}(hi:l[i]? =some o)
  (hc:(Region.ready .any l.toArray listed==[i])=true)
  (h:∀e:bf w,wpList P l.toArray (dD fun _ a' w'=>Ext e.to w'/\mJ P l.toArray Q fuel (listed.setIfInBounds i true) a' w') [o] a e.to):mJ P l.toArray Q (fuel+1) listed a w:=by
 rw[beq_iff_eq]at hc;have hio:l.toArray[i]? =some o:=by simpa using hi
 intro S hS e;refine wpAnyH_all hc (by simp) (fun j hj=> ?_);obtain rfl:j=i:=by simpa using hj
 have h1:=h e
 have fin:∀a' w',(Ext e.to w'/\mJ P l.toArray Q fuel (listed.setIfInBounds j true) a' w')->S w'/\wpAnyH P .any l.toArray (dD Q) S fuel (listed.setIfInBounds j true) a' w':=fun a' w' ⟨hx,hg⟩=>
  ⟨hS ⟨w',Ext.trans e.h hx⟩,hg S (fun e'=>hS ⟨e'.to,Ext.trans (Ext.trans e.h hx) e'.h⟩) ⟨w',Below.refl _ _⟩⟩
 unfold wpOp;simp only[hio];unfold wpList at h1;split
 .rename_i hw;simp only[hw,if_true]at h1;rcases h1 with h1|⟨_,⟨_,_,hb⟩⟩
  .exact .inl (Oper.wE (fun x _ _ hn hx=>by cases x<;>first|exact hx.elim|exact absurd rfl hn) (Oper.wp_mono (fun a' w' hk=>fin a' w' hk) h1))
  .exact hb.elim
 .rename_i hw;simp only[hw]at h1;exact fin _ _ h1
theorem Nv{Q:Exit->Act->World->Prop}{l:List Oper}{fuel:Nat}{listed:Array Bool}{a:Act}{w:World}(hr:(Region.ready .any l.toArray listed==[])=true)
  (h:∀e:bf w,Q .normal a e.to):mJ P l.toArray Q fuel listed a w:=fun _ _ e=>
 wpAnyH_done (by simpa using hr) (show dD Q .normal a e.to from h e) fuel
end
end Go.Tr
namespace Go.Tr
open Go Go.RowKit
section
variable {P:Program}{ops:Array Oper}{md:Region.Mode}
def EL(tail:List Nat)(L:Array Bool):Bool:=tail.any fun t=>L.getD t false
def jy(P:Program)(md:Region.Mode)(ops:Array Oper)(Q:Exit->Act->World->Prop)(tail:List Nat)(S2 S:World->Prop):Nat->Array Bool->Act->World->Prop
 |0,listed,a,w=>Region.ready md ops listed=[]/\Q .normal a w
 |fuel+1,listed,a,w=>
  (Region.ready md ops listed=[]->Q .normal a w)/\
  ∀i∈Region.ready md ops listed,wpOp P ops Q i (fun a' w'=>(S2 w'/\(EL tail (listed.setIfInBounds i true)=false->S w'))/\jy P md ops Q tail S2 S fuel (listed.setIfInBounds i true) a' w') a w
theorem wD{Q:Exit->Act->World->Prop}{tail:aG}{S2 S:World->Prop}:∀(fuel:Nat) (listed:Array Bool) (a:Act) (w:World),jy P md ops Q tail S2 S fuel listed a w->wpAny P md ops Q fuel listed a w
 |0,_,_,_,h=>h
 |fuel+1,_,_,_,h=>⟨h.1,fun i hi=>wpOp_mono (fun a' w' h'=>wD fuel _ a' w' h'.2) (h.2 i hi)⟩
theorem mH{Q:Exit->Act->World->Prop}{tail:aG}{S2 S2' S S':World->Prop}(h2:∀w,S2 w->S2' w)(h:∀w,S w->S' w):∀(fuel:Nat) (listed:Array Bool) (a:Act) (w:World),jy P md ops Q tail S2 S fuel listed a w->jy P md ops Q tail S2' S' fuel listed a w
 |0,_,_,_,hh=>hh
 |fuel+1,_,_,_,hh=>⟨hh.1,fun i hi=>wpOp_mono (fun a' w' hk=>⟨⟨h2 _ hk.1.1,fun hp=>h _ (hk.1.2 hp)⟩,mH h2 h fuel _ a' w' hk.2⟩) (hh.2 i hi)⟩
def Closed(md:Region.Mode)(ops:Array Oper)(L:Array Bool):Prop:=∀x o,ops[x]? =some o->L.getD x false=true->∀e∈o.after,Region.binds md e=true->L.getD e.on false=true
def yF(md:Region.Mode)(ops:Array Oper)(L:Array Bool):Bool:=(List.range ops.size).all fun x=> !L.getD x false||(ops[x]?.all fun o=>o.after.all fun e=> !Region.binds md e||L.getD e.on false)
theorem oU{L:Array Bool}(h:yF md ops L=true):Closed md ops L:=fun x o ho hx e he hb=>by
 unfold yF at h;rw[List.all_eq_true]at h;have hxs:x<ops.size:=(Array.getElem?_eq_some_iff.1 ho).1;have h1:=h x (by simpa using hxs);rw[hx,ho]at h1;simp only[Bool.not_true,Bool.false_or,Option.all_some,Array.all_eq_true_iff_forall_mem]at h1;have h2:=h1 e he;rw[hb]at h2;simpa using h2
theorem Closed.set{L:Array Bool}{j:Nat}(h:Closed md ops L)(hj:j∈Region.ready md ops L):Closed md ops (L.setIfInBounds j true):=fun x o ho hx e he hb=>by
 have key:L.getD e.on false=true:=by
  by_cases hxj:x=j
  .subst hxj;obtain⟨_,o',ho',hall⟩:=mem_ready.1 hj;rw[ho]at ho';injection ho' with ho'
   subst ho';exact hall e he hb
  .refine h x o ho ?_ e he hb
   rwa[getD_set_ne false (fun e=>hxj e.symm)]at hx
 by_cases hej:e.on=j
 .rw[hej]at key |-;rcases Nat.lt_or_ge j L.size with h'|h'
  .simp[h']
  .simp[Array.getElem?_eq_none h']at key
 .rw[getD_set_ne false (fun e'=>hej e'.symm)];exact key
def jH(md:Region.Mode)(ops:Array Oper)(i:Nat):Nat->Nat->Bool
 |0,_=>false
 |f+1,x=>(ops[x]?.any fun o=>o.after.any fun e=>Region.binds md e&&(e.on==i||jH md ops i f e.on))
theorem nW{i:Nat}{L:Array Bool}(hc:Closed md ops L):∀(f x:Nat) (o:Oper),ops[x]? =some o->jH md ops i f x=true->(∀e∈o.after,Region.binds md e=true->L.getD e.on false=true)->L.getD i false=true
 |0,x,o,ho,h,_=>by simp[jH]at h
 |f+1,x,o,ho,h,hall=>by
  rw[jH,ho,Option.any_some,Array.any_eq_true']at h;obtain⟨e,he,h1⟩:=h;rw[qD,Bool.or_eq_true,beq_iff_eq]at h1;have h2:=hall e he h1.1;rcases h1.2 with h3|h3
  .rw[<-h3];exact h2
  .have hex:∃o',ops[e.on]? =some o':=by
    cases f with
    |zero=>simp[jH]at h3
    |succ f=>
     rw[jH]at h3;cases hq:ops[e.on]? with
     |none=>rw[hq]at h3;simp at h3
     |some o'=>exact⟨o',rfl⟩
   obtain⟨o',ho'⟩:=hex;exact nW hc f e.on o' ho' h3 (hc e.on o' ho' h2)
theorem kJ{listed:Array Bool}{i:Nat}(h:listed.getD i true=false):listed.getD i false=false:=by
 rcases Nat.lt_or_ge i listed.size with h'|h'
 .simpa[h']using h
 .simp[Array.getElem?_eq_none h']
theorem sN{L:Array Bool}{i t:Nat}(h:(L.setIfInBounds i true).getD t false=true)(ht:t≠i):L.getD t false=true:=by
 rwa[getD_set_ne false (fun e=>ht e.symm)]at h
theorem zu{tail:aG}{L:Array Bool}{i:Nat}(hi:tail.contains i=false):EL tail (L.setIfInBounds i true)=EL tail L:=by
 unfold EL
 induction tail with
 |nil=>rfl
 |cons t tl ih=>
  simp only[List.contains_cons,Bool.or_eq_false_iff,beq_eq_false_iff_ne]at hi;simp only[List.any_cons];rw[ih hi.2,getD_set_ne false hi.1]
theorem qp{Q:Exit->Act->World->Prop}{tail:aG}{S2 S T:World->Prop}{i:Nat}{oi:Oper}{v:Value}{f:Nat}(hi:ops[i]? =some oi)(hsel:∀(j:Nat) (o:Oper) cs b,ops[j]? =some o->o.op≠.select cs b)
  (hQ:∀c a w,Q (.panic c) (a.put oi.dst v) w->Q (.panic c) a w) (hit:tail.contains i=false)
  (hT:(∀w,S2 w->T w)\/((∀w,S w->T w)/\∀t∈tail,jH md ops i f t=true)):
  ∀(fuel:Nat) (listed:Array Bool) (a:Act) (w:World),Closed md ops listed->
   (∀j oj,ops[j]? =some oj->j≠i->listed.getD j true=false->(∀e∈oj.after,Region.binds md e=true->e.on≠i)->oi.apart ops oj=true)->
   i∈Region.ready md ops listed->YieldsIf P ops T oi v a->T w->S2 w->(EL tail listed=false->S w)->
   jy P md ops Q tail S2 S fuel (listed.setIfInBounds i true) (a.put oi.dst v) w->jy P md ops Q tail S2 S (fuel+1) listed a w:=by
 intro fuel
 induction fuel with
 |zero=>
  intro listed a w hcl _ hr hy hTw hS2 hSw H;refine⟨fun h=>(by rw[h]at hr;cases hr),fun j hj=> ?_⟩
  by_cases hji:j=i
  .subst hji;exact hy.wpOp hi hTw ⟨⟨hS2,fun hp=>hSw (by rwa[zu hit]at hp)⟩,H⟩
  .have:=ready_mono hj hji;rw[H.1]at this;cases this
 |succ fuel ih=>
  intro listed a w hcl hfree hr hy hTw hS2 hSw H;refine⟨fun h=>(by rw[h]at hr;cases hr),fun j hj=> ?_⟩
  by_cases hji:j=i
  .subst hji;exact hy.wpOp hi hTw ⟨⟨hS2,fun hp=>hSw (by rwa[zu hit]at hp)⟩,H⟩
  .have h1:=H.2 j (ready_mono hj hji);obtain⟨hjun,oj,hoj,hall⟩:=mem_ready.1 hj;have hiun:listed.getD i false=false:=kJ (mem_ready.1 hr).1
   have hnot:∀e∈oj.after,Region.binds md e=true->e.on≠i:=fun e he hb heq=>by
    have h1:=hall e he hb;rw[heq,hiun]at h1;cases h1
   have hph:(∀t∈tail,jH md ops i f t=true)->EL tail (listed.setIfInBounds j true)=false:=fun hm=>by
    unfold EL;rw[List.any_eq_false];intro t ht hlt;have hmt:=hm t ht
    have:∃ot,ops[t]? =some ot:=by
     cases f with
     |zero=>simp[jH]at hmt
     |succ f=>
      rw[jH]at hmt;cases hq:ops[t]? with
      |none=>rw[hq]at hmt;simp at hmt
      |some o'=>exact⟨o',rfl⟩
    obtain⟨ot,hot⟩:=this
    have hti:listed.getD i false=true:=by
     by_cases htj:t=j
     .subst htj;rw[hoj]at hot;injection hot with hot
      subst hot;exact nW hcl f t oj hoj hmt hall
     .rw[getD_set_ne false (fun e=>htj e.symm)]at hlt;exact nW hcl f t ot hot hmt (hcl t ot hot hlt)
    rw[hiun]at hti;cases hti
   have h2:=wpOp_putIf hoj (hfree j oj hoj hji hjun hnot) (fun cs b=>hsel i oi cs b hi) (fun cs b=>hsel j oj cs b hoj) hQ hy h1
   have hfree':∀k ok,ops[k]? =some ok->k≠i->(listed.setIfInBounds j true).getD k true=false->
     (∀e∈ok.after,Region.binds md e=true->e.on≠i)->oi.apart ops ok=true:=fun k ok hk hki hun hno=>by
    refine hfree k ok hk hki ?_ hno
    by_cases hjk:j=k
    .subst hjk;exact hjun
    .rw[getD_set_ne true hjk]at hun;exact hun
   refine wpOp_mono (fun a' w' h3=> ?_) h2;obtain⟨h3y,⟨h3t,h3s⟩,h3w⟩:=h3;rw[Array.setIfInBounds_comm _ _ (fun e=>hji e.symm)]at h3s h3w;rw[zu hit]at h3s;exact⟨⟨h3t,h3s⟩,ih (listed.setIfInBounds j true) a' w' (hcl.set hj) hfree' (ready_mono hr (Ne.symm hji)) h3y (hT.elim (fun h=>h w' h3t) fun h=>h.1 w' (h3s (hph h.2))) h3t h3s h3w⟩
theorem oD{Q:Exit->Act->World->Prop}{tail:aG}{S2 S:World->Prop}{i:Nat}{fuel:Nat}{listed:Array Bool}{a:Act}{w:World}(hr:Region.ready md ops listed=[i])
  (h:wpOp P ops Q i (fun a' w'=>(S2 w'/\(EL tail (listed.setIfInBounds i true)=false->S w'))/\jy P md ops Q tail S2 S fuel (listed.setIfInBounds i true) a' w') a w):jy P md ops Q tail S2 S (fuel+1) listed a w:=
 ⟨fun h0=>by rw[hr]at h0;simp at h0,fun j hj=>by(rw[hr]at hj;obtain rfl:j=i:=by simpa using hj);exact h⟩
theorem tH{Q:Exit->Act->World->Prop}{tail:aG}{S2 S:World->Prop}{listed:Array Bool}{a:Act}{w:World}(hr:Region.ready md ops listed=[])(h:Q .normal a w):∀fuel,jy P md ops Q tail S2 S fuel listed a w
 |0=>⟨hr,h⟩
 |_+1=>⟨fun _=>h,by rw[hr];simp⟩
theorem oF{l:List Oper}{Q:Exit->Act->World->Prop}{i:Nat}{o:Oper}{a:Act}{w:World}{K:Act->World->Prop}(hio:l.toArray[i]? =some o)
  (h:wpList P l.toArray (dD fun _ a' w'=>K a' w') [o] a w):wpOp P l.toArray Q i K a w:=by
 unfold wpOp;simp only[hio];unfold wpList at h;split
 .rename_i hw;simp only[hw,if_true]at h;rcases h with h1|⟨_,⟨_,_,hb⟩⟩
  .exact .inl (Oper.wE (fun x _ _ hn hx=>by cases x<;>first|exact hx.elim|exact absurd rfl hn) (Oper.wp_mono (fun a' w' hk=>hk) h1))
  .exact hb.elim
 .rename_i hw;simp only[hw]at h;exact h
structure Wk(N:Nat)(pv:List Nat)(w w':World):Prop where
 size:w.heap.size<=w'.heap.size
 block:∀b,b<N->b∉pv->w'.heap[b]? =w.heap[b]?
theorem Wk.refl(N:Nat)(pv:aG)(w:World):Wk N pv w w:=⟨Nat.le_refl _,fun _ _ _=>rfl⟩
theorem Wk.trans{N:Nat}{pv:aG}{a b c:World}(h:Wk N pv a b)(k:Wk N pv b c):Wk N pv a c:=⟨Nat.le_trans h.size k.size,fun i hi hn=>(k.block i hi hn).trans (h.block i hi hn)⟩
theorem Wk.of{N:Nat}{pv:aG}{w w':World}(h:Below N w w'):Wk N pv w w':=⟨h.size,fun b hb _=>h.block b hb⟩
structure CB(N:Nat)(w:World) where
 to:World
 h:Below N w to
structure Fh(N:Nat)(pv:List Nat)(w:World) where
 to:World
 h:Wk N pv w to
instance (N:Nat)(w:World):Inhabited (CB N w):=⟨⟨w,Below.refl _ _⟩⟩
instance (N:Nat)(pv:List Nat)(w:World):Inhabited (Fh N pv w):=⟨⟨w,Wk.refl _ _ _⟩⟩
abbrev Qj(N:Nat)(w:World)(b o:Nat)(v:Value):Prop:=∀e:CB N w,e.to.cell? ⟨b,o,none⟩=some v
abbrev Qk(N:Nat)(pv:List Nat)(w:World)(b o:Nat)(v:Value):Prop:=∀e:Fh N pv w,e.to.cell? ⟨b,o,none⟩=some v
theorem Kn.b{N:Nat}{w:World}{b o:Nat}{v:Value}(h:Kn w b o v)(hb:b<N):Qj N w b o v:=fun e=>(World.cell?_of_block (e.h.block b hb)).trans (h ⟨w,Below.refl _ _⟩)
theorem Kn.w{N:Nat}{pv:aG}{w:World}{b o:Nat}{v:Value}(h:Kn w b o v)(hb:b<N)(hn:b∉pv):Qk N pv w b o v:=fun e=>(World.cell?_of_block (e.h.block b hb hn)).trans (h ⟨w,Below.refl _ _⟩)
theorem Qj.go{N:Nat}{w w':World}{b o:Nat}{v:Value}(h:Qj N w b o v)(hx:Below N w w'):Qj N w' b o v:=fun e=>h ⟨e.to,hx.trans e.h⟩
theorem Qk.go{N:Nat}{pv:aG}{w w':World}{b o:Nat}{v:Value}(h:Qk N pv w b o v)(hx:Wk N pv w w'):Qk N pv w' b o v:=fun e=>h ⟨e.to,hx.trans e.h⟩
def oG(P:Program)(ops:Array Oper)(Q:Exit->Act->World->Prop)(tail:List Nat)(N:Nat)(pv:List Nat)(fuel:Nat)(listed:Array Bool)(a:Act)(w:World):Prop:=
 ∀S2 S:World->Prop,(∀w',Wk N pv w w'->S2 w')->(∀w',Below N w w'->S w')->jy P .any ops (dD Q) tail S2 S fuel listed a w
def wZ(P:Program)(ops:Array Oper)(Q:Exit->Act->World->Prop)(tail:List Nat)(N:Nat)(pv:List Nat)(fuel:Nat)(listed:Array Bool)(a:Act)(w:World):Prop:=
 ∀S2 S:World->Prop,(∀w',Wk N pv w w'->S2 w')->jy P .any ops (dD Q) tail S2 S fuel listed a w
theorem IV{id:Nat}{Q:Exit->Act->World->Prop}{a:Act}{w:World}(e0:bf w){l:List Oper}(tail:aG)(N:Nat)(pv:aG)(hm:P.follows .mixedOrders=true)(n:Nat)(hn:(l.length==n)=true)
  (h:∀w1,Ext w w1->oG P l.toArray Q tail N pv n (List.replicate n false).toArray a w1):(Code.region id l.toArray true).wp P Q a e0.to:=by
 refine wp_region_any hm ?_;have h1:=h e0.to.drew e0.h.drew (fun _=>True) (fun _=>True) (fun _ _=>trivial) (fun _ _=>trivial);rw[beq_iff_eq]at hn;have:l.toArray.size=n:=by simpa using hn
 rw[this];have hr:Array.replicate n false=(List.replicate n false).toArray:=by simp
 rw[hr];exact mI (fun e a w hq=>by cases e<;>first|exact hq|exact hq.elim) _ _ _ _ (wD _ _ _ _ h1)
theorem u7{Q:Act->Prop}{l:List Oper}{C:World->Prop}{o:Oper}{a:Act}(hv:ET o.op=true)(h:wpQuiet P l.toArray C Q [o] a):∃v,YieldsIf P l.toArray C o v a/\Q (a.put o.dst v):=by
 unfold wpQuiet at h;split at h
 .rename_i hw;obtain⟨v,h1,h2⟩:=h;exact⟨v,.inl ⟨hw,fun w' hw'=>nQ hv (h1 w' hw')⟩,h2⟩
 .rename_i hw;exact⟨undef,.inr ⟨by simpa using hw,rfl⟩,h⟩
def kX(l:List Oper)(listed:Array Bool)(tail:List Nat)(i:Nat)(o:Oper):Bool:=
 ET o.op&&Region.noSelect l.toArray&&Region.free .any l.toArray listed i&&(Region.ready .any l.toArray listed).contains i&& !tail.contains i&&yF .any l.toArray listed
def Cls(N:Nat)(pv:List Nat)(w:World):Nat->World->Prop
 |0=>fun w'=>∃e:World,w'=e
 |1=>fun w'=>∃e:Fh N pv w,w'=e.to
 |_=>fun w'=>∃e:CB N w,w'=e.to
theorem Cls.self(N:Nat)(pv:aG)(w:World)(k:Nat):Cls N pv w k w:=by
 match k with
 |0=>exact⟨w,rfl⟩
 |1=>exact⟨⟨w,Wk.refl _ _ _⟩,rfl⟩
 |k+2=>exact⟨⟨w,Below.refl _ _⟩,rfl⟩
theorem Cls.go{N:Nat}{pv:aG}{w w1:World}(h:Below N w w1)(k:Nat)(w':World)(hc:Cls N pv w1 k w'):Cls N pv w k w':=by
 match k with
 |0=>exact hc
 |1=>obtain⟨e,rfl⟩:=hc;exact⟨⟨e.to,(Wk.of h).trans e.h⟩,rfl⟩
 |k+2=>obtain⟨e,rfl⟩:=hc;exact⟨⟨e.to,h.trans e.h⟩,rfl⟩
theorem Co{Q:Exit->Act->World->Prop}{l:List Oper}{tail:aG}{N:Nat}{pv:aG}{fuel:Nat}{listed:Array Bool}{a:Act}{w:World}(k i:Nat){o:Oper}(hi:l[i]? =some o){v:Value}
  (hc:(kX l listed tail i o&&(k<2||tail.all fun t=>jH .any l.toArray i l.length t))=true)
  (hy:YieldsIf P l.toArray (Cls N pv w k) o v a) (hg:oG P l.toArray Q tail N pv fuel (listed.setIfInBounds i true) (a.put o.dst v) w):oG P l.toArray Q tail N pv (fuel+1) listed a w:=by
 unfold kX at hc;simp only[qD,Bool.not_eq_true',Bool.or_eq_true,qQ]at hc;obtain⟨⟨⟨⟨⟨⟨hv,hs⟩,hf⟩,hr⟩,hit⟩,hcl⟩,hm⟩:=hc;have hio:l.toArray[i]? =some o:=by simpa using hi
 intro S2 S hS2 hS;refine mH (S2:=Wk N pv w) (S:=Below N w) hS2 hS _ _ _ _ ?_;refine qp (T:=Cls N pv w k) (f:=l.length) hio (Region.noSelect_spec hs) (fun _ _ _ h=>h) hit ?_ fuel listed a w (oU hcl) (Region.free_spec hio hf) (by simpa using hr) hy (Cls.self _ _ _ _) (Wk.refl _ _ _) (fun _=>Below.refl _ _) (hg _ _ (fun _ h=>h) (fun _ h=>h))
 match k,hm with
 |0,_=>exact .inl fun w _=>⟨w,rfl⟩
 |1,_=>exact .inl fun w h=>⟨⟨w,h⟩,rfl⟩
 |k+2,hm=>
  refine .inr ⟨fun w h=>⟨⟨w,h⟩,rfl⟩,fun t ht=> ?_⟩;rcases hm with hm|hm
  .omega
  .rw[List.all_eq_true]at hm;exact hm t ht
theorem Q9{Q:Exit->Act->World->Prop}{l:List Oper}{tail:aG}{N:Nat}{pv:aG}{fuel:Nat}{listed:Array Bool}{a:Act}{w:World}(i:Nat){o:Oper}(hi:l[i]? =some o)
  (hc:(ET o.op&&(kX l listed tail i o&&(decide (2<2)||tail.all fun t=>jH .any l.toArray i l.length t)))=true)
  (h:wpQuiet P l.toArray (fun w'=>∃e:CB N w,w'=e.to) (fun a'=>oG P l.toArray Q tail N pv fuel (listed.setIfInBounds i true) a' w) [o] a):oG P l.toArray Q tail N pv (fuel+1) listed a w:=by
 rw[qD]at hc;obtain⟨v,hy,hg⟩:=u7 hc.1 h;exact Co 2 i hi hc.2 hy hg
theorem Ra{Q:Exit->Act->World->Prop}{l:List Oper}{tail:aG}{N:Nat}{pv:aG}{fuel:Nat}{listed:Array Bool}{a:Act}{w:World}(i:Nat){o:Oper}(hi:l[i]? =some o)
  (hc:(ET o.op&&(kX l listed tail i o&&(decide (1<2)||tail.all fun t=>jH .any l.toArray i l.length t)))=true)
  (h:wpQuiet P l.toArray (fun w'=>∃e:Fh N pv w,w'=e.to) (fun a'=>oG P l.toArray Q tail N pv fuel (listed.setIfInBounds i true) a' w) [o] a):oG P l.toArray Q tail N pv (fuel+1) listed a w:=by
 rw[qD]at hc;obtain⟨v,hy,hg⟩:=u7 hc.1 h;exact Co 1 i hi hc.2 hy hg
theorem Q8{Q:Exit->Act->World->Prop}{l:List Oper}{tail:aG}{N:Nat}{pv:aG}{fuel:Nat}{listed:Array Bool}{a:Act}{w:World}(i:Nat){o:Oper}(hi:l[i]? =some o)
  (hc:(ET o.op&&(kX l listed tail i o&&(decide (0<2)||tail.all fun t=>jH .any l.toArray i l.length t)))=true)
  (h:wpQuiet P l.toArray (fun w'=>∃e:World,w'=e) (fun a'=>oG P l.toArray Q tail N pv fuel (listed.setIfInBounds i true) a' w) [o] a):oG P l.toArray Q tail N pv (fuel+1) listed a w:=by
 rw[qD]at hc;obtain⟨v,hy,hg⟩:=u7 hc.1 h;exact Co 0 i hi hc.2 hy hg
theorem Il{Q:Exit->Act->World->Prop}{l:List Oper}{tail:aG}{N:Nat}{pv:aG}{fuel:Nat}{listed:Array Bool}{a:Act}{w:World}(k i:Nat){o:Oper}(hi:l[i]? =some o){v:Value}
  (hc:(kX l listed tail i o&&EL tail listed&&decide (k<2))=true)
  (hy:YieldsIf P l.toArray (Cls N pv w k) o v a) (hg:wZ P l.toArray Q tail N pv fuel (listed.setIfInBounds i true) (a.put o.dst v) w):wZ P l.toArray Q tail N pv (fuel+1) listed a w:=by
 unfold kX at hc;simp only[qD,Bool.not_eq_true',qQ]at hc;obtain⟨⟨⟨⟨⟨⟨⟨hv,hs⟩,hf⟩,hr⟩,hit⟩,hcl⟩,hp⟩,hk⟩:=hc;have hio:l.toArray[i]? =some o:=by simpa using hi
 intro S2 S hS2;refine mH (S2:=Wk N pv w) (S:=S) hS2 (fun _ h=>h) _ _ _ _ ?_;refine qp (T:=Cls N pv w k) (f:=0) hio (Region.noSelect_spec hs) (fun _ _ _ h=>h) hit ?_ fuel listed a w (oU hcl) (Region.free_spec hio hf) (by simpa using hr) hy (Cls.self _ _ _ _) (Wk.refl _ _ _) (fun h0=>by rw[hp]at h0;cases h0) (hg _ _ (fun _ h=>h))
 match k,hk with
 |0,_=>exact .inl fun w _=>⟨w,rfl⟩
 |1,_=>exact .inl fun w h=>⟨⟨w,h⟩,rfl⟩
theorem Rh{Q:Exit->Act->World->Prop}{l:List Oper}{tail:aG}{N:Nat}{pv:aG}{fuel:Nat}{listed:Array Bool}{a:Act}{w:World}(i:Nat){o:Oper}(hi:l[i]? =some o)
  (hc:(ET o.op&&(kX l listed tail i o&&EL tail listed&&decide (0<2)))=true)
  (h:wpQuiet P l.toArray (fun w'=>∃e:World,w'=e) (fun a'=>wZ P l.toArray Q tail N pv fuel (listed.setIfInBounds i true) a' w) [o] a):wZ P l.toArray Q tail N pv (fuel+1) listed a w:=by
 rw[qD]at hc;obtain⟨v,hy,hg⟩:=u7 hc.1 h;exact Il 0 i hi hc.2 hy hg
theorem Ri{Q:Exit->Act->World->Prop}{l:List Oper}{tail:aG}{N:Nat}{pv:aG}{fuel:Nat}{listed:Array Bool}{a:Act}{w:World}(i:Nat){o:Oper}(hi:l[i]? =some o)
  (hc:(ET o.op&&(kX l listed tail i o&&EL tail listed&&decide (1<2)))=true)
  (h:wpQuiet P l.toArray (fun w'=>∃e:Fh N pv w,w'=e.to) (fun a'=>wZ P l.toArray Q tail N pv fuel (listed.setIfInBounds i true) a' w) [o] a):wZ P l.toArray Q tail N pv (fuel+1) listed a w:=by
 rw[qD]at hc;obtain⟨v,hy,hg⟩:=u7 hc.1 h;exact Il 1 i hi hc.2 hy hg
theorem Q7{Q:Exit->Act->World->Prop}{l:List Oper}{tail:aG}{N:Nat}{pv:aG}{fuel:Nat}{listed:Array Bool}{a:Act}{w:World}(i:Nat){o:Oper}(hi:l[i]? =some o)
  (hc:(Region.ready .any l.toArray listed==[i])=true)
  (h:∀e:bf w,e.to=w->wpList P l.toArray (dD fun _ a' w'=>Below N e.to w'/\oG P l.toArray Q tail N pv fuel (listed.setIfInBounds i true) a' w') [o] a e.to):oG P l.toArray Q tail N pv (fuel+1) listed a w:=by
 rw[beq_iff_eq]at hc;have hio:l.toArray[i]? =some o:=by simpa using hi
 intro S2 S hS2 hS;refine oD hc (wpOp_mono (fun a' w' hk=> ?_) (oF hio (h ⟨w,Below.refl _ _⟩ rfl)));obtain⟨hx,hg⟩:=hk;exact⟨⟨hS2 _ (Wk.of hx),fun _=>hS _ hx⟩,hg S2 S (fun w2 h2=>hS2 _ ((Wk.of hx).trans h2)) (fun w2 h2=>hS _ (hx.trans h2))⟩
theorem P9{Q:Exit->Act->World->Prop}{l:List Oper}{tail:aG}{N:Nat}{pv:aG}{fuel:Nat}{listed:Array Bool}{a:Act}{w:World}(i:Nat){o:Oper}(hi:l[i]? =some o)
  (hc:(Region.ready .any l.toArray listed==[i]&&EL tail (listed.setIfInBounds i true))=true)
  (h:∀e:bf w,e.to=w->wpList P l.toArray (dD fun _ a' w'=>Wk N pv e.to w'/\wZ P l.toArray Q tail N pv fuel (listed.setIfInBounds i true) a' w') [o] a e.to):oG P l.toArray Q tail N pv (fuel+1) listed a w:=by
 rw[qD,beq_iff_eq]at hc;have hio:l.toArray[i]? =some o:=by simpa using hi
 intro S2 S hS2 hS;refine oD hc.1 (wpOp_mono (fun a' w' hk=> ?_) (oF hio (h ⟨w,Below.refl _ _⟩ rfl)));exact⟨⟨hS2 _ hk.1,fun h0=>(by rw[hc.2]at h0;cases h0)⟩,hk.2 S2 S (fun w2 h2=>hS2 _ (hk.1.trans h2))⟩
theorem Rf{Q:Exit->Act->World->Prop}{l:List Oper}{tail:aG}{N:Nat}{pv:aG}{fuel:Nat}{listed:Array Bool}{a:Act}{w:World}(i:Nat){o:Oper}(hi:l[i]? =some o)
  (hc:(Region.ready .any l.toArray listed==[i]&&EL tail (listed.setIfInBounds i true))=true)
  (h:wpList P l.toArray (dD fun _ a' w'=>Wk N pv w w'/\wZ P l.toArray Q tail N pv fuel (listed.setIfInBounds i true) a' w') [o] a w):wZ P l.toArray Q tail N pv (fuel+1) listed a w:=by
 rw[qD,beq_iff_eq]at hc;have hio:l.toArray[i]? =some o:=by simpa using hi
 intro S2 S hS2;refine oD hc.1 (wpOp_mono (fun a' w' hk=> ?_) (oF hio h));exact⟨⟨hS2 _ hk.1,fun h0=>(by rw[hc.2]at h0;cases h0)⟩,hk.2 S2 S (fun w2 h2=>hS2 _ (hk.1.trans h2))⟩
theorem Rb{Q:Exit->Act->World->Prop}{l:List Oper}{tail:aG}{N:Nat}{pv:aG}{fuel:Nat}{listed:Array Bool}{a:Act}{w:World}(hr:(Region.ready .any l.toArray listed==[])=true)
  (h:Q .normal a w):wZ P l.toArray Q tail N pv fuel listed a w:=fun _ _ _=>tH (by simpa using hr) (show dD Q .normal a w from h) fuel
theorem Q6{Q:Exit->Act->World->Prop}{l:List Oper}{tail:aG}{N:Nat}{pv:aG}{fuel:Nat}{listed:Array Bool}{a:Act}{w:World}(hr:(Region.ready .any l.toArray listed==[])=true)
  (h:∀e:bf w,e.to=w->Q .normal a e.to):oG P l.toArray Q tail N pv fuel listed a w:=fun _ _ _ _=>tH (by simpa using hr) (show dD Q .normal a w from h ⟨w,Below.refl _ _⟩ rfl) fuel
end
end Go.Tr
namespace Go.Tr
open Go Go.RowKit
theorem Pf{P:Program}{t e:TypeId}{s n:Nat}(h:(P.info? e).map (fun i=>(i.zero.isSome,i.size,decide (i.bytes<=100000000)))=some (true,s,true))(hu:P.underlying t=some (.slice e))(hn:n<=1048576):
  ∃M:Array Value,M.size=n*s/\(∀W:World,(Instr.makeSlice t (.int .i64 0) (.int .i64 n)).run P W=.ok (.slice (some ⟨W.heap.size,0,none⟩) 0 n) (W.alloc (.cells M e))):=by
 obtain⟨i0,z0,hi0,hz0,hz1,hz2⟩:=info_parts' h;refine⟨madeCells z0.cells (n*i0.size),by rw[size_madeCells,hz1],fun W=> ?_⟩;have:=run_make (P:=P) (w:=W) t e i0 z0 hu hi0 hz0 .i64 .i64 0 n (by omega) (by omega) (xq hz2 hn) (by omega);simpa using this
section
variable {P:Program}{w:World}
def TA(ds:List D)(lo:Nat)(e:Ending)(w':World):Prop:=∃vs q,e=.returned (.agg vs.toArray)/\TN w' ds q vs/\Own lo w' q
def Tz(n:Nat)(ds:List D)(lo:Nat)(e:Ending)(w':World):Prop:=∃B d q,e=.returned (.slice B n d)/\T1 w' (.sl n ds) q (.slice B n d)/\Own lo w' q
structure Fin(w:World)(R:Ending->World->Prop)(x:Ending)(w':World):Prop where
 ext:Ext w w'
 res:R x w'
theorem Nu{f:FuncId}{args:Array Value}{R:Ending->World->Prop}(h:∀e:bf w,Calls P f args e.to (Fin w R)):Calls P f args w fun x w'=>Ext w w'/\R x w':=
 (h ⟨w,Below.refl _ _⟩).mono fun _ _ h=>⟨h.ext,h.res⟩
structure Src(w:World)(s:Nat)(A:Option Addr)(m:Nat)(us:List Value):Prop where
 len:us.length=m*s
 at_:0<m->∃ad,A=some ad/\∀j u,us[j]? =some u->w.cell? (ad.add j)=some u
 one:us.all (·.oneCell')=true
theorem T1.src{m m' c s:Nat}{ds:List D}{bs:aG}{A:Option Addr}(h:T1 w (.sl m ds) bs (.slice A m' c))(hl:ds.length=m*s):∃us bs',Src w s A m us/\TN w ds bs' us/\∀b∈bs',b∈bs:=by
 unfold T1 at h;obtain⟨A',c',he,hn,hc,h⟩:=h;injection he with hA hn' hc'
 subst hA;rcases h with⟨rfl,rfl,rfl⟩|⟨h0,b,off,us,bs',rfl,rfl,hb,hca,ht⟩
 .exact⟨[],[],⟨by simp,by omega,rfl⟩,TN.done,by simp⟩
 .refine⟨us,bs',⟨by rw[ht.length,hl],fun _=>⟨_,rfl,fun j u hu=> ?_⟩,ht.wQ⟩,ht,fun b hb=>by simp[hb]⟩;have hadd:(⟨b,off,none⟩:Addr).add j=⟨b,off+j,none⟩:=by unfold Addr.add;split<;>simp_all
  rw[hadd];exact hca j u hu
theorem Src.ext{s m:Nat}{A:Option Addr}{us:aO}(h:Src w s A m us){w':World}(h1:∀a v,w.cell? a=some v->w'.cell? a=some v):Src w' s A m us:=
 ⟨h.len,fun h0=>by obtain⟨ad,h2,h3⟩:=h.at_ h0;exact⟨ad,h2,fun j u hu=>h1 _ _ (h3 j u hu)⟩,h.one⟩
theorem tq(base:Nat)(t ty e:TypeId)(i:TypeInfo)(s:Nat)(ht:P.underlying t=some (.slice e))(hi:P.info? e=some i)
  (v:Value) (n:Nat) (xs:List Value) (hown:w.ownsRow base e s v n xs) (c:Nat):(Builtin.append_ #[t,t] ty #[v,.slice none 0 c]).run P w=.ok v w:=by
 rcases hown.2 with⟨rfl,rfl⟩|⟨g,cap,cur,rfl,_,_,hnc,_⟩
 .simp[Builtin.append_,run_underlying ht,sizeOf,typeInfo,hi,Builtin.lenOf,Builtin.firstCells]
 .simp[Builtin.append_,run_underlying ht,sizeOf,typeInfo,hi,Builtin.lenOf,Builtin.firstCells,hnc,storeCells]
theorem grownBy_refl(w:World)(row:Option Nat):w.grownBy w row:=⟨rfl,rfl,rfl,Nat.le_refl _,fun _ _ _=>rfl⟩
theorem jJ{t ty e:TypeId}{s:Nat}(hE:fq P t e s)(base:Nat)(v:Value)(n:Nat)(xs:aO)(hown:w.ownsRow base e s v n xs)(A:Option Addr)(m c:Nat)(us:aO)(hs:Src w s A m us)
  (hb:n+m<=1073741824) (hbase:base<=w.heap.size):
  ∃v' w',(Builtin.append_ #[t,t] ty #[v,.slice A m c]).run P w=.ok v' w'/\w'.ownsRow base e s v' (n+m) (xs++us)/\w.grownBy w' v.ownBlock/\(v'.ownBlock=v.ownBlock\/v'.ownBlock=some w.heap.size)/\(v'=.slice none 0 0->us=[]):=by
 obtain⟨i,z,hi,hz,hsz,hzs,hby⟩:=hE.i;rcases Nat.eq_zero_or_pos m with h0|h0
 .subst h0;have hn:us=[]:=List.eq_nil_of_length_eq_zero (by simpa using hs.len);subst hn;rcases A with _|ad
  .exact⟨v,w,tq base t ty e i s hE.u hi v n xs hown c,by simpa using hown,grownBy_refl w _,.inl rfl,fun _=>rfl⟩
  .obtain⟨v',w',hrun,h2,h3,_,h5⟩:=run_append_own_at (P:=P) w base t ty e i z s i.bytes hE.u hi hz hsz rfl hzs hE.p v n xs hown ad 0 c [] (by simp) (by simp) (by simp) (by unfold maxLen;omega) (by
    have:=Nat.mul_le_mul hb hby;have h2:(1073741824:Nat)*1000<=140737488355328:=by omega
    exact Nat.le_trans this h2) hbase
   exact⟨v',w',hrun,h2,h3,h5,fun _=>rfl⟩
 .obtain⟨ad,rfl,hc⟩:=hs.at_ h0
  obtain⟨v',w',hrun,h2,h3,h4,h5⟩:=run_append_own_at (P:=P) w base t ty e i z s i.bytes hE.u hi hz hsz rfl hzs hE.p v n xs hown ad m c us hs.len hc (List.all_eq_true.1 hs.one) (by unfold maxLen;omega) (by
    have:=Nat.mul_le_mul hb hby;have h2:(1073741824:Nat)*1000<=140737488355328:=by omega
    exact Nat.le_trans this h2) hbase
  exact⟨v',w',hrun,h2,h3,h5,fun h=>by have:=(h4.1 h).2;omega⟩
theorem IL{ops:Array Oper}{rest:List Oper}{o:Oper}{a:Act}{Q:Exit->Act->World->Prop}(hgd:o.guard=none)(s x:Operand)(t:TypeId)
  (ho:o.op=.call { callee:=.builtin .append,args:= #[s,x],argTypes:= #[t,t]}) {e sz:Nat} (hE:fq P t e sz) (base:Nat) (v:Value) (n:Nat) (xs:List Value) (hs:a.eval s=v) (hown:w.ownsRow base e sz v n xs)
  (A:Option Addr) (m c:Nat) (us:List Value) (hx:a.eval x=.slice A m c) (hsrc:Src w sz A m us) (hb:n+m<=1073741824) (hbase:base<=w.heap.size)
  (h:∀v' w',w'.ownsRow base e sz v' (n+m) (xs++us)->w.grownBy w' v.ownBlock->(v'.ownBlock=v.ownBlock\/v'.ownBlock=some w.heap.size)->wpList P ops Q rest (a.put o.dst v') w'):wpList P ops Q (o::rest) a w:=
 wpList_plain hgd fun _ hK=>by
  obtain⟨v',w',hrun,h2,h3,h4,_⟩:=jJ (P:=P) (ty:=o.type) hE base v n xs hown A m c us hsrc hb hbase;unfold Oper.wp execOp;simp only[ho,resolve,invoke,builtin,Sem.run_bind,Sem.run_pure,Result.andThen_ok,List.map_toArray,List.map_cons,List.map_nil,hs,hx,hrun];exact hK _ _ (h v' w' h2 h3 h4)
theorem wT{t ty e:TypeId}{s:Nat}(hE:fq P t e s)(base g:Nat)(hg:w.heap[g]? =some (.cells #[] e (0,0)))(A:Option Addr)(m c:Nat)(us:aO)(hs:Src w s A m us)(hb:m<=1073741824)(hbase:base<=g):
  ∃v' w',(Builtin.append_ #[t,t] ty #[.slice (some ⟨g,0,none⟩) 0 0,.slice A m c]).run P w=.ok v' w'/\w'.ownsRow base e s v' m us/\Ext w w'/\(v'.ownBlock=some g\/v'.ownBlock=some w.heap.size):=by
 obtain⟨i,z,hi,hz,hsz,hzs,hby⟩:=hE.i;have hgl:=bL hg;have hown:w.ownsRow base e s (.slice (some ⟨g,0,none⟩) 0 0) 0 []:=⟨by simp,.inr ⟨g,0, #[],rfl,hbase,hg,Nat.le_refl _,Nat.zero_le _,by simp,by simp⟩⟩;obtain⟨v',w',hrun,h2,h3,h4,h5⟩:=jJ (P:=P) (ty:=ty) hE base _ 0 [] hown A m c us hs (by omega) (by omega);simp only[Nat.zero_add,List.nil_append]at h2;refine⟨v',w',hrun,h2,?_,h4⟩;rcases Nat.eq_zero_or_pos m with h0|h0
 .subst h0;have hn:us=[]:=List.eq_nil_of_length_eq_zero (by simpa using hs.len);subst hn;rcases A with _|ad
  .have:=tq (P:=P) base t ty e i s hE.u hi _ 0 [] hown c;rw[this]at hrun;injection hrun with _ hw
   subst hw;exact Below.refl _ _
  .have:=run_append_room (P:=P) w t ty e i hE.u hi g 0 0 #[] hg ad 0 c [] (by simp) (by simp) (by simp) (by omega) (by simp);rw[this]at hrun;injection hrun with _ hw
   subst hw;refine⟨rfl,rfl,rfl,by simp,fun k hk=> ?_⟩
   by_cases hkg:k=g
   .subst hkg;rw[setRow_heap w k #[] _ e _ hg,hg];simp
   .exact setRow_other w g k _ hkg
 .obtain⟨ad,rfl,hc⟩:=hs.at_ h0
  have hbb:(0+m)*i.bytes<=140737488355328:=by
   have:=Nat.mul_le_mul (show 0+m<=1073741824 by omega) hby;have h2:(1073741824:Nat)*1000<=140737488355328:=by omega
   exact Nat.le_trans this h2
  have:=run_append_grow (P:=P) w t ty e i z hE.u hi hz ⟨g,0,none⟩ 0 0 [] (by simp) (by simp) ad m c us (by rw[hs.len,hsz]) hc (by omega) (by omega) (growslice_fits (by omega) hbb);rw[this]at hrun;injection hrun with _ hw
  subst hw;exact⟨rfl,rfl,rfl,by simp,fun k hk=>Below.heap_alloc w.drew _ k hk⟩
theorem EZ{ops:Array Oper}{rest:List Oper}{o:Oper}{a:Act}{Q:Exit->Act->World->Prop}(hgd:o.guard=none)(s x:Operand)(t:TypeId)
  (ho:o.op=.call { callee:=.builtin .append,args:= #[s,x],argTypes:= #[t,t]}) {e sz:Nat} (hE:fq P t e sz) (base g:Nat) (hs:a.eval s=.slice (some ⟨g,0,none⟩) 0 0) (hg:w.heap[g]? =some (.cells #[] e (0,0)))
  (A:Option Addr) (m c:Nat) (us:List Value) (hx:a.eval x=.slice A m c) (hsrc:Src w sz A m us) (hb:m<=1073741824) (hbase:base<=g)
  (h:∀v' w',w'.ownsRow base e sz v' m us->Ext w w'->(v'.ownBlock=some g\/v'.ownBlock=some w.heap.size)->wpList P ops Q rest (a.put o.dst v') w'):wpList P ops Q (o::rest) a w:=
 wpList_plain hgd fun _ hK=>by
  obtain⟨v',w',hrun,h2,h3,h4⟩:=wT (P:=P) (ty:=o.type) hE base g hg A m c us hsrc hb hbase;unfold Oper.wp execOp;simp only[ho,resolve,invoke,builtin,Sem.run_bind,Sem.run_pure,Result.andThen_ok,List.map_toArray,List.map_cons,List.map_nil,hs,hx,hrun];exact hK _ _ (h v' w' h2 h3 h4)
theorem SY{Q:Exit->Act->World->Prop}{ops:Array Oper}{tail pv:aG}{N fuel:Nat}{listed:Array Bool}{a:Act}(hN:N<=w.heap.size)(e:bf w){g:Nat}(hg:e.to.heap.size=g){cs:Array Value}{t:TypeId}
  (h:∀w1,Ext w w1->w.heap.size<=g->g<w1.heap.size->w1.heap[g]? =some (.cells cs t (0,0))->oG P ops Q tail N pv fuel listed a w1):Below N e.to (e.to.alloc (.cells cs t))/\oG P ops Q tail N pv fuel listed a (e.to.alloc (.cells cs t)):=by
 subst hg;exact⟨(Below.refl _ _).alloc (Nat.le_trans hN e.h.size) _,h _ (e.h.alloc e.h.size _) e.h.size (by simp) (heap_alloc_new e.to _)⟩
structure GR(lo:Nat)(w:World)(t:TypeId)(s:Nat)(v:Value)(n:Nat)(ds:List D)(bs:List Nat)(us:List Value):Prop where
 row:w.ownsRow lo t s v n us
 tn:TN w ds bs us
 own:Own lo w bs
 out:∀k,v.ownBlock=some k->k∉bs
theorem GR.nil(lo:Nat)(w:World)(t:TypeId)(s:Nat):GR lo w t s (.slice none 0 0) 0 [] [] []:=⟨World.ownsRow_nil _ _ _ _,TN.done,Own.nil _ _,by simp⟩
theorem GR.made{lo:Nat}{w:World}{t:TypeId}{s cap:Nat}(cur:Array Value)(hb:lo<=w.heap.size)(hm:cap<=maxLen)(hs:cur.size=cap*s):GR lo (w.alloc (.cells cur t)) t s (.slice (some ⟨w.heap.size,0,none⟩) 0 cap) 0 [] [] []:=
 ⟨World.ownsRow_made _ _ _ hb hm hs,TN.done,Own.nil _ _,by simp⟩
theorem GR.zm{lo g cap s:Nat}{w:World}{t:TypeId}{cur:Array Value}(h:w.heap[g]? =some (.cells cur t (0,0)))(hb:lo<=g)(hm:cap<=maxLen)(hs:cur.size=cap*s):GR lo w t s (.slice (some ⟨g,0,none⟩) 0 cap) 0 [] [] []:=
 ⟨⟨by simp,.inr ⟨g,cap,cur,rfl,hb,h,Nat.zero_le _,hm,hs,by simp⟩⟩,TN.done,Own.nil _ _,by simp⟩
theorem Src.row{s m g:Nat}{w:World}{us:aO}{t:TypeId}(h:w.heap[g]? =some (.cells us.toArray t (0,0)))(hl:us.length=m*s)(h1:us.all (·.oneCell')=true):Src w s (some ⟨g,0,none⟩) m us:=
 ⟨hl,fun _=>⟨_,rfl,fun j u hu=>by
  have hadd:(⟨g,0,none⟩:Addr).add j=⟨g,j,none⟩:=by unfold Addr.add;split<;>simp_all
  rw[hadd,cell_of_row w g j us.toArray t (0,0) h];simpa using hu⟩,h1⟩
theorem NQ{g:Nat}{w w':World}{v:Value}{o:Obj}(h:w.heap[g]? =some o)(hg:w.grownBy w' v.ownBlock)(hn:∀k,v.ownBlock=some k->k≠g):w'.heap[g]? =some o:=
 (hg.block g (bL h) (fun e=>hn g e.symm rfl)).trans h
theorem xV{base:Nat}{e:TypeId}{s:Nat}{v:Value}{n:Nat}{xs:aO}{w:World}(h:w.ownsRow base e s v n xs):∃A c,v=.slice A n c:=by
 rcases h.2 with⟨rfl,rfl⟩|⟨g,cap,cur,rfl,_⟩
 .exact⟨_,_,rfl⟩
 .exact⟨_,_,rfl⟩
theorem QL{v v':Value}{x g:Nat}(h:v'.ownBlock=v.ownBlock\/v'.ownBlock=some x)(h1:∀k,v.ownBlock=some k->k≠g)(h2:x≠g):∀k,v'.ownBlock=some k->k≠g:=fun k hk=>by
 rcases h with e|e
 .exact h1 k (e▸hk)
 .rw[e]at hk;injection hk with hk;omega
theorem GR.ext{lo t s v n ds bs us}(h:GR lo w t s v n ds bs us){w1:World}(h1:Ext w w1):GR lo w1 t s v n ds bs us:=⟨AO h.row h1,h.tn.below h1,h.own.below h1,h.out⟩
theorem gQ{base:Nat}{e:TypeId}{s:Nat}{v:Value}{n:Nat}{xs:aO}(h:w.ownsRow base e s v n xs){w1:World}(h1:∀k,v.ownBlock=some k->w1.heap[k]? =w.heap[k]?):w1.ownsRow base e s v n xs:=by
 refine⟨h.1,?_⟩;rcases h.2 with hn|⟨g,cap,cur,rfl,hb,hgg,rest⟩
 .exact .inl hn
 .exact .inr ⟨g,cap,cur,rfl,hb,(h1 g rfl).trans hgg,rest⟩
theorem GR.but{lo t s v n ds bs us g}(h:GR lo w t s v n ds bs us){w1:World}(h1:But g w w1)(hg:g∉bs)(hr:∀k,v.ownBlock=some k->k≠g):GR lo w1 t s v n ds bs us:=
 ⟨gQ h.row fun k hk=>h1.block k (h.row.lt k hk).2 (hr k hk),h.tn.but h1 hg,h.own.but h1 hg,h.out⟩
theorem GR.app{lo t s v n ds bs us}(h:GR lo w t s v n ds bs us){m:Nat}{es:List D}{cs:aG}{vs:aO}(hes:TN w es cs vs)(hcs:Own lo w cs)(hd:∀y∈bs,y∉cs)(hr:∀k,v.ownBlock=some k->k∉cs)
  {v':Value} {w':World} (h1:w'.ownsRow lo t s v' (n+m) (us++vs)) (h2:w.grownBy w' v.ownBlock) (h3:v'.ownBlock=v.ownBlock\/v'.ownBlock=some w.heap.size):GR lo w' t s v' (n+m) (ds++es) (bs++cs) (us++vs):=by
 have kb:∀b,b<w.heap.size->(∀k,v.ownBlock=some k->k≠b)->w'.heap[b]? =w.heap[b]? :=fun b hb hn=>h2.block b hb (fun e=>hn b e.symm rfl)
 have k1:Keeps w w' bs:=⟨h2.size,fun b hb=>kb b (h.tn.lt b hb) (fun k hk e=>h.out k hk (e▸hb))⟩;have k2:Keeps w w' cs:=⟨h2.size,fun b hb=>kb b (hes.lt b hb) (fun k hk e=>hr k hk (e▸hb))⟩;have o1:Own lo w' bs:=⟨h.own.1,fun b hb=>⟨(h.own.2 b hb).1,by obtain⟨_,cur,t',hh⟩:=h.own.2 b hb;exact⟨cur,t',(k1.2 b hb).trans hh⟩⟩⟩;have o2:Own lo w' cs:=⟨hcs.1,fun b hb=>⟨(hcs.2 b hb).1,by obtain⟨_,cur,t',hh⟩:=hcs.2 b hb;exact⟨cur,t',(k2.2 b hb).trans hh⟩⟩⟩;refine⟨h1,TN.append.2 ⟨bs,cs,us,vs,rfl,rfl,h.tn.keep k1,hes.keep k2⟩,Own.join o1 o2 hd,fun k hk=> ?_⟩
 rw[qT];rcases h3 with e|e
 .rw[e]at hk;exact fun hm=>hm.elim (h.out k hk) (hr k hk)
 .rw[e]at hk;injection hk with hk
  subst hk
  exact fun hm=>by
   rcases hm with hm|hm
   .have:=h.tn.lt _ hm;omega
   .have:=hes.lt _ hm;omega
theorem GR.res{lo t s v n ds bs us}(h:GR lo w t s v n ds bs us)(hl:ds.length=n*s):∃A c bs',v=.slice A n c/\T1 w (.sl n ds) bs' (.slice A n c)/\Own lo w bs':=by
 rcases h.row.2 with⟨rfl,rfl⟩|⟨g,cap,cur,rfl,hb,hgg,hnc,hcm,hcs,htk⟩
 .have hd:ds=[]:=List.eq_nil_of_length_eq_zero (by simpa using hl);subst hd;exact⟨none,0,[],rfl,T1.empty none,Own.nil _ _⟩
 .rcases Nat.eq_zero_or_pos n with rfl|hn
  .have hd:ds=[]:=List.eq_nil_of_length_eq_zero (by simpa using hl);subst hd;refine⟨some ⟨g,0,none⟩,cap,[],rfl,?_,Own.nil _ _⟩;unfold T1;exact⟨_,_,rfl,hnc,hcm,.inl ⟨rfl,rfl,rfl⟩⟩
  .have hgb:g∉bs:=h.out g rfl;refine⟨some ⟨g,0,none⟩,cap,g::bs,rfl,?_,⟨List.nodup_cons.2 ⟨hgb,h.own.1⟩,fun b hb'=> ?_⟩⟩
   .unfold T1;refine⟨_,_,rfl,hnc,hcm,.inr ⟨hn,g,0,us,bs,rfl,rfl,bL hgg,fun j u hu=> ?_,h.tn⟩⟩;rw[Nat.zero_add,cell_of_row w g j cur t (0,0) hgg];rw[<-htk,List.getElem?_take]at hu;split at hu
    .simpa using hu
    .cases hu
   .rcases List.mem_cons.1 hb' with rfl|hb'
    .exact⟨hb,cur,t,hgg⟩
    .exact h.own.2 b hb'
theorem GR.lt{lo t s v n ds bs us}(h:GR lo w t s v n ds bs us):∀k,v.ownBlock=some k->lo<=k/\k<w.heap.size:=fun k hk=>h.row.lt k hk
def lQ(v:Value):List Nat:=match v.ownBlock with|some k=>[k]|none=>[]
theorem dO{v:Value}{k:Nat}:k∈lQ v↔v.ownBlock=some k:=by
 unfold lQ;cases v.ownBlock<;>simp[eq_comm]
theorem NH{c:Code}{Q:Exit->Act->World->Prop}{a:Act}(e:bf w){g:Nat}(hg:e.to.heap.size=g){cs:Array Value}{t:TypeId}
  (h:∀(w1:World) (e1:bf w1),Ext w w1->w.heap.size<=g->g<w1.heap.size->w1.heap[g]? =some (.cells cs t (0,0))->c.wp P Q a e1.to):c.wp P Q a (e.to.alloc (.cells cs t)):=by
 subst hg;exact h _ ⟨_,Below.refl _ _⟩ (e.h.alloc e.h.size _) e.h.size (by simp) (heap_alloc_new e.to _)
theorem KY{c:Code}{Q:Exit->Act->World->Prop}{a:Act}(e:bf w){g g2:Nat}(hg:e.to.heap.size=g)(hg2:e.to.heap.size+1=g2){cs cs2:Array Value}{t t2:TypeId}
  (h:∀(w1:World) (e1:bf w1),Ext w w1->w.heap.size<=g->g<g2->g2<w1.heap.size->w1.heap[g]? =some (.cells cs t (0,0))->w1.heap[g2]? =some (.cells cs2 t2 (0,0))->c.wp P Q a e1.to):c.wp P Q a ((e.to.alloc (.cells cs t)).alloc (.cells cs2 t2)):=by
 subst hg hg2;have h1:Ext w ((e.to.alloc (.cells cs t)).alloc (.cells cs2 t2)):=(e.h.alloc e.h.size _).alloc (by have:=e.h.size;simp;omega) _;refine h ((e.to.alloc (.cells cs t)).alloc (.cells cs2 t2)) ⟨_,Below.refl _ _⟩ h1 e.h.size (by omega) (by simp) ?_ ?_
 .rw[Below.heap_alloc _ _ _ (by simp)];exact heap_alloc_new e.to _
 .have:=heap_alloc_new (e.to.alloc (.cells cs t)) (.cells cs2 t2)
  rwa[show(e.to.alloc (.cells cs t)).heap.size=e.to.heap.size+1 by simp]at this
theorem zH{g:Nat}{o:Obj}(h:w.heap[g]? =some o)(e:bf w):e.to.heap[g]? =some o:=(e.h.block g (bL h)).trans h
theorem SE{g:Nat}{cs:Array Value}{t:TypeId}(h:w.heap[g]? =some (.cells cs t (0,0)))(i:Nat){v:Value}(hi:cs[i]? =some v):Kn w g i v:=fun e=>(cell_of_row e.to g i cs t (0,0) (zH h e)).trans hi
theorem SC{g:Nat}{cs:Array Value}{t:TypeId}(h:w.heap[g]? =some (.cells cs t (0,0))):∀(e:bf w) (o:Nat),e.to.frozen? ⟨g,o,none⟩=false:=fun e o=>cB (zH h e) o
theorem QT{g:Nat}{o:Obj}(h:w.heap[g]? =some o){w1:World}(h1:Ext w w1):w1.heap[g]? =some o:=(h1.block g (bL h)).trans h
theorem But.priv{g g':Nat}{a b c:World}(h:But g a b)(k:But g' b c)(hg:a.heap.size<=g'):But g a c:=
 ⟨k.os.trans h.os,k.tape.trans h.tape,k.output.trans h.output,Nat.le_trans h.size k.size,fun i hi hn=>(k.block i (qW hi h.size) (by omega)).trans (h.block i hi hn)⟩
theorem lK.priv{bs cs:aG}{a b c:World}(h:lK bs a b)(k:lK cs b c)(hc:∀y∈cs,a.heap.size<=y):lK bs a c:=
 ⟨k.os.trans h.os,k.tape.trans h.tape,k.output.trans h.output,Nat.le_trans h.size k.size,fun i hi hn=>(k.other i (qW hi h.size) (fun hm=>by have:=hc i hm;omega)).trans (h.other i hi hn),
  fun x cs' t hb=>by obtain⟨cs2,h'⟩:=h.row x cs' t hb;exact k.row x cs2 t h'⟩
structure gW(cs:List Nat)(w w':World):Prop where
 os:w'.os=w.os
 tape:w'.tape=w.tape
 output:w'.output=w.output
 size:w.heap.size<=w'.heap.size
 other:∀b,b<w.heap.size->b∉cs->w'.heap[b]? =w.heap[b]?
theorem lK.gX{cs:aG}{w w':World}(h:lK cs w w'):gW cs w w':=⟨h.os,h.tape,h.output,h.size,h.other⟩
theorem gW.refl(cs:aG)(w:World):gW cs w w:=⟨rfl,rfl,rfl,Nat.le_refl _,fun _ _ _=>rfl⟩
theorem gW.kQ{cs:aG}{w w':World}(h:Ext w w'):gW cs w w':=⟨h.os,h.tape,h.output,h.size,fun b hl _=>h.block b hl⟩
theorem gW.trans{cs:aG}{a b c:World}(h:gW cs a b)(k:gW cs b c):gW cs a c:=
 ⟨k.os.trans h.os,k.tape.trans h.tape,k.output.trans h.output,Nat.le_trans h.size k.size,fun i hs hi=>(k.other i (qW hs h.size) hi).trans (h.other i hs hi)⟩
theorem gW.priv{bs cs:aG}{a b c:World}(h:gW bs a b)(k:gW cs b c)(hc:∀y∈cs,a.heap.size<=y):gW bs a c:=
 ⟨k.os.trans h.os,k.tape.trans h.tape,k.output.trans h.output,Nat.le_trans h.size k.size,fun i hi hn=>(k.other i (qW hi h.size) (fun hm=>by have:=hc i hm;omega)).trans (h.other i hi hn)⟩
theorem gW.below{B:Nat}{cs:aG}{w w':World}(h:gW cs w w')(hB:B<=w.heap.size)(hb:∀b∈cs,B<=b):Below B w w':=
 ⟨h.os,h.tape,h.output,h.size,fun k hk=>h.other k (by omega) (fun hc=>by have:=hb k hc;omega)⟩
theorem gW.wk{N:Nat}{pv cs:aG}{w w':World}(h:gW cs w w')(hN:N<=w.heap.size)(hc:∀y∈cs,y∈pv\/N<=y):Wk N pv w w':=
 ⟨h.size,fun b hb hn=>h.other b (by omega) (fun hm=>by rcases hc b hm with h1|h1;exact hn h1;omega)⟩
theorem gW.grown{w w':World}{v:Value}{L:aG}(h:w.grownBy w' v.ownBlock)(hL:∀k,v.ownBlock=some k->k∈L):gW L w w':=⟨h.os,h.tape,h.output,h.size,fun b hl hn=>h.block b hl (fun e=>hn (hL b e.symm))⟩
theorem Kn.gX{w w':World}{b o:Nat}{v:Value}(h:Kn w b o v)(e:bf w){bs:aG}(hf:gW bs e.to w')(hb:b<w.heap.size)(hn:b∉bs):Kn w' b o v:=fun e'=>by
 have h1:=h e;rw[<-h1,bf.cell e' b o (qW (qW hb e.h.size) hf.size)];exact World.cell?_of_block (hf.other b (qW hb e.h.size) hn)
theorem T1.gX{bs:aG}{w w':World}{d cs u}(h:T1 w d cs u)(ho:gW bs w w')(hd:∀b∈cs,b∉bs):T1 w' d cs u:=h.keep ⟨ho.size,fun b hb=>ho.other b (h.lt b hb) (hd b hb)⟩
theorem TN.gX{bs:aG}{w w':World}{d cs u}(h:TN w d cs u)(ho:gW bs w w')(hd:∀b∈cs,b∉bs):TN w' d cs u:=h.keep ⟨ho.size,fun b hb=>ho.other b (h.lt b hb) (hd b hb)⟩
theorem Own.gX{lo:Nat}{bs cs:aG}{w w':World}(h:Own lo w bs)(ho:gW cs w w')(hd:∀b∈bs,b∉cs):Own lo w' bs:=
 ⟨h.1,fun b hb=>⟨(h.2 b hb).1,by obtain⟨_,cur,t,h2⟩:=h.2 b hb;exact⟨cur,t,(ho.other b (bL h2) (hd b hb)).trans h2⟩⟩⟩
theorem iN.gX{b o:Nat}{ds bs}(h:iN w b o ds bs){w':World}{cs:aG}(hf:gW cs w w')(hn:b∉cs)(hd:∀y∈bs,y∉cs):iN w' b o ds bs:=by
 obtain⟨hlt,us,hc,ht⟩:=h;exact⟨qW hlt hf.size,us,hc.keep (hf.other b hlt hn),ht.gX hf hd⟩
theorem GR.gX{lo t s v n ds bs us cs}(h:GR lo w t s v n ds bs us){w1:World}(hf:gW cs w w1)(hd:∀b∈bs,b∉cs)(hr:∀k,v.ownBlock=some k->k∉cs):GR lo w1 t s v n ds bs us:=
 ⟨gQ h.row fun k hk=>hf.other k (h.row.lt k hk).2 (hr k hk),h.tn.gX hf hd,h.own.gX hf hd,h.out⟩
theorem QS{g:Nat}{o:Obj}{cs:aG}{w w':World}(h:w.heap[g]? =some o)(e:bf w)(hf:gW cs e.to w')(hn:g∉cs):w'.heap[g]? =some o:=(hf.other g (bL (zH h e)) hn).trans (zH h e)
theorem Kn.but{b o g:Nat}{v:Value}(h:Kn w b o v)(e:bf w){w':World}(hb:But g e.to w')(hl:b<w.heap.size)(hn:b≠g):Kn w' b o v:=fun e'=>by
 have h1:=h e;have h2:b<e.to.heap.size:=qW hl e.h.size;rw[<-h1,bf.cell e' b o (qW h2 hb.size)];exact World.cell?_of_block (hb.block b h2 hn)
theorem iN.but{b o g:Nat}{ds bs}(h:iN w b o ds bs){w':World}(hb:But g w w')(hn:b≠g)(hg:g∉bs):iN w' b o ds bs:=by
 obtain⟨hlt,us,hc,ht⟩:=h;exact⟨qW hlt hb.size,us,hc.keep (hb.block b hlt hn),ht.but hb hg⟩
theorem iN.blt{b o:Nat}{ds bs}(h:iN w b o ds bs):∀y∈bs,y<w.heap.size:=fun y hy=>by
 obtain⟨_,us,_,ht⟩:=h;exact ht.lt y hy
theorem T1.TL{α:Type}{f:α->List D}{s:Nat}(hs:∀x,(f x).length=s){xs:List α}{bs:aG}{A:Option Addr}{n n' c:Nat}(h:T1 w (.sl n (xs.flatMap f)) bs (.slice A n' c))(hm:Hid (xs.length=n)){k:Nat}(hk:k<n):
  ∃b off x bs' us,A=some ⟨b,off,none⟩/\Hid (xs[k]? =some x)/\b<w.heap.size/\aM w b (off+k*s) us/\TN w (f x) bs' us/\b∈bs/\∀y∈bs',y∈bs:=by
 obtain⟨_,b,off,p1,p2,p3,us,hA,rfl,hb,hc,ht⟩:=T1.at_ hs h hm.out hk;exact⟨b,off,_,p2,us,hA,qB (hm.out▸hk),hb,hc,ht,by simp,fun y hy=>by simp[hy]⟩
theorem T1.none_{n n' c:Nat}{ds:List D}{bs:aG}(h:T1 w (.sl n ds) bs (.slice none n' c)):n=0/\ds=[]:=by
 unfold T1 at h;obtain⟨A',c',he,hn,hc,h⟩:=h;injection he with hA
 subst hA;rcases h with⟨h1,h2,_⟩|⟨_,b,off,us,bs',h1,_⟩
 .exact⟨h1,h2⟩
 .cases h1
theorem Jy{α:Type}{f:α->List D}(hf:∀x,∀d∈f x,∃v,d=.v v)(xs:List α):∀d∈xs.flatMap f,∃v,d=.v v:=fun d hd=>by
 obtain⟨x,_,hx⟩:=List.mem_flatMap.1 hd;exact hf x d hx
theorem NA(x:Int):∀d∈tK x,∃v,d=.v v:=fun d hd=>⟨.int .i64 x,by simpa[tK]using hd⟩
theorem iN.MK{b o:Nat}{ds bs}(h:iN w b o ds bs){w':World}{cs:aG}(hf:lK cs w w')(hn:b∉cs)(hd:∀y∈bs,y∉cs):iN w' b o ds bs:=by
 obtain⟨hlt,us,hc,ht⟩:=h;exact⟨qW hlt hf.size,us,hc.keep (hf.other b hlt hn),ht.MK hf hd⟩
theorem TN.flat{ds:List D}{bs:aG}{us:aO}(h:TN w ds bs us)(hf:∀d∈ds,∃x,d=.v x):bs=[]/\∀w',TN w' ds [] us:=by
 induction ds generalizing bs us with
 |nil=>obtain⟨rfl,rfl⟩:=TN.nil.1 h;exact⟨rfl,fun _=>TN.done⟩
 |cons d ds ih=>
  obtain⟨b1,b2,u,us',rfl,rfl,h1,h2⟩:=TN.cons.1 h;obtain⟨x,rfl⟩:=hf d (by simp);obtain⟨rfl,rfl,h3⟩:=T1.v.1 h1;obtain⟨rfl,h4⟩:=ih h2 (fun d hd=>hf d (by simp[hd]));exact⟨rfl,fun w'=>TN.Bl h3 (h4 w')⟩
end
end Go.Tr
namespace Go.Tr
open Go Go.RowKit
structure Env(n:Nat)(a:Act)(l:List (Nat×Value)):Prop where
 size:a.tmps.size=n
 defers:a.defers=[]
 get:∀t v,l.lookup t=some v->a.tmps[t]? =some v
section
variable {n:Nat}{a:Act}{l l':List (Nat×Value)}{t:Nat}{v:Value}
theorem Env.getD(h:Env n a l)(hl:l.lookup t=some v):a.tmps.getD t undef=v:=by
 rw[Array.getD_eq_getD_getElem?,h.get t v hl];rfl
theorem Env.tmp(h:Env n a l)(hl:l.lookup t=some v):a.eval (.tmp t)=v:=h.getD hl
theorem Env.put(h:Env n a l)(d:Nat)(v:Value)(hd:Nat.blt d n=true):Env n (a.put (some d) v) ((d,v)::l):=
 ⟨by simp[Act.put,h.size],h.defers,fun t u hl=>by
  have hd':d<n:=by simpa using hd
  rw[List.lookup_cons]at hl;show(a.tmps.setIfInBounds d v)[t]? =some u
  by_cases e:t=d
  .subst e;simp at hl;subst hl;simp[h.size,hd']
  .have h1:(t==d)=false:=by simpa using e
   rw[h1]at hl;rw[Array.getElem?_setIfInBounds_ne (fun e'=>e e'.symm)];exact h.get t u hl⟩
theorem Env.nil(h:Env n a l):Env n a []:=⟨h.size,h.defers,fun t v hl=>by simp at hl⟩
theorem Env.pick(h0:Env n a l)(h:Env n a l')(hl:l.lookup t=some v):Env n a ((t,v)::l'):=
 ⟨h.size,h.defers,fun t' u hl'=>by
  rw[List.lookup_cons]at hl'
  by_cases e:t'=t
  .subst e;simp at hl';subst hl';exact h0.get _ _ hl
  .have h1:(t'==t)=false:=by simpa using e
   rw[h1]at hl';exact h.get t' u hl'⟩
theorem enter{P:Program}{f:FuncId}{fn:Func}{c:Code}{args:aO}{w:World}{R:Ending->World->Prop}(hf:P.funcs[f]? =some fn)(hb:fn.body=some c)(hn:fn.ntmps=n)(ha:Nat.ble args.length n=true)
  (h:∀a,Env n a (args.zipIdx.map fun x=>(x.2,x.1))->c.wp P (bodyPost P fn R) a w):Calls P f args.toArray w R:=by
 refine calls_of_wp hf hb (h _ ⟨?_,rfl,fun t v hl=> ?_⟩)
 .simp at ha |-;omega
 .have key:∀(l:List Value) (k:Nat),(l.zipIdx k |>.map fun x=>(x.2,x.1)).lookup t=some v->∃j,t=k+j/\l[j]? =some v:=by
   intro l
   induction l with
   |nil=>intro k h;simp at h
   |cons x l ih=>
    intro k h;simp only[List.zipIdx_cons,List.map_cons,List.lookup_cons]at h
    by_cases e:t=k
    .subst e;simp at h;exact⟨0,rfl,by simp[h]⟩
    .have h1:(t==k)=false:=by simpa using e
     rw[h1]at h;obtain⟨j,hj,hx⟩:=ih (k+1) h;exact⟨j+1,by omega,by simpa using hx⟩
  obtain⟨j,hj,hx⟩:=key args 0 hl;have:t=j:=by omega
  subst this;have hlt:=(qE.1 hx).1;rw[Array.getElem?_append_left (by simpa using hlt)];simpa using hx
end
structure bn where
 p:World->List Nat->Prop
 keep:∀{w w':World} {F:List Nat},p w F->Keeps w w' F->p w' F
 lt:∀{w:World} {F:List Nat},p w F->∀b∈F,b<w.heap.size
def Sep(w:World):List bn->List Nat->Prop
 |[],G=>G=[]
 |r::rs,G=>∃F G',G=F++G'/\r.p w F/\Sep w rs G'/\∀b∈F,b∉G'
theorem Sep.lt{w:World}:∀{rs:List bn} {G:aG},Sep w rs G->∀b∈G,b<w.heap.size
 |[],G,h=>by cases h;simp
 |r::rs,G,⟨F,G',e,h1,h2,_⟩=>by
  subst e;intro b hb;rcases qT.1 hb with hb|hb
  .exact r.lt h1 b hb
  .exact h2.lt b hb
theorem Sep.keep{w w':World}:∀{rs:List bn} {G:aG},Sep w rs G->Keeps w w' G->Sep w' rs G
 |[],G,h,_=>h
 |r::rs,G,⟨F,G',e,h1,h2,h3⟩,k=>by
  subst e;exact⟨F,G',rfl,r.keep h1 (k.sub fun b hb=>by simp[hb]),h2.keep (k.sub fun b hb=>by simp[hb]),h3⟩
theorem Sep.append{w:World}:∀{rs ss:List bn} {G:aG},Sep w (rs++ss) G↔∃F G',G=F++G'/\Sep w rs F/\Sep w ss G'/\∀b∈F,b∉G'
 |[],ss,G=>⟨fun h=>⟨[],G,rfl,rfl,h,by simp⟩,fun⟨F,G',e,h1,h2,_⟩=>by cases h1;subst e;exact h2⟩
 |r::rs,ss,G=>by
  constructor
  .rintro⟨F,G',rfl,h1,h2,h3⟩;obtain⟨F2,G2,rfl,h4,h5,h6⟩:=Sep.append.1 h2;refine⟨F++F2,G2,by simp,⟨F,F2,rfl,h1,h4,fun b hb hm=>h3 b hb (by simp[hm])⟩,h5,fun b hb=> ?_⟩;rcases qT.1 hb with hb|hb
   .exact fun hm=>h3 b hb (by simp[hm])
   .exact h6 b hb
  .rintro⟨F,G',rfl,⟨F1,F2,rfl,h1,h2,h3⟩,h4,h5⟩;refine⟨F1,F2++G',by simp,h1,Sep.append.2 ⟨F2,G',rfl,h2,h4,fun b hb=>h5 b (by simp[hb])⟩,fun b hb hm=> ?_⟩;rcases qT.1 hm with hm|hm
   .exact h3 b hb hm
   .exact h5 b (by simp[hb]) hm
theorem Sep.perm{w:World}{rs ss:List bn}(hp:rs.Perm ss):∀{G:aG},Sep w rs G->∃G',Sep w ss G'/\∀b,b∈G'↔b∈G:=by
 induction hp with
 |nil=>exact fun h=>⟨_,h,fun _=>Iff.rfl⟩
 |cons r _ ih=>
  rintro G ⟨F,G',rfl,h1,h2,h3⟩;obtain⟨G2,h4,h5⟩:=ih h2;exact⟨F++G2,⟨F,G2,rfl,h1,h4,fun b hb hm=>h3 b hb ((h5 b).1 hm)⟩,fun b=>by simp[h5]⟩
 |swap r s l=>
  rintro G ⟨F,G',rfl,h1,⟨F2,G2,rfl,h2,h3,h4⟩,h5⟩;refine⟨F2++(F++G2),⟨F2,F++G2,rfl,h2,⟨F,G2,rfl,h1,h3,fun b hb hm=>h5 b hb (by simp[hm])⟩,fun b hb hm=> ?_⟩,fun b=>by simp;constructor<;>(rintro(h|h|h)<;>simp[h])⟩;rcases qT.1 hm with hm|hm
  .exact h5 b hm (by simp[hb])
  .exact h4 b hb hm
 |trans _ _ ih1 ih2=>
  intro G h;obtain⟨G1,h1,e1⟩:=ih1 h;obtain⟨G2,h2,e2⟩:=ih2 h1;exact⟨G2,h2,fun b=>(e2 b).trans (e1 b)⟩
theorem uZ{α:Type}:∀(l:List α) (i:Nat) (r:α),l[i]? =some r->l.Perm (r::l.eraseIdx i)
 |[],i,r,h=>by simp at h
 |x::l,0,r,h=>by simp at h;subst h;exact List.Perm.refl _
 |x::l,i+1,r,h=>by
  have:=uZ l i r (by simpa using h);exact(this.cons x).trans (List.Perm.swap r x _)
theorem set_perm{α:Type}:∀(l:List α) (i:Nat) (r s:α),l[i]? =some r->(s::l.eraseIdx i).Perm (l.set i s)
 |[],i,r,s,h=>by simp at h
 |x::l,0,r,s,h=>by simp
 |x::l,i+1,r,s,h=>by
  have:=set_perm l i r s (by simpa using h);exact(List.Perm.swap x s _).trans (this.cons x)
structure Inv(w0:World)(F0:List Nat)(w:World)(rs:List bn):Prop where
 gX:gW F0 w0 w
 sep:∃G,Sep w rs G/\∀b∈G,b∈F0\/w0.heap.size<=b
section
variable {w0 w w':World}{F0:aG}{rs ss:List bn}{r:bn}
theorem Inv.start{F:aG}(h:Sep w rs F):Inv w F w rs:=⟨gW.refl _ _,F,h,fun _ hb=>.inl hb⟩
theorem Inv.ow(w:World):Inv w [] w []:=Inv.start (rs:=[]) rfl
theorem Inv.perm(h:Inv w0 F0 w rs)(hp:rs.Perm ss):Inv w0 F0 w ss:=by
 obtain⟨G,h1,h2⟩:=h.sep;obtain⟨G',h3,h4⟩:=h1.perm hp;exact⟨h.gX,G',h3,fun b hb=>h2 b ((h4 b).1 hb)⟩
theorem Inv.front(h:Inv w0 F0 w rs)(i:Nat)(hr:rs[i]? =some r):Inv w0 F0 w (r::rs.eraseIdx i):=by
 exact h.perm (uZ rs i r hr)
theorem Inv.back{s:bn}(i:Nat)(hr:rs[i]? =some r)(h:Inv w0 F0 w (s::rs.eraseIdx i)):Inv w0 F0 w (rs.set i s):=h.perm (set_perm rs i r s hr)
theorem Inv.tail(h:Inv w0 F0 w (r::rs)):Inv w0 F0 w rs:=by
 obtain⟨G,⟨F,G',rfl,_,h2,_⟩,h3⟩:=h.sep;exact⟨h.gX,G',h2,fun b hb=>h3 b (by simp[hb])⟩
theorem Inv.drop(h:Inv w0 F0 w rs)(i:Nat)(hi:Nat.blt i rs.length=true):Inv w0 F0 w (rs.eraseIdx i):=by
 have hi':i<rs.length:=by simpa using hi
 exact(h.front i (qB hi')).tail
theorem Inv.mem(h:Inv w0 F0 w rs)(i:Nat)(hr:rs[i]? =some r):∃F,r.p w F:=by
 obtain⟨G,⟨F,G',rfl,h1,h2,_⟩,h3⟩:=(h.front i hr).sep;exact⟨F,h1⟩
theorem Inv.frame{pre rest:List bn}(h:Inv w0 F0 w (pre++rest)):∃F,Sep w pre F/\(∀b∈F,b∈F0\/w0.heap.size<=b)/\∀w' post,Inv w F w' post->Inv w0 F0 w' (post++rest):=by
 obtain⟨G,h1,h2⟩:=h.sep;obtain⟨F,G2,rfl,h3,h4,h5⟩:=Sep.append.1 h1;refine⟨F,h3,fun b hb=>h2 b (by simp[hb]),fun w' post hi=> ?_⟩;obtain⟨G',h6,h7⟩:=hi.sep;have hsz:=h.gX.size;refine⟨⟨hi.gX.os.trans h.gX.os,hi.gX.tape.trans h.gX.tape,hi.gX.output.trans h.gX.output,Nat.le_trans hsz hi.gX.size,fun b hb hn=>(hi.gX.other b (by omega) (fun hm=>by rcases h2 b (by simp[hm])with h8|h8;exact hn h8;omega)).trans (h.gX.other b hb hn)⟩,G'++G2,Sep.append.2 ⟨G',G2,rfl,h6,h4.keep ⟨hi.gX.size,fun b hb=>hi.gX.other b (h4.lt b hb) (fun hm=>h5 b hm hb)⟩,fun b hb hm=> ?_⟩,fun b hb=> ?_⟩
 .rcases h7 b hb with h8|h8
  .exact h5 b h8 hm
  .have:=h4.lt b hm;omega
 .rcases qT.1 hb with hb|hb
  .rcases h7 b hb with h8|h8
   .exact h2 b (by simp[h8])
   .exact .inr (by omega)
  .exact h2 b (by simp[hb])
theorem Inv.ext(h:Inv w0 F0 w rs)(h1:Ext w w'):Inv w0 F0 w' rs:=by
 obtain⟨F,h2,_,h4⟩:=Inv.frame (pre:=[]) (rest:=rs) h;cases h2;simpa using h4 w' [] ⟨gW.kQ h1,[],rfl,by simp⟩
theorem Inv.sw(h:Inv w0 [] w rs):Ext w0 w:=gW.below h.gX (Nat.le_refl _) (by simp)
theorem Inv.new(h:Inv w0 F0 w rs)(hi:Inv w [] w' ss):Inv w0 F0 w' (ss++rs):=by
 obtain⟨F,h2,_,h4⟩:=Inv.frame (pre:=[]) (rest:=rs) h;cases h2;exact h4 w' ss hi
end
def oH(b:Nat)(cs:List Value)(t:TypeId):bn where
 p w F:=F=[b]/\w.heap[b]? =some (.cells cs.toArray t (0,0))
 keep:=fun⟨e,h⟩ k=>⟨e,by subst e;exact(k.2 b (by simp)).trans h⟩
 lt:=fun⟨e,h⟩ b' hb=>by subst e;simp at hb;subst hb;exact bL h
def Dat(v:Value)(n:Nat)(ds:List D):bn where
 p w F:=T1 w (.sl n ds) F v/\Own 0 w F
 keep:=fun⟨h,o⟩ k=>⟨h.keep k,o.1,fun b hb=>by obtain⟨h0,cur,t,h1⟩:=o.2 b hb;exact⟨h0,cur,t,(k.2 b hb).trans h1⟩⟩
 lt:=fun⟨h,_⟩=>h.lt
def aZ(us:List Value)(ds:List D):bn where
 p w F:=TN w ds F us/\Own 0 w F
 keep:=fun⟨h,o⟩ k=>⟨h.keep k,o.1,fun b hb=>by obtain⟨h0,cur,t,h1⟩:=o.2 b hb;exact⟨h0,cur,t,(k.2 b hb).trans h1⟩⟩
 lt:=fun⟨h,_⟩=>h.lt
def Gr(v:Value)(t:TypeId)(s n:Nat)(ds:List D):bn where
 p w F:=∃bs us,F=lQ v++bs/\GR 0 w t s v n ds bs us
 keep:=fun⟨bs,us,e,h⟩ k=>⟨bs,us,e,by
  subst e;have kb:Keeps _ _ bs:=k.sub fun b hb=>by simp[hb]
  exact⟨gQ h.row fun g hg=>k.2 g (by simp[dO,hg]),h.tn.keep kb,⟨h.own.1,fun b hb=>by obtain⟨h0,cur,t,h1⟩:=h.own.2 b hb;exact⟨h0,cur,t,(kb.2 b hb).trans h1⟩⟩,h.out⟩⟩
 lt:=fun⟨bs,us,e,h⟩ b hb=>by
  subst e;rcases qT.1 hb with hb|hb
  .exact(h.lt b (dO.1 hb)).2
  .exact h.tn.lt b hb
section
variable {w0 w w':World}{F0:aG}{rs ss:List bn}
theorem Inv.bQ(h:Inv w0 F0 w rs)(i:Nat){b:Nat}{cs:aO}{t:TypeId}(hr:rs[i]? =some (oH b cs t)):w.heap[b]? =some (.cells cs.toArray t (0,0)):=by
 obtain⟨F,_,h1⟩:=h.mem i hr;exact h1
theorem Inv.cell(h:Inv w0 F0 w rs)(i:Nat){b:Nat}{cs:aO}{t:TypeId}(hr:rs[i]? =some (oH b cs t)){o:Nat}{v:Value}(hc:cs[o]? =some v):w.cell? ⟨b,o,none⟩=some v:=
 jr (h.bQ i hr) (by simpa using hc)
theorem Inv.alloc(h:Inv w0 F0 w rs)(cs:aO)(t:TypeId):Inv w0 F0 (w.alloc (.cells cs.toArray t)) (oH w.heap.size cs t::rs):=
 Inv.new (ss:=[oH w.heap.size cs t]) h ⟨gW.kQ ((Below.refl _ _).alloc (Nat.le_refl _) _),[w.heap.size],⟨[w.heap.size],[],rfl,⟨rfl,heap_alloc_new w _⟩,rfl,by simp⟩,fun b hb=>.inr (by simp at hb;omega)⟩
theorem Inv.set{b:Nat}{cs ds:aO}{t:TypeId}(h:Inv w0 F0 w (oH b cs t::rs))(hrow:∃cs':aO,w'.heap[b]? =some (.cells cs'.toArray t (0,0))/\cs'=ds)(hc:gW [b] w w'):Inv w0 F0 w' (oH b ds t::rs):=by
 obtain⟨F,h2,_,h4⟩:=Inv.frame (pre:=[oH b cs t]) (rest:=rs) h;obtain⟨F1,G1,rfl,⟨rfl,_⟩,rfl,_⟩:=h2;obtain⟨cs',h5,rfl⟩:=hrow;exact h4 w' [oH b cs' t] ⟨hc,[b],⟨[b],[],rfl,⟨rfl,h5⟩,rfl,by simp⟩,fun b hb=>.inl (by simpa using hb)⟩
end
def KE(w0:World)(F0:List Nat)(b o:Nat)(v:Value):Prop:=b<w0.heap.size/\b∉F0/\w0.cell? ⟨b,o,none⟩=some v
def dY(w0:World)(F0:List Nat)(d:D)(v:Value):Prop:=∃bs,T1 w0 d bs v/\∀b∈bs,b∉F0
def fT(w0:World)(F0:List Nat)(ds:List D)(us:List Value):Prop:=∃bs,TN w0 ds bs us/\∀b∈bs,b∉F0
def je(w0:World)(F0:List Nat)(b o:Nat)(ds:List D):Prop:=b<w0.heap.size/\b∉F0/\∃us,aM w0 b o us/\fT w0 F0 ds us
section
variable {w0 w w':World}{F0 F:aG}{rs ss:List bn}{b o n:Nat}{v x:Value}{d:D}{ds es:List D}{us:aO}{bs:aG}
theorem KE.get(h:KE w0 F0 b o v)(hi:Inv w0 F0 w rs):w.cell? ⟨b,o,none⟩=some v:=(World.cell?_of_block (hi.gX.other b h.1 h.2.1)).trans h.2.2
theorem dY.of(h:T1 w0 d bs v):dY w0 [] d v:=⟨bs,h,by simp⟩
theorem fT.of(h:TN w0 ds bs us):fT w0 [] ds us:=⟨bs,h,by simp⟩
theorem je.of(h:iN w0 b o ds bs):je w0 [] b o ds:=by
 obtain⟨h1,us,h2,h3⟩:=h;exact⟨h1,by simp,us,h2,bs,h3,by simp⟩
theorem dY.at_(h:dY w0 F0 d v)(hi:Inv w0 F0 w rs)(hF:∀b∈F,b∈F0\/w0.heap.size<=b):dY w F d v:=by
 obtain⟨bs,h1,h2⟩:=h;exact⟨bs,h1.gX hi.gX h2,fun b hb hm=>by rcases hF b hm with h3|h3;exact h2 b hb h3;have:=h1.lt b hb;omega⟩
theorem fT.at_(h:fT w0 F0 ds us)(hi:Inv w0 F0 w rs)(hF:∀b∈F,b∈F0\/w0.heap.size<=b):fT w F ds us:=by
 obtain⟨bs,h1,h2⟩:=h;exact⟨bs,h1.gX hi.gX h2,fun b hb hm=>by rcases hF b hm with h3|h3;exact h2 b hb h3;have:=h1.lt b hb;omega⟩
theorem je.at_(h:je w0 F0 b o ds)(hi:Inv w0 F0 w rs)(hF:∀b∈F,b∈F0\/w0.heap.size<=b):je w F b o ds:=by
 obtain⟨h1,h2,us,h3,h4⟩:=h;exact⟨qW h1 hi.gX.size,fun hm=>by rcases hF b hm with h5|h5;exact h2 h5;omega,us,h3.keep (hi.gX.other b h1 h2),h4.at_ hi hF⟩
theorem dY.now(h:dY w0 F0 d v)(hi:Inv w0 F0 w rs):∃bs,T1 w d bs v:=by
 obtain⟨bs,h1,_⟩:=h.at_ hi (F:=[]) (by simp);exact⟨bs,h1⟩
theorem fT.now(h:fT w0 F0 ds us)(hi:Inv w0 F0 w rs):∃bs,TN w ds bs us:=by
 obtain⟨bs,h1,_⟩:=h.at_ hi (F:=[]) (by simp);exact⟨bs,h1⟩
theorem je.now(h:je w0 F0 b o ds)(hi:Inv w0 F0 w rs):∃bs,iN w b o ds bs:=by
 obtain⟨h1,_,us,h3,bs,h4,_⟩:=h.at_ hi (F:=[]) (by simp);exact⟨bs,h1,us,h3,h4⟩
theorem je.vv(h:je w0 F0 b o (.v x::ds)):KE w0 F0 b o x/\je w0 F0 b (o+1) ds:=by
 obtain⟨h1,h2,us,h3,bs,h4,h5⟩:=h;obtain⟨us',rfl,h6⟩:=TN.sF h4
 exact⟨⟨h1,h2,by simpa using h3 0 x rfl⟩,h1,h2,us',fun j u hu=>by
  have:=h3 (j+1) u (by simpa using hu)
  rwa[show o+(j+1)=o+1+j by omega]at this,bs,h6,h5⟩
theorem je.sl(h:je w0 F0 b o (.sl n es::ds)):∃A c,KE w0 F0 b o (.slice A n c)/\dY w0 F0 (.sl n es) (.slice A n c)/\n<=9223372036854775807/\je w0 F0 b (o+1) ds:=by
 obtain⟨h1,h2,us,h3,bs,h4,h5⟩:=h;obtain⟨A,c,b1,b2,us',rfl,rfl,h6,h7,h8,h9⟩:=TN.uG h4
 exact⟨A,c,⟨h1,h2,by simpa using h3 0 _ rfl⟩,⟨b1,h6,fun y hy=>h5 y (by simp[hy])⟩,h6.Po,h1,h2,us',fun j u hu=>by
  have:=h3 (j+1) u (by simpa using hu)
  rwa[show o+(j+1)=o+1+j by omega]at this,b2,h9,fun y hy=>h5 y (by simp[hy])⟩
theorem je.append{d1 d2:List D}(h:je w0 F0 b o (d1++d2)):je w0 F0 b o d1/\je w0 F0 b (o+d1.length) d2:=by
 obtain⟨h1,h2,us,h3,bs,h4,h5⟩:=h;obtain⟨b1,b2,u1,u2,rfl,rfl,h6,h7⟩:=TN.append.1 h4;refine⟨⟨h1,h2,u1,fun j u hu=>h3 j u (by rw[qM (qE.1 hu).1];exact hu),b1,h6,fun y hy=>h5 y (by simp[hy])⟩,h1,h2,u2,fun j u hu=> ?_,b2,h7,fun y hy=>h5 y (by simp[hy])⟩;have:=h3 (u1.length+j) u (by rw[qL (by omega),Nat.add_sub_cancel_left];exact hu)
 rwa[<-Nat.add_assoc,h6.length]at this
theorem fT.vv(h:fT w0 F0 (.v x::ds) us):∃us',us=x::us'/\fT w0 F0 ds us':=by
 obtain⟨bs,h4,h5⟩:=h;obtain⟨us',rfl,h6⟩:=TN.sF h4;exact⟨us',rfl,bs,h6,h5⟩
theorem fT.sl(h:fT w0 F0 (.sl n es::ds) us):∃A c us',us=.slice A n c::us'/\dY w0 F0 (.sl n es) (.slice A n c)/\n<=9223372036854775807/\fT w0 F0 ds us':=by
 obtain⟨bs,h4,h5⟩:=h;obtain⟨A,c,b1,b2,us',rfl,rfl,h6,h7,h8,h9⟩:=TN.uG h4;exact⟨A,c,us',rfl,⟨b1,h6,fun y hy=>h5 y (by simp[hy])⟩,h6.Po,b2,h9,fun y hy=>h5 y (by simp[hy])⟩
theorem fT.end_(h:fT w0 F0 [] us):us=[]:=by
 obtain⟨bs,h4,_⟩:=h;exact h4.end_.1
theorem dY.elem{α:Type}{f:α->List D}{s:Nat}(hs:∀x,(f x).length=s){xs:List α}{A:Option Addr}{n n' c:Nat}(h:dY w0 F0 (.sl n (xs.flatMap f)) (.slice A n' c))(hm:xs.length=n){k:Nat}(hk:k<n):
  ∃b off x,A=some ⟨b,off,none⟩/\xs[k]? =some x/\je w0 F0 b (off+k*s) (f x):=by
 obtain⟨bs,h1,h2⟩:=h;obtain⟨_,b,off,p1,p2,p3,us,hA,rfl,hb,hc,ht⟩:=T1.at_ hs h1 hm hk;exact⟨b,off,_,hA,qB (hm▸hk),hb,h2 b (by simp),us,hc,p2,ht,fun y hy=>h2 y (by simp[hy])⟩
theorem dY.Po{n n' c:Nat}{A:Option Addr}(h:dY w0 F0 (.sl n ds) (.slice A n' c)):n<=9223372036854775807:=by
 obtain⟨bs,h1,_⟩:=h;exact h1.Po
end
end Go.Tr
namespace Go.Tr
open Go Go.RowKit
section
variable {P:Program}{ops:Array Oper}{Q:Exit->Act->World->Prop}{a:Act}{w w':World}{rest:List Oper}{n:Nat}{l:List (Nat×Value)}{v:Value}{d:Nat}{dst:Option Nat}{op:Op}{ty:TypeId}{pos:String}{aft:Array Edge}{g:Option (Nat×Bool)}
theorem wv(E:Env n a l)(hd:Nat.blt d n=true)(hr:(execOp a.eval ⟨some d,op,ty,pos,aft,none⟩).run P w=.ok (.value v) w')(h:∀a',Env n a' ((d,v)::l)->wpList P ops Q rest a' w'):
  wpList P ops Q (⟨some d,op,ty,pos,aft,none⟩::rest) a w:=
 wpList_plain rfl fun K hK=>by
  unfold Oper.wp;rw[hr];exact hK _ _ (h _ (E.put d v hd))
theorem wu(E:Env n a l)(hr:(execOp a.eval ⟨none,op,ty,pos,aft,none⟩).run P w=.ok .skip w')(h:∀a',Env n a' l->wpList P ops Q rest a' w'):
  wpList P ops Q (⟨none,op,ty,pos,aft,none⟩::rest) a w:=
 wpList_plain rfl fun K hK=>by
  unfold Oper.wp;rw[hr];exact hK _ _ (h a E)
theorem wc{f:FuncId}{args:Array Value}{R:Ending->World->Prop}(E:Env n a l)(hd:Nat.blt d n=true)(hr:(execOp a.eval ⟨some d,op,ty,pos,aft,none⟩).run P w=.ok (.enter f args) w)(hc:Calls P f args w R)
  (h:∀e w',R e w'->∃v,e=.returned v/\∀a',Env n a' ((d,v)::l)->wpList P ops Q rest a' w'):wpList P ops Q (⟨some d,op,ty,pos,aft,none⟩::rest) a w:=
 wpList_plain rfl fun K hK=>by
  unfold Oper.wp;rw[hr];refine hc.mono fun e w' hR=> ?_
  obtain⟨v,rfl,h2⟩:=h e w' hR;exact hK _ _ (h2 _ (E.put d v hd))
theorem UC{j:Nat}{b b':Bool}(E:Env n a l)(hd:Nat.blt d n=true)(hy:yielded ops a.tmps j=some b')(hb:(b'==b)=false)(h:∀a',Env n a' ((d,undef)::l)->wpList P ops Q rest a' w):
  wpList P ops Q (⟨some d,op,ty,pos,aft,some (j,b)⟩::rest) a w:=by
 unfold wpList
 rw[if_neg (by
  simp only[Region.wanted,hy];cases b<;>cases b'<;>simp_all)]
 exact h _ (E.put d undef hd)
theorem Tw{j t:Nat}{o:Oper}{b:Bool}(E:Env n a l)(hj:ops[j]? =some o)(hd:o.dst=some t)(hl:l.lookup t=some (.bool b)):yielded ops a.tmps j=some b:=by
 have:=E.get t _ hl;unfold yielded;simp[hj,hd,this]
theorem Tx{j t:Nat}{o:Oper}(E:Env n a l)(hj:ops[j]? =some o)(hd:o.dst=some t)(hl:l.lookup t=some undef):yielded ops a.tmps j=none:=by
 have:=E.get t _ hl;unfold yielded;simp[hj,hd,this,undef]
theorem Tt{j:Nat}{b:Bool}(E:Env n a l)(hd:Nat.blt d n=true)(hy:yielded ops a.tmps j=none)(h:∀a',Env n a' ((d,undef)::l)->wpList P ops Q rest a' w):
  wpList P ops Q (⟨some d,op,ty,pos,aft,some (j,b)⟩::rest) a w:=by
 unfold wpList;rw[if_neg (by simp[Region.wanted,hy])];exact h _ (E.put d undef hd)
theorem UD{j:Nat}{b:Bool}(hy:yielded ops a.tmps j=none)(h:wpList P ops Q rest a w):wpList P ops Q (⟨none,op,ty,pos,aft,some (j,b)⟩::rest) a w:=by
 unfold wpList;rw[if_neg (by simp[Region.wanted,hy])];exact h
theorem wnou{j:Nat}{b b':Bool}(hy:yielded ops a.tmps j=some b')(hb:(b'==b)=false)(h:wpList P ops Q rest a w):wpList P ops Q (⟨none,op,ty,pos,aft,some (j,b)⟩::rest) a w:=by
 unfold wpList
 rw[if_neg (by
  simp only[Region.wanted,hy];cases b<;>cases b'<;>simp_all)]
 exact h
theorem Kt{j:Nat}{b b':Bool}(hy:yielded ops a.tmps j=some b')(hb:b'=b)(h:wpList P ops Q (⟨dst,op,ty,pos,aft,none⟩::rest) a w):wpList P ops Q (⟨dst,op,ty,pos,aft,some (j,b)⟩::rest) a w:=by
 subst hb;unfold wpList at h |-;rw[if_pos (by simp[Region.wanted])]at h;rw[if_pos (by simp[Region.wanted,hy])];exact h
def jB(P:Program)(t:TypeId):Option Bool:=(P.underlying t).map fun| .struct _| .array _ _=>true|_=>false
def yS(P:Program)(s i:Nat):Option Nat:=match P.underlying s with
 |some (.struct fs)=>(fs[i]?).bind fun f=>(P.info? f.type).bind fun t=>if t.size=0 then none else some f.offset
 |_=>none
def bW(P:Program)(t:TypeId):Option (TypeId×Nat):=match P.underlying t with
 |some (.slice e)=>(P.info? e).map fun i=>(e,i.size)
 |_=>none
def zeroOf(P:Program)(t:TypeId):Option (List Value):=(P.info? t).bind fun i=>i.zero.map fun z=>z.cells.toList
def aU(P:Program)(f:FuncId):Bool:=match P.funcs[f]? with
 | some fn => !(fn.name == "runtime.NumGoroutine") && fn.body.isSome
 |none=>false
theorem iF{t:TypeId}{b:Bool}(h:jB P t=some b)(w:World):(isAgg t).run P w=.ok b w:=by
 unfold jB at h;cases hu:P.underlying t with
 |none=>rw[hu]at h;simp at h
 |some d=>
  rw[hu]at h;unfold isAgg;rw[Sem.run_bind,run_underlying hu w];cases d<;>simp_all
theorem Hu{x:Operand}(hx:a.eval x=v):(execOp a.eval ⟨dst,.move x,ty,pos,aft,g⟩).run P w=.ok (.value v) w:=by simp[execOp,hx]
theorem AV{x:Operand}(hx:a.eval x=v):(execOp a.eval ⟨dst,.assign x,ty,pos,aft,g⟩).run P w=.ok (.value v) w:=by simp[execOp,hx]
theorem DX{x:Operand}{p:Addr}(hx:a.eval x=.pointer (some p)):(execOp a.eval ⟨dst,.nilCheck x,ty,pos,aft,g⟩).run P w=.ok (.value (.pointer (some p))) w:=by simp[execOp,hx]
theorem J6{x:Operand}{s i b o k o':Nat}(hx:a.eval x=.pointer (some ⟨b,o,none⟩))(hf:yS P s i=some k)(ho:o+k=o'):
  (execOp a.eval ⟨dst,.fieldAddr s x i,ty,pos,aft,g⟩).run P w=.ok (.value (.pointer (some ⟨b,o',none⟩))) w:=by
 subst ho;unfold yS at hf;split at hf
 .rename_i fs hu;cases hfi:fs[i]? with
  |none=>rw[hfi]at hf;simp at hf
  |some f=>
   rw[hfi]at hf;simp only[Option.bind_some]at hf;cases hi:P.info? f.type with
   |none=>rw[hi]at hf;simp at hf
   |some t=>
    rw[hi]at hf;simp only[Option.bind_some]at hf;split at hf
    .cases hf
    .rename_i hz;simp at hf;simp[execOp,Instr.fieldAt,run_underlying hu,hx,hfi,Instr.sureAddr,fieldPlace,sizeOf,typeInfo,hi,hz,Addr.add_mid,hf]
 .cases hf
theorem vH{x:Operand}{t b o:Nat}(hx:a.eval x=.pointer (some ⟨b,o,none⟩))(ht:jB P t=some false)(hc:w.cell? ⟨b,o,none⟩=some v):(execOp a.eval ⟨dst,.load t x,ty,pos,aft,g⟩).run P w=.ok (.value v) w:=by
 simp[execOp,hx,Instr.loadAt,Instr.sureAddr,loadVar,iF ht,load,Sem.run,hc]
theorem pX{x:Operand}{t b o:Nat}{us:aO}(hx:a.eval x=.pointer (some ⟨b,o,none⟩))(ht:jB P t=some true)(hs:(P.info? t).map (·.size)=some us.length)(hc:aM w b o us):
  (execOp a.eval ⟨dst,.load t x,ty,pos,aft,g⟩).run P w=.ok (.value (.agg us.toArray)) w:=by
 have hl:(loadCells ⟨b,o,none⟩ us.length).run P w=.ok us.toArray w:=run_loadCells_list (P:=P) w ⟨b,o,none⟩ us (fun j v hv=>by rw[Addr.add_mid];exact hc j v hv);cases hq:P.info? t with
 |none=>simp[hq]at hs
 |some i=>
  have hs':i.size=us.length:=by simpa[hq]using hs
  simp[execOp,hx,Instr.loadAt,Instr.sureAddr,loadVar,iF ht,sizeOf,typeInfo,hq,hs',hl]
theorem zC{x y:Operand}{t b o:Nat}{cs:Array Value}{T:TypeId}(hx:a.eval x=.pointer (some ⟨b,o,none⟩))(hy:a.eval y=v)(hv:v.cells= #[v])(h1:v.oneCell'=true)(hs:(P.info? t).map (·.size)=some 1)(hr:w.heap[b]? =some (.cells cs T (0,0)))(ho:o<cs.size):
  (execOp a.eval ⟨dst,.store t x y,ty,pos,aft,g⟩).run P w=.ok .skip (w.setCells b o [v]):=by
 have:=run_storeCells_cells (P:=P) b o [v] 0 w (fun j hj=>by
  have hj0:j=0:=by simpa using hj
  subst hj0;rw[cell_of_row w b _ cs T (0,0) hr];simp[ho]) (fun j hj=>cB hr _) (fun u hu=>by simp at hu;subst hu;exact h1)
 cases hq:P.info? t with
 |none=>simp[hq]at hs
 |some i=>
  have hs':i.size=1:=by simpa[hq]using hs
  simp only[Nat.add_zero]at this;simp[execOp,hx,hy,Instr.storeAt,Instr.sureAddr,storeVar,hv,sizeOf,typeInfo,hq,hs',this]
theorem vI{x y:Operand}{t b o:Nat}{us:aO}{cs:Array Value}{T:TypeId}(hx:a.eval x=.pointer (some ⟨b,o,none⟩))(hy:a.eval y=.agg us.toArray)(h1:us.all (·.oneCell')=true)(hs:(P.info? t).map (·.size)=some us.length)(hr:w.heap[b]? =some (.cells cs T (0,0)))(ho:o+us.length<=cs.size):
  (execOp a.eval ⟨dst,.store t x y,ty,pos,aft,g⟩).run P w=.ok .skip (w.setCells b o us):=by
 have:=run_storeVar_mid (P:=P) w b o t us.toArray (fun j hj=>⟨by
  rw[cell_of_row w b _ cs T (0,0) hr];simp at hj;simp;omega,cB hr _⟩) (by simpa using hs) (by simpa using h1)
 simp[execOp,hx,hy,Instr.storeAt,Instr.sureAddr,this]
theorem dw{b o:Nat}{cs us:aO}{T:TypeId}(hr:w.heap[b]? =some (.cells cs.toArray T (0,0)))(ho:o+us.length<=cs.length):
  (w.setCells b o us).heap[b]? =some (.cells (cs.take o++us++cs.drop (o+us.length)).toArray T (0,0))/\gW [b] w (w.setCells b o us):=by
 induction us generalizing w o cs with
 |nil=>exact⟨by simpa[World.setCells]using hr,gW.refl _ _⟩
 |cons u us ih=>
  have h1:(w.setCell ⟨b,o,none⟩ u).heap[b]? =some (.cells (cs.set o u).toArray T (0,0)):=by
   have:=Rows.jN (i:=o) (v:=u) hr;simpa using this
  obtain⟨h2,h3⟩:=ih (o:=o+1) h1 (by simp at ho |-;omega);rw[World.setCells];refine⟨?_,((lK.refl [b] w).setCell (by simp) o u).gX.trans h3⟩;rw[h2];simp at ho
  congr 2
  apply congrArg;apply List.ext_getElem?;intro j;simp only[List.getElem?_append,List.getElem?_take,qA,List.length_take,List.length_set,qI,List.getElem?_set,List.getElem?_drop]
  grind
theorem PG{x y:Operand}{o:BinOp}{t u:TypeId}{k:IntKind}{i j:Int}(hx:a.eval x=.int k i)(hy:a.eval y=.int k j)(hr:(binOp o t (.int k i) (.int k j)).run P w=.ok v w):
  (execOp a.eval ⟨dst,.binOp o t x y u,ty,pos,aft,g⟩).run P w=.ok (.value v) w:=by
 have he:(eqGuard o t x y (.int k i) (.int k j)).run P w=.ok () w:=by
  unfold eqGuard;split<;>rfl
 simp[execOp,hx,hy,he,hr]
theorem N7{t:TypeId}{i j z:Int}(h:IntKind.i64.wrap (i+j)=z):(binOp .add t (.int .i64 i) (.int .i64 j)).run P w=.ok (.int .i64 z) w:=by subst h;rfl
theorem Oi{t:TypeId}{i j z:Int}(h:IntKind.i64.wrap (i-j)=z):(binOp .sub t (.int .i64 i) (.int .i64 j)).run P w=.ok (.int .i64 z) w:=by subst h;rfl
theorem Od{t:TypeId}{i j z:Int}(h:IntKind.i64.wrap (i*j)=z):(binOp .mul t (.int .i64 i) (.int .i64 j)).run P w=.ok (.int .i64 z) w:=by subst h;rfl
theorem Og{t:TypeId}{i j z:Int}(hj:j≠0)(h:IntKind.i64.wrap (i.tdiv j)=z):(binOp .quo t (.int .i64 i) (.int .i64 j)).run P w=.ok (.int .i64 z) w:=by
 subst h;simp[binOp,Op.intDiv,hj]
theorem Oh{t:TypeId}{i j z:Int}(hj:j≠0)(h:i.tmod j=z):(binOp .rem t (.int .i64 i) (.int .i64 j)).run P w=.ok (.int .i64 z) w:=by
 subst h;simp[binOp,Op.intDiv,hj]
theorem N8{t:TypeId}{k:IntKind}{i j:Int}{b:Bool}(h:(i==j)=b):(binOp .eql t (.int k i) (.int k j)).run P w=.ok (.bool b) w:=by subst h;simp[binOp,Op.intCmp]
theorem Oe{t:TypeId}{k:IntKind}{i j:Int}{b:Bool}(h:(i !=j)=b):(binOp .neq t (.int k i) (.int k j)).run P w=.ok (.bool b) w:=by subst h;simp[binOp,Op.intCmp]
theorem Oc{t:TypeId}{k:IntKind}{i j:Int}{b:Bool}(h:decide (i<j)=b):(binOp .lss t (.int k i) (.int k j)).run P w=.ok (.bool b) w:=by subst h;simp[binOp,Op.intCmp]
theorem Ob{t:TypeId}{k:IntKind}{i j:Int}{b:Bool}(h:decide (i<=j)=b):(binOp .leq t (.int k i) (.int k j)).run P w=.ok (.bool b) w:=by subst h;simp[binOp,Op.intCmp]
theorem Oa{t:TypeId}{k:IntKind}{i j:Int}{b:Bool}(h:decide (j<i)=b):(binOp .gtr t (.int k i) (.int k j)).run P w=.ok (.bool b) w:=by subst h;simp[binOp,Op.intCmp]
theorem N9{t:TypeId}{k:IntKind}{i j:Int}{b:Bool}(h:decide (j<=i)=b):(binOp .geq t (.int k i) (.int k j)).run P w=.ok (.bool b) w:=by subst h;simp[binOp,Op.intCmp]
theorem PV{x:Operand}{t:TypeId}{b c:Bool}(hx:a.eval x=.bool b)(h:(!b)=c):(execOp a.eval ⟨dst,.unOp .not t x,ty,pos,aft,g⟩).run P w=.ok (.value (.bool c)) w:=by
 subst h;simp[execOp,hx,Op.unary]
theorem PU{x:Operand}{t:TypeId}{i z:Int}(hx:a.eval x=.int .i64 i)(h:IntKind.i64.wrap (0-i)=z):(execOp a.eval ⟨dst,.unOp .neg t x,ty,pos,aft,g⟩).run P w=.ok (.value (.int .i64 z)) w:=by
 subst h;simp[execOp,hx,Op.unary,Op.intArith]
theorem xZ{x:Operand}{t e s:Nat}{A:Option Addr}{m c:Nat}(hx:a.eval x=.slice A m c)(ht:bW P t=some (e,s)):(execOp a.eval ⟨dst,.call { callee:=.builtin .len,args:= #[x],argTypes:= #[t]},ty,pos,aft,g⟩).run P w=.ok (.value (.int .i64 m)) w:=by
 unfold bW at ht;split at ht
 .rename_i e' hu;simp[execOp,resolve,invoke,builtin,hx,Builtin.len_,run_underlying hu,goInt]
 .cases ht
theorem Hq{x y:Operand}{t e s b o m c k o':Nat}{i:Int}(hx:a.eval x=.slice (some ⟨b,o,none⟩) m c)(hy:a.eval y=.int .i64 i)(hi:i=(k:Int))(ht:bW P t=some (e,s))(hk:k<m)(ho:o+k*s=o'):
  (execOp a.eval ⟨dst,.indexAddr t x y,ty,pos,aft,g⟩).run P w=.ok (.value (.pointer (some ⟨b,o',none⟩))) w:=by
 subst ho hi;unfold bW at ht;split at ht
 .rename_i e' hu;cases hie:P.info? e' with
  |none=>rw[hie]at ht;simp at ht
  |some i=>
   rw[hie]at ht;simp at ht;obtain⟨rfl,rfl⟩:=ht;simp[execOp,hx,hy,Instr.indexAt,run_underlying hu,asIntOf,hk,sizeOf,typeInfo,hie,Addr.add_mid]
 .cases ht
theorem Ho{f:FuncId}{xs:List Operand}{ts:Array TypeId}{vs:aO}(hx:xs.map a.eval=vs)(hf:aU P f=true):(execOp a.eval ⟨dst,.call { callee:=.value (.func f),args:=xs.toArray,argTypes:=ts},ty,pos,aft,g⟩).run P w=.ok (.enter f vs.toArray) w:=by
 subst hx;unfold aU at hf;cases hq:P.funcs[f]? with
 |none=>rw[hq]at hf;simp at hf
 |some fn=>
  rw[hq]at hf;simp only[qD,Bool.not_eq_true',beq_eq_false_iff_ne,ne_eq]at hf;have hb:¬fn.body=none:=by cases h:fn.body<;>simp_all
  have he:a.eval (.func f)=.func (.func f) #[] #[]:=rfl;simp[execOp,resolve,Deferred.ofValue,he,invoke,callFunc,hq,hf.1,hb]
theorem DW{t:TypeId}{zs:aO}(hz:zeroOf P t=some zs):(execOp a.eval ⟨dst,.alloc t,ty,pos,aft,g⟩).run P w=.ok (.value (.pointer (some ⟨w.heap.size,0,none⟩))) (w.alloc (.cells zs.toArray t)):=by
 unfold zeroOf at hz;cases hi:P.info? t with
 |none=>rw[hi]at hz;simp at hz
 |some i=>
  rw[hi]at hz;simp only[Option.bind_some]at hz;cases hzz:i.zero with
  |none=>rw[hzz]at hz;simp at hz
  |some z=>
   rw[hzz]at hz;simp at hz;subst hz;simp[execOp,Instr.alloc,zeroValue,typeInfo,hi,hzz,newVar,newRow]
theorem K4{t:TypeId}{x:Operand}{us:aO}(hx:a.eval x=v)(hv:v.cells=us.toArray):(execOp a.eval ⟨dst,.box t x,ty,pos,aft,g⟩).run P w=.ok (.value (.pointer (some ⟨w.heap.size,0,none⟩))) (w.alloc (.cells us.toArray t)):=by
 simp[execOp,Instr.box,hx,hv,newVar,newRow]
theorem J5{t:TypeId}{ps:Array (Nat×Operand)}{qs:Array (Nat×Value)}(hp:(ps.map fun(i,x)=>(i,a.eval x))=qs)(hr:(Instr.build t qs).run P w=.ok v w):(execOp a.eval ⟨dst,.build t ps,ty,pos,aft,g⟩).run P w=.ok (.value v) w:=by
 subst hp;simp only[execOp,Sem.run_bind,hr,Result.andThen_ok,Sem.run_pure]
theorem AX{t m:Nat}{ps:Array (Nat×Operand)}{qs:Array (Nat×Value)}(hp:(ps.map fun(i,x)=>(i,a.eval x))=qs)(hr:(Instr.buildSlice t m qs).run P w=.ok v w'):(execOp a.eval ⟨dst,.buildSlice t m ps,ty,pos,aft,g⟩).run P w=.ok (.value v) w':=by
 subst hp;simp only[execOp,Sem.run_bind,hr,Result.andThen_ok,Sem.run_pure]
theorem QN{x:Operand}{t e s b o m c:Nat}{lo:Operand}{i:Nat}(hx:a.eval x=.slice (some ⟨b,o,none⟩) m c)(hlo:a.eval lo=.int .i64 i)(ht:bW P t=some (e,s))(hi:i<=m)(hc:i<c):
  (execOp a.eval ⟨dst,.slice t x (some lo) none none,ty,pos,aft,g⟩).run P w=.ok (.value (.slice (some ⟨b,o+i*s,none⟩) (m-i) (c-i))) w:=by
 unfold bW at ht;split at ht
 .rename_i e' hu;cases hie:P.info? e' with
  |none=>rw[hie]at ht;simp at ht
  |some t=>
   rw[hie]at ht;simp at ht;obtain⟨rfl,rfl⟩:=ht;have hne:c≠i:=by omega
   simp[execOp,hx,hlo,Instr.sliceAt,run_underlying hu,Instr.slice,Instr.sliceBounds,Instr.sliceBound,asIntOf,hi,sizeOf,typeInfo,hie,Addr.add_mid,hne]
 .cases ht
theorem rV{x:Operand}{t e s b o m c:Nat}{lo:Operand}{i:Nat}(hx:a.eval x=.slice (some ⟨b,o,none⟩) m c)(hlo:a.eval lo=.int .i64 i)(ht:bW P t=some (e,s))(hi:i<=m)(hc:m<=c):
  (execOp a.eval ⟨dst,.slice t x (some lo) none none,ty,pos,aft,g⟩).run P w=.ok (.value (.slice (some ⟨b,if c=i then o else o+i*s,none⟩) (m-i) (c-i))) w:=by
 unfold bW at ht;split at ht
 .rename_i e' hu;cases hie:P.info? e' with
  |none=>rw[hie]at ht;simp at ht
  |some t=>
   rw[hie]at ht;simp at ht;obtain⟨rfl,rfl⟩:=ht
   by_cases hne:c=i<;>simp[execOp,hx,hlo,Instr.sliceAt,run_underlying hu,Instr.slice,Instr.sliceBounds,Instr.sliceBound,asIntOf,hi,sizeOf,typeInfo,hie,Addr.add_mid,hne]
 .cases ht
theorem yc{x:Operand}{t e s b o m c:Nat}{lo:Operand}{i:Nat}(hx:a.eval x=.slice (some ⟨b,o,none⟩) m c)(hlo:a.eval lo=.int .i64 i)(ht:bW P t=some (e,s))(hc:i<=c):
  (execOp a.eval ⟨dst,.slice t x none (some lo) none,ty,pos,aft,g⟩).run P w=.ok (.value (.slice (some ⟨b,o,none⟩) i c)) w:=by
 unfold bW at ht;split at ht
 .rename_i e' hu;cases hie:P.info? e' with
  |none=>rw[hie]at ht;simp at ht
  |some t=>
   rw[hie]at ht;simp at ht;obtain⟨rfl,rfl⟩:=ht;simp[execOp,hx,hlo,Instr.sliceAt,run_underlying hu,Instr.slice,Instr.sliceBounds,Instr.sliceBound,asIntOf,hc,sizeOf,typeInfo,hie,Addr.add_mid]
 .cases ht
theorem Hz{x:Operand}{t e s m c:Nat}{A:Option Addr}{lo hi:Operand}{i j:Nat}(hx:a.eval x=.slice A m c)(hlo:a.eval lo=.int .i64 i)(hhi:a.eval hi=.int .i64 j)(ht:bW P t=some (e,s))(hi':i<=j)(hc:j<=c):
  (execOp a.eval ⟨dst,.slice t x (some lo) (some hi) none,ty,pos,aft,g⟩).run P w=.ok (.value (.slice (if c=i then A else A.map (·.add (i*s))) (j-i) (c-i))) w:=by
 unfold bW at ht;split at ht
 .rename_i e' hu;cases hie:P.info? e' with
  |none=>rw[hie]at ht;simp at ht
  |some t=>
   rw[hie]at ht;simp at ht;obtain⟨rfl,rfl⟩:=ht
   by_cases hne:c=i
   .have hj:j=i:=by omega
    subst hne;subst hj;simp[execOp,hx,hlo,hhi,Instr.sliceAt,run_underlying hu,Instr.slice,Instr.sliceBounds,Instr.sliceBound,asIntOf,sizeOf,typeInfo,hie]
   .simp[execOp,hx,hlo,hhi,Instr.sliceAt,run_underlying hu,Instr.slice,Instr.sliceBounds,Instr.sliceBound,asIntOf,hi',hc,sizeOf,typeInfo,hie,hne]
 .cases ht
theorem EN{x:Operand}{t e s m c:Nat}{A:Option Addr}{lo:Operand}{i:Nat}(hx:a.eval x=.slice A m c)(hlo:a.eval lo=.int .i64 i)(ht:bW P t=some (e,s))(hi':i<=m):
  (execOp a.eval ⟨dst,.slice t x (some lo) none none,ty,pos,aft,g⟩).run P w=.ok (.value (.slice (if c=i then A else A.map (·.add (i*s))) (m-i) (c-i))) w:=by
 unfold bW at ht;split at ht
 .rename_i e' hu;cases hie:P.info? e' with
  |none=>rw[hie]at ht;simp at ht
  |some t=>
   rw[hie]at ht;simp at ht;obtain⟨rfl,rfl⟩:=ht
   by_cases hne:c=i<;>simp[execOp,hx,hlo,Instr.sliceAt,run_underlying hu,Instr.slice,Instr.sliceBounds,Instr.sliceBound,asIntOf,hi',sizeOf,typeInfo,hie,hne]
 .cases ht
theorem EM{x:Operand}{t e s m c:Nat}{A:Option Addr}{hi:Operand}{j:Nat}(hx:a.eval x=.slice A m c)(hhi:a.eval hi=.int .i64 j)(ht:bW P t=some (e,s))(hc:j<=c):
  (execOp a.eval ⟨dst,.slice t x none (some hi) none,ty,pos,aft,g⟩).run P w=.ok (.value (.slice (if c=0 then A else A.map (·.add (0*s))) j c)) w:=by
 unfold bW at ht;split at ht
 .rename_i e' hu;cases hie:P.info? e' with
  |none=>rw[hie]at ht;simp at ht
  |some t=>
   rw[hie]at ht;simp at ht;obtain⟨rfl,rfl⟩:=ht
   by_cases hne:c=0
   .have hj:j=0:=by omega
    subst hne;subst hj;simp[execOp,hx,hhi,Instr.sliceAt,run_underlying hu,Instr.slice,Instr.sliceBounds,Instr.sliceBound,asIntOf,sizeOf,typeInfo,hie]
   .simp[execOp,hx,hhi,Instr.sliceAt,run_underlying hu,Instr.slice,Instr.sliceBounds,Instr.sliceBound,asIntOf,hc,sizeOf,typeInfo,hie,hne]
 .cases ht
end
end Go.Tr
namespace Go.Tr
open Go Go.RowKit
def bn.emp:bn where
 p _ F:=F=[]
 keep:=fun h _=>h
 lt:=fun h b hb=>by cases h;simp at hb
instance:Inhabited bn:=⟨bn.emp⟩
structure Step where
 dep:List Nat:=[]
 val:List Value->Value
 ok:List Value->Prop:=fun _=>True
 rd:List Nat:=[]
def Step.c(v:Value):Step:={ dep:=[],val:=fun _=>v,rd:=[]}
structure Lg where
 dep:List Nat:=[]
 res:List Value->bn
 prod:Option Nat:=none
 cons:Option Nat:=none
def Step.v(s:Step)(ν:Nat->Value):Value:=s.val (s.dep.map ν)
def Step.k(s:Step)(ν:Nat->Value):Prop:=s.ok (s.dep.map ν)
def Lg.r(s:Lg)(ν:Nat->Value):bn:=s.res (s.dep.map ν)
structure Flow where
 steps:List Step
 labs:List Lg
 anc:List (List Nat)
def upd(ν:Nat->Value)(i:Nat)(v:Value):Nat->Value:=fun j=>if j=i then v else ν j
def y9(x:Option (List Nat))(j:Nat):Bool:=match x with|some l=>l.contains j|none=>false
def kg(fl:Flow)(ops:Array Oper)(keys:List Nat)(n i:Nat)(o:Oper)(A:List Nat)(s:Step):Bool:=
 o.after.all (fun e=> !Region.binds .any e||Nat.blt e.on i)&&
 A.all (fun j=>o.after.any fun e=>Region.binds .any e&&(e.on==j||y9 fl.anc[e.on]? j))&&
 s.dep.all (fun j=>j==i||A.contains j)&&
 s.rd.all (fun ℓ=>match fl.labs[ℓ]? with
  |some b=>b.prod.all (fun p=>A.contains p)&&b.cons.all (fun c=>y9 fl.anc[c]? i)
  |none=>false)&&
 (match o.dst with
  |some d=> !keys.contains d&&Nat.blt d n&&(List.range ops.size).all (fun j=>j==i||(ops[j]?).bind (·.dst) !=some d)
  |none=>true)
def kL(fl:Flow)(m:Nat)(b:Lg):Bool:=
 (match b.prod with
  |none=>b.dep.isEmpty
  |some p=>Nat.blt p m&&b.dep.all (fun j=>j==p||y9 fl.anc[p]? j))&&
 (match b.cons with
  |none=>true
  |some c=>Nat.blt c m&& !(b.prod==some c)&&b.prod.all (fun p=>y9 fl.anc[c]? p))
def Flow.good(fl:Flow)(ops:Array Oper)(keys:List Nat)(n:Nat):Bool:=
 fl.steps.length==ops.size&&fl.anc.length==ops.size&&
 (List.range ops.size).all (fun i=>match ops[i]?,fl.anc[i]?,fl.steps[i]? with
  |some o,some A,some s=>kg fl ops keys n i o A s
  |_,_,_=>false)&&
 fl.labs.all (kL fl ops.size)
def Flow.r(fl:Flow)(ν:Nat->Value)(ℓ:Nat):bn:=match fl.labs[ℓ]? with|some b=>b.r ν|none=>bn.emp
def Flow.av(fl:Flow)(L:Array Bool)(ℓ:Nat):Bool:=match fl.labs[ℓ]? with
 |some b=>b.prod.all (fun p=>L.getD p false)&&b.cons.all (fun c=> !L.getD c false)
 |none=>false
def Flow.dJ(s:Step)(ℓ:Nat):Bool:=s.rd.contains ℓ
def Flow.bq(fl:Flow)(i ℓ:Nat):Bool:=match fl.labs[ℓ]? with|some b=>b.cons==some i|none=>false
def Flow.cK(fl:Flow)(i ℓ:Nat):Bool:=match fl.labs[ℓ]? with|some b=>b.prod==some i|none=>false
def Flow.lu(fl:Flow)(ℓ:Nat):Bool:=match fl.labs[ℓ]? with|some b=>b.prod.isNone|none=>false
def Flow.isFin(fl:Flow)(ℓ:Nat):Bool:=match fl.labs[ℓ]? with|some b=>b.cons.isNone|none=>false
def Flow.sel(fl:Flow)(ν:Nat->Value)(p:Nat->Bool):List bn:=((List.range fl.labs.length).filter p).map (fl.r ν)
section
variable {P:Program}{ops:Array Oper}{fl:Flow}{l0:List (Nat×Value)}{n:Nat}{w0:World}{F0:aG}
def Flow.J(ops:Array Oper)(fl:Flow)(l0:List (Nat×Value))(n:Nat)(w0:World)(F0:List Nat)(L:Array Bool)(a:Act)(w:World):Prop:=∃ν:Nat->Value,
 (∀(i:Nat) (s:Step),fl.steps[i]? =some s->L.getD i false=true->s.k ν)/\
 (∀(i:Nat) (s:Step) (o:Oper) (d:Nat),fl.steps[i]? =some s->ops[i]? =some o->L.getD i false=true->o.dst=some d->a.tmps[d]? =some (s.v ν))/\
 Env n a l0/\Inv w0 F0 w (fl.sel ν (fl.av L))
def Gives(P:Program)(ops:Array Oper)(o:Oper)(a:Act)(w:World)(K:Value->World->Prop):Prop:=
 (Region.wanted o (yielded ops a.tmps)=true/\((∃v w',(execOp a.eval o).run P w=.ok (.value v) w'/\K v w')\/(∃w',(execOp a.eval o).run P w=.ok .skip w'/\K undef w')\/
  ∃f args,(execOp a.eval o).run P w=.ok (.enter f args) w/\Calls P f args w fun e w'=>∃v,e=.returned v/\K v w'))\/
 (Region.wanted o (yielded ops a.tmps)=false/\K undef w)
theorem Gives.wpOp{Q:Exit->Act->World->Prop}{o:Oper}{a:Act}{w:World}{K:Value->World->Prop}{K':Act->World->Prop}{i:Nat}(h:Gives P ops o a w K)(hi:ops[i]? =some o)(hk:∀v w',K v w'->K' (a.put o.dst v) w'):wpOp P ops Q i K' a w:=by
 unfold Go.wpOp;simp only[hi];rcases h with⟨hw,h⟩|⟨hw,h⟩
 .rw[if_pos hw];refine .inl ?_;unfold Oper.wp;rcases h with⟨v,w',hr,h⟩|⟨w',hr,h⟩|⟨f,args,hr,h⟩
  .rw[hr];exact hk _ _ h
  .rw[hr];exact hk _ _ h
  .rw[hr];refine h.mono fun e w' h=> ?_
   obtain⟨v,rfl,h⟩:=h;exact hk _ _ h
 .rw[if_neg (by simp[hw])];exact hk _ _ h
def Flow.Sm(P:Program)(ops:Array Oper)(fl:Flow)(l0:List (Nat×Value))(n:Nat)(w0:World)(F0:List Nat)(i:Nat):Prop:=
 ∃s o A,fl.steps[i]? =some s/\ops[i]? =some o/\fl.anc[i]? =some A/\∀(ν:Nat->Value) (a:Act) (w:World) (rs:List bn),Env n a l0->(∀j∈A,∀s:Step,fl.steps[j]? =some s->s.k ν)->
  (∀j∈A,∀(s:Step) (o:Oper) (d:Nat),fl.steps[j]? =some s->ops[j]? =some o->o.dst=some d->a.tmps[d]? =some (s.v ν))->Inv w0 F0 w (fl.sel ν (Flow.dJ s)++(fl.sel ν (fl.bq i)++rs))->
  Gives P ops o a w fun v w'=>s.k (upd ν i v)/\s.v (upd ν i v)=v/\Inv w0 F0 w' (fl.sel ν (Flow.dJ s)++(fl.sel (upd ν i v) (fl.cK i)++rs))
theorem o9{α:Type}(p p1 p2 p3:α->Bool):∀(l:List α),(∀x∈l,(p x=(p1 x||p2 x||p3 x))/\(p1 x&&p2 x)=false/\(p1 x&&p3 x)=false/\(p2 x&&p3 x)=false)->(l.filter p).Perm (l.filter p1++(l.filter p2++l.filter p3))
 |[],_=>by simp
 |x::l,h=>by
  have ih:=o9 p p1 p2 p3 l (fun y hy=>h y (by simp[hy]));obtain⟨h0,h12,h13,h23⟩:=h x (by simp);cases e1:p1 x<;>cases e2:p2 x<;>cases e3:p3 x<;>simp[e1,e2,e3]at h0 h12 h13 h23
  .simpa[List.filter_cons,e1,e2,e3,h0]using ih
  .simp only[List.filter_cons,e1,e2,e3,h0,if_true,Bool.false_eq_true,if_false];refine(ih.cons x).trans ?_;rw[<-qF,<-qF];exact List.perm_middle.symm
  .simp only[List.filter_cons,e1,e2,e3,h0,if_true,Bool.false_eq_true,if_false,List.cons_append];exact(ih.cons x).trans List.perm_middle.symm
  .simp only[List.filter_cons,e1,e2,e3,h0,if_true,Bool.false_eq_true,if_false,List.cons_append];exact ih.cons x
theorem good_step(hg:fl.good ops (l0.map (·.1)) n=true){i:Nat}{o:Oper}(ho:ops[i]? =some o):∃A s,fl.anc[i]? =some A/\fl.steps[i]? =some s/\kg fl ops (l0.map (·.1)) n i o A s=true:=by
 unfold Flow.good at hg;simp only[qD,List.all_eq_true]at hg;have hi:=(Array.getElem?_eq_some_iff.1 ho).1;have h:=hg.1.2 i (by simpa using hi);rw[ho]at h;cases hA:fl.anc[i]? with
 |none=>rw[hA]at h;simp at h
 |some A=>
  cases hs:fl.steps[i]? with
  |none=>rw[hA,hs]at h;simp at h
  |some s=>rw[hA,hs]at h;exact⟨A,s,rfl,rfl,h⟩
theorem pI(hg:fl.good ops (l0.map (·.1)) n=true){ℓ:Nat}{b:Lg}(hb:fl.labs[ℓ]? =some b):kL fl ops.size b=true:=by
 unfold Flow.good at hg;simp only[qD,List.all_eq_true]at hg;exact hg.2 b (List.mem_of_getElem? hb)
theorem dM{x:Option (List Nat)}{j:Nat}(h:y9 x j=true):∃l,x=some l/\j∈l:=by
 unfold y9 at h;cases x with
 |none=>simp at h
 |some l=>exact⟨l,rfl,by simpa using h⟩
theorem uK(hg:fl.good ops (l0.map (·.1)) n=true){L:Array Bool}(hc:Closed .any ops L):∀(i:Nat) (o:Oper) (A:aG),ops[i]? =some o->fl.anc[i]? =some A->(∀e∈o.after,Region.binds .any e=true->L.getD e.on false=true)->∀j∈A,L.getD j false=true:=by
 intro i
 induction i using Nat.strongRecOn with
 |_ i ih=>
  intro o A ho hA hall j hj;obtain⟨A',s,hA',hs,hgd⟩:=good_step hg ho;rw[hA]at hA';injection hA' with hA'
  subst hA';unfold kg at hgd;simp only[qD,List.all_eq_true]at hgd;have h2:=hgd.1.1.1.2 j hj;rw[Array.any_eq_true']at h2;obtain⟨e,he,h3⟩:=h2;rw[qD,Bool.or_eq_true,beq_iff_eq]at h3;have hl:=hall e he h3.1;rcases h3.2 with h4|h4
  .rw[<-h4];exact hl
  .obtain⟨B,hB,hjB⟩:=dM h4
   have hlt:e.on<i:=by
    have h5:=hgd.1.1.1.1;rw[Array.all_eq_true_iff_forall_mem]at h5;have:=h5 e he;rw[h3.1]at this;simpa using this
   have hsz:e.on<ops.size:=by
    have:=(Array.getElem?_eq_some_iff.1 ho).1;omega
   exact ih e.on hlt ops[e.on] B (Array.getElem?_eq_getElem hsz) hB (hc e.on _ (Array.getElem?_eq_getElem hsz) hl) j hjB
theorem upd_same(ν:Nat->Value)(i:Nat)(v:Value):upd ν i v i=v:=by simp[upd]
theorem zR{ν:Nat->Value}{i:Nat}{v:Value}{l:aG}(h:i∉l):l.map (upd ν i v)=l.map ν:=List.map_congr_left fun j hj=>by
 have:j≠i:=fun e=>h (e▸hj)
 simp[upd,this]
theorem Lf(hg:fl.good ops (l0.map (·.1)) n=true){L:Array Bool}(hL:L.size=ops.size)(hc:Closed .any ops L){a:Act}{w:World}(hJ:Flow.J ops fl l0 n w0 F0 L a w){i:Nat}(hr:i∈Region.ready .any ops L)(hob:Flow.Sm P ops fl l0 n w0 F0 i)(Q:Exit->Act->World->Prop):
  wpOp P ops Q i (fun a' w'=>Flow.J ops fl l0 n w0 F0 (L.setIfInBounds i true) a' w') a w:=by
 obtain⟨hun,o,ho,hall⟩:=mem_ready.1 hr;have hun':=kJ hun;obtain⟨A,s,hA,hs,hgd⟩:=good_step hg ho;obtain⟨s',o',A',hs',ho',hA',hob⟩:=hob;rw[hs]at hs';rw[ho]at ho';rw[hA]at hA';injection hs' with hs';injection ho' with ho';injection hA' with hA'
 subst hs' ho' hA';have hancL:=uK hg hc i o A ho hA hall;obtain⟨ν,h1,h2,hE,hI⟩:=hJ;have hisz:i<L.size:=by rw[hL];exact(Array.getElem?_eq_some_iff.1 ho).1
 unfold kg at hgd;simp only[qD,List.all_eq_true]at hgd;obtain⟨⟨⟨⟨hlt,hanc⟩,hdep⟩,hrd⟩,hdst⟩:=hgd
 have hnot:∀(c:Nat) (oc:Oper) (B:List Nat),ops[c]? =some oc->fl.anc[c]? =some B->i∈B->L.getD c false=false:=by
  intro c oc B hoc hB hiB;cases hcl:L.getD c false with
  |false=>rfl
  |true=>
   have:=uK hg hc c oc B hoc hB (hc c oc hoc hcl) i hiB;rw[hun']at this;cases this
 have hopsOf:∀c,c<ops.size->∃oc,ops[c]? =some oc:=fun c h=>⟨_,Array.getElem?_eq_getElem h⟩
 have hperm:((List.range fl.labs.length).filter (fl.av L)).Perm ((List.range fl.labs.length).filter (Flow.dJ s)++((List.range fl.labs.length).filter (fl.bq i)++(List.range fl.labs.length).filter (fun ℓ=>fl.av L ℓ&& !Flow.dJ s ℓ&& !fl.bq i ℓ))):=by
  refine o9 _ _ _ _ _ fun ℓ hℓ=> ?_
  have hℓ':ℓ<fl.labs.length:=by simpa using hℓ
  have hb:fl.labs[ℓ]? =some fl.labs[ℓ]:=qB hℓ';have hbg:=pI hg hb
  have k1:Flow.dJ s ℓ=true->fl.av L ℓ=true/\fl.bq i ℓ=false:=fun hr=>by
   unfold Flow.dJ at hr;have h3:=hrd ℓ (by simpa using hr);rw[hb]at h3;simp only[qD]at h3;refine⟨?_,?_⟩
   .unfold Flow.av;rw[hb];simp only[qD];refine⟨?_,?_⟩
    .cases hp:fl.labs[ℓ].prod with
     |none=>rfl
     |some p=>
      rw[hp]at h3;exact hancL p (by simpa using h3.1)
    .cases hq:fl.labs[ℓ].cons with
     |none=>rfl
     |some c=>
      rw[hq]at h3;obtain⟨B,hB,hiB⟩:=dM h3.2;unfold kL at hbg;simp only[hq,qD]at hbg;obtain⟨oc,hoc⟩:=hopsOf c (by simpa using hbg.2.1.1);simp[hnot c oc B hoc hB hiB, -Array.getD_eq_getD_getElem?]
   .unfold Flow.bq;rw[hb];show(fl.labs[ℓ].cons==some i)=false;cases hq:fl.labs[ℓ].cons with
    |none=>rfl
    |some c=>
     rw[hq]at h3;obtain⟨B,hB,hiB⟩:=dM h3.2;simp only[beq_eq_false_iff_ne,ne_eq,Option.some.injEq];rintro rfl;rw[hA]at hB;injection hB with hB
     subst hB;have:=hancL c hiB;rw[hun']at this;cases this
  have k2:fl.bq i ℓ=true->fl.av L ℓ=true:=fun hr=>by
   unfold Flow.bq at hr;rw[hb]at hr;have hq:fl.labs[ℓ].cons=some i:=by simpa using hr
   unfold kL at hbg;simp only[hq,qD]at hbg;unfold Flow.av;rw[hb];simp only[hq,qD,Option.all_some,hun',Bool.not_false,and_true];cases hp:fl.labs[ℓ].prod with
   |none=>rfl
   |some p=>
    rw[hp]at hbg;obtain⟨B,hB,hpB⟩:=dM hbg.2.2;rw[hA]at hB;injection hB with hB
    subst hB;exact hancL p hpB
  cases e1:Flow.dJ s ℓ<;>cases e2:fl.bq i ℓ<;>cases e3:fl.av L ℓ<;>simp_all
 have hI2:Inv w0 F0 w (fl.sel ν (Flow.dJ s)++(fl.sel ν (fl.bq i)++fl.sel ν (fun ℓ=>fl.av L ℓ&& !Flow.dJ s ℓ&& !fl.bq i ℓ))):=hI.perm (by
  unfold Flow.sel;rw[<-qZ,<-qZ];exact hperm.map _)
 refine(hob ν a w _ hE (fun j hj s hs=>h1 j s hs (hancL j hj)) (fun j hj s o d hs ho hd=>h2 j s o d hs ho (hancL j hj) hd) hI2).wpOp ho fun v w' ⟨hk,hv,hI3⟩=> ?_
 have hself:(L.setIfInBounds i true).getD i false=true:=by simp[hisz]
 have hLi:∀j,(L.setIfInBounds i true).getD j false=true->j=i\/L.getD j false=true:=fun j hj=>by
  by_cases e:j=i
  .exact .inl e
  .exact .inr (sN hj e)
 have hfree:∀(j:Nat) (sj:Step),fl.steps[j]? =some sj->L.getD j false=true->i∉sj.dep:=fun j sj hsj hLj hm=>by
  have hjs:j<ops.size:=by
   have:j<L.size:=by
    rcases Nat.lt_or_ge j L.size with h|h
    .exact h
    .simp[Array.getElem?_eq_none h]at hLj
   omega
  obtain⟨oj,hoj⟩:=hopsOf j hjs;obtain⟨B,sj',hB,hsj',hgj⟩:=good_step hg hoj;rw[hsj]at hsj';injection hsj' with hsj'
  subst hsj';unfold kg at hgj;simp only[qD,List.all_eq_true]at hgj;have h3:=hgj.1.1.2 i hm;rw[Bool.or_eq_true,beq_iff_eq]at h3;rcases h3 with rfl|h3
  .rw[hun']at hLj;cases hLj
  .have:=hnot j oj B hoj hB (by simpa using h3);rw[hLj]at this;cases this
 have hfreeL:∀(ℓ:Nat) (b:Lg),fl.labs[ℓ]? =some b->b.prod.all (fun p=>L.getD p false)=true->b.r (upd ν i v)=b.r ν:=fun ℓ b hb hp=>by
  have hbg:=pI hg hb;unfold kL at hbg;unfold Lg.r
  congr 1
  refine zR fun hm=> ?_
  cases hpp:b.prod with
  |none=>
   simp only[hpp,qD]at hbg;have:=hbg.1;rw[List.isEmpty_iff]at this;rw[this]at hm;simp at hm
  |some p=>
   simp only[hpp,qD,List.all_eq_true]at hbg;rw[hpp]at hp;simp only[Option.all_some]at hp;have h3:=hbg.1.2 i hm;rw[Bool.or_eq_true,beq_iff_eq]at h3;rcases h3 with rfl|h3
   .rw[hun']at hp;cases hp
   .obtain⟨B,hB,hiB⟩:=dM h3;obtain⟨op,hop⟩:=hopsOf p (by simpa using hbg.1.1);have:=hnot p op B hop hB hiB;rw[hp]at this;cases this
 refine⟨upd ν i v,fun j sj hsj hLj=> ?_,fun j sj oj d hsj hoj hLj0 hd=> ?_,?_,?_⟩
 .rcases hLi j hLj with rfl|hLj
  .rw[hs]at hsj;injection hsj with hsj;subst hsj;exact hk
  .unfold Step.k;rw[zR (hfree j sj hsj hLj)];exact h1 j sj hsj hLj
 .rcases hLi j hLj0 with rfl|hLj
  .rw[hs]at hsj;injection hsj with hsj;subst hsj
   rw[ho]at hoj;injection hoj with hoj;subst hoj
   rw[hv,hd];rw[hd]at hdst;simp only[qD]at hdst;have hdn:d<n:=by simpa using hdst.1.2
   show(a.tmps.setIfInBounds d v)[d]? =some v;simp[hE.size,hdn]
  .unfold Step.v;rw[zR (hfree j sj hsj hLj)];have h3:=h2 j sj oj d hsj hoj hLj hd;cases hod:o.dst with
   |none=>exact h3
   |some d'=>
    have hne:d≠d':=fun e=>by
     subst e;rw[hod]at hdst;simp only[qD,List.all_eq_true]at hdst;have h4:=hdst.2 j (by simpa using(Array.getElem?_eq_some_iff.1 hoj).1);rw[Bool.or_eq_true,beq_iff_eq,hoj]at h4;rcases h4 with rfl|h4
     .rw[hun']at hLj;cases hLj
     .simp[hd]at h4
    show(a.tmps.setIfInBounds d' v)[d]? =_;rw[Array.getElem?_setIfInBounds_ne (fun e=>hne e.symm)];exact h3
 .cases hod:o.dst with
  |none=>exact hE
  |some d=>
   rw[hod]at hdst;simp only[qD]at hdst;refine⟨by simp[Act.put,hE.size],hE.defers,fun t u hl=> ?_⟩
   have hne:t≠d:=fun e=>by
    subst e;have h4:=hdst.1.1;simp only[Bool.not_eq_true',List.contains_eq_mem,qP]at h4
    have:∀(l:List (Nat×Value)),l.lookup t=some u->t∈l.map (·.1):=by
     intro l
     induction l with
     |nil=>intro h;simp at h
     |cons x l ih=>
      intro h;rw[List.lookup_cons]at h
      by_cases e:t=x.1
      .simp[e]
      .have:(t==x.1)=false:=by simpa using e
       rw[this]at h;simp[ih h]
    exact h4 (this l0 hl)
   show(a.tmps.setIfInBounds d v)[t]? =some u;rw[Array.getElem?_setIfInBounds_ne (fun e=>hne e.symm)];exact hE.get t u hl
 .refine Inv.perm hI3 ?_
  have e1:fl.sel ν (Flow.dJ s)=fl.sel (upd ν i v) (Flow.dJ s):=by
   unfold Flow.sel;refine List.map_congr_left fun ℓ hℓ=> ?_
   have hℓ2:=(List.mem_filter.1 hℓ).2;unfold Flow.dJ at hℓ2;have h3:=hrd ℓ (by simpa using hℓ2);unfold Flow.r;cases hb:fl.labs[ℓ]? with
   |none=>rfl
   |some b=>
    rw[hb]at h3;simp only[qD]at h3;refine(hfreeL ℓ b hb ?_).symm;cases hp:b.prod with
    |none=>rfl
    |some p=>rw[hp]at h3;exact hancL p (by simpa using h3.1)
  have e2:fl.sel ν (fun ℓ=>fl.av L ℓ&& !Flow.dJ s ℓ&& !fl.bq i ℓ)=fl.sel (upd ν i v) (fun ℓ=>fl.av L ℓ&& !Flow.dJ s ℓ&& !fl.bq i ℓ):=by
   unfold Flow.sel;refine List.map_congr_left fun ℓ hℓ=> ?_
   have hℓ2:=(List.mem_filter.1 hℓ).2;simp only[qD]at hℓ2;have h3:=hℓ2.1.1;unfold Flow.av at h3;unfold Flow.r;cases hb:fl.labs[ℓ]? with
   |none=>rfl
   |some b=>
    rw[hb]at h3;simp only[qD]at h3;exact(hfreeL ℓ b hb h3.1).symm
  rw[e1,e2];unfold Flow.sel;rw[<-qZ,<-qZ];refine List.Perm.map _ (List.Perm.symm (o9 _ _ _ _ _ fun ℓ hℓ=> ?_));have hℓ':ℓ<fl.labs.length:=by simpa using hℓ
  have hb:fl.labs[ℓ]? =some fl.labs[ℓ]:=qB hℓ';have hbg:=pI hg hb
  have hset:∀j,(L.setIfInBounds i true).getD j false=(decide (j=i)||L.getD j false):=fun j=>by
   by_cases e:j=i
   .subst e;rw[hself];simp
   .rw[getD_set_ne false (fun e'=>e e'.symm)];simp[e]
  have k1:Flow.dJ s ℓ=true->fl.av L ℓ=true/\fl.bq i ℓ=false/\fl.cK i ℓ=false:=fun hr=>by
   have hmem:ℓ∈(List.range fl.labs.length).filter (Flow.dJ s):=List.mem_filter.2 ⟨hℓ,hr⟩;have hav:fl.av L ℓ=true:=(List.mem_filter.1 (hperm.mem_iff.2 (List.mem_append_left _ hmem))).2;refine⟨hav,?_,?_⟩
   .unfold Flow.dJ at hr;have h3:=hrd ℓ (by simpa using hr);rw[hb]at h3;simp only[qD]at h3;unfold Flow.bq;rw[hb];show(fl.labs[ℓ].cons==some i)=false;cases hq:fl.labs[ℓ].cons with
    |none=>rfl
    |some c=>
     rw[hq]at h3;obtain⟨B,hB,hiB⟩:=dM h3.2;simp only[beq_eq_false_iff_ne,ne_eq,Option.some.injEq];rintro rfl;rw[hA]at hB;injection hB with hB
     subst hB;have:=hancL c hiB;rw[hun']at this;cases this
   .unfold Flow.av at hav;unfold Flow.cK;rw[hb]at hav |-;simp only[qD]at hav;show(fl.labs[ℓ].prod==some i)=false;cases hp:fl.labs[ℓ].prod with
    |none=>rfl
    |some p=>
     rw[hp]at hav;simp only[beq_eq_false_iff_ne,ne_eq,Option.some.injEq];rintro rfl;have:=hav.1;simp only[Option.all_some]at this;rw[hun']at this;cases this
  have k3:fl.av (L.setIfInBounds i true) ℓ=((fl.av L ℓ&& !fl.bq i ℓ)||fl.cK i ℓ):=by
   unfold Flow.av Flow.bq Flow.cK;rw[hb];simp only[hset];cases hp:fl.labs[ℓ].prod with
   |none=>
    cases hq:fl.labs[ℓ].cons with
    |none=>simp[-Array.getD_eq_getD_getElem?]
    |some c=>
     by_cases e:c=i
     .subst e;simp[-Array.getD_eq_getD_getElem?]
     .simp[e, -Array.getD_eq_getD_getElem?]
   |some p=>
    by_cases ep:p=i
    .subst ep;cases hq:fl.labs[ℓ].cons with
     |none=>simp[-Array.getD_eq_getD_getElem?]
     |some c=>
      unfold kL at hbg;simp only[hp,hq,qD,Option.all_some]at hbg;obtain⟨B,hB,hiB⟩:=dM hbg.2.2;obtain⟨oc,hoc⟩:=hopsOf c (by simpa using hbg.2.1.1);have h4:=hnot c oc B hoc hB hiB
      have hne:c≠p:=fun e=>by
       subst e;have:=hbg.2.1.2;simp at this
      simp[h4,hne, -Array.getD_eq_getD_getElem?]
    .cases hq:fl.labs[ℓ].cons with
     |none=>simp[ep, -Array.getD_eq_getD_getElem?]
     |some c=>
      by_cases e:c=i
      .subst e;simp[ep, -Array.getD_eq_getD_getElem?]
      .have e1:(c==i)=false:=by simpa using e
       have e2:(p==i)=false:=by simpa using ep
       simp[e1,e2,e,ep, -Array.getD_eq_getD_getElem?]
  have k4:fl.cK i ℓ=true->fl.av L ℓ=false:=fun hr=>by
   unfold Flow.cK at hr;rw[hb]at hr;have hp:fl.labs[ℓ].prod=some i:=by simpa using hr
   unfold Flow.av;rw[hb];simp[hp,hun', -Array.getD_eq_getD_getElem?]
  rw[k3];clear hperm hI hI2 hI3 hdst hdep hanc hlt hrd h1 h2 hob hnot hopsOf hfree hfreeL hset hself hLi k3;generalize Flow.dJ s ℓ=x1 at*;generalize fl.bq i ℓ=x2 at*;generalize fl.av L ℓ=x3 at*;generalize fl.cK i ℓ=x4 at*;clear hbg hb;cases x1<;>cases x2<;>cases x3<;>cases x4<;>simp at k1 k4 |-
theorem ready_nil{L:Array Bool}(hg:fl.good ops (l0.map (·.1)) n=true)(hL:L.size=ops.size)(hr:Region.ready .any ops L=[]):∀i,i<ops.size->L.getD i false=true:=by
 intro i
 induction i using Nat.strongRecOn with
 |_ i ih=>
  intro hi;cases hl:L.getD i false with
  |true=>rfl
  |false=>
   exfalso;have ho:ops[i]? =some ops[i]:=Array.getElem?_eq_getElem hi;obtain⟨A,s,hA,hs,hgd⟩:=good_step hg ho;unfold kg at hgd;simp only[qD,List.all_eq_true]at hgd
   have hmem:i∈Region.ready .any ops L:=mem_ready.2 ⟨by
    have hiL:i<L.size:=by omega
    simp[hiL]at hl |-
    exact hl,ops[i],ho,fun e he hb=>by
     have h5:=hgd.1.1.1.1;rw[Array.all_eq_true_iff_forall_mem]at h5;have:=h5 e he;rw[hb]at this;have hlt:e.on<i:=by simpa using this
     exact ih e.on hlt (by omega)⟩
   rw[hr]at hmem;cases hmem
theorem F8{Q:Exit->Act->World->Prop}(hg:fl.good ops (l0.map (·.1)) n=true)(hob:∀i,i<ops.size->Flow.Sm P ops fl l0 n w0 F0 i)
  (hfin:∀L a w,(∀i,i<ops.size->L.getD i false=true)->Flow.J ops fl l0 n w0 F0 L a w->Q .normal a w):
  ∀(fuel:Nat) (L:Array Bool) (a:Act) (w:World),L.size=ops.size->Closed .any ops L->(List.range ops.size).countP (fun i=> !L.getD i false)<=fuel->Flow.J ops fl l0 n w0 F0 L a w->wpAny P .any ops Q fuel L a w:=by
 intro fuel
 induction fuel with
 |zero=>
  intro L a w hL hc hcnt hJ
  have hall:∀i,i<ops.size->L.getD i false=true:=fun i hi=>by
   have h0:(List.range ops.size).countP (fun i=> !L.getD i false)=0:=by omega
   rw[List.countP_eq_zero]at h0;have:=h0 i (by simpa using hi);simpa using this
  refine⟨?_,hfin L a w hall hJ⟩;rw[List.eq_nil_iff_forall_not_mem];intro i hi;obtain⟨h1,o,ho,_⟩:=mem_ready.1 hi;have h2:=hall i (Array.getElem?_eq_some_iff.1 ho).1;rw[kJ h1]at h2;cases h2
 |succ fuel ih=>
  intro L a w hL hc hcnt hJ;refine⟨fun hr=>hfin L a w (ready_nil hg hL hr) hJ,fun i hi=> ?_⟩;obtain⟨h1,o,ho,_⟩:=mem_ready.1 hi;have hio:=(Array.getElem?_eq_some_iff.1 ho).1;refine wpOp_mono (fun a' w' hJ'=> ?_) (Lf hg hL hc hJ hi (hob i hio) Q);refine ih _ a' w' (by simp[hL]) (hc.set hi) ?_ hJ';have hun:=kJ h1
  have hlt:(List.range ops.size).countP (fun j=> !(L.setIfInBounds i true).getD j false)<(List.range ops.size).countP (fun j=> !L.getD j false):=by
   have key:∀l:List Nat,(l.countP (fun j=> !(L.setIfInBounds i true).getD j false)<=l.countP (fun j=> !L.getD j false))/\(i∈l->l.countP (fun j=> !(L.setIfInBounds i true).getD j false)<l.countP (fun j=> !L.getD j false)):=by
    intro l
    induction l with
    |nil=>simp
    |cons x l ihl=>
     by_cases e:x=i
     .subst e;have hs:(L.setIfInBounds x true).getD x false=true:=by simp[show x<L.size by omega]
      rw[List.countP_cons,List.countP_cons,hs,hun];simp;have:=ihl.1;simp at this;omega
     .have hs:(L.setIfInBounds i true).getD x false=L.getD x false:=getD_set_ne false (fun e'=>e e'.symm);rw[List.countP_cons,List.countP_cons,hs];refine⟨by have:=ihl.1;omega,fun hm=> ?_⟩
      have hm':i∈l:=by
       rcases List.mem_cons.1 hm with h|h
       .exact absurd h.symm e
       .exact h
      have:=ihl.2 hm';omega
   exact(key _).2 (by simpa using hio)
  omega
def nI(p:Nat->Prop):Nat->Prop
 |0=>True
 |k+1=>nI p k/\p k
theorem nI.spec{p:Nat->Prop}:∀{k:Nat},nI p k->∀i,i<k->p i
 |0,_,i,h=>by omega
 |k+1,⟨h1,h2⟩,i,h=>by
  by_cases e:i=k
  .subst e;exact h2
  .exact nI.spec h1 i (by omega)
theorem nI.zero(p:Nat->Prop):nI p 0:=trivial
theorem nI.snoc{p:Nat->Prop}{k:Nat}(h:nI p k)(h2:p k):nI p (k+1):=⟨h,h2⟩
theorem Rn{id:Nat}{Q:Exit->Act->World->Prop}{a:Act}{w:World}{l:List Oper}{rs:List bn}(hm:P.follows .mixedOrders=true)(fl:Flow)(E:Env n a l0)(hI:Inv w0 F0 w (fl.sel (fun _=>undef) fl.lu++rs))(m:Nat)(hml:Nat.beq l.length m=true)
  (hg:fl.good l.toArray (l0.map (·.1)) n=true) (hob:nI (Flow.Sm P l.toArray fl l0 n w0 F0) m)
  (hfin:∀(ν:Nat->Value) a w,Env n a l0->(∀(i:Nat) (s:Step),fl.steps[i]? =some s->s.k ν)->(∀(i:Nat) (s:Step) (o:Oper) (d:Nat),fl.steps[i]? =some s->l[i]? =some o->o.dst=some d->a.tmps[d]? =some (s.v ν))->Inv w0 F0 w (fl.sel ν fl.isFin)->Q .normal a w):
  (Code.region id l.toArray true).wp P Q a w:=by
 have hml':l.length=m:=by simpa using hml
 refine wp_region_any hm ?_;have hsz:l.toArray.size=m:=by simpa using hml'
 rw[hsz];refine F8 (fl:=fl) (l0:=l0) (n:=n) (w0:=w0) (F0:=F0) hg (fun i hi=>hob.spec i (by omega)) (fun L a w hall hJ=> ?_) m _ a _ (by simp[hml']) ?_ ?_ ?_
 .obtain⟨ν,h1,h2,hE,hI⟩:=hJ
  have hlen:fl.steps.length=l.toArray.size:=by
   unfold Flow.good at hg;simp only[qD,beq_iff_eq]at hg;exact hg.1.1.1
  have hall':∀i s,fl.steps[i]? =some s->L.getD i false=true:=fun i s hs=>hall i (by have:=(qE.1 hs).1;omega)
  refine hfin ν a w hE (fun i s hs=>h1 i s hs (hall' i s hs)) (fun i s o d hs ho hd=>h2 i s o d hs (by simpa using ho) (hall' i s hs) hd) ?_;refine hI.perm ?_;unfold Flow.sel;refine List.Perm.of_eq ?_
  congr 1
  refine List.filter_congr fun ℓ hℓ=> ?_
  have hℓ':ℓ<fl.labs.length:=by simpa using hℓ
  have hb:fl.labs[ℓ]? =some fl.labs[ℓ]:=qB hℓ';have hbg:=pI hg hb;unfold Flow.av Flow.isFin;rw[hb];unfold kL at hbg;simp only[];cases hq:fl.labs[ℓ].cons with
  |none=>
   cases hp:fl.labs[ℓ].prod with
   |none=>simp
   |some p=>
    simp only[hp,hq,qD]at hbg;simp[hall p (by have:=hbg.1.1;simpa using this), -Array.getD_eq_getD_getElem?]
  |some c=>
   simp only[hq,qD]at hbg;simp[hall c (by have:=hbg.2.1.1;simpa using this), -Array.getD_eq_getD_getElem?]
 .intro x o ho hx;simp at hx;exfalso;rcases Nat.lt_or_ge x m with h|h
  .simp[h]at hx
  .simp[Nat.not_lt.2 h]at hx
 .refine Nat.le_trans List.countP_le_length ?_;simp[hml']
 .refine⟨fun _=>undef,fun i s hs hl=> ?_,fun i s o d hs ho hl=> ?_,E,?_⟩
  .exfalso;rcases Nat.lt_or_ge i m with h|h
   .simp[h]at hl
   .simp[Nat.not_lt.2 h]at hl
  .exfalso;rcases Nat.lt_or_ge i m with h|h
   .simp[h]at hl
   .simp[Nat.not_lt.2 h]at hl
  .have hI':Inv w0 F0 w (fl.sel (fun _=>undef) fl.lu):=by
    obtain⟨F,h2,h3,h4⟩:=Inv.frame (pre:=fl.sel (fun _=>undef) fl.lu) (rest:=rs) hI;obtain⟨G,h5,h6⟩:=hI.sep;obtain⟨G1,G2,rfl,h7,_,_⟩:=Sep.append.1 h5;exact⟨hI.gX,G1,h7,fun b hb=>h6 b (by simp[hb])⟩
   refine Inv.perm (hI'.ext ((Below.refl _ _).drew)) ?_;unfold Flow.sel;refine List.Perm.of_eq ?_
   congr 1
   refine List.filter_congr fun ℓ hℓ=> ?_
   have hℓ':ℓ<fl.labs.length:=by simpa using hℓ
   have hb:fl.labs[ℓ]? =some fl.labs[ℓ]:=qB hℓ'
   have hgd:∀j,(Array.replicate m false).getD j false=false:=fun j=>by
    rcases Nat.lt_or_ge j m with h|h
    .simp[h]
    .simp[Nat.not_lt.2 h]
   unfold Flow.av Flow.lu;rw[hb];cases hp:fl.labs[ℓ].prod with
   |none=>cases hq:fl.labs[ℓ].cons<;>simp[hgd]
   |some p=>simp[hgd]
end
end Go.Tr
namespace Go.Tr
open Go Go.RowKit
section
variable {P:Program}{ops:Array Oper}{Q Q':Exit->Act->World->Prop}{a:Act}{w w':World}{rest:List Oper}{n:Nat}{l:List (Nat×Value)}{v:Value}{d:Nat}{op:Op}{ty:TypeId}{pos:String}{aft:Array Edge}{next:Act->World->Prop}{id id':Nat}
theorem Ta(h:next a w):Exit.then next Q .normal a w:=h
theorem Tc(h:Q .ret a w):Exit.then next Q .ret a w:=h
theorem S9(h:Q (.exit id) a w):Exit.then next Q (.exit id) a w:=h
theorem TW(h:Q .normal a w):Exit.inBlock id Q .normal a w:=h
theorem TY(h:Q .ret a w):Exit.inBlock id Q .ret a w:=h
theorem Sb(h:Q .normal a w):Exit.inBlock id Q (.exit id) a w:=by simp[Exit.inBlock,h]
theorem Sc(hne:Nat.beq id' id=false)(h:Q (.exit id') a w):Exit.inBlock id Q (.exit id') a w:=by
 have:id'≠id:=fun e=>by subst e;rw[Nat.beq_refl]at hne;cases hne
 simp[Exit.inBlock,this,h]
theorem RB{x y:Code}{t:Nat}{e:Bool}(E:Env n a l)(hl:l.lookup t=some (.bool e))(he:e=true)(h:x.wp P Q a w):(Code.cond (.tmp t) x y).wp P Q a w:=wp_cond_true (by rw[E.tmp hl,he]) h
theorem RA{x y:Code}{t:Nat}{e:Bool}(E:Env n a l)(hl:l.lookup t=some (.bool e))(he:e=false)(h:y.wp P Q a w):(Code.cond (.tmp t) x y).wp P Q a w:=wp_cond_false (by rw[E.tmp hl,he]) h
theorem RP:([]:List Operand).map a.eval=[]:=rfl
theorem Qy{x:Operand}{xs:List Operand}{vs:aO}(h:a.eval x=v)(hs:xs.map a.eval=vs):(x::xs).map a.eval=v::vs:=by simp[h,hs]
theorem Sw:((#[]:Array (Nat×Operand)).map fun(i,x)=>(i,a.eval x))= #[]:=by simp
theorem Tv{x y:Code}(M:Act->World->Prop)(h:x.wp P (Exit.then M Q) a w)(h2:∀a w,M a w->y.wp P Q a w):(Code.seq x y).wp P Q a w:=
 wp_seq (wp_mono h fun e a w hq=>by cases e<;>first|exact h2 _ _ hq|exact hq)
theorem QO{c:Code}(M:Act->World->Prop)(h:c.wp P (fun e a w=>e=.normal/\M a w) a w)(h2:∀a w,M a w->Q .normal a w):c.wp P Q a w:=
 wp_mono h fun e a w ⟨he,hq⟩=>by subst he;exact h2 _ _ hq
def nG(tmps:Array Value):ResultVar->Sem Value
 | .tmp t=>pure (tmps.getD t undef)
 | .cell a t=>do loadVar t (<-asAddr (tmps.getD a undef))
theorem kT(fn:Func)(tmps:Array Value):results fn tmps=(do let vs <-fn.results.mapM (nG tmps);pure (if h:vs.size=1 then vs[0]else .tuple vs)):=by
 unfold results;rfl
theorem Uh(E:Env n a l){t:Nat}(hl:l.lookup t=some v):(nG a.tmps (.tmp t)).run P w=.ok v w:=by
 show(pure (a.tmps.getD t undef):Sem Value).run P w=_;rw[E.getD hl];rfl
theorem Ug(E:Env n a l){t b:Nat}{us:aO}(hl:l.lookup t=some (.pointer (some ⟨b,0,none⟩)))(ht:jB P ty=some true)(hs:(P.info? ty).map (·.size)=some us.length)(hc:aM w b 0 us):(nG a.tmps (.cell t ty)).run P w=.ok (.agg us.toArray) w:=by
 have hl2:(loadCells ⟨b,0,none⟩ us.length).run P w=.ok us.toArray w:=run_loadCells_list (P:=P) w ⟨b,0,none⟩ us (fun j v hv=>by rw[Addr.add_mid];exact hc j v hv);show(do loadVar ty (<-asAddr (a.tmps.getD t undef)):Sem Value).run P w=_;rw[E.getD hl];cases hq:P.info? ty with
 |none=>simp[hq]at hs
 |some i=>
  have hs':i.size=us.length:=by simpa[hq]using hs
  simp[asAddr,loadVar,iF ht,sizeOf,typeInfo,hq,hs',hl2]
theorem Sr(E:Env n a l){t b:Nat}(hl:l.lookup t=some (.pointer (some ⟨b,0,none⟩)))(ht:jB P ty=some false)(hc:w.cell? ⟨b,0,none⟩=some v):(nG a.tmps (.cell t ty)).run P w=.ok v w:=by
 show(do loadVar ty (<-asAddr (a.tmps.getD t undef)):Sem Value).run P w=_;rw[E.getD hl];simp[asAddr,loadVar,iF ht,load,Sem.run,hc]
theorem Ui{fn:Func}{R:Ending->World->Prop}(E:Env n a l)(h:fn.results= #[])(hR:R (.returned (.tuple #[])) w):bodyPost P fn R .ret a w/\bodyPost P fn R .normal a w:=
 have:=results_none h a.tmps P w
 ⟨⟨E.defers,_,this,hR⟩,⟨E.defers,_,this,hR⟩⟩
theorem Uj{fn:Func}{R:Ending->World->Prop}{r:ResultVar}(E:Env n a l)(h:fn.results= #[r])(h1:(nG a.tmps r).run P w=.ok v w)(hR:R (.returned v) w):bodyPost P fn R .ret a w:=
 ⟨E.defers,v,by rw[kT,h];simp[h1],hR⟩
theorem Uk{fn:Func}{R:Ending->World->Prop}{r s:ResultVar}{u:Value}(E:Env n a l)(h:fn.results= #[r,s])(h1:(nG a.tmps r).run P w=.ok v w)(h2:(nG a.tmps s).run P w=.ok u w)(hR:R (.returned (.tuple #[v,u])) w):bodyPost P fn R .ret a w:=
 ⟨E.defers,_,by rw[kT,h];simp[h1,h2],hR⟩
theorem Ul{fn:Func}{R:Ending->World->Prop}{r s t:ResultVar}{u x:Value}(E:Env n a l)(h:fn.results= #[r,s,t])(h1:(nG a.tmps r).run P w=.ok v w)(h2:(nG a.tmps s).run P w=.ok u w)(h3:(nG a.tmps t).run P w=.ok x w)(hR:R (.returned (.tuple #[v,u,x])) w):bodyPost P fn R .ret a w:=
 ⟨E.defers,_,by rw[kT,h];simp[h1,h2,h3],hR⟩
theorem ev_c(v:Value):a.eval (.const v)=v:=rfl
theorem ev_f(f:FuncId):a.eval (.func f)=.func (.func f) #[] #[]:=rfl
theorem bnq{x c b:Bool}(h:x=c)(hc:(c==b)=false):(x==b)=false:=by subst h;exact hc
theorem TG(b:Bool):b=false\/b=true:=by cases b<;>simp
theorem sep0{w:World}:Sep w [] []:=rfl
theorem Qw{f:FuncId}{fn:Func}{c:Code}{args:aO}{R:Ending->World->Prop}{w0:World}{F:aG}{rs:List bn}(hf:P.funcs[f]? =some fn)(hb:fn.body=some c)(hn:fn.ntmps=n)(ha:Nat.ble args.length n=true)(hS:Sep w0 rs F)
  (h:∀a w,Env n a (args.zipIdx.map fun x=>(x.2,x.1))->Inv w0 F w rs->c.wp P (bodyPost P fn R) a w):Calls P f args.toArray w0 R:=enter hf hb hn ha fun a E=>h a w0 E (Inv.start hS)
variable {w0:World}{F0:aG}{rs rs' ss:List bn}{r r':bn}
theorem Inv.weak(h:Inv w0 F0 w (r::rs))(k:∀F,r.p w F->∃F',(∀b∈F',b∈F)/\r'.p w F'):Inv w0 F0 w (r'::rs):=by
 obtain⟨G,⟨F,G',rfl,h1,h2,h3⟩,h4⟩:=h.sep;obtain⟨F',h5,h6⟩:=k F h1
 exact⟨h.gX,F'++G',⟨F',G',rfl,h6,h2,fun b hb=>h3 b (h5 b hb)⟩,fun b hb=>by
  rcases qT.1 hb with hb|hb
  .exact h4 b (by simp[h5 b hb])
  .exact h4 b (by simp[hb])⟩
theorem Inv.part{s:bn}(h:Inv w0 F0 w (r::rs))(k:∀F,r.p w F->∃F1 F2,(∀b∈F1,b∈F)/\(∀b∈F2,b∈F)/\(∀b∈F1,b∉F2)/\r'.p w F1/\s.p w F2):Inv w0 F0 w (r'::s::rs):=by
 obtain⟨G,⟨F,G',rfl,h1,h2,h3⟩,h4⟩:=h.sep;obtain⟨F1,F2,k1,k2,k3,k4,k5⟩:=k F h1;refine⟨h.gX,F1++(F2++G'),⟨F1,F2++G',rfl,k4,⟨F2,G',rfl,k5,h2,fun b hb=>h3 b (k2 b hb)⟩,fun b hb hm=> ?_⟩,fun b hb=> ?_⟩
 .rcases qT.1 hm with hm|hm
  .exact k3 b hb hm
  .exact h3 b (k1 b hb) hm
 .simp only[qT]at hb;rcases hb with hb|hb|hb
  .exact h4 b (by simp[k1 b hb])
  .exact h4 b (by simp[k2 b hb])
  .exact h4 b (by simp[hb])
theorem Inv.join{s:bn}(h:Inv w0 F0 w (r::s::rs))(k:∀F1 F2,r.p w F1->s.p w F2->(∀b∈F1,b∉F2)->∃F,(∀b∈F,b∈F1\/b∈F2)/\r'.p w F):Inv w0 F0 w (r'::rs):=by
 obtain⟨G,⟨F1,G',rfl,h1,⟨F2,G2,rfl,h2,h3,h4⟩,h5⟩,h6⟩:=h.sep;obtain⟨F,k1,k2⟩:=k F1 F2 h1 h2 (fun b hb hm=>h5 b hb (by simp[hm]));refine⟨h.gX,F++G2,⟨F,G2,rfl,k2,h3,fun b hb hm=> ?_⟩,fun b hb=> ?_⟩
 .rcases k1 b hb with hb|hb
  .exact h5 b hb (by simp[hm])
  .exact h4 b hb hm
 .rcases qT.1 hb with hb|hb
  .rcases k1 b hb with hb|hb
   .exact h6 b (by simp[hb])
   .exact h6 b (by simp[hb])
  .exact h6 b (by simp[hb])
theorem Inv.aM(h:Inv w0 F0 w rs)(i:Nat){b:Nat}{cs:aO}{t:TypeId}(hr:rs[i]? =some (oH b cs t)):aM w b 0 cs:=fun j u hu=>by
 rw[Nat.zero_add];exact h.cell i hr hu
theorem Inv.put(h:Inv w0 F0 w rs)(i:Nat){b o:Nat}{cs us cs':aO}{t:TypeId}(hr:rs[i]? =some (oH b cs t))(ho:Nat.ble (o+us.length) cs.length=true)(hcs:cs.take o++us++cs.drop (o+us.length)=cs'):
  Inv w0 F0 (w.setCells b o us) (rs.set i (oH b cs' t)):=by
 subst hcs;obtain⟨h1,h2⟩:=dw (us:=us) (h.bQ i hr) (by simpa using ho);exact(Inv.set (h.front i hr) ⟨_,h1,rfl⟩ h2).back i hr
theorem Rm{x y:Operand}{t i b o:Nat}{cs cs':aO}{T:TypeId}(E:Env n a l)(hx:a.eval x=.pointer (some ⟨b,o,none⟩))(hy:a.eval y=v)(hv:v.cells= #[v])(h1:v.oneCell'=true)(hs:(P.info? t).map (·.size)=some 1)
  (H:Inv w0 F0 w rs) (hi:rs[i]? =some (oH b cs T)) (ho:Nat.ble (o+1) cs.length=true) (hcs:cs.take o++[v]++cs.drop (o+1)=cs') (hrs:rs.set i (oH b cs' T)=rs') (h:∀a' w',Env n a' l->Inv w0 F0 w' rs'->wpList P ops Q rest a' w'):
  wpList P ops Q (⟨none,.store t x y,ty,pos,aft,none⟩::rest) a w:=
 wu E (zC hx hy hv h1 hs (H.bQ i hi) (by simp at ho |-;omega)) fun a' E'=>h a' _ E' (hrs▸H.put i hi (us:=[v]) ho hcs)
theorem Qf{x y:Operand}{t i b o:Nat}{cs cs' us:aO}{T:TypeId}(E:Env n a l)(hx:a.eval x=.pointer (some ⟨b,o,none⟩))(hy:a.eval y=.agg us.toArray)(h1:us.all (·.oneCell')=true)(hs:(P.info? t).map (·.size)=some us.length)
  (H:Inv w0 F0 w rs) (hi:rs[i]? =some (oH b cs T)) (ho:Nat.ble (o+us.length) cs.length=true) (hcs:cs.take o++us++cs.drop (o+us.length)=cs') (hrs:rs.set i (oH b cs' T)=rs') (h:∀a' w',Env n a' l->Inv w0 F0 w' rs'->wpList P ops Q rest a' w'):
  wpList P ops Q (⟨none,.store t x y,ty,pos,aft,none⟩::rest) a w:=
 wu E (vI hx hy h1 hs (H.bQ i hi) (by simpa using ho)) fun a' E'=>h a' _ E' (hrs▸H.put i hi ho hcs)
theorem Rk{t:TypeId}{zs:aO}(E:Env n a l)(hd:Nat.blt d n=true)(hz:zeroOf P t=some zs)(H:Inv w0 F0 w rs)(h:∀a' w' b,Env n a' ((d,.pointer (some ⟨b,0,none⟩))::l)->Inv w0 F0 w' (oH b zs t::rs)->wpList P ops Q rest a' w'):
  wpList P ops Q (⟨some d,.alloc t,ty,pos,aft,none⟩::rest) a w:=wv E hd (DW hz) fun a' E'=>h a' _ _ E' (H.alloc zs t)
theorem Ux{t:TypeId}{x:Operand}{us:aO}(E:Env n a l)(hd:Nat.blt d n=true)(hx:a.eval x=v)(hv:v.cells=us.toArray)(H:Inv w0 F0 w rs)(h:∀a' w' b,Env n a' ((d,.pointer (some ⟨b,0,none⟩))::l)->Inv w0 F0 w' (oH b us t::rs)->wpList P ops Q rest a' w'):
  wpList P ops Q (⟨some d,.box t x,ty,pos,aft,none⟩::rest) a w:=wv E hd (K4 hx hv) fun a' E'=>h a' _ _ E' (H.alloc us t)
theorem Rl{f:FuncId}{xs:List Operand}{ts:Array TypeId}{vs:aO}(E:Env n a l)(hd:Nat.blt d n=true)(hx:xs.map a.eval=vs)(hf:aU P f=true)(hc:Calls P f vs.toArray w fun e w'=>e=.returned v/\Ext w w')
  (H:Inv w0 F0 w rs) (h:∀a' w',Env n a' ((d,v)::l)->Inv w0 F0 w' rs->wpList P ops Q rest a' w'):wpList P ops Q (⟨some d,.call { callee:=.value (.func f),args:=xs.toArray,argTypes:=ts},ty,pos,aft,none⟩::rest) a w:=
 wc E hd (Ho hx hf) hc fun e w' ⟨he,hb⟩=>⟨v,he,fun a' E'=>h a' w' E' (H.ext hb)⟩
theorem uy{f:FuncId}{t:Operand}{xs:List Operand}{ts:Array TypeId}{vs cs:aO}{dst:Option Nat}{g:Option (Nat×Bool)}(hc:a.eval t=.func (.func f) #[] cs.toArray)(hx:xs.map a.eval=vs)(hf:aU P f=true):(execOp a.eval ⟨dst,.call { callee:=.value t,args:=xs.toArray,argTypes:=ts},ty,pos,aft,g⟩).run P w=.ok (.enter f (vs++cs).toArray) w:=by
 subst hx;unfold aU at hf;cases hq:P.funcs[f]? with
 |none=>rw[hq]at hf;simp at hf
 |some fn=>
  rw[hq]at hf;simp only[qD,Bool.not_eq_true',beq_eq_false_iff_ne,ne_eq]at hf;have hb:¬fn.body=none:=by cases h:fn.body<;>simp_all
  simp[execOp,resolve,Deferred.ofValue,hc,invoke,callFunc,hq,hf.1,hb]
theorem Qe{f:FuncId}{t:Operand}{xs:List Operand}{ts:Array TypeId}{vs cs:aO}(E:Env n a l)(hd:Nat.blt d n=true)(hv:a.eval t=.func (.func f) #[] cs.toArray)(hx:xs.map a.eval=vs)(hf:aU P f=true)(hc:Calls P f (vs++cs).toArray w fun e w'=>e=.returned v/\Ext w w')
  (H:Inv w0 F0 w rs) (h:∀a' w',Env n a' ((d,v)::l)->Inv w0 F0 w' rs->wpList P ops Q rest a' w'):wpList P ops Q (⟨some d,.call { callee:=.value t,args:=xs.toArray,argTypes:=ts},ty,pos,aft,none⟩::rest) a w:=
 wc E hd (uy hv hx hf) hc fun e w' ⟨he,hb⟩=>⟨v,he,fun a' E'=>h a' w' E' (H.ext hb)⟩
theorem Tq{f:FuncId}{xs:List Operand}{ts:Array TypeId}{vs:aO}{R:Ending->World->Prop}(E:Env n a l)(hd:Nat.blt d n=true)(hx:xs.map a.eval=vs)(hf:aU P f=true)(hc:Calls P f vs.toArray w R)
  (h:∀e w',R e w'->∃v,e=.returned v/\∀a',Env n a' ((d,v)::l)->wpList P ops Q rest a' w'):wpList P ops Q (⟨some d,.call { callee:=.value (.func f),args:=xs.toArray,argTypes:=ts},ty,pos,aft,none⟩::rest) a w:=
 wc E hd (Ho hx hf) hc h
theorem Inv.take1(h:Inv w0 F0 w (r::rs)):∃F,r.p w F/\(∀r' F1,(∀b∈F1,b∈F)->bn.p r' w F1->Inv w0 F0 w (r'::rs))/\
  ∀r' s F1 F2,(∀b∈F1,b∈F)->(∀b∈F2,b∈F)->(∀b∈F1,b∉F2)->bn.p r' w F1->bn.p s w F2->Inv w0 F0 w (r'::s::rs):=by
 obtain⟨G,⟨F,G',rfl,h1,h2,h3⟩,h4⟩:=h.sep;refine⟨F,h1,fun r' F1 k1 k2=> ?_,fun r' s F1 F2 k1 k2 k3 k4 k5=> ?_⟩
 .exact⟨h.gX,F1++G',⟨F1,G',rfl,k2,h2,fun b hb=>h3 b (k1 b hb)⟩,fun b hb=>by
   rcases qT.1 hb with hb|hb
   .exact h4 b (by simp[k1 b hb])
   .exact h4 b (by simp[hb])⟩
 .refine⟨h.gX,F1++(F2++G'),⟨F1,F2++G',rfl,k4,⟨F2,G',rfl,k5,h2,fun b hb=>h3 b (k2 b hb)⟩,fun b hb hm=> ?_⟩,fun b hb=> ?_⟩
  .rcases qT.1 hm with hm|hm
   .exact k3 b hb hm
   .exact h3 b (k1 b hb) hm
  .simp only[qT]at hb;rcases hb with hb|hb|hb
   .exact h4 b (by simp[k1 b hb])
   .exact h4 b (by simp[k2 b hb])
   .exact h4 b (by simp[hb])
theorem Inv.oM(h:Inv w0 F0 w rs)(hp:r.p w []):Inv w0 F0 w (r::rs):=by
 obtain⟨G,h1,h2⟩:=h.sep;exact⟨h.gX,G,⟨[],G,rfl,hp,h1,by simp⟩,h2⟩
section
variable {us:aO}{ds es:List D}{x u:Value}{m:Nat}
theorem Inv.dn_v(h:Inv w0 F0 w (aZ us (.v x::ds)::rs)):∃us',us=x::us'/\Inv w0 F0 w (aZ us' ds::rs):=by
 obtain⟨F,⟨h1,h2⟩,h3,_⟩:=h.take1;obtain⟨us',rfl,h4⟩:=TN.sF h1;exact⟨us',rfl,h3 _ F (fun _ h=>h) ⟨h4,h2⟩⟩
theorem Inv.dn_s(h:Inv w0 F0 w (aZ us (.sl m es::ds)::rs)):∃A c us',us=.slice A m c::us'/\m<=9223372036854775807/\Inv w0 F0 w (Dat (.slice A m c) m es::aZ us' ds::rs):=by
 obtain⟨F,⟨h1,h2⟩,_,h3⟩:=h.take1;obtain⟨A,c,b1,b2,us',rfl,rfl,h6,h7,h8,h9⟩:=TN.uG h1;have hnd:=List.nodup_append.1 h2.1;exact⟨A,c,us',rfl,h6.Po,h3 _ _ b1 b2 (fun b hb=>by simp[hb]) (fun b hb=>by simp[hb]) (fun b hb hm=>hnd.2.2 b hb b hm rfl) ⟨h6,hnd.1,fun b hb=>h2.2 b (by simp[hb])⟩ ⟨h9,hnd.2.1,fun b hb=>h2.2 b (by simp[hb])⟩⟩
theorem Inv.dn_e(h:Inv w0 F0 w (aZ us []::rs)):us=[]/\Inv w0 F0 w rs:=by
 obtain⟨F,⟨h1,_⟩⟩:=h.mem 0 rfl;exact⟨h1.end_.1,h.tail⟩
theorem Inv.nV(h:Inv w0 F0 w rs):Inv w0 F0 w (aZ [] []::rs):=h.oM ⟨TN.done,Own.nil _ _⟩
theorem Inv.BR(h:Inv w0 F0 w (aZ us ds::rs))(hx:x.oneCell'=true):Inv w0 F0 w (aZ (x::us) (.v x::ds)::rs):=by
 obtain⟨F,⟨h1,h2⟩,h3,_⟩:=h.take1;exact h3 _ F (fun _ h=>h) ⟨TN.Bl hx h1,h2⟩
theorem Inv.take2{s:bn}(h:Inv w0 F0 w (r::s::rs)):∃F1 F2,r.p w F1/\s.p w F2/\(∀b∈F1,b∉F2)/\∀r' F,(∀b∈F,b∈F1\/b∈F2)->bn.p r' w F->Inv w0 F0 w (r'::rs):=by
 obtain⟨G,⟨F1,G',rfl,h1,⟨F2,G2,rfl,h2,h3,h4⟩,h5⟩,h6⟩:=h.sep;refine⟨F1,F2,h1,h2,fun b hb hm=>h5 b hb (by simp[hm]),fun r' F k1 k2=>⟨h.gX,F++G2,⟨F,G2,rfl,k2,h3,fun b hb hm=> ?_⟩,fun b hb=> ?_⟩⟩
 .rcases k1 b hb with hb|hb
  .exact h5 b hb (by simp[hm])
  .exact h4 b hb hm
 .rcases qT.1 hb with hb|hb
  .rcases k1 b hb with hb|hb
   .exact h6 b (by simp[hb])
   .exact h6 b (by simp[hb])
  .exact h6 b (by simp[hb])
theorem Inv.EI(h:Inv w0 F0 w (Dat u m es::aZ us ds::rs)):Inv w0 F0 w (aZ (u::us) (.sl m es::ds)::rs):=by
 obtain⟨F1,F2,⟨h1,h2⟩,⟨h3,h4⟩,h5,h6⟩:=h.take2;exact h6 _ (F1++F2) (fun b hb=>qT.1 hb) ⟨TN.Ih h1 h3,Own.join h2 h4 h5⟩
theorem Inv.FI(h:Inv w0 F0 w rs)(i:Nat)(hr:rs[i]? =some (Dat u m ds)):∃bs,T1 w (.sl m ds) bs u:=by
 obtain⟨F,h1,_⟩:=h.mem i hr;exact⟨F,h1⟩
theorem Inv.tZ(h:Inv w0 F0 w rs):Inv w0 F0 w (Dat (.slice none 0 0) 0 []::rs):=h.oM ⟨T1.empty none,Own.nil _ _⟩
theorem Inv.FJ{b o c m s:Nat}{d1 d2:List D}(h:Inv w0 F0 w (Dat (.slice (some ⟨b,o,none⟩) (m+1) c) (m+1) (d1++d2)::rs))(hs:d1.length=s)(h2:d2.length=m*s):Inv w0 F0 w (Dat (.slice (some ⟨b,o+1*s,none⟩) (m+1-1) (c-1)) m d2::rs):=by
 obtain⟨F,⟨h1,h5⟩,h3,_⟩:=h.take1;unfold T1 at h1;obtain⟨A,c',he,hn,hc,h1⟩:=h1;injection he with hA hn' hc'
 subst hA hc';rcases h1 with⟨h0,_⟩|⟨_,b',off,us,bs',hb',rfl,hlt,hca,ht⟩
 .omega
 injection hb' with hb'
 injection hb' with e1 e2
 subst e1 e2;obtain⟨b1,b2,u1,u2,rfl,rfl,t1,t2⟩:=TN.append.1 ht;have l1:u1.length=s:=by rw[t1.length,hs]
 cases m with
 |zero=>
  have e:d2=[]:=List.eq_nil_of_length_eq_zero (by simpa using h2);subst e;refine h3 _ [] (by simp) ⟨?_,Own.nil _ _⟩;unfold T1;exact⟨_,_,rfl,by omega,by omega,.inl ⟨rfl,rfl,rfl⟩⟩
 |succ m=>
  have hnd:=List.nodup_cons.1 h5.1;have hnd2:=List.nodup_append.1 hnd.2;refine h3 _ (b::b2) (fun y hy=>by simp at hy |-;rcases hy with h|h<;>simp[h]) ⟨?_,List.nodup_cons.2 ⟨fun hm=>hnd.1 (by simp[hm]),hnd2.2.1⟩,fun y hy=>h5.2 y (by simp at hy |-;rcases hy with h|h<;>simp[h])⟩;unfold T1;refine⟨_,_,rfl,by omega,by omega,.inr ⟨by omega,b,o+1*s,u2,b2,rfl,rfl,hlt,fun j u hu=> ?_,t2⟩⟩;have:=hca (s+j) u (by rw[qL (by omega),l1,Nat.add_sub_cancel_left];exact hu)
  rwa[show o+1*s+j=o+(s+j) by omega]
end
def xg(b c:Nat)(t:TypeId)(s n:Nat)(ds1:List D)(us:List Value)(ds2:List D):bn where
 p w F:=∃cur u1 u2 b1 b2,F=b::(b1++b2)/\w.heap[b]? =some (.cells cur t (0,0))/\n<=c/\c<=maxLen/\cur.size=c*s/\cur.toList.take (n*s)=u1++(us++u2)/\(u1++(us++u2)).length=n*s/\TN w ds1 b1 u1/\TN w ds2 b2 u2/\Own 0 w (b1++b2)/\b∉b1++b2
 keep:=fun⟨cur,u1,u2,b1,b2,e,h1,h2,h3,h4,h5,h6,h7,h8,h9,h10⟩ k=>by
  subst e;refine⟨cur,u1,u2,b1,b2,rfl,(k.2 b (by simp)).trans h1,h2,h3,h4,h5,h6,h7.keep (k.sub fun y hy=>by simp[hy]),h8.keep (k.sub fun y hy=>by simp[hy]),⟨h9.1,fun y hy=> ?_⟩,h10⟩;obtain⟨h0,cur,t,h11⟩:=h9.2 y hy;exact⟨h0,cur,t,(k.2 y (by simp at hy |-;exact .inr hy)).trans h11⟩
 lt:=fun⟨cur,u1,u2,b1,b2,e,h1,h2,h3,h4,h5,h6,h7,h8,h9,h10⟩ y hy=>by
  subst e;rcases List.mem_cons.1 hy with rfl|hy
  .exact bL h1
  .exact h9.lt y hy
section
variable {t:TypeId}{m:Nat}
theorem Inv.open_{α:Type}{f:α->List D}{s:Nat}(hs:∀x,(f x).length=s){xs:List α}(h:Inv w0 F0 w (Gr v t s m (xs.flatMap f)::rs))(hm:xs.length=m){k:Nat}(hk:k<m):
  ∃b c x us,v=.slice (some ⟨b,0,none⟩) m c/\m<=9223372036854775807/\xs[k]? =some x/\Inv w0 F0 w (xg b c t s m ((xs.take k).flatMap f) us ((xs.drop (k+1)).flatMap f)::aZ us (f x)::rs):=by
 obtain⟨F,⟨bs,us,rfl,hg⟩,_,h3⟩:=h.take1;have hk':k<xs.length:=hm▸hk
 have hx:xs.flatMap f=(xs.take k).flatMap f++(f xs[k]++(xs.drop (k+1)).flatMap f):=by
  conv=>lhs;rw[<-List.take_append_drop k xs,List.drop_eq_getElem_cons hk',List.flatMap_append,qU]
 obtain⟨⟨hl0,hrow⟩,htn,hown,hout⟩:=hg;rcases hrow with⟨_,hn⟩|⟨g,cap,cur,hv,hlo,hgg,hnc,hcm,hcs,htk⟩
 .omega
 subst hv;rw[hx]at htn;obtain⟨b1,b',u1,u',rfl,rfl,t1,htn⟩:=TN.append.1 htn;obtain⟨b2,b3,u2,u3,rfl,rfl,t2,t3⟩:=TN.append.1 htn;have hgb:g∉b1++(b2++b3):=hout g rfl;have hnd:=List.nodup_append.1 hown.1;have hnd2:=List.nodup_append.1 hnd.2.1;have hrl:lQ (.slice (some ⟨g,0,none⟩) m cap)=[g]:=rfl;refine⟨g,cap,xs[k],u2,rfl,by unfold maxLen at hcm;omega,qB hk',h3 _ _ (g::(b1++b3)) b2 (fun y hy=> ?_) (fun y hy=>by rw[hrl];simp[hy]) (fun y hy hm2=> ?_) ⟨cur,u1,u3,b1,b3,rfl,hgg,hnc,hcm,hcs,htk,hl0,t1,t3,⟨List.nodup_append.2 ⟨hnd.1,hnd2.2.1,fun y hy z hz e=>hnd.2.2 y hy z (by simp[hz]) e⟩,fun y hy=>hown.2 y (by simp at hy |-;rcases hy with h|h<;>simp[h])⟩,fun hm2=>hgb (by simp at hm2 |-;rcases hm2 with h|h<;>simp[h])⟩ ⟨t2,hnd2.1,fun y hy=>hown.2 y (by simp[hy])⟩⟩
 .rw[hrl];simp at hy |-;rcases hy with h|h|h<;>simp[h]
 .rcases List.mem_cons.1 hy with rfl|hy
  .exact hgb (by simp[hm2])
  .rcases qT.1 hy with hy|hy
   .exact hnd.2.2 y hy y (by simp[hm2]) rfl
   .exact hnd2.2.2 y hm2 y hy rfl
theorem Inv.shut{b c s:Nat}{ds1 ds2 d:List D}{us:aO}(h:Inv w0 F0 w (xg b c t s m ds1 us ds2::aZ us d::rs)):Inv w0 F0 w (Gr (.slice (some ⟨b,0,none⟩) m c) t s m (ds1++(d++ds2))::rs):=by
 obtain⟨F1,F2,⟨cur,u1,u2,b1,b2,rfl,h1,h2,h3,h4,h5,h6,h7,h8,h9,h10⟩,⟨k1,k2⟩,hd,hf⟩:=h.take2;have hnd:=List.nodup_append.1 h9.1;refine hf _ (b::(b1++(F2++b2))) (fun y hy=> ?_) ⟨b1++(F2++b2),u1++(us++u2),rfl,⟨⟨h6,.inr ⟨b,c,cur,rfl,Nat.zero_le _,h1,h2,h3,h4,h5⟩⟩,TN.append.2 ⟨b1,_,u1,_,rfl,rfl,h7,TN.append.2 ⟨F2,b2,us,u2,rfl,rfl,k1,h8⟩⟩,⟨?_,fun y hy=> ?_⟩,fun g hg hm=> ?_⟩⟩
 .simp at hy |-;rcases hy with h|h|h|h<;>simp[h]
 .refine List.nodup_append.2 ⟨hnd.1,List.nodup_append.2 ⟨k2.1,hnd.2.1,fun y hy z hz e=> ?_⟩,fun y hy z hz e=> ?_⟩
  .subst e;exact hd y (by simp[hz]) hy
  .subst e;rcases qT.1 hz with hz|hz
   .exact hd y (by simp[hy]) hz
   .exact hnd.2.2 y hy y hz rfl
 .simp only[qT]at hy;rcases hy with h|h|h
  .exact h9.2 y (by simp[h])
  .exact k2.2 y h
  .exact h9.2 y (by simp[h])
 .simp only[Value.ownBlock,Option.some.injEq]at hg;subst hg;simp only[qT]at hm;rcases hm with h|h|h
  .exact h10 (by simp[h])
  .exact hd b (by simp) h
  .exact h10 (by simp[h])
theorem Ba{α:Type}{f:α->List D}{xs:List α}{k:Nat}{y:α}(hk:k<xs.length):(xs.take k).flatMap f++(f y++(xs.drop (k+1)).flatMap f)=(xs.set k y).flatMap f:=by
 rw[List.set_eq_take_append_cons_drop,if_pos hk,List.flatMap_append,qU]
theorem Inv.He{b c s:Nat}{ds1 ds2:List D}{us:aO}(h:Inv w0 F0 w rs)(i:Nat)(hr:rs[i]? =some (xg b c t s m ds1 us ds2)){k:Nat}(hl:ds1.length=k){j:Nat}{u:Value}(hu:us[j]? =some u):w.cell? ⟨b,k+j,none⟩=some u:=by
 obtain⟨F,cur,u1,u2,b1,b2,rfl,h1,h2,h3,h4,h5,h6,h7,h8,h9,h10⟩:=h.mem i hr;rw[cell_of_row w b _ cur t (0,0) h1,<-Array.getElem?_toList];have hj:=(qE.1 hu).1;have l1:=h7.length
 have:(cur.toList.take (m*s))[k+j]? =some u:=by
  rw[h5,qL (by omega),l1,hl,Nat.add_sub_cancel_left,qM hj];exact hu
 rw[List.getElem?_take]at this;split at this
 .exact this
 .cases this
theorem Inv.NJ{b c s:Nat}{ds1 ds2:List D}{us:aO}(h:Inv w0 F0 w rs)(i:Nat)(hr:rs[i]? =some (xg b c t s m ds1 us ds2)){k:Nat}(hl:ds1.length=k):Go.Tr.aM w b k us:=fun _ _ hu=>h.He i hr hl hu
theorem Inv.pV{b c s:Nat}{ds1 ds2:List D}{us:aO}(h:Inv w0 F0 w rs)(i:Nat)(hr:rs[i]? =some (xg b c t s m ds1 us ds2)){k:Nat}(hl:ds1.length=k):∃cur,w.heap[b]? =some (.cells cur t (0,0))/\k+us.length<=cur.size:=by
 obtain⟨F,cur,u1,u2,b1,b2,rfl,h1,h2,h3,h4,h5,h6,h7,h8,h9,h10⟩:=h.mem i hr;have h11:=congrArg List.length h5;have l1:=h7.length;simp only[List.length_take,qA,Array.length_toList]at h11;exact⟨cur,h1,by omega⟩
theorem Inv.uw{b c s:Nat}{ds1 ds2:List D}{us vs us':aO}(h:Inv w0 F0 w rs)(i:Nat)(hr:rs[i]? =some (xg b c t s m ds1 us ds2)){k:Nat}(hl:ds1.length=k){j:Nat}(hj:Nat.ble (j+vs.length) us.length=true)(hu:us.take j++vs++us.drop (j+vs.length)=us'):
  Inv w0 F0 (w.setCells b (k+j) vs) (rs.set i (xg b c t s m ds1 us' ds2)):=by
 subst hu;have hj':j+vs.length<=us.length:=by simpa using hj
 obtain⟨F,h2,_,h4⟩:=Inv.frame (pre:=[xg b c t s m ds1 us ds2]) (rest:=rs.eraseIdx i) (h.front i hr);obtain⟨F1,G1,rfl,⟨cur,u1,u2,b1,b2,rfl,k1,k2,k3,k4,k5,k6,k7,k8,k9,k10⟩,rfl,_⟩:=h2;have l1:=k7.length;have hsz:(cur.toList.take (m*s)).length=m*s:=by rw[k5];exact k6
 have hle:m*s<=cur.size:=by simp only[List.length_take,Array.length_toList]at hsz;omega
 have hk6:=k6;simp only[qA]at hk6;obtain⟨h5,h6⟩:=dw (us:=vs) (cs:=cur.toList) (o:=k+j) (w:=w) (b:=b) (T:=t) (by simpa using k1) (by simp only[Array.length_toList];omega);have hkp:Keeps w (w.setCells b (k+j) vs) (b1++b2):=⟨h6.size,fun y hy=>h6.other y (k9.lt y hy) (fun hm=>by simp at hm;subst hm;exact k10 hy)⟩;refine Inv.back i hr (h4 _ [_] ⟨⟨h6.os,h6.tape,h6.output,h6.size,fun y hy hn=>h6.other y hy (fun hm=>hn (by simp at hm;simp[hm]))⟩,_,⟨_,[],rfl,⟨(cur.toList.take (k+j)++vs++cur.toList.drop (k+j+vs.length)).toArray,u1,u2,b1,b2,rfl,h5,k2,k3,?_,?_,?_,k7.keep (hkp.sub fun y hy=>by simp[hy]),k8.keep (hkp.sub fun y hy=>by simp[hy]),⟨k9.1,fun y hy=> ?_⟩,k10⟩,rfl,by simp⟩,fun y hy=>.inl (by simpa using hy)⟩)
 .simp only[List.size_toArray,qA,List.length_take,List.length_drop,Array.length_toList];omega
 .simp only[]
  have e1:cur.toList.take (k+j)=u1++us.take j:=by
   have:=congrArg (List.take (k+j)) k5;rw[List.take_take,Nat.min_eq_left (by omega)]at this;rw[this,List.take_append,qN (by omega),l1,hl,Nat.add_sub_cancel_left,List.take_append_of_le_length (by omega)]
  apply List.ext_getElem?;intro q
  by_cases hq:q<m*s
  .rw[List.getElem?_take,if_pos hq,e1];have hcq:cur.toList[q]? =(u1++(us++u2))[q]? :=by rw[<-k5,List.getElem?_take,if_pos hq]
   simp only[List.getElem?_append,qA,List.length_take,List.getElem?_drop,List.getElem?_take]at hcq |-
   grind
  .rw[List.getElem?_eq_none (by simp;omega),List.getElem?_eq_none (by simp;omega)]
 .simp only[qA,List.length_take,List.length_drop]at hk6 |-;omega
 .obtain⟨h0,cur2,t2,h11⟩:=k9.2 y hy;exact⟨h0,cur2,t2,(hkp.2 y hy).trans h11⟩
theorem pv{l:List (Nat×Operand)}{l':List (Nat×Value)}(h:l.map (fun x=>(x.1,a.eval x.2))=l'):(l.toArray.map fun(i,x)=>(i,a.eval x))=l'.toArray:=by subst h;simp
theorem pvn:([]:List (Nat×Operand)).map (fun x=>(x.1,a.eval x.2))=[]:=rfl
theorem pvc{i:Nat}{x:Operand}{l:List (Nat×Operand)}{l':List (Nat×Value)}(hx:a.eval x=v)(h:l.map (fun x=>(x.1,a.eval x.2))=l'):((i,x)::l).map (fun x=>(x.1,a.eval x.2))=(i,v)::l':=by simp[hx,h]
theorem yu{k:Nat}(h:k+1<=9223372036854775807):IntKind.i64.wrap ((k:Int)+1)=((k+1:Nat):Int):=by rw[qO _ (by omega)];rfl
theorem Rw(w:World)(b o:Nat):Go.Tr.aM w b o []:=fun j u hu=>by simp at hu
theorem Qr{b o:Nat}{us:aO}(h:w.cell? ⟨b,o,none⟩=some v)(hs:Go.Tr.aM w b (o+1) us):Go.Tr.aM w b o (v::us):=fun j u hu=>by
 cases j with
 |zero=>simp at hu;subst hu;simpa using h
 |succ j=>have:=hs j u (by simpa using hu);rwa[show o+1+j=o+(j+1) by omega]at this
theorem PL{x:Operand}{i:Nat}{vs:aO}{dst:Option Nat}{g:Option (Nat×Bool)}(hx:a.eval x=.tuple vs.toArray)(hi:vs[i]? =some v):(execOp a.eval ⟨dst,.extract x i,ty,pos,aft,g⟩).run P w=.ok (.value v) w:=by
 simp[execOp,hx,Instr.extract,hi]
theorem J7{x:Operand}{t i:Nat}{u:Value}{dst:Option Nat}{g:Option (Nat×Bool)}(hx:a.eval x=u)(hr:(Instr.field t u i).run P w=.ok v w):(execOp a.eval ⟨dst,.field t x i,ty,pos,aft,g⟩).run P w=.ok (.value v) w:=by
 simp[execOp,hx,hr]
theorem PS{f:FuncId}{xs:List Operand}{vs:aO}{dst:Option Nat}{g:Option (Nat×Bool)}(hx:xs.map a.eval=vs):(execOp a.eval ⟨dst,.makeFunc (.func f) #[] xs.toArray,ty,pos,aft,g⟩).run P w=.ok (.value (.func (.func f) #[] vs.toArray)) w:=by
 subst hx;simp[execOp,Instr.makeFunc]
theorem Hy{c x y:Operand}{dst:Option Nat}{g:Option (Nat×Bool)}(hc:a.eval c=.bool true)(hx:a.eval x=v):(execOp a.eval ⟨dst,.pick c x y,ty,pos,aft,g⟩).run P w=.ok (.value v) w:=by simp[execOp,hc,hx,asBool]
theorem Hw{c x y:Operand}{dst:Option Nat}{g:Option (Nat×Bool)}(hc:a.eval c=.bool false)(hx:a.eval y=v):(execOp a.eval ⟨dst,.pick c x y,ty,pos,aft,g⟩).run P w=.ok (.value v) w:=by simp[execOp,hc,hx,asBool]
theorem Sz{x:Operand}{s t:TypeId}{i:Int}{dst:Option Nat}{g:Option (Nat×Bool)}(hx:a.eval x=.int .i64 i)(ht:((P.underlying s).isSome&&(P.underlying t).any (fun d=>match d with| .int .i64=>true|_=>false))=true)(h:IntKind.i64.wrap i=i):(execOp a.eval ⟨dst,.convert s t x,ty,pos,aft,g⟩).run P w=.ok (.value (.int .i64 i)) w:=by
 rw[qD]at ht;obtain⟨ds,hs⟩:=Option.isSome_iff_exists.1 ht.1;cases hd:P.underlying t with
 |none=>rw[hd]at ht;simp at ht
 |some d=>
  rw[hd]at ht;simp only[Option.any_some]at ht;split at ht
  .simp[execOp,hx,convert,run_underlying hs,run_underlying hd,Conv.intToInt,h]
  .simp at ht
theorem Qd{x y:Operand}{t i b o j c k s:Nat}{m:Nat}{us vs us':aO}{T:TypeId}{ds1 ds2:List D}(E:Env n a l)(hx:a.eval x=.pointer (some ⟨b,o,none⟩))(hy:a.eval y=v)(hv:v.cells=vs.toArray)(h1:vs.all (·.oneCell')=true)(hs:(P.info? t).map (·.size)=some vs.length)
  (H:Inv w0 F0 w rs) (hi:rs[i]? =some (xg b c T s m ds1 us ds2)) (hl:ds1.length=k) (ho:Nat.ble (j+vs.length) us.length=true) (hcs:us.take j++vs++us.drop (j+vs.length)=us') (hko:o=k+j) (hrs:rs.set i (xg b c T s m ds1 us' ds2)=rs') (h:∀a' w',Env n a' l->Inv w0 F0 w' rs'->wpList P ops Q rest a' w'):
  wpList P ops Q (⟨none,.store t x y,ty,pos,aft,none⟩::rest) a w:=by
 subst hko;obtain⟨cur,h2,h3⟩:=H.pV i hi hl;have ho':j+vs.length<=us.length:=by simpa using ho
 have hst:=run_storeCells_cells (P:=P) b (k+j) vs 0 w (fun q hq=>by
  rw[cell_of_row w b _ cur T (0,0) h2];simp;omega) (fun q hq=>cB h2 _) (fun u hu=>List.all_eq_true.1 h1 u hu)
 refine wu E (w':=w.setCells b (k+j) vs) ?_ fun a' E'=>h a' _ E' (hrs▸H.uw i hi hl ho hcs)
 cases hq:P.info? t with
 |none=>simp[hq]at hs
 |some ii=>
  have hs':ii.size=vs.length:=by simpa[hq]using hs
  simp only[Nat.add_zero]at hst;simp[execOp,hx,hy,Instr.storeAt,Instr.sureAddr,storeVar,hv,sizeOf,typeInfo,hq,hs',hst]
def vb:Value->Nat
 | .pointer (some p)=>p.block
 | .slice (some p) _ _=>p.block
 |_=>0
def sA:Value->Option Addr
 | .slice A _ _=>A
 |_=>none
def sC:Value->Nat
 | .slice _ _ c=>c
 |_=>0
def cN_:Value->Nat->Value
 | .agg cs,j=>cs.getD j undef
 | .tuple vs,j=>vs.getD j undef
 |_,_=>undef
theorem Env.add{t:Nat}(h:Env n a l)(ht:a.tmps[t]? =some v):Env n a ((t,v)::l):=
 ⟨h.size,h.defers,fun t' u hl'=>by
  rw[List.lookup_cons]at hl'
  by_cases e:t'=t
  .subst e;simp at hl';subst hl';exact ht
  .have h1:(t'==t)=false:=by simpa using e
   rw[h1]at hl';exact h.get t' u hl'⟩
section
variable {o:Oper}{K:Value->World->Prop}
theorem Gives.val(hw:Region.wanted o (yielded ops a.tmps)=true)(hr:(execOp a.eval o).run P w=.ok (.value v) w')(hK:K v w'):Gives P ops o a w K:=.inl ⟨hw,.inl ⟨v,w',hr,hK⟩⟩
theorem Gives.skp(hw:Region.wanted o (yielded ops a.tmps)=true)(hr:(execOp a.eval o).run P w=.ok .skip w')(hK:K undef w'):Gives P ops o a w K:=.inl ⟨hw,.inr (.inl ⟨w',hr,hK⟩)⟩
theorem Gives.call{f:FuncId}{args:Array Value}{R:Ending->World->Prop}(hw:Region.wanted o (yielded ops a.tmps)=true)(hr:(execOp a.eval o).run P w=.ok (.enter f args) w)(hc:Calls P f args w R)(hK:∀e w',R e w'->∃v,e=.returned v/\K v w'):Gives P ops o a w K:=
 .inl ⟨hw,.inr (.inr ⟨f,args,hr,hc.mono hK⟩)⟩
theorem Gives.no(hw:Region.wanted o (yielded ops a.tmps)=false)(hK:K undef w):Gives P ops o a w K:=.inr ⟨hw,hK⟩
theorem Uz{d:Option Nat}{op:Op}{ty:TypeId}{pos:String}{aft:Array Edge}{j:Nat}{b b':Bool}(hy:yielded ops a.tmps j=some b')(hb:b'=b):Region.wanted ⟨d,op,ty,pos,aft,some (j,b)⟩ (yielded ops a.tmps)=true:=by
 subst hb;simp[Region.wanted,hy]
theorem Uy{d:Option Nat}{op:Op}{ty:TypeId}{pos:String}{aft:Array Edge}{j:Nat}{b:Bool}(hy:yielded ops a.tmps j=none):Region.wanted ⟨d,op,ty,pos,aft,some (j,b)⟩ (yielded ops a.tmps)=false:=by
 simp[Region.wanted,hy]
theorem UA{d:Option Nat}{op:Op}{ty:TypeId}{pos:String}{aft:Array Edge}{j:Nat}{b b':Bool}(hy:yielded ops a.tmps j=some b')(hb:(b'==b)=false):Region.wanted ⟨d,op,ty,pos,aft,some (j,b)⟩ (yielded ops a.tmps)=false:=by
 simp only[Region.wanted,hy];cases b<;>cases b'<;>simp_all
end
theorem Inv.QI{R T:List bn}(H:Inv w0 F0 w (R++([]++rs)))(hi:Inv w [] w' T):Inv w0 F0 w' (R++(T++rs)):=by
 refine Inv.perm (Inv.new H hi) ?_;rw[List.nil_append,<-qF,<-qF];exact List.perm_append_comm.append_right rs
theorem Inv.Oo{R C:List bn}(H:Inv w0 F0 w (R++(C++rs))):∃F,Sep w C F/\(∀b∈F,b∈F0\/w0.heap.size<=b)/\∀w' post,Inv w F w' post->Inv w0 F0 w' (R++(post++rs)):=by
 have H2:Inv w0 F0 w (C++(R++rs)):=H.perm (by
  rw[<-qF,<-qF];exact List.perm_append_comm.append_right rs)
 obtain⟨F,h1,h2,h3⟩:=Inv.frame H2;refine⟨F,h1,h2,fun w' post hi=>(h3 w' post hi).perm ?_⟩;rw[<-qF,<-qF];exact List.perm_append_comm.append_right rs
theorem dY.TM{α:Type}{f:α->List D}{s:Nat}(hs:∀x,(f x).length=s){xs:List α}{b off:Nat}{n n' c:Nat}(h:dY w0 F0 (.sl n (xs.flatMap f)) (.slice (some ⟨b,off,none⟩) n' c))(hm:xs.length=n){k:Nat}(hk:k<n):
  ∃x,xs[k]? =some x/\je w0 F0 b (off+k*s) (f x):=by
 obtain⟨b',off',x,hA,hx,hp⟩:=h.elem hs hm hk;injection hA with hA
 injection hA with h1 h2
 subst h1 h2;exact⟨x,hx,hp⟩
theorem M9{v':Value}{b:Nat}:b∈lQ v'↔v'.ownBlock=some b:=dO
theorem yB{tS e s q c:Nat}{ds es:List D}{us:aO}{A:Option Addr}(hE:fq P tS e s)(H:Inv w0 F0 w (Gr v e s m ds::aZ us es::rs))(hsrc:Src w s A q us)(hb:m+q<=1073741824):
  ∃v' w',(Builtin.append_ #[tS,tS] ty #[v,.slice A q c]).run P w=.ok v' w'/\(∃A' c',v'=.slice A' (m+q) c')/\Inv w0 F0 w' (Gr v' e s (m+q) (ds++es)::rs):=by
 obtain⟨F,⟨F1,G1,rfl,⟨bs,ug,rfl,hg⟩,⟨F2,G2,rfl,⟨k1,k2⟩,rfl,_⟩,hd⟩,_,h4⟩:=Inv.frame (pre:=[Gr v e s m ds,aZ us es]) (rest:=rs) H;rw[qS]at hd h4;obtain⟨v',w',hrun,h5,h6,h7,_⟩:=jJ (P:=P) (ty:=ty) hE 0 v m ug hg.row A q c us hsrc hb (Nat.zero_le _);have hdr:∀g,v.ownBlock=some g->g∉F2:=fun g hg' hm=>hd g (by simp[dO,hg']) hm
 have hgr:=hg.app k1 k2 (fun y hy hm=>hd y (by simp[hy]) hm) hdr h5 h6 h7;refine⟨v',w',hrun,xV h5,h4 w' [_] ⟨⟨h6.os,h6.tape,h6.output,h6.size,fun b hb hn=>h6.block b hb (fun e=>hn (by simp[dO,<-e]))⟩,lQ v'++(bs++F2),⟨_,[],by simp,⟨bs++F2,_,rfl,hgr⟩,rfl,by simp⟩,fun b hb=> ?_⟩⟩;simp only[qT,dO]at hb |-;rcases hb with hb|hb|hb
 .rcases h7 with h8|h8
  .exact .inl (.inl (.inl (by rw[<-h8];exact hb)))
  .rw[h8]at hb;injection hb with hb;exact .inr (by omega)
 .exact .inl (.inl (.inr hb))
 .exact .inl (.inr hb)
theorem Hl{x y:Operand}{t:TypeId}{u v':Value}{dst:Option Nat}{g:Option (Nat×Bool)}(hx:a.eval x=v)(hy:a.eval y=u)(hr:(Builtin.append_ #[t,t] ty #[v,u]).run P w=.ok v' w'):
  (execOp a.eval ⟨dst,.call { callee:=.builtin .append,args:= #[x,y],argTypes:= #[t,t]},ty,pos,aft,g⟩).run P w=.ok (.value v') w':=by
 simp[execOp,resolve,invoke,builtin,hx,hy,hr]
theorem Uw{x y:Operand}{tS e s q c:Nat}{ds es:List D}{us:aO}{A:Option Addr}(E:Env n a l)(hd:Nat.blt d n=true)(hx:a.eval x=v)(hy:a.eval y=.slice A q c)(hE:fq P tS e s)(H:Inv w0 F0 w (Gr v e s m ds::aZ us es::rs))(hsrc:Src w s A q us)(hb:m+q<=1073741824)
  (h:∀a' w' A' c',Env n a' ((d,.slice A' (m+q) c')::l)->Inv w0 F0 w' (Gr (.slice A' (m+q) c') e s (m+q) (ds++es)::rs)->wpList P ops Q rest a' w'):
  wpList P ops Q (⟨some d,.call { callee:=.builtin .append,args:= #[x,y],argTypes:= #[tS,tS]},ty,pos,aft,none⟩::rest) a w:=by
 obtain⟨v',w',hrun,⟨A',c',rfl⟩,hI⟩:=yB (ty:=ty) (c:=c) hE H hsrc hb;exact wv E hd (Hl hx hy hrun) fun a' E'=>h a' w' A' c' E' hI
theorem Inv.BI(h:Inv w0 F0 w rs)(t:TypeId)(s:Nat):Inv w0 F0 w (Gr (.slice none 0 0) t s 0 []::rs):=h.oM ⟨[],[],rfl,GR.nil _ _ _ _⟩
theorem Inv.R3{b:Nat}(h:Inv w0 F0 w (oH b [] t::rs))(s:Nat):Inv w0 F0 w (Gr (.slice (some ⟨b,0,none⟩) 0 0) t s 0 []::rs):=by
 obtain⟨F,⟨rfl,h1⟩,h3,_⟩:=h.take1;exact h3 _ [b] (fun _ h=>h) ⟨[],[],rfl,GR.zm h1 (Nat.zero_le _) (by decide) (by simp)⟩
theorem Inv.KN{s:Nat}{ds:List D}(h:Inv w0 F0 w rs)(i:Nat)(hr:rs[i]? =some (Gr v t s m ds))(hl:ds.length=m*s):∃A c bs,v=.slice A m c/\T1 w (.sl m ds) bs (.slice A m c):=by
 obtain⟨F,bs,us,_,hg⟩:=h.mem i hr;obtain⟨A,c,bs',rfl,h1,_⟩:=hg.res hl;exact⟨A,c,bs',rfl,h1⟩
theorem GR.Ka{lo:Nat}{us:aO}{s:Nat}{ds:List D}{bs:aG}(h:GR lo w t s v m ds bs us)(hl:ds.length=m*s):∃A c bs',v=.slice A m c/\T1 w (.sl m ds) bs' (.slice A m c)/\Own lo w bs'/\∀b∈bs',b∈lQ v++bs:=by
 rcases h.row.2 with⟨rfl,rfl⟩|⟨g,cap,cur,rfl,hb,hgg,hnc,hcm,hcs,htk⟩
 .have hd:ds=[]:=List.eq_nil_of_length_eq_zero (by simpa using hl);subst hd;exact⟨none,0,[],rfl,T1.empty none,Own.nil _ _,by simp⟩
 .rcases Nat.eq_zero_or_pos m with rfl|hn
  .have hd:ds=[]:=List.eq_nil_of_length_eq_zero (by simpa using hl);subst hd;refine⟨some ⟨g,0,none⟩,cap,[],rfl,?_,Own.nil _ _,by simp⟩;unfold T1;exact⟨_,_,rfl,hnc,hcm,.inl ⟨rfl,rfl,rfl⟩⟩
  .have hgb:g∉bs:=h.out g rfl;refine⟨some ⟨g,0,none⟩,cap,g::bs,rfl,?_,⟨List.nodup_cons.2 ⟨hgb,h.own.1⟩,fun b hb'=> ?_⟩,fun b hb'=>by simpa[lQ,Value.ownBlock]using hb'⟩
   .unfold T1;refine⟨_,_,rfl,hnc,hcm,.inr ⟨hn,g,0,us,bs,rfl,rfl,bL hgg,fun j u hu=> ?_,h.tn⟩⟩;rw[Nat.zero_add,cell_of_row w g j cur t (0,0) hgg];rw[<-htk,List.getElem?_take]at hu;split at hu
    .simpa using hu
    .cases hu
   .rcases List.mem_cons.1 hb' with rfl|hb'
    .exact⟨hb,cur,t,hgg⟩
    .exact h.own.2 b hb'
theorem Inv.Gg{s:Nat}{ds:List D}(h:Inv w0 F0 w (Gr v t s m ds::rs))(hl:ds.length=m*s):∃A c,v=.slice A m c/\Inv w0 F0 w (Dat (.slice A m c) m ds::rs):=by
 obtain⟨F,⟨bs,us,rfl,hg⟩,h3,_⟩:=h.take1;obtain⟨A,c,bs',rfl,h1,h2,h5⟩:=hg.Ka hl;exact⟨A,c,rfl,h3 _ bs' h5 ⟨h1,h2⟩⟩
theorem Inv.flat{us:aO}(h:Inv w0 F0 w rs)(h1:us.all (·.oneCell')=true):Inv w0 F0 w (aZ us (us.map D.v)::rs):=h.oM ⟨TN.scalars h1,Own.nil _ _⟩
theorem Inv.src{i g:Nat}{us:aO}(h:Inv w0 F0 w rs)(hr:rs[i]? =some (oH g us t)){q s:Nat}(hl:Nat.beq us.length (q*s)=true)(h1:us.all (·.oneCell')=true):Src w s (some ⟨g,0,none⟩) q us:=Src.row (h.bQ i hr) (by simpa using hl) h1
theorem Inv.Dk{us:aO}{ds:List D}{bs:aG}(h:Inv w0 F0 w rs)(ht:TN w ds bs us)(hf:∀d∈ds,∃x,d=.v x):Inv w0 F0 w (aZ us ds::rs):=h.oM ⟨(ht.flat hf).2 w,Own.nil _ _⟩
theorem PW{x y:Operand}{t i b o j c k s:Nat}{m:Nat}{us vs:aO}{T:TypeId}{ds1 ds2:List D}{dst:Option Nat}{g:Option (Nat×Bool)}(hx:a.eval x=.pointer (some ⟨b,o,none⟩))(hy:a.eval y=v)(hv:v.cells=vs.toArray)(h1:vs.all (·.oneCell')=true)(hs:(P.info? t).map (·.size)=some vs.length)
  (H:Inv w0 F0 w rs) (hi:rs[i]? =some (xg b c T s m ds1 us ds2)) (hl:ds1.length=k) (ho:Nat.ble (j+vs.length) us.length=true) (hko:o=k+j):(execOp a.eval ⟨dst,.store t x y,ty,pos,aft,g⟩).run P w=.ok .skip (w.setCells b (k+j) vs):=by
 subst hko;obtain⟨cur,h2,h3⟩:=H.pV i hi hl;have ho':j+vs.length<=us.length:=by simpa using ho
 have hst:=run_storeCells_cells (P:=P) b (k+j) vs 0 w (fun q hq=>by
  rw[cell_of_row w b _ cur T (0,0) h2];simp;omega) (fun q hq=>cB h2 _) (fun u hu=>List.all_eq_true.1 h1 u hu)
 cases hq:P.info? t with
 |none=>simp[hq]at hs
 |some ii=>
  have hs':ii.size=vs.length:=by simpa[hq]using hs
  simp only[Nat.add_zero]at hst;simp[execOp,hx,hy,Instr.storeAt,Instr.sureAddr,storeVar,hv,sizeOf,typeInfo,hq,hs',hst]
theorem NZ{tS e s q g c:Nat}{ds:List D}{us:aO}{T:TypeId}(hE:fq P tS e s)(H:Inv w0 F0 w ([oH g us T]++([Gr v e s m ds]++rs)))(hl:Nat.beq us.length (q*s)=true)(h1:us.all (·.oneCell')=true)(hb:m+q<=1073741824):
  ∃v' w',(Builtin.append_ #[tS,tS] ty #[v,.slice (some ⟨g,0,none⟩) q c]).run P w=.ok v' w'/\(∃A' c',v'=.slice A' (m+q) c')/\Inv w0 F0 w' ([oH g us T]++([Gr v' e s (m+q) (ds++us.map D.v)]++rs)):=by
 have hsrc:=H.src (i:=0) (s:=s) rfl hl h1
 have H2:Inv w0 F0 w (Gr v e s m ds::aZ us (us.map D.v)::oH g us T::rs):=(H.flat h1).perm (by
  exact((List.Perm.swap (Gr v e s m ds) (oH g us T) rs).cons _).trans (List.Perm.swap (Gr v e s m ds) (aZ us (us.map D.v)) _))
 obtain⟨v',w',hrun,h3,h4⟩:=yB (ty:=ty) (c:=c) hE H2 hsrc hb;exact⟨v',w',hrun,h3,h4.perm (List.Perm.swap _ _ _)⟩
theorem KH{tS e s q c:Nat}{ds es:List D}{A:Option Addr}(hE:fq P tS e s)(H:Inv w0 F0 w ([]++([Gr v e s m ds]++rs)))(hR:dY w0 F0 (.sl q es) (.slice A q c))(hl:es.length=q*s)(hf:∀d∈es,∃x,d=.v x)(hb:m+q<=1073741824):
  ∃v' w',(Builtin.append_ #[tS,tS] ty #[v,.slice A q c]).run P w=.ok v' w'/\(∃A' c',v'=.slice A' (m+q) c')/\Inv w0 F0 w' ([]++([Gr v' e s (m+q) (ds++es)]++rs)):=by
 obtain⟨bs,hT⟩:=hR.now H;obtain⟨us,bt,hs,ht, -⟩:=hT.src hl;exact yB (ty:=ty) hE ((H.Dk ht hf).front 1 rfl) hs hb
theorem Inv.gr_t{s:Nat}{ds:List D}(h:Inv w0 F0 w rs)(i:Nat)(hr:rs[i]? =some (Gr v t s m ds))(hl:ds.length=m*s):∃bs,T1 w (.sl m ds) bs v:=by
 obtain⟨A,c,bs,rfl,ht⟩:=h.KN i hr hl;exact⟨bs,ht⟩
theorem Inv.rop{b:Nat}{us:aO}{ds:List D}{bs:aG}(h:Inv w0 F0 w rs)(i:Nat)(hr:rs[i]? =some (oH b us t))(ht:TN w ds bs us):je w [] b 0 ds:=⟨bL (h.bQ i hr),by simp,us,h.aM i hr,bs,ht,by simp⟩
theorem all_succ{α:Type}{p:α->Bool}{xs:List α}{k:Nat}{x:α}(h:(xs.take k).all p=true)(hx:xs[k]? =some x)(hp:p x=true):(xs.take (k+1)).all p=true:=by
 rw[List.take_add_one,List.all_append,h,hx];simp[hp]
theorem Qn{α:Type}{p:α->Bool}{xs:List α}{k:Nat}{x:α}(hx:xs[k]? =some x)(hp:p x=false):xs.all p=false:=by
 rw[List.all_eq_false];exact⟨x,List.mem_of_getElem? hx,by simp[hp]⟩
theorem NY{α:Type}{p:α->Bool}{xs:List α}{k:Nat}(h:(xs.take k).all p=true)(hk:xs.length<=k):xs.all p=true:=by rwa[qN hk]at h
theorem Inv.roc{b o:Nat}{cs:aO}{u:Value}(h:Inv w0 F0 w rs)(i:Nat)(hr:rs[i]? =some (oH b cs t))(hc:cs[o]? =some u):KE w [] b o u:=⟨bL (h.bQ i hr),by simp,h.cell i hr hc⟩
theorem Inv.OA{b o c:Nat}{xs:List Int}{y:Int}(h:Inv w0 F0 w rs)(i:Nat)(hr:rs[i]? =some (Dat (.slice (some ⟨b,o,none⟩) m c) m (xs.flatMap tK)))(hm:xs.length=m)(k:Nat)(hx:xs[k]? =some y):w.cell? ⟨b,o+k,none⟩=some (.int .i64 y):=by
 obtain⟨bs,ht⟩:=h.FI i hr;have hk:=(qE.1 hx);obtain⟨b',off,x,hA,_,_,hx',hc⟩:=JE ht hm (hm▸hk.1);injection hA with hA
 injection hA with h1 h2
 subst h1 h2;obtain rfl:x=y:=Option.some.inj (hx'.symm.trans hx);exact hc
theorem sl1{x lo:Operand}{tt e s b o c m:Nat}(w:World)(hx:a.eval x=.slice (some ⟨b,o,none⟩) (m+1) c)(hlo:a.eval lo=.int .i64 1)(ht:bW P tt=some (e,s)):
  ∃A',(∀dst ty pos aft g,(execOp a.eval ⟨dst,.slice tt x (some lo) none none,ty,pos,aft,g⟩).run P w=.ok (.value (.slice A' m (c-1))) w)/\(A'=some ⟨b,o+1*s,none⟩\/c=1):=by
 unfold bW at ht;split at ht
 .rename_i e' hu;cases hie:P.info? e' with
  |none=>rw[hie]at ht;simp at ht
  |some t=>
   rw[hie]at ht;simp at ht;obtain⟨rfl,rfl⟩:=ht;have hm1:(1:Int)<=(m:Int)+1:=by omega
   have hm2:¬((m:Int)+1<1):=by omega
   by_cases hc1:c=1
   .subst hc1;exact⟨some ⟨b,o,none⟩,fun _ _ _ _ _=>by simp[execOp,hx,hlo,Instr.sliceAt,run_underlying hu,Instr.slice,Instr.sliceBounds,Instr.sliceBound,asIntOf,sizeOf,typeInfo,hie,hm1,hm2],.inr rfl⟩
   .exact⟨some ⟨b,o+1*t.size,none⟩,fun _ _ _ _ _=>by simp[execOp,hx,hlo,Instr.sliceAt,run_underlying hu,Instr.slice,Instr.sliceBounds,Instr.sliceBound,asIntOf,sizeOf,typeInfo,hie,Addr.add_mid,hc1,hm1,hm2],.inl rfl⟩
 .cases ht
theorem Inv.OB{b o c s:Nat}{A':Option Addr}{d1 d2:List D}(h:Inv w0 F0 w (Dat (.slice (some ⟨b,o,none⟩) (m+1) c) (m+1) (d1++d2)::rs))(hs:d1.length=s)(h2:d2.length=m*s)(hA:A'=some ⟨b,o+1*s,none⟩\/c=1):Inv w0 F0 w (Dat (.slice A' m (c-1)) m d2::rs):=by
 rcases hA with rfl|rfl
 .exact h.FJ hs h2
 .obtain⟨F,⟨h1,h5⟩,h3,_⟩:=h.take1;obtain⟨A,c',he,hn,_⟩:=h1.slice;injection he with _ _ hc
  subst hc;obtain rfl:m=0:=by omega
  have e:d2=[]:=List.eq_nil_of_length_eq_zero (by simpa using h2);subst e;refine h3 _ [] (by simp) ⟨?_,Own.nil _ _⟩;unfold T1;exact⟨_,_,rfl,by omega,by omega,.inl ⟨rfl,rfl,rfl⟩⟩
theorem Inv.QA{A:Option Addr}{n' c s:Nat}{ds:List D}(h:Inv w0 F0 w (Gr (.slice A n' c) t s m ds::rs))(hl:ds.length=m*s):Inv w0 F0 w (Dat (.slice A n' c) m ds::rs):=by
 obtain⟨A',c',he,H⟩:=h.Gg hl;rw[he];exact H
theorem Inv.Ue{α:Type}{f:α->List D}{b c s:Nat}(hs:∀x,(f x).length=s){xs:List α}(h:Inv w0 F0 w (Gr (.slice (some ⟨b,0,none⟩) m c) t s m (xs.flatMap f)::rs))(hm:xs.length=m){k:Nat}(hk:k<m):
  ∃x us,xs[k]? =some x/\Inv w0 F0 w (xg b c t s m ((xs.take k).flatMap f) us ((xs.drop (k+1)).flatMap f)::aZ us (f x)::rs):=by
 obtain⟨b',c',x,us,hv,_,hx,H⟩:=h.open_ hs hm hk;injection hv with hA _ hc
 injection hA with hA
 injection hA with hb _
 subst hb hc;exact⟨x,us,hx,H⟩
theorem take_len{α:Type}(f:α->List D)(s:Nat)(hs:∀x,(f x).length=s){xs:List α}{k:Nat}(hk:k<xs.length):((xs.take k).flatMap f).length=k*s:=by
 rw[jV f s hs,List.length_take,Nat.min_eq_left (Nat.le_of_lt hk)]
theorem Inv.Ie{α:Type}{f:α->List D}{b c s:Nat}{xs:List α}{us:aO}{k:Nat}{y:α}(h:Inv w0 F0 w (xg b c t s m ((xs.take k).flatMap f) us ((xs.drop (k+1)).flatMap f)::aZ us (f y)::rs))(hk:k<xs.length):Inv w0 F0 w (Gr (.slice (some ⟨b,0,none⟩) m c) t s m ((xs.set k y).flatMap f)::rs):=by
 rw[<-Ba hk];exact h.shut
theorem Inv.Un{α:Type}{f:α->List D}{b c s:Nat}{xs:List α}{us:aO}{k:Nat}{y:α}(h:Inv w0 F0 w (xg b c t s m ((xs.take k).flatMap f) us ((xs.drop (k+1)).flatMap f)::aZ us (f y)::rs))(hx:xs[k]? =some y):Inv w0 F0 w (Gr (.slice (some ⟨b,0,none⟩) m c) t s m (xs.flatMap f)::rs):=by
 obtain⟨hk,he⟩:=qE.1 hx;have:=h.Ie hk
 rwa[<-he,List.set_getElem_self]at this
theorem Inv.Mj{s:Nat}{ds:List D}(h:Inv w0 F0 w rs)(i:Nat)(hr:rs[i]? =some (Gr v t s m ds))(hm:0<m):∃b c,v=.slice (some ⟨b,0,none⟩) m c:=by
 obtain⟨F,bs,us,_,hg⟩:=h.mem i hr;rcases hg.row.2 with⟨_,h0⟩|⟨g,cap,cur,rfl,_⟩
 .omega
 .exact⟨g,cap,rfl⟩
theorem Inv.res{us:aO}{ds:List D}(h:Inv w0 [] w [aZ us ds]):∃q,TN w ds q us/\Own w0.heap.size w q:=by
 obtain⟨G,⟨F,G',rfl,⟨h1,h2⟩,rfl,_⟩,h3⟩:=h.sep;exact⟨F,h1,h2.1,fun b hb=>⟨(h3 b (by simp[hb])).elim (fun h=>by simp at h) id,(h2.2 b hb).2⟩⟩
theorem Inv.Qu{A:Option Addr}{n' c:Nat}{ds:List D}(h:Inv w0 F0 w rs)(i:Nat)(hr:rs[i]? =some (Dat (.slice A n' c) m ds))(hm:0<m):∃b o,A=some ⟨b,o,none⟩:=by
 obtain⟨bs,ht⟩:=h.FI i hr;unfold T1 at ht;obtain⟨A',c',he,_,_,h1⟩:=ht;injection he with hA
 subst hA;rcases h1 with⟨h0,_⟩|⟨_,b,off,us,bs',rfl,_⟩
 .omega
 .exact⟨b,off,rfl⟩
theorem Inv.KX{b c s:Nat}{d1 d d2:List D}(h:Inv w0 F0 w (Gr (.slice (some ⟨b,0,none⟩) m c) t s m (d1++(d++d2))::rs))(hm:0<m):
  ∃us,Inv w0 F0 w (xg b c t s m d1 us d2::aZ us d::rs):=by
 obtain⟨F,⟨bs,us,rfl,hg⟩,_,h3⟩:=h.take1;obtain⟨⟨hl0,hrow⟩,htn,hown,hout⟩:=hg;rcases hrow with⟨_,hn⟩|⟨g,cap,cur,hv,hlo,hgg,hnc,hcm,hcs,htk⟩
 .omega
 injection hv with hA _ hc
 injection hA with hA
 injection hA with hb _
 subst hb hc;obtain⟨b1,b',u1,u',rfl,rfl,t1,htn⟩:=TN.append.1 htn;obtain⟨b2,b3,u2,u3,rfl,rfl,t2,t3⟩:=TN.append.1 htn;have hgb:b∉b1++(b2++b3):=hout b rfl;have hnd:=List.nodup_append.1 hown.1;have hnd2:=List.nodup_append.1 hnd.2.1;have hrl:lQ (.slice (some ⟨b,0,none⟩) m c)=[b]:=rfl;refine⟨u2,h3 _ _ (b::(b1++b3)) b2 (fun y hy=> ?_) (fun y hy=>by rw[hrl];simp[hy]) (fun y hy hm2=> ?_) ⟨cur,u1,u3,b1,b3,rfl,hgg,hnc,hcm,hcs,htk,hl0,t1,t3,⟨List.nodup_append.2 ⟨hnd.1,hnd2.2.1,fun y hy z hz e=>hnd.2.2 y hy z (by simp[hz]) e⟩,fun y hy=>hown.2 y (by simp at hy |-;rcases hy with h|h<;>simp[h])⟩,fun hm2=>hgb (by simp at hm2 |-;rcases hm2 with h|h<;>simp[h])⟩ ⟨t2,hnd2.1,fun y hy=>hown.2 y (by simp[hy])⟩⟩
 .rw[hrl];simp at hy |-;rcases hy with h|h|h<;>simp[h]
 .rcases List.mem_cons.1 hy with rfl|hy
  .exact hgb (by simp[hm2])
  .rcases qT.1 hy with hy|hy
   .exact hnd.2.2 y hy y (by simp[hm2]) rfl
   .exact hnd2.2.2 y hm2 y hy rfl
theorem Inv.Uf{b c s:Nat}{d1 d2:List D}{us:aO}(h:Inv w0 F0 w (Gr (.slice (some ⟨b,0,none⟩) m c) t s m (d1++(us.map D.v++d2))::rs))(hm:0<m):Inv w0 F0 w (xg b c t s m d1 us d2::rs):=by
 obtain⟨us',H⟩:=h.KX hm;obtain⟨F,hp,_⟩:=H.mem 1 rfl;obtain⟨_,rfl⟩:=TN.vE hp;exact H.drop 1 rfl
theorem dY.raw{A:Option Addr}{n n' c s:Nat}{ds:List D}(h:dY w0 F0 (.sl n ds) (.slice A n' c))(hl:ds.length=n*s):∃us:aO,(us.map D.v).length=n*s/\dY w0 F0 (.sl n (us.map D.v)) (.slice A n' c)/\fT w0 F0 ds us:=by
 obtain⟨bs,h1,h2⟩:=h;unfold T1 at h1;obtain⟨A',c',he,hn,hc,h1⟩:=h1;rcases h1 with⟨rfl,rfl,rfl⟩|⟨h0,b,off,us,bs',hA,rfl,hb,hca,ht⟩
 .refine⟨[],by simp,⟨[],?_,by simp⟩,⟨[],TN.done,by simp⟩⟩;unfold T1;exact⟨A',c',he,hn,hc,.inl ⟨rfl,rfl,rfl⟩⟩
 .refine⟨us,by rw[qV,ht.length,hl],⟨[b],?_,fun y hy=> ?_⟩,⟨bs',ht,fun y hy=>h2 y (by simp[hy])⟩⟩
  .unfold T1;exact⟨A',c',he,hn,hc,.inr ⟨h0,b,off,us,[],hA,rfl,hb,hca,TN.scalars ht.wQ⟩⟩
  .simp at hy;subst hy;exact h2 y (by simp)
theorem fT.chunk{α:Type}{f:α->List D}{s:Nat}(hs:∀x,(f x).length=s):∀{xs:List α} {us:aO} {k:Nat} {x:α},fT w0 F0 (xs.flatMap f) us->xs[k]? =some x->∃c,fT w0 F0 (f x) c/\us.drop (k*s)=c++us.drop ((k+1)*s)
 |[],_,k,x,_,hx=>by simp at hx
 |y::ys,us,k,x,h,hx=>by
  obtain⟨bs,h1,h2⟩:=h;rw[qU]at h1;obtain⟨b1,b2,u1,u2,rfl,rfl,t1,t2⟩:=TN.append.1 h1;have l1:u1.length=s:=t1.length.trans (hs y);cases k with
  |zero=>
   obtain rfl:y=x:=by simpa using hx
   refine⟨u1,⟨b1,t1,fun b hb=>h2 b (by simp[hb])⟩,?_⟩;rw[Nat.zero_mul,List.drop_zero,Nat.zero_add,Nat.one_mul,List.drop_append_of_le_length (by omega),<-l1,List.drop_length,List.nil_append]
  |succ k=>
   obtain⟨c,hc,he⟩:=fT.chunk hs (k:=k) (x:=x) ⟨b2,t2,fun b hb=>h2 b (by simp[hb])⟩ (by simpa using hx);refine⟨c,hc,?_⟩;have e1:(k+1)*s=u1.length+k*s:=by rw[l1,Nat.add_mul];omega
   have e2:(k+1+1)*s=u1.length+(k+1)*s:=by rw[l1,Nat.add_mul (k+1)];omega
   rw[e1,e2,List.drop_append,List.drop_append,List.drop_eq_nil_of_le (as:=u1) (by omega),List.drop_eq_nil_of_le (as:=u1) (by omega)];simpa using he
theorem M5{x y:Operand}{tt e u:TypeId}{ad:Addr}{n' c:Nat}{dst:Option Nat}{g:Option (Nat×Bool)}(hx:a.eval x=.slice (some ad) n' c)(hy:a.eval y=.slice none 0 0)(ht:P.underlying tt=some (.slice e)):(execOp a.eval ⟨dst,.binOp .eql tt x y u,ty,pos,aft,g⟩).run P w=.ok (.value (.bool false)) w:=by
 have he:(eqGuard .eql tt x y (.slice (some ad) n' c) (.slice none 0 0)).run P w=.ok () w:=by
  unfold eqGuard;split<;>rfl
 simp[execOp,hx,hy,he,Go.Lib.run_eql_slice_nil w tt e (some ad) n' c 0 0 ht]
theorem M0{x y:Operand}{tt e u:TypeId}{n' c:Nat}{dst:Option Nat}{g:Option (Nat×Bool)}(hx:a.eval x=.slice none n' c)(hy:a.eval y=.slice none 0 0)(ht:P.underlying tt=some (.slice e)):(execOp a.eval ⟨dst,.binOp .eql tt x y u,ty,pos,aft,g⟩).run P w=.ok (.value (.bool true)) w:=by
 have he:(eqGuard .eql tt x y (.slice none n' c) (.slice none 0 0)).run P w=.ok () w:=by
  unfold eqGuard;split<;>rfl
 simp[execOp,hx,hy,he,Go.Lib.run_eql_slice_nil w tt e none n' c 0 0 ht]
theorem KE.at_{F:aG}{b o:Nat}(h:KE w0 F0 b o v)(hi:Inv w0 F0 w rs)(hF:∀b∈F,b∈F0\/w0.heap.size<=b):KE w F b o v:=
 ⟨qW h.1 hi.gX.size,fun hm=>(hF b hm).elim h.2.1 (fun h2=>by have:=h.1;omega),(World.cell?_of_block (hi.gX.other b h.1 h.2.1)).trans h.2.2⟩
theorem b_at{a b:Bool}(h:(a&&b)=true):a=true/\b=true:=by cases a<;>cases b<;>simp_all
theorem b_of{a b:Bool}(h:(a||b)=false):a=false/\b=false:=by cases a<;>cases b<;>simp_all
theorem b_af{a b:Bool}(h:(a&&b)=false):a=false\/(a=true/\b=false):=by cases a<;>cases b<;>simp_all
theorem b_ot{a b:Bool}(h:(a||b)=true):a=true\/(a=false/\b=true):=by cases a<;>cases b<;>simp_all
theorem b_cd{t a b v:Bool}(h:cond t a b=v):(t=false/\b=v)\/(t=true/\a=v):=by cases t<;>simp_all
theorem b_nt{a:Bool}(h:(!a)=true):a=false:=by cases a<;>simp_all
theorem b_nf{a:Bool}(h:(!a)=false):a=true:=by cases a<;>simp_all
theorem wn{j t:Nat}{o:Oper}{b b':Bool}(E:Env n a l)(hd:Nat.blt d n=true)(hj:ops[j]? =some o)(ht:o.dst=some t)(hl:l.lookup t=some (.bool b'))(hb:(b'==b)=false)(h:∀a',Env n a' ((d,undef)::l)->wpList P ops Q rest a' w):
  wpList P ops Q (⟨some d,op,ty,pos,aft,some (j,b)⟩::rest) a w:=UC E hd (Tw E hj ht hl) hb h
theorem wnh{j t:Nat}{o:Oper}{b b' c:Bool}(E:Env n a l)(hd:Nat.blt d n=true)(hj:ops[j]? =some o)(ht:o.dst=some t)(hl:l.lookup t=some (.bool b'))(hq:b'=c)(hb:(c==b)=false)(h:∀a',Env n a' ((d,undef)::l)->wpList P ops Q rest a' w):
  wpList P ops Q (⟨some d,op,ty,pos,aft,some (j,b)⟩::rest) a w:=UC E hd (Tw E hj ht hl) (bnq hq hb) h
theorem wnu{j t:Nat}{o:Oper}{b:Bool}(E:Env n a l)(hd:Nat.blt d n=true)(hj:ops[j]? =some o)(ht:o.dst=some t)(hl:l.lookup t=some undef)(h:∀a',Env n a' ((d,undef)::l)->wpList P ops Q rest a' w):
  wpList P ops Q (⟨some d,op,ty,pos,aft,some (j,b)⟩::rest) a w:=Tt E hd (Tx E hj ht hl) h
theorem ung{j t:Nat}{o:Oper}{b b':Bool}{dst:Option Nat}(E:Env n a l)(hj:ops[j]? =some o)(ht:o.dst=some t)(hl:l.lookup t=some (.bool b'))(hb:b'=b)(h:wpList P ops Q (⟨dst,op,ty,pos,aft,none⟩::rest) a w):wpList P ops Q (⟨dst,op,ty,pos,aft,some (j,b)⟩::rest) a w:=Kt (Tw E hj ht hl) hb h
theorem B1(b:Bool):(true&&b)=b:=rfl
theorem B2(b:Bool):(false&&b)=false:=rfl
theorem B3(b:Bool):(b&&true)=b:=by cases b<;>rfl
theorem B4(b:Bool):(b&&false)=false:=by cases b<;>rfl
theorem B5(b:Bool):(true||b)=true:=rfl
theorem B6(b:Bool):(false||b)=b:=rfl
theorem B7(b:Bool):(b||true)=true:=by cases b<;>rfl
theorem B8(b:Bool):(b||false)=b:=by cases b<;>rfl
theorem B9:(!true)=false:=rfl
theorem B10:(!false)=true:=rfl
theorem B11{α:Type}(a b:α):cond true a b=a:=rfl
theorem B12{α:Type}(a b:α):cond false a b=b:=rfl
theorem B13(b:Bool):(b&&b)=b:=by cases b<;>rfl
theorem B14(b:Bool):(b||b)=b:=by cases b<;>rfl
theorem rb{x y:Bool}(hE:x=y)(H:Inv w0 [] w rs):Ending.returned (.bool x)=Ending.returned (.bool y)/\Ext w0 w:=⟨congrArg (fun z=>Ending.returned (Value.bool z)) hE,H.sw⟩
theorem vm{t:Nat}(E:Env n a l)(hd:Nat.blt d n=true)(hl:l.lookup t=some v)(h:∀a',Env n a' ((d,v)::l)->wpList P ops Q rest a' w):wpList P ops Q (⟨some d,.move (.tmp t),ty,pos,aft,none⟩::rest) a w:=wv E hd (Hu (E.tmp hl)) h
theorem va{t:Nat}(E:Env n a l)(hd:Nat.blt d n=true)(hl:l.lookup t=some v)(h:∀a',Env n a' ((d,v)::l)->wpList P ops Q rest a' w):wpList P ops Q (⟨some d,.assign (.tmp t),ty,pos,aft,none⟩::rest) a w:=wv E hd (AV (E.tmp hl)) h
end
end
end Go.Tr
