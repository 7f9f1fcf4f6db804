
/- Data trees in memory: what a slice of structs, with slices in it, reads as; kept where its blocks are kept. -/
import Derived.Test.YtpdipfohnpopmaaDoorShort
import Derived.WalkKit
import Derived.Lib.Hide
import Derived.Deep.QuietTactic
import Derived.BigQuiet
import Derived.KernelRfl
import Derived.Laws.AppendOwn
import Derived.OrdersHeld
import Derived.Maps.AppendAt
import Derived.Deep.LoopGhost
import Derived.Deep.MidRow
import Derived.Lib.SliceRun
set_option linter.unusedSimpArgs false
set_option linter.unusedVariables false
namespace Go.Tr
open Go Go.RowKit
inductive D where
 |v (x:Value)
 |sl (n:Nat) (ds:List D)
def aT(w:World)(b off:Nat)(us:List Value):Prop:=∀j u,us[j]? =some u->w.cell? ⟨b,off+j,none⟩=some u
mutual
def T1(w:World):D->List Nat->Value->Prop
 | .v x,bs,u=>u=x/\bs=[]/\x.oneCell'=true
 | .sl n ds,bs,u=>∃A c,u=.slice A n c/\n<=c/\c<=maxLen/\((n=0/\ds=[]/\bs=[])\/(0<n/\∃b off us bs',A=some ⟨b,off,none⟩/\bs=b::bs'/\b<w.heap.size/\aT w b off us/\TN w ds bs' us))
def TN(w:World):List D->List Nat->List Value->Prop
 |[],bs,us=>us=[]/\bs=[]
 |d::ds,bs,us=>∃b1 b2 u us',us=u::us'/\bs=b1++b2/\T1 w d b1 u/\TN w ds b2 us'
end
def Keeps(w w':World)(bs:List Nat):Prop:=w.heap.size<=w'.heap.size/\∀b∈bs,w'.heap[b]? =w.heap[b]?
theorem Keeps.sub{w w':World}{bs cs:aK}(h:Keeps w w' bs)(hs:∀b∈cs,b∈bs):Keeps w w' cs:=⟨h.1,fun b hb=>h.2 b (hs b hb)⟩
theorem aT.keep{w w':World}{b off:Nat}{us:aO}(h:aT w b off us)(hk:w'.heap[b]? =w.heap[b]?):aT w' b off us:=
 fun j u hu=>(World.cell?_of_block hk).trans (h j u hu)
mutual
theorem T1.keep{w w':World}:∀{d:D} {bs:aK} {u:Value},T1 w d bs u->Keeps w w' bs->T1 w' d bs u
 | .v x,bs,u,h,_=>by unfold T1 at*;exact h
 | .sl n ds,bs,u,h,hk=>by
  unfold T1 at h |-;obtain⟨A,c,rfl,hn,hc,h⟩:=h;refine⟨A,c,rfl,hn,hc,?_⟩;rcases h with h|⟨h0,b,off,us,bs',rfl,rfl,hb,hca,ht⟩
  .exact .inl h
  .exact .inr ⟨h0,b,off,us,bs',rfl,rfl,qW hb hk.1,hca.keep (hk.2 b (by simp)),TN.keep ht (hk.sub fun b' hb'=>by simp[hb'])⟩
theorem TN.keep{w w':World}:∀{ds:List D} {bs:aK} {us:aO},TN w ds bs us->Keeps w w' bs->TN w' ds bs us
 |[],bs,us,h,_=>by unfold TN at*;exact h
 |d::ds,bs,us,h,hk=>by
  unfold TN at h |-;obtain⟨b1,b2,u,us',rfl,rfl,h1,h2⟩:=h;exact⟨b1,b2,u,us',rfl,rfl,T1.keep h1 (hk.sub fun b hb=>by simp[hb]),TN.keep h2 (hk.sub fun b hb=>by simp[hb])⟩
end
mutual
theorem T1.lt{w:World}:∀{d:D} {bs:aK} {u:Value},T1 w d bs u->∀b∈bs,b<w.heap.size
 | .v x,bs,u,h=>by unfold T1 at h;obtain⟨_,rfl,_⟩:=h;simp
 | .sl n ds,bs,u,h=>by
  unfold T1 at h;obtain⟨A,c,rfl,hn,hc,h⟩:=h;rcases h with⟨_,_,rfl⟩|⟨h0,b,off,us,bs',rfl,rfl,hb,hca,ht⟩
  .simp
  .intro b' hb';rcases List.mem_cons.1 hb' with rfl|hb'
   .exact hb
   .exact TN.lt ht b' hb'
theorem TN.lt{w:World}:∀{ds:List D} {bs:aK} {us:aO},TN w ds bs us->∀b∈bs,b<w.heap.size
 |[],bs,us,h=>by unfold TN at h;obtain⟨_,rfl⟩:=h;simp
 |d::ds,bs,us,h=>by
  unfold TN at h;obtain⟨b1,b2,u,us',rfl,rfl,h1,h2⟩:=h;intro b hb;rcases qT.1 hb with hb|hb
  .exact T1.lt h1 b hb
  .exact TN.lt h2 b hb
end
theorem TN.length{w:World}:∀{ds:List D} {bs us},TN w ds bs us->us.length=ds.length
 |[],bs,us,h=>by unfold TN at h;simp[h.1]
 |d::ds,bs,us,h=>by
  unfold TN at h;obtain⟨b1,b2,u,us',rfl,rfl,h1,h2⟩:=h;simp[h2.length]
theorem TN.nil{w:World}{bs us}:TN w [] bs us↔us=[]/\bs=[]:=by unfold TN;rfl
theorem TN.cons{w:World}{d ds bs us}:TN w (d::ds) bs us↔∃b1 b2 u us',us=u::us'/\bs=b1++b2/\T1 w d b1 u/\TN w ds b2 us':=by rw[TN]
theorem T1.v{w:World}{x bs u}:T1 w (.v x) bs u↔u=x/\bs=[]/\x.oneCell'=true:=by rw[T1]
theorem TN.append{w:World}:∀{ds es:List D} {bs us},TN w (ds++es) bs us↔∃b1 b2 u1 u2,us=u1++u2/\bs=b1++b2/\TN w ds b1 u1/\TN w es b2 u2
 |[],es,bs,us=>by
  constructor
  .intro h;exact⟨[],bs,[],us,rfl,rfl,TN.nil.2 ⟨rfl,rfl⟩,h⟩
  .rintro⟨b1,b2,u1,u2,rfl,rfl,h1,h2⟩;obtain⟨rfl,rfl⟩:=TN.nil.1 h1;exact h2
 |d::ds,es,bs,us=>by
  rw[List.cons_append,TN.cons];constructor
  .rintro⟨b1,b2,u,us',rfl,rfl,h1,h2⟩;obtain⟨c1,c2,u1,u2,rfl,rfl,h3,h4⟩:=TN.append.1 h2;exact⟨b1++c1,c2,u::u1,u2,rfl,by simp,TN.cons.2 ⟨b1,c1,u,u1,rfl,rfl,h1,h3⟩,h4⟩
  .rintro⟨b1,b2,u1,u2,rfl,rfl,h1,h2⟩;obtain⟨c1,c2,u,us',rfl,rfl,h3,h4⟩:=TN.cons.1 h1;exact⟨c1,c2++b2,u,us'++u2,rfl,by simp,h3,TN.append.2 ⟨c2,b2,us',u2,rfl,rfl,h4,h2⟩⟩
theorem jm{α β:Type}(f:α->List β)(s:Nat)(hs:∀x,(f x).length=s)(xs:List α):(xs.flatMap f).length=xs.length*s:=by
 induction xs with
 |nil=>simp
 |cons x xs ih=>simp[ih,hs,Nat.add_mul,Nat.add_comm]
theorem flat_get{α:Type}(f:α->List D)(s:Nat)(hs:∀x,(f x).length=s):∀(xs:List α) (k:Nat) (hk:k<xs.length),∃l r,xs.flatMap f=l++f xs[k]++r/\l=(xs.take k).flatMap f/\r=(xs.drop (k+1)).flatMap f/\l.length=k*s
 |x::xs,0,_=>⟨[],xs.flatMap f,by simp,by simp,by simp,by simp⟩
 |x::xs,k+1,hk=>by
  obtain⟨l,r,h,h1,h2,h3⟩:=flat_get f s hs xs k (by simpa using hk);refine⟨f x++l,r,by simp[h],by simp[h1],by simp[h2],by simp[h3,hs,Nat.add_mul,Nat.add_comm]⟩
theorem T1.at_{α:Type}{f:α->List D}{s:Nat}(hs:∀x,(f x).length=s){w:World}{xs:List α}{bs:aK}{A:Option Addr}{n c m:Nat}(h:T1 w (.sl m (xs.flatMap f)) bs (.slice A n c))(hm:xs.length=m){k:Nat}(hk:k<m):
  n=m/\∃b off b1 b2 b3 us,A=some ⟨b,off,none⟩/\bs=b::(b1++b2++b3)/\b<w.heap.size/\aT w b (off+k*s) us/\TN w (f (xs[k]'(hm▸hk))) b2 us:=by
 unfold T1 at h;obtain⟨A',c',he,hn,hc,h⟩:=h;injection he with hA hn' hc'
 subst hA hn' hc';refine⟨rfl,?_⟩;rcases h with⟨rfl,_,_⟩|⟨h0,b,off,us,bs',rfl,rfl,hb,hca,ht⟩
 .omega
 .obtain⟨l,r,he,_,_,hl⟩:=flat_get f s hs xs k (hm▸hk);rw[he]at ht;obtain⟨b1,b3,u1,u3,rfl,rfl,h1,h3⟩:=TN.append.1 ht;obtain⟨b1,b2,u1,u2,rfl,rfl,h1,h2⟩:=TN.append.1 h1;refine⟨b,off,b1,b2,b3,u2,rfl,rfl,hb,?_,h2⟩;intro j u hu;have hl1:=h1.length
  have:=hca (k*s+j) u (by
   rw[qF,qL (by omega),qM (by
    have:=(qE.1 hu).1;omega)]
   rw[hl1,hl,Nat.add_sub_cancel_left];exact hu)
  rwa[<-Nat.add_assoc]at this
structure CY(w:World) where
 to:World
 h:Below w.heap.size w to
instance (w:World):Inhabited (CY w):=⟨⟨w,Below.refl _ _⟩⟩
theorem T1.empty{w:World}(A:Option Addr):T1 w (.sl 0 []) [] (.slice A 0 0):=by
 unfold T1;exact⟨_,_,rfl,Nat.le_refl _,Nat.zero_le _,.inl ⟨rfl,rfl,rfl⟩⟩
def bq:List Int->List Int->Bool
 |x::xs,y::ys=>x==y&&bq xs ys
 |_,_=>true
theorem gy{P:Program}(w:World)(d:Nat):∀(fs:List Field) (pre:Nat) (l:List (String×TypeId×Nat)) (xs ys:List Int) (px py:aO),
  fs.map (fun f => (f.name, f.type, f.offset)) = l -> (∀ t ∈ l.map (·.2.1), P.underlying t = some (.int .i64)) -> l.map (·.2.2) = List.range' pre l.length -> (l.all fun x => x.1 != "_") = true -> xs.length = l.length -> ys.length = l.length -> px.length = pre -> py.length = pre ->
  (Op.eqFields (d+1) (px++xs.map (Value.int .i64)).toArray (py++ys.map (Value.int .i64)).toArray fs).run P w=.ok (bq xs ys) w
 |[],pre,l,xs,ys,px,py,hl,_,_,_,hx,hy,_,_=>by
  simp at hl;subst hl;obtain rfl:xs=[]:=List.eq_nil_of_length_eq_zero (by simpa using hx);obtain rfl:ys=[]:=List.eq_nil_of_length_eq_zero (by simpa using hy);simp[Op.eqFields,bq]
 |f::fs,pre,l,xs,ys,px,py,hl,hu,ho,hnm,hx,hy,hpx,hpy=>by
  subst hl
  match xs,ys,hx,hy with
  |x::xs,y::ys,hx,hy=>
   simp only[List.map_cons,qI,List.range'_succ,List.cons.injEq,List.all_cons,qD,bne_iff_ne,ne_eq]at ho hnm;have hut:P.underlying f.type=some (.int .i64):=hu _ (by simp)
   have hp:∀(pz:List Value) (z:Int) (zs:List Int),pz.length=pre->(part f.type (pz++(z::zs).map (Value.int .i64)).toArray f.offset).run P w=.ok (.int .i64 z) w:=by
    intro pz z zs hz
    have hg:(pz++(z::zs).map (Value.int .i64)).toArray[f.offset]? =some (.int .i64 z):=by
     rw[ho.1];simp[<-hz]
    simp only[part,isAgg,Sem.run_bind,run_underlying hut,Result.andThen_ok,hg];simp
   have ih:=gy (P:=P) w d fs (pre+1) _ xs ys (px++[.int .i64 x]) (py++[.int .i64 y]) rfl (fun t ht=>hu t (by simp at ht |-;exact .inr ht)) (by simpa using ho.2) hnm.2 (by simpa using hx) (by simpa using hy) (by simp[hpx]) (by simp[hpy]);simp only[qF,List.singleton_append]at ih;simp only[Op.eqFields,ne_eq,hnm.1,not_false_eq_true,if_true,Sem.run_bind,hp px x xs hpx,hp py y ys hpy,Result.andThen_ok,run_equalIn_int w d f.type .i64 .i64 x y hut]
   by_cases hxy:x=y
   .subst hxy;simp only[beq_self_eq_true,Bool.not_true,Bool.false_eq_true,if_false,bq,Bool.true_and];exact ih
   .have:(x==y)=false:=by simpa using hxy
    simp[this,bq]
theorem eU{P:Program}(w:World)(d:Nat)(t:TypeId)(l:List (String×TypeId×Nat))(ht:P.underlying t=some (.struct (P.fieldsOf t)))(hp:P.stoodInHeld t=false)
  (hl:(P.fieldsOf t).toList.map (fun f=>(f.name,f.type,f.offset))=l) (hu:∀t∈l.map (·.2.1),P.underlying t=some (.int .i64)) (xs ys:List Int)
  (ho : (l.map (·.2.2) == List.range' 0 l.length && l.all fun x => x.1 != "_") = true) (hxy : (xs.length == l.length && ys.length == l.length) = true) :
  (Op.equalIn (d+2) t (.agg (xs.map (Value.int .i64)).toArray) (.agg (ys.map (Value.int .i64)).toArray)).run P w=.ok (bq xs ys) w:=by
 simp only[qD,beq_iff_eq]at ho hxy;rw[run_equalIn_struct w (d+1) t _ _ ht hp];exact gy (P:=P) w d _ 0 l xs ys [] [] hl hu ho.1 ho.2 hxy.1 hxy.2 rfl rfl
theorem T1.slice{w:World}{n ds bs u}(h:T1 w (.sl n ds) bs u):∃A c,u=.slice A n c/\n<=c/\c<=maxLen:=by
 unfold T1 at h;obtain⟨A,c,h1,h2,h3,_⟩:=h;exact⟨A,c,h1,h2,h3⟩
theorem TN.CP{w:World}{x ds bs us}(h:TN w (.v x::ds) bs us):∃us',us=x::us'/\TN w ds bs us':=by
 obtain⟨b1,b2,u,us',rfl,rfl,h1,h2⟩:=TN.cons.1 h;obtain⟨rfl,rfl,_⟩:=T1.v.1 h1;exact⟨us',rfl,h2⟩
theorem TN.uY{w:World}{x ds bs us}(h1:x.oneCell'=true)(h:TN w ds bs us):TN w (.v x::ds) bs (x::us):=TN.cons.2 ⟨[],bs,x,us,rfl,rfl,T1.v.2 ⟨rfl,rfl,h1⟩,h⟩
theorem TN.Bd{w:World}{n es ds bs us}(h:TN w (.sl n es::ds) bs us):∃A c b1 b2 us',us=.slice A n c::us'/\bs=b1++b2/\T1 w (.sl n es) b1 (.slice A n c)/\n<=c/\c<=maxLen/\TN w ds b2 us':=by
 obtain⟨b1,b2,u,us',rfl,rfl,h1,h2⟩:=TN.cons.1 h;obtain⟨A,c,rfl,h3,h4⟩:=h1.slice;exact⟨A,c,b1,b2,us',rfl,rfl,h1,h3,h4,h2⟩
theorem TN.zG{w:World}{d ds b1 b2 u us}(h:T1 w d b1 u)(h2:TN w ds b2 us):TN w (d::ds) (b1++b2) (u::us):=TN.cons.2 ⟨b1,b2,u,us,rfl,rfl,h,h2⟩
theorem TN.end_{w:World}{bs us}(h:TN w [] bs us):us=[]/\bs=[]:=TN.nil.1 h
theorem TN.done{w:World}:TN w [] [] []:=TN.nil.2 ⟨rfl,rfl⟩
theorem T1.sH{w:World}:∀{d:D} {bs:aK} {u:Value},T1 w d bs u->u.oneCell'=true
 | .v x,bs,u,h=>by obtain⟨rfl,_,h⟩:=T1.v.1 h;exact h
 | .sl n ds,bs,u,h=>by obtain⟨A,c,rfl,_,_⟩:=h.slice;rfl
theorem TN.sH{w:World}:∀{ds:List D} {bs us},TN w ds bs us->us.all (·.oneCell')=true
 |[],bs,us,h=>by obtain⟨rfl,_⟩:=TN.nil.1 h;rfl
 |d::ds,bs,us,h=>by
  obtain⟨b1,b2,u,us',rfl,rfl,h1,h2⟩:=TN.cons.1 h;simp[h1.sH,List.all_eq_true.1 h2.sH];exact fun x hx=>List.all_eq_true.1 h2.sH x hx
def Own(lo:Nat)(w:World)(bs:List Nat):Prop:=bs.Nodup/\∀b∈bs,lo<=b/\∃cur t,w.heap[b]? =some (.cells cur t (0,0))
theorem Own.nil(lo:Nat)(w:World):Own lo w []:=⟨List.nodup_nil,by simp⟩
theorem Own.lt{lo w bs}(h:Own lo w bs):∀b∈bs,b<w.heap.size:=fun b hb=>by
 obtain⟨_,cur,t,h⟩:=h.2 b hb;exact(Array.getElem?_eq_some_iff.1 h).1
theorem iA{w:World}{g:Nat}{cs:Array Value}{t:TypeId}(h:w.heap[g]? =some (.cells cs t (0,0)))(o:Nat):w.frozen? ⟨g,o,none⟩=false:=by
 simp[World.frozen?,h]
theorem Rows.iI{w:World}{b i:Nat}{cs:Array Value}{T:TypeId}{fr:Nat×Nat}{v:Value}(hb:w.heap[b]? =some (.cells cs T fr)):
  (w.setCell ⟨b,i,none⟩ v).heap[b]? =some (.cells (cs.setIfInBounds i v) T fr):=by
 simp[World.setCell,Array.getElem?_modify,hb]
abbrev Ext(w w1:World):Prop:=Below w.heap.size w w1
section
variable {P:Program}{w:World}{f:FuncId}{args:Array Value}{v:Value}
end
theorem T1.nle{w:World}{n n' c:Nat}{ds bs A}(h:T1 w (.sl n ds) bs (.slice A n' c)):n<=9223372036854775807:=by
 obtain⟨A',c',he,h1,h2⟩:=h.slice;have:maxLen=9223372036854775807:=rfl;omega
theorem jE{w:World}{g i:Nat}{cs:Array Value}{t:TypeId}{v:Value}(h:w.heap[g]? =some (.cells cs t (0,0)))(hi:cs[i]? =some v):w.cell? ⟨g,i,none⟩=some v:=(cell_of_row w g i cs t (0,0) h).trans hi
end Go.Tr
namespace Go.Tr
open Go Go.RowKit
structure fH(P:Program)(t e:TypeId)(s:Nat):Prop where
 u:P.underlying t=some (.slice e)
 i:∃i z,P.info? e=some i/\i.zero=some z/\i.size=s/\z.cells.size=s/\i.bytes<=1000
 p:0<s
theorem fH.of{P:Program}{t e:TypeId}{s:Nat}(hu:P.underlying t=some (.slice e))(h:(P.info? e).map (fun i=>(i.zero.map (·.cells.size),i.size,decide (i.bytes<=1000)))=some (some s,s,true))(hp:0<s):fH P t e s:=by
 refine⟨hu,?_,hp⟩;cases hi:P.info? e with
 |none=>simp[hi]at h
 |some i=>
  rw[hi]at h;simp only[Option.map_some,Option.some.injEq,Prod.mk.injEq,qQ]at h;obtain⟨h1,h2,h3⟩:=h;cases hz:i.zero with
  |none=>rw[hz]at h1;simp at h1
  |some z=>rw[hz]at h1;exact⟨i,z,rfl,hz,h2,by simpa using h1,h3⟩
section
variable {P:Program}{w:World}
end
end Go.Tr
namespace Go.Tr
open Go Go.RowKit
theorem T1.focus{α:Type}{f:α->List D}{s:Nat}(hs:∀x,(f x).length=s){w:World}{xs:List α}{bs:aK}{A:Option Addr}{n c:Nat}(h:T1 w (.sl n (xs.flatMap f)) bs (.slice A n c))(hm:xs.length=n){k:Nat}(hk:k<n):
  ∃b off b1 b2 b3 us,A=some ⟨b,off,none⟩/\bs=b::(b1++b2++b3)/\b<w.heap.size/\aT w b (off+k*s) us/\TN w (f (xs[k]'(hm▸hk))) b2 us/\
   ∀w' x' us',w.heap.size<=w'.heap.size->(∀j,(j<off+k*s\/off+k*s+s<=j)->w'.cell? ⟨b,j,none⟩=w.cell? ⟨b,j,none⟩)->(∀b'∈b1++b3,w'.heap[b']? =w.heap[b']?)->
    aT w' b (off+k*s) us'->TN w' (f x') b2 us'->T1 w' (.sl n ((xs.set k x').flatMap f)) bs (.slice A n c):=by
 have hk':k<xs.length:=hm▸hk;unfold T1 at h;obtain⟨A',c',he,hn,hc,h⟩:=h;injection he with hA hn' hc'
 subst hA hc';rcases h with⟨rfl,_,_⟩|⟨h0,b,off,us,bs',rfl,rfl,hb,hca,ht⟩
 .omega
 have hx:xs.flatMap f=(xs.take k).flatMap f++(f xs[k]++(xs.drop (k+1)).flatMap f):=by
  conv=>lhs;rw[<-List.take_append_drop k xs,List.drop_eq_getElem_cons hk',List.flatMap_append,qU]
 have hl:((xs.take k).flatMap f).length=k*s:=by rw[jm f s hs,List.length_take,Nat.min_eq_left (Nat.le_of_lt hk')]
 rw[hx]at ht;obtain⟨b1,b',u1,u',rfl,rfl,t1,ht⟩:=TN.append.1 ht;obtain⟨b2,b3,u2,u3,rfl,rfl,t2,t3⟩:=TN.append.1 ht;have l1:=t1.length;have l2:=t2.length;rw[hl]at l1;rw[hs]at l2;refine⟨b,off,b1,b2,b3,u2,rfl,by simp,hb,fun j u hu=> ?_,t2,fun w' x' us' hsz hcell hkeep hca' ht'=> ?_⟩
 .have hj:=(qE.1 hu).1
  have:=hca (k*s+j) u (by
   rw[qL (by omega),l1,Nat.add_sub_cancel_left,qM hj];exact hu)
  rwa[<-Nat.add_assoc]at this
 .have l2':=ht'.length;rw[hs]at l2';unfold T1;refine⟨_,_,rfl,hn,hc,.inr ⟨h0,b,off,u1++(us'++u3),b1++(b2++b3),rfl,rfl,qW hb hsz,fun j u hu=> ?_,?_⟩⟩
  .by_cases hj1:j<k*s
   .rw[qM (by omega)]at hu;rw[hcell _ (by omega)];exact hca j u (by rw[qM (by omega)];exact hu)
   .rw[qL (by omega),l1]at hu
    by_cases hj2:j-k*s<s
    .rw[qM (by omega)]at hu;have:=hca' (j-k*s) u hu
     rwa[show off+k*s+(j-k*s)=off+j by omega]at this
    .rw[qL (by omega),l2']at hu;rw[hcell _ (by omega)];exact hca j u (by rw[qL (by omega),l1,qL (by omega),l2];exact hu)
  .have e:(xs.set k x').flatMap f=(xs.take k).flatMap f++(f x'++(xs.drop (k+1)).flatMap f):=by
    rw[List.set_eq_take_append_cons_drop,if_pos hk',List.flatMap_append,qU]
   rw[e]
   exact TN.append.2 ⟨b1,_,u1,_,rfl,rfl,t1.keep ⟨hsz,fun b' hb'=>hkeep b' (by simp[hb'])⟩,
    TN.append.2 ⟨b2,b3,us',u3,rfl,rfl,ht',t3.keep ⟨hsz,fun b' hb'=>hkeep b' (by simp[hb'])⟩⟩⟩
def DF(k:Int):List UInt8:=if k<=0 then[109,48]else 109::(Nat.toDigits 10 k.toNat).map (fun c=>c.toNat.toUInt8)
def mkV(x:Value)(k:Int):Value:=match x with
 | .int .i64 _=>.int .i64 k
 | .bool _=>.bool (k % 3==0)
 | .string _=>.string ⟨(DF k).toArray⟩
 |x=>x
mutual
def mkD:D->Int->D
 | .v x,k=>.v (mkV x k)
 | .sl n ds,k=>.sl n (EO ds k)
def EO:List D->Int->List D
 |[],_=>[]
 |d::ds,k=>mkD d k::EO ds (k+(cD d:Nat))
def cD:D->Nat
 | .v _=>1
 | .sl _ ds=>cN ds
def cN:List D->Nat
 |[]=>0
 |d::ds=>cD d+cN ds
end
structure xE(bs:List Nat)(w w':World):Prop where
 os:w'.os=w.os
 tape:w'.tape=w.tape
 output:w'.output=w.output
 size:w.heap.size<=w'.heap.size
 other:∀b,b<w.heap.size->b∉bs->w'.heap[b]? =w.heap[b]?
 row:∀(b:Nat) cs t,w.heap[b]? =some (.cells cs t (0,0))->∃cs',w'.heap[b]? =some (.cells cs' t (0,0))
theorem dA{w:World}{b:Nat}{o:Obj}(h:w.heap[b]? =some o):b<w.heap.size:=(Array.getElem?_eq_some_iff.1 h).1
theorem xE.refl(bs:aK)(w:World):xE bs w w:=⟨rfl,rfl,rfl,Nat.le_refl _,fun _ _ _=>rfl,fun _ cs _ h=>⟨cs,h⟩⟩
theorem xE.trans{bs:aK}{a b c:World}(h:xE bs a b)(k:xE bs b c):xE bs a c:=
 ⟨k.os.trans h.os,k.tape.trans h.tape,k.output.trans h.output,Nat.le_trans h.size k.size,fun i hs hi=>(k.other i (qW hs h.size) hi).trans (h.other i hs hi),
  fun b cs t hb=>by obtain⟨cs',h'⟩:=h.row b cs t hb;exact k.row b cs' t h'⟩
theorem xE.setCell{bs:aK}{w w':World}(h:xE bs w w'){b:Nat}(hb:b∈bs)(o:Nat)(v:Value):xE bs w (w'.setCell ⟨b,o,none⟩ v):=
 h.trans ⟨rfl,rfl,rfl,by simp[World.setCell],fun b' _ hb'=>Below.heap_setCell _ _ _ _ (fun e=>hb' (by simp at e;exact e▸hb)),fun b' cs t hr=>by
  by_cases e:b'=b
  .subst e;exact⟨_,Rows.iI hr⟩
  .exact⟨cs,(Below.heap_setCell _ _ _ _ e).trans hr⟩⟩
theorem Own.join{lo:Nat}{w:World}{a b:aK}(h1:Own lo w a)(h2:Own lo w b)(h:∀y∈a,y∉b):Own lo w (a++b):=
 ⟨List.nodup_append.2 ⟨h1.1,h2.1,fun y hy z hz e=>h y hy (e▸hz)⟩,fun y hy=>(qT.1 hy).elim (h1.2 y) (h2.2 y)⟩
section
variable {P:Program}{ops:Array Oper}{md:Region.Mode}
end
end Go.Tr
namespace Go.Tr
open Go Go.RowKit
section
variable {P:Program}{ops:Array Oper}{md:Region.Mode}
def Closed(md:Region.Mode)(ops:Array Oper)(L:Array Bool):Prop:=∀x o,ops[x]? =some o->L.getD x false=true->∀e∈o.after,Region.binds md e=true->L.getD e.on false=true
theorem Closed.set{L:Array Bool}{j:Nat}(h:Closed md ops L)(hj:j∈Region.ready md ops L):Closed md ops (L.setIfInBounds j true):=fun x o ho hx e he hb=>by
 have key:L.getD e.on false=true:=by
  by_cases hxj:x=j
  .subst hxj;obtain⟨_,o',ho',hall⟩:=mem_ready.1 hj;rw[ho]at ho';injection ho' with ho'
   subst ho';exact hall e he hb
  .refine h x o ho ?_ e he hb
   rwa[getD_set_ne false (fun e=>hxj e.symm)]at hx
 by_cases hej:e.on=j
 .rw[hej]at key |-;rcases Nat.lt_or_ge j L.size with h'|h'
  .simp[h']
  .simp[Array.getElem?_eq_none h']at key
 .rw[getD_set_ne false (fun e'=>hej e'.symm)];exact key
theorem pK{listed:Array Bool}{i:Nat}(h:listed.getD i true=false):listed.getD i false=false:=by
 rcases Nat.lt_or_ge i listed.size with h'|h'
 .simpa[h']using h
 .simp[Array.getElem?_eq_none h']
theorem su{L:Array Bool}{i t:Nat}(h:(L.setIfInBounds i true).getD t false=true)(ht:t≠i):L.getD t false=true:=by
 rwa[getD_set_ne false (fun e=>ht e.symm)]at h
structure Wk(N:Nat)(pv:List Nat)(w w':World):Prop where
 size:w.heap.size<=w'.heap.size
 block:∀b,b<N->b∉pv->w'.heap[b]? =w.heap[b]?
theorem Wk.refl(N:Nat)(pv:aK)(w:World):Wk N pv w w:=⟨Nat.le_refl _,fun _ _ _=>rfl⟩
structure CX(N:Nat)(w:World) where
 to:World
 h:Below N w to
structure En(N:Nat)(pv:List Nat)(w:World) where
 to:World
 h:Wk N pv w to
instance (N:Nat)(w:World):Inhabited (CX N w):=⟨⟨w,Below.refl _ _⟩⟩
instance (N:Nat)(pv:List Nat)(w:World):Inhabited (En N pv w):=⟨⟨w,Wk.refl _ _ _⟩⟩
end
end Go.Tr
namespace Go.Tr
open Go Go.RowKit
section
variable {P:Program}{w:World}
structure Src(w:World)(s:Nat)(A:Option Addr)(m:Nat)(us:List Value):Prop where
 len:us.length=m*s
 at_:0<m->∃ad,A=some ad/\∀j u,us[j]? =some u->w.cell? (ad.add j)=some u
 one:us.all (·.oneCell')=true
theorem T1.src{m m' c s:Nat}{ds:List D}{bs:aK}{A:Option Addr}(h:T1 w (.sl m ds) bs (.slice A m' c))(hl:ds.length=m*s):∃us bs',Src w s A m us/\TN w ds bs' us/\∀b∈bs',b∈bs:=by
 unfold T1 at h;obtain⟨A',c',he,hn,hc,h⟩:=h;injection he with hA hn' hc'
 subst hA;rcases h with⟨rfl,rfl,rfl⟩|⟨h0,b,off,us,bs',rfl,rfl,hb,hca,ht⟩
 .exact⟨[],[],⟨by simp,by omega,rfl⟩,TN.done,by simp⟩
 .refine⟨us,bs',⟨by rw[ht.length,hl],fun _=>⟨_,rfl,fun j u hu=> ?_⟩,ht.sH⟩,ht,fun b hb=>by simp[hb]⟩;have hadd:(⟨b,off,none⟩:Addr).add j=⟨b,off+j,none⟩:=by unfold Addr.add;split<;>simp_all
  rw[hadd];exact hca j u hu
theorem sW(base:Nat)(t ty e:TypeId)(i:TypeInfo)(s:Nat)(ht:P.underlying t=some (.slice e))(hi:P.info? e=some i)
  (v:Value) (n:Nat) (xs:List Value) (hown:w.ownsRow base e s v n xs) (c:Nat):(Builtin.append_ #[t,t] ty #[v,.slice none 0 c]).run P w=.ok v w:=by
 rcases hown.2 with⟨rfl,rfl⟩|⟨g,cap,cur,rfl,_,_,hnc,_⟩
 .simp[Builtin.append_,run_underlying ht,sizeOf,typeInfo,hi,Builtin.lenOf,Builtin.firstCells]
 .simp[Builtin.append_,run_underlying ht,sizeOf,typeInfo,hi,Builtin.lenOf,Builtin.firstCells,hnc,storeCells]
theorem grownBy_refl(w:World)(row:Option Nat):w.grownBy w row:=⟨rfl,rfl,rfl,Nat.le_refl _,fun _ _ _=>rfl⟩
theorem sZ{t ty e:TypeId}{s:Nat}(hE:fH P t e s)(base:Nat)(v:Value)(n:Nat)(xs:aO)(hown:w.ownsRow base e s v n xs)(A:Option Addr)(m c:Nat)(us:aO)(hs:Src w s A m us)
  (hb:n+m<=1073741824) (hbase:base<=w.heap.size):
  ∃v' w',(Builtin.append_ #[t,t] ty #[v,.slice A m c]).run P w=.ok v' w'/\w'.ownsRow base e s v' (n+m) (xs++us)/\w.grownBy w' v.ownBlock/\(v'.ownBlock=v.ownBlock\/v'.ownBlock=some w.heap.size)/\(v'=.slice none 0 0->us=[]):=by
 obtain⟨i,z,hi,hz,hsz,hzs,hby⟩:=hE.i;rcases Nat.eq_zero_or_pos m with h0|h0
 .subst h0;have hn:us=[]:=List.eq_nil_of_length_eq_zero (by simpa using hs.len);subst hn;rcases A with _|ad
  .exact⟨v,w,sW base t ty e i s hE.u hi v n xs hown c,by simpa using hown,grownBy_refl w _,.inl rfl,fun _=>rfl⟩
  .obtain⟨v',w',hrun,h2,h3,_,h5⟩:=run_append_own_at (P:=P) w base t ty e i z s i.bytes hE.u hi hz hsz rfl hzs hE.p v n xs hown ad 0 c [] (by simp) (by simp) (by simp) (by unfold maxLen;omega) (by
    have:=Nat.mul_le_mul hb hby;have h2:(1073741824:Nat)*1000<=140737488355328:=by omega
    exact Nat.le_trans this h2) hbase
   exact⟨v',w',hrun,h2,h3,h5,fun _=>rfl⟩
 .obtain⟨ad,rfl,hc⟩:=hs.at_ h0
  obtain⟨v',w',hrun,h2,h3,h4,h5⟩:=run_append_own_at (P:=P) w base t ty e i z s i.bytes hE.u hi hz hsz rfl hzs hE.p v n xs hown ad m c us hs.len hc (List.all_eq_true.1 hs.one) (by unfold maxLen;omega) (by
    have:=Nat.mul_le_mul hb hby;have h2:(1073741824:Nat)*1000<=140737488355328:=by omega
    exact Nat.le_trans this h2) hbase
  exact⟨v',w',hrun,h2,h3,h5,fun h=>by have:=(h4.1 h).2;omega⟩
structure GR(lo:Nat)(w:World)(t:TypeId)(s:Nat)(v:Value)(n:Nat)(ds:List D)(bs:List Nat)(us:List Value):Prop where
 row:w.ownsRow lo t s v n us
 tn:TN w ds bs us
 own:Own lo w bs
 out:∀k,v.ownBlock=some k->k∉bs
theorem GR.nil(lo:Nat)(w:World)(t:TypeId)(s:Nat):GR lo w t s (.slice none 0 0) 0 [] [] []:=⟨World.ownsRow_nil _ _ _ _,TN.done,Own.nil _ _,by simp⟩
theorem wU{base:Nat}{e:TypeId}{s:Nat}{v:Value}{n:Nat}{xs:aO}{w:World}(h:w.ownsRow base e s v n xs):∃A c,v=.slice A n c:=by
 rcases h.2 with⟨rfl,rfl⟩|⟨g,cap,cur,rfl,_⟩
 .exact⟨_,_,rfl⟩
 .exact⟨_,_,rfl⟩
theorem fM{base:Nat}{e:TypeId}{s:Nat}{v:Value}{n:Nat}{xs:aO}(h:w.ownsRow base e s v n xs){w1:World}(h1:∀k,v.ownBlock=some k->w1.heap[k]? =w.heap[k]?):w1.ownsRow base e s v n xs:=by
 refine⟨h.1,?_⟩;rcases h.2 with hn|⟨g,cap,cur,rfl,hb,hgg,rest⟩
 .exact .inl hn
 .exact .inr ⟨g,cap,cur,rfl,hb,(h1 g rfl).trans hgg,rest⟩
theorem GR.app{lo t s v n ds bs us}(h:GR lo w t s v n ds bs us){m:Nat}{es:List D}{cs:aK}{vs:aO}(hes:TN w es cs vs)(hcs:Own lo w cs)(hd:∀y∈bs,y∉cs)(hr:∀k,v.ownBlock=some k->k∉cs)
  {v':Value} {w':World} (h1:w'.ownsRow lo t s v' (n+m) (us++vs)) (h2:w.grownBy w' v.ownBlock) (h3:v'.ownBlock=v.ownBlock\/v'.ownBlock=some w.heap.size):GR lo w' t s v' (n+m) (ds++es) (bs++cs) (us++vs):=by
 have kb:∀b,b<w.heap.size->(∀k,v.ownBlock=some k->k≠b)->w'.heap[b]? =w.heap[b]? :=fun b hb hn=>h2.block b hb (fun e=>hn b e.symm rfl)
 have k1:Keeps w w' bs:=⟨h2.size,fun b hb=>kb b (h.tn.lt b hb) (fun k hk e=>h.out k hk (e▸hb))⟩;have k2:Keeps w w' cs:=⟨h2.size,fun b hb=>kb b (hes.lt b hb) (fun k hk e=>hr k hk (e▸hb))⟩;have o1:Own lo w' bs:=⟨h.own.1,fun b hb=>⟨(h.own.2 b hb).1,by obtain⟨_,cur,t',hh⟩:=h.own.2 b hb;exact⟨cur,t',(k1.2 b hb).trans hh⟩⟩⟩;have o2:Own lo w' cs:=⟨hcs.1,fun b hb=>⟨(hcs.2 b hb).1,by obtain⟨_,cur,t',hh⟩:=hcs.2 b hb;exact⟨cur,t',(k2.2 b hb).trans hh⟩⟩⟩;refine⟨h1,TN.append.2 ⟨bs,cs,us,vs,rfl,rfl,h.tn.keep k1,hes.keep k2⟩,Own.join o1 o2 hd,fun k hk=> ?_⟩
 rw[qT];rcases h3 with e|e
 .rw[e]at hk;exact fun hm=>hm.elim (h.out k hk) (hr k hk)
 .rw[e]at hk;injection hk with hk
  subst hk
  exact fun hm=>by
   rcases hm with hm|hm
   .have:=h.tn.lt _ hm;omega
   .have:=hes.lt _ hm;omega
theorem GR.res{lo t s v n ds bs us}(h:GR lo w t s v n ds bs us)(hl:ds.length=n*s):∃A c bs',v=.slice A n c/\T1 w (.sl n ds) bs' (.slice A n c)/\Own lo w bs':=by
 rcases h.row.2 with⟨rfl,rfl⟩|⟨g,cap,cur,rfl,hb,hgg,hnc,hcm,hcs,htk⟩
 .have hd:ds=[]:=List.eq_nil_of_length_eq_zero (by simpa using hl);subst hd;exact⟨none,0,[],rfl,T1.empty none,Own.nil _ _⟩
 .rcases Nat.eq_zero_or_pos n with rfl|hn
  .have hd:ds=[]:=List.eq_nil_of_length_eq_zero (by simpa using hl);subst hd;refine⟨some ⟨g,0,none⟩,cap,[],rfl,?_,Own.nil _ _⟩;unfold T1;exact⟨_,_,rfl,hnc,hcm,.inl ⟨rfl,rfl,rfl⟩⟩
  .have hgb:g∉bs:=h.out g rfl;refine⟨some ⟨g,0,none⟩,cap,g::bs,rfl,?_,⟨List.nodup_cons.2 ⟨hgb,h.own.1⟩,fun b hb'=> ?_⟩⟩
   .unfold T1;refine⟨_,_,rfl,hnc,hcm,.inr ⟨hn,g,0,us,bs,rfl,rfl,dA hgg,fun j u hu=> ?_,h.tn⟩⟩;rw[Nat.zero_add,cell_of_row w g j cur t (0,0) hgg];rw[<-htk,List.getElem?_take]at hu;split at hu
    .simpa using hu
    .cases hu
   .rcases List.mem_cons.1 hb' with rfl|hb'
    .exact⟨hb,cur,t,hgg⟩
    .exact h.own.2 b hb'
theorem GR.lt{lo t s v n ds bs us}(h:GR lo w t s v n ds bs us):∀k,v.ownBlock=some k->lo<=k/\k<w.heap.size:=fun k hk=>h.row.lt k hk
def jD(v:Value):List Nat:=match v.ownBlock with|some k=>[k]|none=>[]
theorem dD{v:Value}{k:Nat}:k∈jD v↔v.ownBlock=some k:=by
 unfold jD;cases v.ownBlock<;>simp[eq_comm]
structure iH(cs:List Nat)(w w':World):Prop where
 os:w'.os=w.os
 tape:w'.tape=w.tape
 output:w'.output=w.output
 size:w.heap.size<=w'.heap.size
 other:∀b,b<w.heap.size->b∉cs->w'.heap[b]? =w.heap[b]?
theorem xE.gM{cs:aK}{w w':World}(h:xE cs w w'):iH cs w w':=⟨h.os,h.tape,h.output,h.size,h.other⟩
theorem iH.refl(cs:aK)(w:World):iH cs w w:=⟨rfl,rfl,rfl,Nat.le_refl _,fun _ _ _=>rfl⟩
theorem iH.pY{cs:aK}{w w':World}(h:Ext w w'):iH cs w w':=⟨h.os,h.tape,h.output,h.size,fun b hl _=>h.block b hl⟩
theorem iH.trans{cs:aK}{a b c:World}(h:iH cs a b)(k:iH cs b c):iH cs a c:=
 ⟨k.os.trans h.os,k.tape.trans h.tape,k.output.trans h.output,Nat.le_trans h.size k.size,fun i hs hi=>(k.other i (qW hs h.size) hi).trans (h.other i hs hi)⟩
theorem iH.below{B:Nat}{cs:aK}{w w':World}(h:iH cs w w')(hB:B<=w.heap.size)(hb:∀b∈cs,B<=b):Below B w w':=
 ⟨h.os,h.tape,h.output,h.size,fun k hk=>h.other k (by omega) (fun hc=>by have:=hb k hc;omega)⟩
theorem T1.gM{bs:aK}{w w':World}{d cs u}(h:T1 w d cs u)(ho:iH bs w w')(hd:∀b∈cs,b∉bs):T1 w' d cs u:=h.keep ⟨ho.size,fun b hb=>ho.other b (h.lt b hb) (hd b hb)⟩
theorem TN.gM{bs:aK}{w w':World}{d cs u}(h:TN w d cs u)(ho:iH bs w w')(hd:∀b∈cs,b∉bs):TN w' d cs u:=h.keep ⟨ho.size,fun b hb=>ho.other b (h.lt b hb) (hd b hb)⟩
theorem TN.flat{ds:List D}{bs:aK}{us:aO}(h:TN w ds bs us)(hf:∀d∈ds,∃x,d=.v x):bs=[]/\∀w',TN w' ds [] us:=by
 induction ds generalizing bs us with
 |nil=>obtain⟨rfl,rfl⟩:=TN.nil.1 h;exact⟨rfl,fun _=>TN.done⟩
 |cons d ds ih=>
  obtain⟨b1,b2,u,us',rfl,rfl,h1,h2⟩:=TN.cons.1 h;obtain⟨x,rfl⟩:=hf d (by simp);obtain⟨rfl,rfl,h3⟩:=T1.v.1 h1;obtain⟨rfl,h4⟩:=ih h2 (fun d hd=>hf d (by simp[hd]));exact⟨rfl,fun w'=>TN.uY h3 (h4 w')⟩
end
end Go.Tr
namespace Go.Tr
open Go Go.RowKit
section
variable {n:Nat}{a:Act}{l l':List (Nat×Value)}{t:Nat}{v:Value}
end
structure aM where
 p:World->List Nat->Prop
 keep:∀{w w':World} {F:List Nat},p w F->Keeps w w' F->p w' F
 lt:∀{w:World} {F:List Nat},p w F->∀b∈F,b<w.heap.size
def Sep(w:World):List aM->List Nat->Prop
 |[],G=>G=[]
 |r::rs,G=>∃F G',G=F++G'/\r.p w F/\Sep w rs G'/\∀b∈F,b∉G'
theorem Sep.lt{w:World}:∀{rs:List aM} {G:aK},Sep w rs G->∀b∈G,b<w.heap.size
 |[],G,h=>by cases h;simp
 |r::rs,G,⟨F,G',e,h1,h2,_⟩=>by
  subst e;intro b hb;rcases qT.1 hb with hb|hb
  .exact r.lt h1 b hb
  .exact h2.lt b hb
theorem Sep.keep{w w':World}:∀{rs:List aM} {G:aK},Sep w rs G->Keeps w w' G->Sep w' rs G
 |[],G,h,_=>h
 |r::rs,G,⟨F,G',e,h1,h2,h3⟩,k=>by
  subst e;exact⟨F,G',rfl,r.keep h1 (k.sub fun b hb=>by simp[hb]),h2.keep (k.sub fun b hb=>by simp[hb]),h3⟩
theorem Sep.append{w:World}:∀{rs ss:List aM} {G:aK},Sep w (rs++ss) G↔∃F G',G=F++G'/\Sep w rs F/\Sep w ss G'/\∀b∈F,b∉G'
 |[],ss,G=>⟨fun h=>⟨[],G,rfl,rfl,h,by simp⟩,fun⟨F,G',e,h1,h2,_⟩=>by cases h1;subst e;exact h2⟩
 |r::rs,ss,G=>by
  constructor
  .rintro⟨F,G',rfl,h1,h2,h3⟩;obtain⟨F2,G2,rfl,h4,h5,h6⟩:=Sep.append.1 h2;refine⟨F++F2,G2,by simp,⟨F,F2,rfl,h1,h4,fun b hb hm=>h3 b hb (by simp[hm])⟩,h5,fun b hb=> ?_⟩;rcases qT.1 hb with hb|hb
   .exact fun hm=>h3 b hb (by simp[hm])
   .exact h6 b hb
  .rintro⟨F,G',rfl,⟨F1,F2,rfl,h1,h2,h3⟩,h4,h5⟩;refine⟨F1,F2++G',by simp,h1,Sep.append.2 ⟨F2,G',rfl,h2,h4,fun b hb=>h5 b (by simp[hb])⟩,fun b hb hm=> ?_⟩;rcases qT.1 hm with hm|hm
   .exact h3 b hb hm
   .exact h5 b (by simp[hb]) hm
theorem Sep.perm{w:World}{rs ss:List aM}(hp:rs.Perm ss):∀{G:aK},Sep w rs G->∃G',Sep w ss G'/\∀b,b∈G'↔b∈G:=by
 induction hp with
 |nil=>exact fun h=>⟨_,h,fun _=>Iff.rfl⟩
 |cons r _ ih=>
  rintro G ⟨F,G',rfl,h1,h2,h3⟩;obtain⟨G2,h4,h5⟩:=ih h2;exact⟨F++G2,⟨F,G2,rfl,h1,h4,fun b hb hm=>h3 b hb ((h5 b).1 hm)⟩,fun b=>by simp[h5]⟩
 |swap r s l=>
  rintro G ⟨F,G',rfl,h1,⟨F2,G2,rfl,h2,h3,h4⟩,h5⟩;refine⟨F2++(F++G2),⟨F2,F++G2,rfl,h2,⟨F,G2,rfl,h1,h3,fun b hb hm=>h5 b hb (by simp[hm])⟩,fun b hb hm=> ?_⟩,fun b=>by simp;constructor<;>(rintro(h|h|h)<;>simp[h])⟩;rcases qT.1 hm with hm|hm
  .exact h5 b hm (by simp[hb])
  .exact h4 b hb hm
 |trans _ _ ih1 ih2=>
  intro G h;obtain⟨G1,h1,e1⟩:=ih1 h;obtain⟨G2,h2,e2⟩:=ih2 h1;exact⟨G2,h2,fun b=>(e2 b).trans (e1 b)⟩
theorem lY{α:Type}:∀(l:List α) (i:Nat) (r:α),l[i]? =some r->l.Perm (r::l.eraseIdx i)
 |[],i,r,h=>by simp at h
 |x::l,0,r,h=>by simp at h;subst h;exact List.Perm.refl _
 |x::l,i+1,r,h=>by
  have:=lY l i r (by simpa using h);exact(this.cons x).trans (List.Perm.swap r x _)
theorem set_perm{α:Type}:∀(l:List α) (i:Nat) (r s:α),l[i]? =some r->(s::l.eraseIdx i).Perm (l.set i s)
 |[],i,r,s,h=>by simp at h
 |x::l,0,r,s,h=>by simp
 |x::l,i+1,r,s,h=>by
  have:=set_perm l i r s (by simpa using h);exact(List.Perm.swap x s _).trans (this.cons x)
structure Inv(w0:World)(F0:List Nat)(w:World)(rs:List aM):Prop where
 gM:iH F0 w0 w
 sep:∃G,Sep w rs G/\∀b∈G,b∈F0\/w0.heap.size<=b
section
variable {w0 w w':World}{F0:aK}{rs ss:List aM}{r:aM}
theorem Inv.start{F:aK}(h:Sep w rs F):Inv w F w rs:=⟨iH.refl _ _,F,h,fun _ hb=>.inl hb⟩
theorem Inv.uS(w:World):Inv w [] w []:=Inv.start (rs:=[]) rfl
theorem Inv.perm(h:Inv w0 F0 w rs)(hp:rs.Perm ss):Inv w0 F0 w ss:=by
 obtain⟨G,h1,h2⟩:=h.sep;obtain⟨G',h3,h4⟩:=h1.perm hp;exact⟨h.gM,G',h3,fun b hb=>h2 b ((h4 b).1 hb)⟩
theorem Inv.front(h:Inv w0 F0 w rs)(i:Nat)(hr:rs[i]? =some r):Inv w0 F0 w (r::rs.eraseIdx i):=by
 exact h.perm (lY rs i r hr)
theorem Inv.back{s:aM}(i:Nat)(hr:rs[i]? =some r)(h:Inv w0 F0 w (s::rs.eraseIdx i)):Inv w0 F0 w (rs.set i s):=h.perm (set_perm rs i r s hr)
theorem Inv.tail(h:Inv w0 F0 w (r::rs)):Inv w0 F0 w rs:=by
 obtain⟨G,⟨F,G',rfl,_,h2,_⟩,h3⟩:=h.sep;exact⟨h.gM,G',h2,fun b hb=>h3 b (by simp[hb])⟩
theorem Inv.drop(h:Inv w0 F0 w rs)(i:Nat)(hi:Nat.blt i rs.length=true):Inv w0 F0 w (rs.eraseIdx i):=by
 have hi':i<rs.length:=by simpa using hi
 exact(h.front i (qB hi')).tail
theorem Inv.mem(h:Inv w0 F0 w rs)(i:Nat)(hr:rs[i]? =some r):∃F,r.p w F:=by
 obtain⟨G,⟨F,G',rfl,h1,h2,_⟩,h3⟩:=(h.front i hr).sep;exact⟨F,h1⟩
theorem Inv.frame{pre rest:List aM}(h:Inv w0 F0 w (pre++rest)):∃F,Sep w pre F/\(∀b∈F,b∈F0\/w0.heap.size<=b)/\∀w' post,Inv w F w' post->Inv w0 F0 w' (post++rest):=by
 obtain⟨G,h1,h2⟩:=h.sep;obtain⟨F,G2,rfl,h3,h4,h5⟩:=Sep.append.1 h1;refine⟨F,h3,fun b hb=>h2 b (by simp[hb]),fun w' post hi=> ?_⟩;obtain⟨G',h6,h7⟩:=hi.sep;have hsz:=h.gM.size;refine⟨⟨hi.gM.os.trans h.gM.os,hi.gM.tape.trans h.gM.tape,hi.gM.output.trans h.gM.output,Nat.le_trans hsz hi.gM.size,fun b hb hn=>(hi.gM.other b (by omega) (fun hm=>by rcases h2 b (by simp[hm])with h8|h8;exact hn h8;omega)).trans (h.gM.other b hb hn)⟩,G'++G2,Sep.append.2 ⟨G',G2,rfl,h6,h4.keep ⟨hi.gM.size,fun b hb=>hi.gM.other b (h4.lt b hb) (fun hm=>h5 b hm hb)⟩,fun b hb hm=> ?_⟩,fun b hb=> ?_⟩
 .rcases h7 b hb with h8|h8
  .exact h5 b h8 hm
  .have:=h4.lt b hm;omega
 .rcases qT.1 hb with hb|hb
  .rcases h7 b hb with h8|h8
   .exact h2 b (by simp[h8])
   .exact .inr (by omega)
  .exact h2 b (by simp[hb])
theorem Inv.ext(h:Inv w0 F0 w rs)(h1:Ext w w'):Inv w0 F0 w' rs:=by
 obtain⟨F,h2,_,h4⟩:=Inv.frame (pre:=[]) (rest:=rs) h;cases h2;simpa using h4 w' [] ⟨iH.pY h1,[],rfl,by simp⟩
theorem Inv.zO(h:Inv w0 [] w rs):Ext w0 w:=iH.below h.gM (Nat.le_refl _) (by simp)
theorem Inv.new(h:Inv w0 F0 w rs)(hi:Inv w [] w' ss):Inv w0 F0 w' (ss++rs):=by
 obtain⟨F,h2,_,h4⟩:=Inv.frame (pre:=[]) (rest:=rs) h;cases h2;exact h4 w' ss hi
end
def u7(b:Nat)(cs:List Value)(t:TypeId):aM where
 p w F:=F=[b]/\w.heap[b]? =some (.cells cs.toArray t (0,0))
 keep:=fun⟨e,h⟩ k=>⟨e,by subst e;exact(k.2 b (by simp)).trans h⟩
 lt:=fun⟨e,h⟩ b' hb=>by subst e;simp at hb;subst hb;exact dA h
def Dat(v:Value)(n:Nat)(ds:List D):aM where
 p w F:=T1 w (.sl n ds) F v/\Own 0 w F
 keep:=fun⟨h,o⟩ k=>⟨h.keep k,o.1,fun b hb=>by obtain⟨h0,cur,t,h1⟩:=o.2 b hb;exact⟨h0,cur,t,(k.2 b hb).trans h1⟩⟩
 lt:=fun⟨h,_⟩=>h.lt
def aL(us:List Value)(ds:List D):aM where
 p w F:=TN w ds F us/\Own 0 w F
 keep:=fun⟨h,o⟩ k=>⟨h.keep k,o.1,fun b hb=>by obtain⟨h0,cur,t,h1⟩:=o.2 b hb;exact⟨h0,cur,t,(k.2 b hb).trans h1⟩⟩
 lt:=fun⟨h,_⟩=>h.lt
def Gr(v:Value)(t:TypeId)(s n:Nat)(ds:List D):aM where
 p w F:=∃bs us,F=jD v++bs/\GR 0 w t s v n ds bs us
 keep:=fun⟨bs,us,e,h⟩ k=>⟨bs,us,e,by
  subst e;have kb:Keeps _ _ bs:=k.sub fun b hb=>by simp[hb]
  exact⟨fM h.row fun g hg=>k.2 g (by simp[dD,hg]),h.tn.keep kb,⟨h.own.1,fun b hb=>by obtain⟨h0,cur,t,h1⟩:=h.own.2 b hb;exact⟨h0,cur,t,(kb.2 b hb).trans h1⟩⟩,h.out⟩⟩
 lt:=fun⟨bs,us,e,h⟩ b hb=>by
  subst e;rcases qT.1 hb with hb|hb
  .exact(h.lt b (dD.1 hb)).2
  .exact h.tn.lt b hb
section
variable {w0 w w':World}{F0:aK}{rs ss:List aM}
theorem Inv.dn(h:Inv w0 F0 w rs)(i:Nat){b:Nat}{cs:aO}{t:TypeId}(hr:rs[i]? =some (u7 b cs t)):w.heap[b]? =some (.cells cs.toArray t (0,0)):=by
 obtain⟨F,_,h1⟩:=h.mem i hr;exact h1
theorem Inv.alloc(h:Inv w0 F0 w rs)(cs:aO)(t:TypeId):Inv w0 F0 (w.alloc (.cells cs.toArray t)) (u7 w.heap.size cs t::rs):=
 Inv.new (ss:=[u7 w.heap.size cs t]) h ⟨iH.pY ((Below.refl _ _).alloc (Nat.le_refl _) _),[w.heap.size],⟨[w.heap.size],[],rfl,⟨rfl,heap_alloc_new w _⟩,rfl,by simp⟩,fun b hb=>.inr (by simp at hb;omega)⟩
theorem Inv.set{b:Nat}{cs ds:aO}{t:TypeId}(h:Inv w0 F0 w (u7 b cs t::rs))(hrow:∃cs':aO,w'.heap[b]? =some (.cells cs'.toArray t (0,0))/\cs'=ds)(hc:iH [b] w w'):Inv w0 F0 w' (u7 b ds t::rs):=by
 obtain⟨F,h2,_,h4⟩:=Inv.frame (pre:=[u7 b cs t]) (rest:=rs) h;obtain⟨F1,G1,rfl,⟨rfl,_⟩,rfl,_⟩:=h2;obtain⟨cs',h5,rfl⟩:=hrow;exact h4 w' [u7 b cs' t] ⟨hc,[b],⟨[b],[],rfl,⟨rfl,h5⟩,rfl,by simp⟩,fun b hb=>.inl (by simpa using hb)⟩
end
def dB(w0:World)(F0:List Nat)(d:D)(v:Value):Prop:=∃bs,T1 w0 d bs v/\∀b∈bs,b∉F0
def eO(w0:World)(F0:List Nat)(ds:List D)(us:List Value):Prop:=∃bs,TN w0 ds bs us/\∀b∈bs,b∉F0
def kR(w0:World)(F0:List Nat)(b o:Nat)(ds:List D):Prop:=b<w0.heap.size/\b∉F0/\∃us,aT w0 b o us/\eO w0 F0 ds us
section
variable {w0 w w':World}{F0 F:aK}{rs ss:List aM}{b o n:Nat}{v x:Value}{d:D}{ds es:List D}{us:aO}{bs:aK}
theorem dB.of(h:T1 w0 d bs v):dB w0 [] d v:=⟨bs,h,by simp⟩
theorem eO.of(h:TN w0 ds bs us):eO w0 [] ds us:=⟨bs,h,by simp⟩
theorem dB.at_(h:dB w0 F0 d v)(hi:Inv w0 F0 w rs)(hF:∀b∈F,b∈F0\/w0.heap.size<=b):dB w F d v:=by
 obtain⟨bs,h1,h2⟩:=h;exact⟨bs,h1.gM hi.gM h2,fun b hb hm=>by rcases hF b hm with h3|h3;exact h2 b hb h3;have:=h1.lt b hb;omega⟩
theorem eO.at_(h:eO w0 F0 ds us)(hi:Inv w0 F0 w rs)(hF:∀b∈F,b∈F0\/w0.heap.size<=b):eO w F ds us:=by
 obtain⟨bs,h1,h2⟩:=h;exact⟨bs,h1.gM hi.gM h2,fun b hb hm=>by rcases hF b hm with h3|h3;exact h2 b hb h3;have:=h1.lt b hb;omega⟩
theorem kR.at_(h:kR w0 F0 b o ds)(hi:Inv w0 F0 w rs)(hF:∀b∈F,b∈F0\/w0.heap.size<=b):kR w F b o ds:=by
 obtain⟨h1,h2,us,h3,h4⟩:=h;exact⟨qW h1 hi.gM.size,fun hm=>by rcases hF b hm with h5|h5;exact h2 h5;omega,us,h3.keep (hi.gM.other b h1 h2),h4.at_ hi hF⟩
theorem dB.now(h:dB w0 F0 d v)(hi:Inv w0 F0 w rs):∃bs,T1 w d bs v:=by
 obtain⟨bs,h1,_⟩:=h.at_ hi (F:=[]) (by simp);exact⟨bs,h1⟩
theorem kR.append{d1 d2:List D}(h:kR w0 F0 b o (d1++d2)):kR w0 F0 b o d1/\kR w0 F0 b (o+d1.length) d2:=by
 obtain⟨h1,h2,us,h3,bs,h4,h5⟩:=h;obtain⟨b1,b2,u1,u2,rfl,rfl,h6,h7⟩:=TN.append.1 h4;refine⟨⟨h1,h2,u1,fun j u hu=>h3 j u (by rw[qM (qE.1 hu).1];exact hu),b1,h6,fun y hy=>h5 y (by simp[hy])⟩,h1,h2,u2,fun j u hu=> ?_,b2,h7,fun y hy=>h5 y (by simp[hy])⟩;have:=h3 (u1.length+j) u (by rw[qL (by omega),Nat.add_sub_cancel_left];exact hu)
 rwa[<-Nat.add_assoc,h6.length]at this
theorem eO.sl(h:eO w0 F0 (.sl n es::ds) us):∃A c us',us=.slice A n c::us'/\dB w0 F0 (.sl n es) (.slice A n c)/\n<=9223372036854775807/\eO w0 F0 ds us':=by
 obtain⟨bs,h4,h5⟩:=h;obtain⟨A,c,b1,b2,us',rfl,rfl,h6,h7,h8,h9⟩:=TN.Bd h4;exact⟨A,c,us',rfl,⟨b1,h6,fun y hy=>h5 y (by simp[hy])⟩,h6.nle,b2,h9,fun y hy=>h5 y (by simp[hy])⟩
theorem eO.end_(h:eO w0 F0 [] us):us=[]:=by
 obtain⟨bs,h4,_⟩:=h;exact h4.end_.1
theorem dB.elem{α:Type}{f:α->List D}{s:Nat}(hs:∀x,(f x).length=s){xs:List α}{A:Option Addr}{n n' c:Nat}(h:dB w0 F0 (.sl n (xs.flatMap f)) (.slice A n' c))(hm:xs.length=n){k:Nat}(hk:k<n):
  ∃b off x,A=some ⟨b,off,none⟩/\xs[k]? =some x/\kR w0 F0 b (off+k*s) (f x):=by
 obtain⟨bs,h1,h2⟩:=h;obtain⟨_,b,off,p1,p2,p3,us,hA,rfl,hb,hc,ht⟩:=T1.at_ hs h1 hm hk;exact⟨b,off,_,hA,qB (hm▸hk),hb,h2 b (by simp),us,hc,p2,ht,fun y hy=>h2 y (by simp[hy])⟩
end
end Go.Tr
namespace Go.Tr
open Go Go.RowKit
section
variable {P:Program}{ops:Array Oper}{Q:Exit->Act->World->Prop}{a:Act}{w w':World}{rest:List Oper}{n:Nat}{l:List (Nat×Value)}{v:Value}{d:Nat}{dst:Option Nat}{op:Op}{ty:TypeId}{pos:String}{aft:Array Edge}{g:Option (Nat×Bool)}
def eZ(P:Program)(t:TypeId):Option Bool:=(P.underlying t).map fun| .struct _| .array _ _=>true|_=>false
def pE(P:Program)(s i:Nat):Option Nat:=match P.underlying s with
 |some (.struct fs)=>(fs[i]?).bind fun f=>(P.info? f.type).bind fun t=>if t.size=0 then none else some f.offset
 |_=>none
def bg(P:Program)(t:TypeId):Option (TypeId×Nat):=match P.underlying t with
 |some (.slice e)=>(P.info? e).map fun i=>(e,i.size)
 |_=>none
def zeroOf(P:Program)(t:TypeId):Option (List Value):=(P.info? t).bind fun i=>i.zero.map fun z=>z.cells.toList
def dI(P:Program)(f:FuncId):Bool:=match P.funcs[f]? with
 | some fn => !(fn.name == "runtime.NumGoroutine") && fn.body.isSome
 |none=>false
theorem fq{t:TypeId}{b:Bool}(h:eZ P t=some b)(w:World):(isAgg t).run P w=.ok b w:=by
 unfold eZ at h;cases hu:P.underlying t with
 |none=>rw[hu]at h;simp at h
 |some d=>
  rw[hu]at h;unfold isAgg;rw[Sem.run_bind,run_underlying hu w];cases d<;>simp_all
theorem Cw{x:Operand}(hx:a.eval x=v):(execOp a.eval ⟨dst,.move x,ty,pos,aft,g⟩).run P w=.ok (.value v) w:=by simp[execOp,hx]
theorem zf{x:Operand}(hx:a.eval x=v):(execOp a.eval ⟨dst,.assign x,ty,pos,aft,g⟩).run P w=.ok (.value v) w:=by simp[execOp,hx]
theorem vX{x:Operand}{p:Addr}(hx:a.eval x=.pointer (some p)):(execOp a.eval ⟨dst,.nilCheck x,ty,pos,aft,g⟩).run P w=.ok (.value (.pointer (some p))) w:=by simp[execOp,hx]
theorem AP{x:Operand}{s i b o k o':Nat}(hx:a.eval x=.pointer (some ⟨b,o,none⟩))(hf:pE P s i=some k)(ho:o+k=o'):
  (execOp a.eval ⟨dst,.fieldAddr s x i,ty,pos,aft,g⟩).run P w=.ok (.value (.pointer (some ⟨b,o',none⟩))) w:=by
 subst ho;unfold pE at hf;split at hf
 .rename_i fs hu;cases hfi:fs[i]? with
  |none=>rw[hfi]at hf;simp at hf
  |some f=>
   rw[hfi]at hf;simp only[Option.bind_some]at hf;cases hi:P.info? f.type with
   |none=>rw[hi]at hf;simp at hf
   |some t=>
    rw[hi]at hf;simp only[Option.bind_some]at hf;split at hf
    .cases hf
    .rename_i hz;simp at hf;simp[execOp,Instr.fieldAt,run_underlying hu,hx,hfi,Instr.sureAddr,fieldPlace,sizeOf,typeInfo,hi,hz,Addr.add_mid,hf]
 .cases hf
theorem mH{x:Operand}{t b o:Nat}(hx:a.eval x=.pointer (some ⟨b,o,none⟩))(ht:eZ P t=some false)(hc:w.cell? ⟨b,o,none⟩=some v):(execOp a.eval ⟨dst,.load t x,ty,pos,aft,g⟩).run P w=.ok (.value v) w:=by
 simp[execOp,hx,Instr.loadAt,Instr.sureAddr,loadVar,fq ht,load,Sem.run,hc]
theorem jB{x:Operand}{t b o:Nat}{us:aO}(hx:a.eval x=.pointer (some ⟨b,o,none⟩))(ht:eZ P t=some true)(hs:(P.info? t).map (·.size)=some us.length)(hc:aT w b o us):
  (execOp a.eval ⟨dst,.load t x,ty,pos,aft,g⟩).run P w=.ok (.value (.agg us.toArray)) w:=by
 have hl:(loadCells ⟨b,o,none⟩ us.length).run P w=.ok us.toArray w:=run_loadCells_list (P:=P) w ⟨b,o,none⟩ us (fun j v hv=>by rw[Addr.add_mid];exact hc j v hv);cases hq:P.info? t with
 |none=>simp[hq]at hs
 |some i=>
  have hs':i.size=us.length:=by simpa[hq]using hs
  simp[execOp,hx,Instr.loadAt,Instr.sureAddr,loadVar,fq ht,sizeOf,typeInfo,hq,hs',hl]
theorem vY{x y:Operand}{t b o:Nat}{cs:Array Value}{T:TypeId}(hx:a.eval x=.pointer (some ⟨b,o,none⟩))(hy:a.eval y=v)(hv:v.cells= #[v])(h1:v.oneCell'=true)(hs:(P.info? t).map (·.size)=some 1)(hr:w.heap[b]? =some (.cells cs T (0,0)))(ho:o<cs.size):
  (execOp a.eval ⟨dst,.store t x y,ty,pos,aft,g⟩).run P w=.ok .skip (w.setCells b o [v]):=by
 have:=run_storeCells_cells (P:=P) b o [v] 0 w (fun j hj=>by
  have hj0:j=0:=by simpa using hj
  subst hj0;rw[cell_of_row w b _ cs T (0,0) hr];simp[ho]) (fun j hj=>iA hr _) (fun u hu=>by simp at hu;subst hu;exact h1)
 cases hq:P.info? t with
 |none=>simp[hq]at hs
 |some i=>
  have hs':i.size=1:=by simpa[hq]using hs
  simp only[Nat.add_zero]at this;simp[execOp,hx,hy,Instr.storeAt,Instr.sureAddr,storeVar,hv,sizeOf,typeInfo,hq,hs',this]
theorem sU{x y:Operand}{t b o:Nat}{us:aO}{cs:Array Value}{T:TypeId}(hx:a.eval x=.pointer (some ⟨b,o,none⟩))(hy:a.eval y=.agg us.toArray)(h1:us.all (·.oneCell')=true)(hs:(P.info? t).map (·.size)=some us.length)(hr:w.heap[b]? =some (.cells cs T (0,0)))(ho:o+us.length<=cs.size):
  (execOp a.eval ⟨dst,.store t x y,ty,pos,aft,g⟩).run P w=.ok .skip (w.setCells b o us):=by
 have:=run_storeVar_mid (P:=P) w b o t us.toArray (fun j hj=>⟨by
  rw[cell_of_row w b _ cs T (0,0) hr];simp at hj;simp;omega,iA hr _⟩) (by simpa using hs) (by simpa using h1)
 simp[execOp,hx,hy,Instr.storeAt,Instr.sureAddr,this]
theorem fP{b o:Nat}{cs us:aO}{T:TypeId}(hr:w.heap[b]? =some (.cells cs.toArray T (0,0)))(ho:o+us.length<=cs.length):
  (w.setCells b o us).heap[b]? =some (.cells (cs.take o++us++cs.drop (o+us.length)).toArray T (0,0))/\iH [b] w (w.setCells b o us):=by
 induction us generalizing w o cs with
 |nil=>exact⟨by simpa[World.setCells]using hr,iH.refl _ _⟩
 |cons u us ih=>
  have h1:(w.setCell ⟨b,o,none⟩ u).heap[b]? =some (.cells (cs.set o u).toArray T (0,0)):=by
   have:=Rows.iI (i:=o) (v:=u) hr;simpa using this
  obtain⟨h2,h3⟩:=ih (o:=o+1) h1 (by simp at ho |-;omega);rw[World.setCells];refine⟨?_,((xE.refl [b] w).setCell (by simp) o u).gM.trans h3⟩;rw[h2];simp at ho
  congr 2
  apply congrArg;apply List.ext_getElem?;intro j;simp only[List.getElem?_append,List.getElem?_take,qA,List.length_take,List.length_set,qI,List.getElem?_set,List.getElem?_drop]
  grind
theorem DL{x y:Operand}{o:BinOp}{t u:TypeId}{k:IntKind}{i j:Int}(hx:a.eval x=.int k i)(hy:a.eval y=.int k j)(hr:(binOp o t (.int k i) (.int k j)).run P w=.ok v w):
  (execOp a.eval ⟨dst,.binOp o t x y u,ty,pos,aft,g⟩).run P w=.ok (.value v) w:=by
 have he:(eqGuard o t x y (.int k i) (.int k j)).run P w=.ok () w:=by
  unfold eqGuard;split<;>rfl
 simp[execOp,hx,hy,he,hr]
theorem CZ{t:TypeId}{i j z:Int}(h:IntKind.i64.wrap (i+j)=z):(binOp .add t (.int .i64 i) (.int .i64 j)).run P w=.ok (.int .i64 z) w:=by subst h;rfl
theorem Dk{t:TypeId}{i j z:Int}(h:IntKind.i64.wrap (i-j)=z):(binOp .sub t (.int .i64 i) (.int .i64 j)).run P w=.ok (.int .i64 z) w:=by subst h;rfl
theorem Df{t:TypeId}{i j z:Int}(h:IntKind.i64.wrap (i*j)=z):(binOp .mul t (.int .i64 i) (.int .i64 j)).run P w=.ok (.int .i64 z) w:=by subst h;rfl
theorem Di{t:TypeId}{i j z:Int}(hj:j≠0)(h:IntKind.i64.wrap (i.tdiv j)=z):(binOp .quo t (.int .i64 i) (.int .i64 j)).run P w=.ok (.int .i64 z) w:=by
 subst h;simp[binOp,Op.intDiv,hj]
theorem Dj{t:TypeId}{i j z:Int}(hj:j≠0)(h:i.tmod j=z):(binOp .rem t (.int .i64 i) (.int .i64 j)).run P w=.ok (.int .i64 z) w:=by
 subst h;simp[binOp,Op.intDiv,hj]
theorem C8{t:TypeId}{k:IntKind}{i j:Int}{b:Bool}(h:(i==j)=b):(binOp .eql t (.int k i) (.int k j)).run P w=.ok (.bool b) w:=by subst h;simp[binOp,Op.intCmp]
theorem Dh{t:TypeId}{k:IntKind}{i j:Int}{b:Bool}(h:(i !=j)=b):(binOp .neq t (.int k i) (.int k j)).run P w=.ok (.bool b) w:=by subst h;simp[binOp,Op.intCmp]
theorem Dc{t:TypeId}{k:IntKind}{i j:Int}{b:Bool}(h:decide (i<j)=b):(binOp .lss t (.int k i) (.int k j)).run P w=.ok (.bool b) w:=by subst h;simp[binOp,Op.intCmp]
theorem Db{t:TypeId}{k:IntKind}{i j:Int}{b:Bool}(h:decide (i<=j)=b):(binOp .leq t (.int k i) (.int k j)).run P w=.ok (.bool b) w:=by subst h;simp[binOp,Op.intCmp]
theorem Da{t:TypeId}{k:IntKind}{i j:Int}{b:Bool}(h:decide (j<i)=b):(binOp .gtr t (.int k i) (.int k j)).run P w=.ok (.bool b) w:=by subst h;simp[binOp,Op.intCmp]
theorem C9{t:TypeId}{k:IntKind}{i j:Int}{b:Bool}(h:decide (j<=i)=b):(binOp .geq t (.int k i) (.int k j)).run P w=.ok (.bool b) w:=by subst h;simp[binOp,Op.intCmp]
theorem DZ{x:Operand}{t:TypeId}{b c:Bool}(hx:a.eval x=.bool b)(h:(!b)=c):(execOp a.eval ⟨dst,.unOp .not t x,ty,pos,aft,g⟩).run P w=.ok (.value (.bool c)) w:=by
 subst h;simp[execOp,hx,Op.unary]
theorem DY{x:Operand}{t:TypeId}{i z:Int}(hx:a.eval x=.int .i64 i)(h:IntKind.i64.wrap (0-i)=z):(execOp a.eval ⟨dst,.unOp .neg t x,ty,pos,aft,g⟩).run P w=.ok (.value (.int .i64 z)) w:=by
 subst h;simp[execOp,hx,Op.unary,Op.intArith]
theorem ow{x:Operand}{t e s:Nat}{A:Option Addr}{m c:Nat}(hx:a.eval x=.slice A m c)(ht:bg P t=some (e,s)):(execOp a.eval ⟨dst,.call { callee:=.builtin .len,args:= #[x],argTypes:= #[t]},ty,pos,aft,g⟩).run P w=.ok (.value (.int .i64 m)) w:=by
 unfold bg at ht;split at ht
 .rename_i e' hu;simp[execOp,resolve,invoke,builtin,hx,Builtin.len_,run_underlying hu,goInt]
 .cases ht
theorem zi{x y:Operand}{t e s b o m c k o':Nat}{i:Int}(hx:a.eval x=.slice (some ⟨b,o,none⟩) m c)(hy:a.eval y=.int .i64 i)(hi:i=(k:Int))(ht:bg P t=some (e,s))(hk:k<m)(ho:o+k*s=o'):
  (execOp a.eval ⟨dst,.indexAddr t x y,ty,pos,aft,g⟩).run P w=.ok (.value (.pointer (some ⟨b,o',none⟩))) w:=by
 subst ho hi;unfold bg at ht;split at ht
 .rename_i e' hu;cases hie:P.info? e' with
  |none=>rw[hie]at ht;simp at ht
  |some i=>
   rw[hie]at ht;simp at ht;obtain⟨rfl,rfl⟩:=ht;simp[execOp,hx,hy,Instr.indexAt,run_underlying hu,asIntOf,hk,sizeOf,typeInfo,hie,Addr.add_mid]
 .cases ht
theorem AL{t:TypeId}{zs:aO}(hz:zeroOf P t=some zs):(execOp a.eval ⟨dst,.alloc t,ty,pos,aft,g⟩).run P w=.ok (.value (.pointer (some ⟨w.heap.size,0,none⟩))) (w.alloc (.cells zs.toArray t)):=by
 unfold zeroOf at hz;cases hi:P.info? t with
 |none=>rw[hi]at hz;simp at hz
 |some i=>
  rw[hi]at hz;simp only[Option.bind_some]at hz;cases hzz:i.zero with
  |none=>rw[hzz]at hz;simp at hz
  |some z=>
   rw[hzz]at hz;simp at hz;subst hz;simp[execOp,Instr.alloc,zeroValue,typeInfo,hi,hzz,newVar,newRow]
theorem DN{t:TypeId}{x:Operand}{us:aO}(hx:a.eval x=v)(hv:v.cells=us.toArray):(execOp a.eval ⟨dst,.box t x,ty,pos,aft,g⟩).run P w=.ok (.value (.pointer (some ⟨w.heap.size,0,none⟩))) (w.alloc (.cells us.toArray t)):=by
 simp[execOp,Instr.box,hx,hv,newVar,newRow]
theorem AO{t:TypeId}{ps:Array (Nat×Operand)}{qs:Array (Nat×Value)}(hp:(ps.map fun(i,x)=>(i,a.eval x))=qs)(hr:(Instr.build t qs).run P w=.ok v w):(execOp a.eval ⟨dst,.build t ps,ty,pos,aft,g⟩).run P w=.ok (.value v) w:=by
 subst hp;simp only[execOp,Sem.run_bind,hr,Result.andThen_ok,Sem.run_pure]
theorem zh{t m:Nat}{ps:Array (Nat×Operand)}{qs:Array (Nat×Value)}(hp:(ps.map fun(i,x)=>(i,a.eval x))=qs)(hr:(Instr.buildSlice t m qs).run P w=.ok v w'):(execOp a.eval ⟨dst,.buildSlice t m ps,ty,pos,aft,g⟩).run P w=.ok (.value v) w':=by
 subst hp;simp only[execOp,Sem.run_bind,hr,Result.andThen_ok,Sem.run_pure]
theorem jY{x:Operand}{t e s b o m c:Nat}{lo:Operand}{i:Nat}(hx:a.eval x=.slice (some ⟨b,o,none⟩) m c)(hlo:a.eval lo=.int .i64 i)(ht:bg P t=some (e,s))(hi:i<=m)(hc:m<=c):
  (execOp a.eval ⟨dst,.slice t x (some lo) none none,ty,pos,aft,g⟩).run P w=.ok (.value (.slice (some ⟨b,if c=i then o else o+i*s,none⟩) (m-i) (c-i))) w:=by
 unfold bg at ht;split at ht
 .rename_i e' hu;cases hie:P.info? e' with
  |none=>rw[hie]at ht;simp at ht
  |some t=>
   rw[hie]at ht;simp at ht;obtain⟨rfl,rfl⟩:=ht
   by_cases hne:c=i<;>simp[execOp,hx,hlo,Instr.sliceAt,run_underlying hu,Instr.slice,Instr.sliceBounds,Instr.sliceBound,asIntOf,hi,sizeOf,typeInfo,hie,Addr.add_mid,hne]
 .cases ht
theorem oC{x:Operand}{t e s b o m c:Nat}{lo:Operand}{i:Nat}(hx:a.eval x=.slice (some ⟨b,o,none⟩) m c)(hlo:a.eval lo=.int .i64 i)(ht:bg P t=some (e,s))(hc:i<=c):
  (execOp a.eval ⟨dst,.slice t x none (some lo) none,ty,pos,aft,g⟩).run P w=.ok (.value (.slice (some ⟨b,o,none⟩) i c)) w:=by
 unfold bg at ht;split at ht
 .rename_i e' hu;cases hie:P.info? e' with
  |none=>rw[hie]at ht;simp at ht
  |some t=>
   rw[hie]at ht;simp at ht;obtain⟨rfl,rfl⟩:=ht;simp[execOp,hx,hlo,Instr.sliceAt,run_underlying hu,Instr.slice,Instr.sliceBounds,Instr.sliceBound,asIntOf,hc,sizeOf,typeInfo,hie,Addr.add_mid]
 .cases ht
theorem zo{x:Operand}{t e s m c:Nat}{A:Option Addr}{lo hi:Operand}{i j:Nat}(hx:a.eval x=.slice A m c)(hlo:a.eval lo=.int .i64 i)(hhi:a.eval hi=.int .i64 j)(ht:bg P t=some (e,s))(hi':i<=j)(hc:j<=c):
  (execOp a.eval ⟨dst,.slice t x (some lo) (some hi) none,ty,pos,aft,g⟩).run P w=.ok (.value (.slice (if c=i then A else A.map (·.add (i*s))) (j-i) (c-i))) w:=by
 unfold bg at ht;split at ht
 .rename_i e' hu;cases hie:P.info? e' with
  |none=>rw[hie]at ht;simp at ht
  |some t=>
   rw[hie]at ht;simp at ht;obtain⟨rfl,rfl⟩:=ht
   by_cases hne:c=i
   .have hj:j=i:=by omega
    subst hne;subst hj;simp[execOp,hx,hlo,hhi,Instr.sliceAt,run_underlying hu,Instr.slice,Instr.sliceBounds,Instr.sliceBound,asIntOf,sizeOf,typeInfo,hie]
   .simp[execOp,hx,hlo,hhi,Instr.sliceAt,run_underlying hu,Instr.slice,Instr.sliceBounds,Instr.sliceBound,asIntOf,hi',hc,sizeOf,typeInfo,hie,hne]
 .cases ht
theorem wZ{x:Operand}{t e s m c:Nat}{A:Option Addr}{lo:Operand}{i:Nat}(hx:a.eval x=.slice A m c)(hlo:a.eval lo=.int .i64 i)(ht:bg P t=some (e,s))(hi':i<=m):
  (execOp a.eval ⟨dst,.slice t x (some lo) none none,ty,pos,aft,g⟩).run P w=.ok (.value (.slice (if c=i then A else A.map (·.add (i*s))) (m-i) (c-i))) w:=by
 unfold bg at ht;split at ht
 .rename_i e' hu;cases hie:P.info? e' with
  |none=>rw[hie]at ht;simp at ht
  |some t=>
   rw[hie]at ht;simp at ht;obtain⟨rfl,rfl⟩:=ht
   by_cases hne:c=i<;>simp[execOp,hx,hlo,Instr.sliceAt,run_underlying hu,Instr.slice,Instr.sliceBounds,Instr.sliceBound,asIntOf,hi',sizeOf,typeInfo,hie,hne]
 .cases ht
theorem wY{x:Operand}{t e s m c:Nat}{A:Option Addr}{hi:Operand}{j:Nat}(hx:a.eval x=.slice A m c)(hhi:a.eval hi=.int .i64 j)(ht:bg P t=some (e,s))(hc:j<=c):
  (execOp a.eval ⟨dst,.slice t x none (some hi) none,ty,pos,aft,g⟩).run P w=.ok (.value (.slice (if c=0 then A else A.map (·.add (0*s))) j c)) w:=by
 unfold bg at ht;split at ht
 .rename_i e' hu;cases hie:P.info? e' with
  |none=>rw[hie]at ht;simp at ht
  |some t=>
   rw[hie]at ht;simp at ht;obtain⟨rfl,rfl⟩:=ht
   by_cases hne:c=0
   .have hj:j=0:=by omega
    subst hne;subst hj;simp[execOp,hx,hhi,Instr.sliceAt,run_underlying hu,Instr.slice,Instr.sliceBounds,Instr.sliceBound,asIntOf,sizeOf,typeInfo,hie]
   .simp[execOp,hx,hhi,Instr.sliceAt,run_underlying hu,Instr.slice,Instr.sliceBounds,Instr.sliceBound,asIntOf,hc,sizeOf,typeInfo,hie,hne]
 .cases ht
end
end Go.Tr
namespace Go.Tr
open Go Go.RowKit
def aM.emp:aM where
 p _ F:=F=[]
 keep:=fun h _=>h
 lt:=fun h b hb=>by cases h;simp at hb
instance:Inhabited aM:=⟨aM.emp⟩
structure Step where
 dep:List Nat:=[]
 val:List Value->Value
 ok:List Value->Prop:=fun _=>True
 rd:List Nat:=[]
structure Lab where
 dep:List Nat:=[]
 res:List Value->aM
 prod:Option Nat:=none
 cons:Option Nat:=none
structure Flow where
 steps:List Step
 labs:List Lab
 anc:List (List Nat)
def yK(x:Option (List Nat))(j:Nat):Bool:=match x with|some l=>l.contains j|none=>false
section
variable {P:Program}{ops:Array Oper}{fl:Flow}{l0:List (Nat×Value)}{n:Nat}{w0:World}{F0:aK}
def Gives(P:Program)(ops:Array Oper)(o:Oper)(a:Act)(w:World)(K:Value->World->Prop):Prop:=
 (Region.wanted o (yielded ops a.tmps)=true/\((∃v w',(execOp a.eval o).run P w=.ok (.value v) w'/\K v w')\/(∃w',(execOp a.eval o).run P w=.ok .skip w'/\K undef w')\/
  ∃f args,(execOp a.eval o).run P w=.ok (.enter f args) w/\Calls P f args w fun e w'=>∃v,e=.returned v/\K v w'))\/
 (Region.wanted o (yielded ops a.tmps)=false/\K undef w)
theorem Gives.wpOp{Q:Exit->Act->World->Prop}{o:Oper}{a:Act}{w:World}{K:Value->World->Prop}{K':Act->World->Prop}{i:Nat}(h:Gives P ops o a w K)(hi:ops[i]? =some o)(hk:∀v w',K v w'->K' (a.put o.dst v) w'):wpOp P ops Q i K' a w:=by
 unfold Go.wpOp;simp only[hi];rcases h with⟨hw,h⟩|⟨hw,h⟩
 .rw[if_pos hw];refine .inl ?_;unfold Oper.wp;rcases h with⟨v,w',hr,h⟩|⟨w',hr,h⟩|⟨f,args,hr,h⟩
  .rw[hr];exact hk _ _ h
  .rw[hr];exact hk _ _ h
  .rw[hr];refine h.mono fun e w' h=> ?_
   obtain⟨v,rfl,h⟩:=h;exact hk _ _ h
 .rw[if_neg (by simp[hw])];exact hk _ _ h
theorem oW{α:Type}(p p1 p2 p3:α->Bool):∀(l:List α),(∀x∈l,(p x=(p1 x||p2 x||p3 x))/\(p1 x&&p2 x)=false/\(p1 x&&p3 x)=false/\(p2 x&&p3 x)=false)->(l.filter p).Perm (l.filter p1++(l.filter p2++l.filter p3))
 |[],_=>by simp
 |x::l,h=>by
  have ih:=oW p p1 p2 p3 l (fun y hy=>h y (by simp[hy]));obtain⟨h0,h12,h13,h23⟩:=h x (by simp);cases e1:p1 x<;>cases e2:p2 x<;>cases e3:p3 x<;>simp[e1,e2,e3]at h0 h12 h13 h23
  .simpa[List.filter_cons,e1,e2,e3,h0]using ih
  .simp only[List.filter_cons,e1,e2,e3,h0,if_true,Bool.false_eq_true,if_false];refine(ih.cons x).trans ?_;rw[<-qF,<-qF];exact List.perm_middle.symm
  .simp only[List.filter_cons,e1,e2,e3,h0,if_true,Bool.false_eq_true,if_false,List.cons_append];exact(ih.cons x).trans List.perm_middle.symm
  .simp only[List.filter_cons,e1,e2,e3,h0,if_true,Bool.false_eq_true,if_false,List.cons_append];exact ih.cons x
theorem dV{x:Option (List Nat)}{j:Nat}(h:yK x j=true):∃l,x=some l/\j∈l:=by
 unfold yK at h;cases x with
 |none=>simp at h
 |some l=>exact⟨l,rfl,by simpa using h⟩
end
end Go.Tr
namespace Go.Tr
open Go Go.RowKit
section
variable {P:Program}{ops:Array Oper}{Q Q':Exit->Act->World->Prop}{a:Act}{w w':World}{rest:List Oper}{n:Nat}{l:List (Nat×Value)}{v:Value}{d:Nat}{op:Op}{ty:TypeId}{pos:String}{aft:Array Edge}{next:Act->World->Prop}{id id':Nat}
def uG(tmps:Array Value):ResultVar->Sem Value
 | .tmp t=>pure (tmps.getD t undef)
 | .cell a t=>do loadVar t (<-asAddr (tmps.getD a undef))
theorem uN(fn:Func)(tmps:Array Value):results fn tmps=(do let vs <-fn.results.mapM (uG tmps);pure (if h:vs.size=1 then vs[0]else .tuple vs)):=by
 unfold results;rfl
variable {w0:World}{F0:aK}{rs rs' ss:List aM}{r r':aM}
theorem Inv.weak(h:Inv w0 F0 w (r::rs))(k:∀F,r.p w F->∃F',(∀b∈F',b∈F)/\r'.p w F'):Inv w0 F0 w (r'::rs):=by
 obtain⟨G,⟨F,G',rfl,h1,h2,h3⟩,h4⟩:=h.sep;obtain⟨F',h5,h6⟩:=k F h1
 exact⟨h.gM,F'++G',⟨F',G',rfl,h6,h2,fun b hb=>h3 b (h5 b hb)⟩,fun b hb=>by
  rcases qT.1 hb with hb|hb
  .exact h4 b (by simp[h5 b hb])
  .exact h4 b (by simp[hb])⟩
theorem Inv.part{s:aM}(h:Inv w0 F0 w (r::rs))(k:∀F,r.p w F->∃F1 F2,(∀b∈F1,b∈F)/\(∀b∈F2,b∈F)/\(∀b∈F1,b∉F2)/\r'.p w F1/\s.p w F2):Inv w0 F0 w (r'::s::rs):=by
 obtain⟨G,⟨F,G',rfl,h1,h2,h3⟩,h4⟩:=h.sep;obtain⟨F1,F2,k1,k2,k3,k4,k5⟩:=k F h1;refine⟨h.gM,F1++(F2++G'),⟨F1,F2++G',rfl,k4,⟨F2,G',rfl,k5,h2,fun b hb=>h3 b (k2 b hb)⟩,fun b hb hm=> ?_⟩,fun b hb=> ?_⟩
 .rcases qT.1 hm with hm|hm
  .exact k3 b hb hm
  .exact h3 b (k1 b hb) hm
 .simp only[qT]at hb;rcases hb with hb|hb|hb
  .exact h4 b (by simp[k1 b hb])
  .exact h4 b (by simp[k2 b hb])
  .exact h4 b (by simp[hb])
theorem Inv.put(h:Inv w0 F0 w rs)(i:Nat){b o:Nat}{cs us cs':aO}{t:TypeId}(hr:rs[i]? =some (u7 b cs t))(ho:Nat.ble (o+us.length) cs.length=true)(hcs:cs.take o++us++cs.drop (o+us.length)=cs'):
  Inv w0 F0 (w.setCells b o us) (rs.set i (u7 b cs' t)):=by
 subst hcs;obtain⟨h1,h2⟩:=fP (us:=us) (h.dn i hr) (by simpa using ho);exact(Inv.set (h.front i hr) ⟨_,h1,rfl⟩ h2).back i hr
theorem vW{f:FuncId}{t:Operand}{xs:List Operand}{ts:Array TypeId}{vs cs:aO}{dst:Option Nat}{g:Option (Nat×Bool)}(hc:a.eval t=.func (.func f) #[] cs.toArray)(hx:xs.map a.eval=vs)(hf:dI P f=true):(execOp a.eval ⟨dst,.call { callee:=.value t,args:=xs.toArray,argTypes:=ts},ty,pos,aft,g⟩).run P w=.ok (.enter f (vs++cs).toArray) w:=by
 subst hx;unfold dI at hf;cases hq:P.funcs[f]? with
 |none=>rw[hq]at hf;simp at hf
 |some fn=>
  rw[hq]at hf;simp only[qD,Bool.not_eq_true',beq_eq_false_iff_ne,ne_eq]at hf;have hb:¬fn.body=none:=by cases h:fn.body<;>simp_all
  simp[execOp,resolve,Deferred.ofValue,hc,invoke,callFunc,hq,hf.1,hb]
theorem Inv.take1(h:Inv w0 F0 w (r::rs)):∃F,r.p w F/\(∀r' F1,(∀b∈F1,b∈F)->aM.p r' w F1->Inv w0 F0 w (r'::rs))/\
  ∀r' s F1 F2,(∀b∈F1,b∈F)->(∀b∈F2,b∈F)->(∀b∈F1,b∉F2)->aM.p r' w F1->aM.p s w F2->Inv w0 F0 w (r'::s::rs):=by
 obtain⟨G,⟨F,G',rfl,h1,h2,h3⟩,h4⟩:=h.sep;refine⟨F,h1,fun r' F1 k1 k2=> ?_,fun r' s F1 F2 k1 k2 k3 k4 k5=> ?_⟩
 .exact⟨h.gM,F1++G',⟨F1,G',rfl,k2,h2,fun b hb=>h3 b (k1 b hb)⟩,fun b hb=>by
   rcases qT.1 hb with hb|hb
   .exact h4 b (by simp[k1 b hb])
   .exact h4 b (by simp[hb])⟩
 .refine⟨h.gM,F1++(F2++G'),⟨F1,F2++G',rfl,k4,⟨F2,G',rfl,k5,h2,fun b hb=>h3 b (k2 b hb)⟩,fun b hb hm=> ?_⟩,fun b hb=> ?_⟩
  .rcases qT.1 hm with hm|hm
   .exact k3 b hb hm
   .exact h3 b (k1 b hb) hm
  .simp only[qT]at hb;rcases hb with hb|hb|hb
   .exact h4 b (by simp[k1 b hb])
   .exact h4 b (by simp[k2 b hb])
   .exact h4 b (by simp[hb])
theorem Inv.kW(h:Inv w0 F0 w rs)(hp:r.p w []):Inv w0 F0 w (r::rs):=by
 obtain⟨G,h1,h2⟩:=h.sep;exact⟨h.gM,G,⟨[],G,rfl,hp,h1,by simp⟩,h2⟩
section
variable {us:aO}{ds es:List D}{x u:Value}{m:Nat}
theorem Inv.iR(h:Inv w0 F0 w rs):Inv w0 F0 w (aL [] []::rs):=h.kW ⟨TN.done,Own.nil _ _⟩
theorem Inv.uE(h:Inv w0 F0 w (aL us ds::rs))(hx:x.oneCell'=true):Inv w0 F0 w (aL (x::us) (.v x::ds)::rs):=by
 obtain⟨F,⟨h1,h2⟩,h3,_⟩:=h.take1;exact h3 _ F (fun _ h=>h) ⟨TN.uY hx h1,h2⟩
theorem Inv.take2{s:aM}(h:Inv w0 F0 w (r::s::rs)):∃F1 F2,r.p w F1/\s.p w F2/\(∀b∈F1,b∉F2)/\∀r' F,(∀b∈F,b∈F1\/b∈F2)->aM.p r' w F->Inv w0 F0 w (r'::rs):=by
 obtain⟨G,⟨F1,G',rfl,h1,⟨F2,G2,rfl,h2,h3,h4⟩,h5⟩,h6⟩:=h.sep;refine⟨F1,F2,h1,h2,fun b hb hm=>h5 b hb (by simp[hm]),fun r' F k1 k2=>⟨h.gM,F++G2,⟨F,G2,rfl,k2,h3,fun b hb hm=> ?_⟩,fun b hb=> ?_⟩⟩
 .rcases k1 b hb with hb|hb
  .exact h5 b hb (by simp[hm])
  .exact h4 b hb hm
 .rcases qT.1 hb with hb|hb
  .rcases k1 b hb with hb|hb
   .exact h6 b (by simp[hb])
   .exact h6 b (by simp[hb])
  .exact h6 b (by simp[hb])
theorem Inv.wQ(h:Inv w0 F0 w (Dat u m es::aL us ds::rs)):Inv w0 F0 w (aL (u::us) (.sl m es::ds)::rs):=by
 obtain⟨F1,F2,⟨h1,h2⟩,⟨h3,h4⟩,h5,h6⟩:=h.take2;exact h6 _ (F1++F2) (fun b hb=>qT.1 hb) ⟨TN.zG h1 h3,Own.join h2 h4 h5⟩
theorem Inv.lu(h:Inv w0 F0 w rs):Inv w0 F0 w (Dat (.slice none 0 0) 0 []::rs):=h.kW ⟨T1.empty none,Own.nil _ _⟩
end
def xG(b c:Nat)(t:TypeId)(s n:Nat)(ds1:List D)(us:List Value)(ds2:List D):aM where
 p w F:=∃cur u1 u2 b1 b2,F=b::(b1++b2)/\w.heap[b]? =some (.cells cur t (0,0))/\n<=c/\c<=maxLen/\cur.size=c*s/\cur.toList.take (n*s)=u1++(us++u2)/\(u1++(us++u2)).length=n*s/\TN w ds1 b1 u1/\TN w ds2 b2 u2/\Own 0 w (b1++b2)/\b∉b1++b2
 keep:=fun⟨cur,u1,u2,b1,b2,e,h1,h2,h3,h4,h5,h6,h7,h8,h9,h10⟩ k=>by
  subst e;refine⟨cur,u1,u2,b1,b2,rfl,(k.2 b (by simp)).trans h1,h2,h3,h4,h5,h6,h7.keep (k.sub fun y hy=>by simp[hy]),h8.keep (k.sub fun y hy=>by simp[hy]),⟨h9.1,fun y hy=> ?_⟩,h10⟩;obtain⟨h0,cur,t,h11⟩:=h9.2 y hy;exact⟨h0,cur,t,(k.2 y (by simp at hy |-;exact .inr hy)).trans h11⟩
 lt:=fun⟨cur,u1,u2,b1,b2,e,h1,h2,h3,h4,h5,h6,h7,h8,h9,h10⟩ y hy=>by
  subst e;rcases List.mem_cons.1 hy with rfl|hy
  .exact dA h1
  .exact h9.lt y hy
section
variable {t:TypeId}{m:Nat}
theorem Inv.open_{α:Type}{f:α->List D}{s:Nat}(hs:∀x,(f x).length=s){xs:List α}(h:Inv w0 F0 w (Gr v t s m (xs.flatMap f)::rs))(hm:xs.length=m){k:Nat}(hk:k<m):
  ∃b c x us,v=.slice (some ⟨b,0,none⟩) m c/\m<=9223372036854775807/\xs[k]? =some x/\Inv w0 F0 w (xG b c t s m ((xs.take k).flatMap f) us ((xs.drop (k+1)).flatMap f)::aL us (f x)::rs):=by
 obtain⟨F,⟨bs,us,rfl,hg⟩,_,h3⟩:=h.take1;have hk':k<xs.length:=hm▸hk
 have hx:xs.flatMap f=(xs.take k).flatMap f++(f xs[k]++(xs.drop (k+1)).flatMap f):=by
  conv=>lhs;rw[<-List.take_append_drop k xs,List.drop_eq_getElem_cons hk',List.flatMap_append,qU]
 obtain⟨⟨hl0,hrow⟩,htn,hown,hout⟩:=hg;rcases hrow with⟨_,hn⟩|⟨g,cap,cur,hv,hlo,hgg,hnc,hcm,hcs,htk⟩
 .omega
 subst hv;rw[hx]at htn;obtain⟨b1,b',u1,u',rfl,rfl,t1,htn⟩:=TN.append.1 htn;obtain⟨b2,b3,u2,u3,rfl,rfl,t2,t3⟩:=TN.append.1 htn;have hgb:g∉b1++(b2++b3):=hout g rfl;have hnd:=List.nodup_append.1 hown.1;have hnd2:=List.nodup_append.1 hnd.2.1;have hrl:jD (.slice (some ⟨g,0,none⟩) m cap)=[g]:=rfl;refine⟨g,cap,xs[k],u2,rfl,by unfold maxLen at hcm;omega,qB hk',h3 _ _ (g::(b1++b3)) b2 (fun y hy=> ?_) (fun y hy=>by rw[hrl];simp[hy]) (fun y hy hm2=> ?_) ⟨cur,u1,u3,b1,b3,rfl,hgg,hnc,hcm,hcs,htk,hl0,t1,t3,⟨List.nodup_append.2 ⟨hnd.1,hnd2.2.1,fun y hy z hz e=>hnd.2.2 y hy z (by simp[hz]) e⟩,fun y hy=>hown.2 y (by simp at hy |-;rcases hy with h|h<;>simp[h])⟩,fun hm2=>hgb (by simp at hm2 |-;rcases hm2 with h|h<;>simp[h])⟩ ⟨t2,hnd2.1,fun y hy=>hown.2 y (by simp[hy])⟩⟩
 .rw[hrl];simp at hy |-;rcases hy with h|h|h<;>simp[h]
 .rcases List.mem_cons.1 hy with rfl|hy
  .exact hgb (by simp[hm2])
  .rcases qT.1 hy with hy|hy
   .exact hnd.2.2 y hy y (by simp[hm2]) rfl
   .exact hnd2.2.2 y hm2 y hy rfl
theorem Inv.shut{b c s:Nat}{ds1 ds2 d:List D}{us:aO}(h:Inv w0 F0 w (xG b c t s m ds1 us ds2::aL us d::rs)):Inv w0 F0 w (Gr (.slice (some ⟨b,0,none⟩) m c) t s m (ds1++(d++ds2))::rs):=by
 obtain⟨F1,F2,⟨cur,u1,u2,b1,b2,rfl,h1,h2,h3,h4,h5,h6,h7,h8,h9,h10⟩,⟨k1,k2⟩,hd,hf⟩:=h.take2;have hnd:=List.nodup_append.1 h9.1;refine hf _ (b::(b1++(F2++b2))) (fun y hy=> ?_) ⟨b1++(F2++b2),u1++(us++u2),rfl,⟨⟨h6,.inr ⟨b,c,cur,rfl,Nat.zero_le _,h1,h2,h3,h4,h5⟩⟩,TN.append.2 ⟨b1,_,u1,_,rfl,rfl,h7,TN.append.2 ⟨F2,b2,us,u2,rfl,rfl,k1,h8⟩⟩,⟨?_,fun y hy=> ?_⟩,fun g hg hm=> ?_⟩⟩
 .simp at hy |-;rcases hy with h|h|h|h<;>simp[h]
 .refine List.nodup_append.2 ⟨hnd.1,List.nodup_append.2 ⟨k2.1,hnd.2.1,fun y hy z hz e=> ?_⟩,fun y hy z hz e=> ?_⟩
  .subst e;exact hd y (by simp[hz]) hy
  .subst e;rcases qT.1 hz with hz|hz
   .exact hd y (by simp[hy]) hz
   .exact hnd.2.2 y hy y hz rfl
 .simp only[qT]at hy;rcases hy with h|h|h
  .exact h9.2 y (by simp[h])
  .exact k2.2 y h
  .exact h9.2 y (by simp[h])
 .simp only[Value.ownBlock,Option.some.injEq]at hg;subst hg;simp only[qT]at hm;rcases hm with h|h|h
  .exact h10 (by simp[h])
  .exact hd b (by simp) h
  .exact h10 (by simp[h])
theorem tq{α:Type}{f:α->List D}{xs:List α}{k:Nat}{y:α}(hk:k<xs.length):(xs.take k).flatMap f++(f y++(xs.drop (k+1)).flatMap f)=(xs.set k y).flatMap f:=by
 rw[List.set_eq_take_append_cons_drop,if_pos hk,List.flatMap_append,qU]
theorem Inv.qd{b c s:Nat}{ds1 ds2:List D}{us:aO}(h:Inv w0 F0 w rs)(i:Nat)(hr:rs[i]? =some (xG b c t s m ds1 us ds2)){k:Nat}(hl:ds1.length=k):∃cur,w.heap[b]? =some (.cells cur t (0,0))/\k+us.length<=cur.size:=by
 obtain⟨F,cur,u1,u2,b1,b2,rfl,h1,h2,h3,h4,h5,h6,h7,h8,h9,h10⟩:=h.mem i hr;have h11:=congrArg List.length h5;have l1:=h7.length;simp only[List.length_take,qA,Array.length_toList]at h11;exact⟨cur,h1,by omega⟩
theorem Inv.qc{b c s:Nat}{ds1 ds2:List D}{us vs us':aO}(h:Inv w0 F0 w rs)(i:Nat)(hr:rs[i]? =some (xG b c t s m ds1 us ds2)){k:Nat}(hl:ds1.length=k){j:Nat}(hj:Nat.ble (j+vs.length) us.length=true)(hu:us.take j++vs++us.drop (j+vs.length)=us'):
  Inv w0 F0 (w.setCells b (k+j) vs) (rs.set i (xG b c t s m ds1 us' ds2)):=by
 subst hu;have hj':j+vs.length<=us.length:=by simpa using hj
 obtain⟨F,h2,_,h4⟩:=Inv.frame (pre:=[xG b c t s m ds1 us ds2]) (rest:=rs.eraseIdx i) (h.front i hr);obtain⟨F1,G1,rfl,⟨cur,u1,u2,b1,b2,rfl,k1,k2,k3,k4,k5,k6,k7,k8,k9,k10⟩,rfl,_⟩:=h2;have l1:=k7.length;have hsz:(cur.toList.take (m*s)).length=m*s:=by rw[k5];exact k6
 have hle:m*s<=cur.size:=by simp only[List.length_take,Array.length_toList]at hsz;omega
 have hk6:=k6;simp only[qA]at hk6;obtain⟨h5,h6⟩:=fP (us:=vs) (cs:=cur.toList) (o:=k+j) (w:=w) (b:=b) (T:=t) (by simpa using k1) (by simp only[Array.length_toList];omega);have hkp:Keeps w (w.setCells b (k+j) vs) (b1++b2):=⟨h6.size,fun y hy=>h6.other y (k9.lt y hy) (fun hm=>by simp at hm;subst hm;exact k10 hy)⟩;refine Inv.back i hr (h4 _ [_] ⟨⟨h6.os,h6.tape,h6.output,h6.size,fun y hy hn=>h6.other y hy (fun hm=>hn (by simp at hm;simp[hm]))⟩,_,⟨_,[],rfl,⟨(cur.toList.take (k+j)++vs++cur.toList.drop (k+j+vs.length)).toArray,u1,u2,b1,b2,rfl,h5,k2,k3,?_,?_,?_,k7.keep (hkp.sub fun y hy=>by simp[hy]),k8.keep (hkp.sub fun y hy=>by simp[hy]),⟨k9.1,fun y hy=> ?_⟩,k10⟩,rfl,by simp⟩,fun y hy=>.inl (by simpa using hy)⟩)
 .simp only[List.size_toArray,qA,List.length_take,List.length_drop,Array.length_toList];omega
 .simp only[]
  have e1:cur.toList.take (k+j)=u1++us.take j:=by
   have:=congrArg (List.take (k+j)) k5;rw[List.take_take,Nat.min_eq_left (by omega)]at this;rw[this,List.take_append,qN (by omega),l1,hl,Nat.add_sub_cancel_left,List.take_append_of_le_length (by omega)]
  apply List.ext_getElem?;intro q
  by_cases hq:q<m*s
  .rw[List.getElem?_take,if_pos hq,e1];have hcq:cur.toList[q]? =(u1++(us++u2))[q]? :=by rw[<-k5,List.getElem?_take,if_pos hq]
   simp only[List.getElem?_append,qA,List.length_take,List.getElem?_drop,List.getElem?_take]at hcq |-
   grind
  .rw[List.getElem?_eq_none (by simp;omega),List.getElem?_eq_none (by simp;omega)]
 .simp only[qA,List.length_take,List.length_drop]at hk6 |-;omega
 .obtain⟨h0,cur2,t2,h11⟩:=k9.2 y hy;exact⟨h0,cur2,t2,(hkp.2 y hy).trans h11⟩
theorem pv{l:List (Nat×Operand)}{l':List (Nat×Value)}(h:l.map (fun x=>(x.1,a.eval x.2))=l'):(l.toArray.map fun(i,x)=>(i,a.eval x))=l'.toArray:=by subst h;simp
theorem oK{k:Nat}(h:k+1<=9223372036854775807):IntKind.i64.wrap ((k:Int)+1)=((k+1:Nat):Int):=by rw[qO _ (by omega)];rfl
theorem DU{x:Operand}{i:Nat}{vs:aO}{dst:Option Nat}{g:Option (Nat×Bool)}(hx:a.eval x=.tuple vs.toArray)(hi:vs[i]? =some v):(execOp a.eval ⟨dst,.extract x i,ty,pos,aft,g⟩).run P w=.ok (.value v) w:=by
 simp[execOp,hx,Instr.extract,hi]
theorem AQ{x:Operand}{t i:Nat}{u:Value}{dst:Option Nat}{g:Option (Nat×Bool)}(hx:a.eval x=u)(hr:(Instr.field t u i).run P w=.ok v w):(execOp a.eval ⟨dst,.field t x i,ty,pos,aft,g⟩).run P w=.ok (.value v) w:=by
 simp[execOp,hx,hr]
theorem DX{f:FuncId}{xs:List Operand}{vs:aO}{dst:Option Nat}{g:Option (Nat×Bool)}(hx:xs.map a.eval=vs):(execOp a.eval ⟨dst,.makeFunc (.func f) #[] xs.toArray,ty,pos,aft,g⟩).run P w=.ok (.value (.func (.func f) #[] vs.toArray)) w:=by
 subst hx;simp[execOp,Instr.makeFunc]
theorem zn{c x y:Operand}{dst:Option Nat}{g:Option (Nat×Bool)}(hc:a.eval c=.bool true)(hx:a.eval x=v):(execOp a.eval ⟨dst,.pick c x y,ty,pos,aft,g⟩).run P w=.ok (.value v) w:=by simp[execOp,hc,hx,asBool]
theorem zm{c x y:Operand}{dst:Option Nat}{g:Option (Nat×Bool)}(hc:a.eval c=.bool false)(hx:a.eval y=v):(execOp a.eval ⟨dst,.pick c x y,ty,pos,aft,g⟩).run P w=.ok (.value v) w:=by simp[execOp,hc,hx,asBool]
section
variable {o:Oper}{K:Value->World->Prop}
end
theorem BD{x y:Operand}{t:TypeId}{u v':Value}{dst:Option Nat}{g:Option (Nat×Bool)}(hx:a.eval x=v)(hy:a.eval y=u)(hr:(Builtin.append_ #[t,t] ty #[v,u]).run P w=.ok v' w'):
  (execOp a.eval ⟨dst,.call { callee:=.builtin .append,args:= #[x,y],argTypes:= #[t,t]},ty,pos,aft,g⟩).run P w=.ok (.value v') w':=by
 simp[execOp,resolve,invoke,builtin,hx,hy,hr]
theorem Inv.um(h:Inv w0 F0 w rs)(t:TypeId)(s:Nat):Inv w0 F0 w (Gr (.slice none 0 0) t s 0 []::rs):=h.kW ⟨[],[],rfl,GR.nil _ _ _ _⟩
theorem Inv.Dv{s:Nat}{ds:List D}(h:Inv w0 F0 w rs)(i:Nat)(hr:rs[i]? =some (Gr v t s m ds))(hl:ds.length=m*s):∃A c bs,v=.slice A m c/\T1 w (.sl m ds) bs (.slice A m c):=by
 obtain⟨F,bs,us,_,hg⟩:=h.mem i hr;obtain⟨A,c,bs',rfl,h1,_⟩:=hg.res hl;exact⟨A,c,bs',rfl,h1⟩
theorem GR.EA{lo:Nat}{us:aO}{s:Nat}{ds:List D}{bs:aK}(h:GR lo w t s v m ds bs us)(hl:ds.length=m*s):∃A c bs',v=.slice A m c/\T1 w (.sl m ds) bs' (.slice A m c)/\Own lo w bs'/\∀b∈bs',b∈jD v++bs:=by
 rcases h.row.2 with⟨rfl,rfl⟩|⟨g,cap,cur,rfl,hb,hgg,hnc,hcm,hcs,htk⟩
 .have hd:ds=[]:=List.eq_nil_of_length_eq_zero (by simpa using hl);subst hd;exact⟨none,0,[],rfl,T1.empty none,Own.nil _ _,by simp⟩
 .rcases Nat.eq_zero_or_pos m with rfl|hn
  .have hd:ds=[]:=List.eq_nil_of_length_eq_zero (by simpa using hl);subst hd;refine⟨some ⟨g,0,none⟩,cap,[],rfl,?_,Own.nil _ _,by simp⟩;unfold T1;exact⟨_,_,rfl,hnc,hcm,.inl ⟨rfl,rfl,rfl⟩⟩
  .have hgb:g∉bs:=h.out g rfl;refine⟨some ⟨g,0,none⟩,cap,g::bs,rfl,?_,⟨List.nodup_cons.2 ⟨hgb,h.own.1⟩,fun b hb'=> ?_⟩,fun b hb'=>by simpa[jD,Value.ownBlock]using hb'⟩
   .unfold T1;refine⟨_,_,rfl,hnc,hcm,.inr ⟨hn,g,0,us,bs,rfl,rfl,dA hgg,fun j u hu=> ?_,h.tn⟩⟩;rw[Nat.zero_add,cell_of_row w g j cur t (0,0) hgg];rw[<-htk,List.getElem?_take]at hu;split at hu
    .simpa using hu
    .cases hu
   .rcases List.mem_cons.1 hb' with rfl|hb'
    .exact⟨hb,cur,t,hgg⟩
    .exact h.own.2 b hb'
theorem Inv.Ch{s:Nat}{ds:List D}(h:Inv w0 F0 w (Gr v t s m ds::rs))(hl:ds.length=m*s):∃A c,v=.slice A m c/\Inv w0 F0 w (Dat (.slice A m c) m ds::rs):=by
 obtain⟨F,⟨bs,us,rfl,hg⟩,h3,_⟩:=h.take1;obtain⟨A,c,bs',rfl,h1,h2,h5⟩:=hg.EA hl;exact⟨A,c,rfl,h3 _ bs' h5 ⟨h1,h2⟩⟩
theorem Inv.Au{us:aO}{ds:List D}{bs:aK}(h:Inv w0 F0 w rs)(ht:TN w ds bs us)(hf:∀d∈ds,∃x,d=.v x):Inv w0 F0 w (aL us ds::rs):=h.kW ⟨(ht.flat hf).2 w,Own.nil _ _⟩
theorem take_len{α:Type}(f:α->List D)(s:Nat)(hs:∀x,(f x).length=s){xs:List α}{k:Nat}(hk:k<xs.length):((xs.take k).flatMap f).length=k*s:=by
 rw[jm f s hs,List.length_take,Nat.min_eq_left (Nat.le_of_lt hk)]
theorem Inv.BG{α:Type}{f:α->List D}{b c s:Nat}{xs:List α}{us:aO}{k:Nat}{y:α}(h:Inv w0 F0 w (xG b c t s m ((xs.take k).flatMap f) us ((xs.drop (k+1)).flatMap f)::aL us (f y)::rs))(hk:k<xs.length):Inv w0 F0 w (Gr (.slice (some ⟨b,0,none⟩) m c) t s m ((xs.set k y).flatMap f)::rs):=by
 rw[<-tq hk];exact h.shut
theorem Inv.Cj{s:Nat}{ds:List D}(h:Inv w0 F0 w rs)(i:Nat)(hr:rs[i]? =some (Gr v t s m ds))(hm:0<m):∃b c,v=.slice (some ⟨b,0,none⟩) m c:=by
 obtain⟨F,bs,us,_,hg⟩:=h.mem i hr;rcases hg.row.2 with⟨_,h0⟩|⟨g,cap,cur,rfl,_⟩
 .omega
 .exact⟨g,cap,rfl⟩
theorem Inv.DK{b c s:Nat}{d1 d d2:List D}(h:Inv w0 F0 w (Gr (.slice (some ⟨b,0,none⟩) m c) t s m (d1++(d++d2))::rs))(hm:0<m):
  ∃us,Inv w0 F0 w (xG b c t s m d1 us d2::aL us d::rs):=by
 obtain⟨F,⟨bs,us,rfl,hg⟩,_,h3⟩:=h.take1;obtain⟨⟨hl0,hrow⟩,htn,hown,hout⟩:=hg;rcases hrow with⟨_,hn⟩|⟨g,cap,cur,hv,hlo,hgg,hnc,hcm,hcs,htk⟩
 .omega
 injection hv with hA _ hc
 injection hA with hA
 injection hA with hb _
 subst hb hc;obtain⟨b1,b',u1,u',rfl,rfl,t1,htn⟩:=TN.append.1 htn;obtain⟨b2,b3,u2,u3,rfl,rfl,t2,t3⟩:=TN.append.1 htn;have hgb:b∉b1++(b2++b3):=hout b rfl;have hnd:=List.nodup_append.1 hown.1;have hnd2:=List.nodup_append.1 hnd.2.1;have hrl:jD (.slice (some ⟨b,0,none⟩) m c)=[b]:=rfl;refine⟨u2,h3 _ _ (b::(b1++b3)) b2 (fun y hy=> ?_) (fun y hy=>by rw[hrl];simp[hy]) (fun y hy hm2=> ?_) ⟨cur,u1,u3,b1,b3,rfl,hgg,hnc,hcm,hcs,htk,hl0,t1,t3,⟨List.nodup_append.2 ⟨hnd.1,hnd2.2.1,fun y hy z hz e=>hnd.2.2 y hy z (by simp[hz]) e⟩,fun y hy=>hown.2 y (by simp at hy |-;rcases hy with h|h<;>simp[h])⟩,fun hm2=>hgb (by simp at hm2 |-;rcases hm2 with h|h<;>simp[h])⟩ ⟨t2,hnd2.1,fun y hy=>hown.2 y (by simp[hy])⟩⟩
 .rw[hrl];simp at hy |-;rcases hy with h|h|h<;>simp[h]
 .rcases List.mem_cons.1 hy with rfl|hy
  .exact hgb (by simp[hm2])
  .rcases qT.1 hy with hy|hy
   .exact hnd.2.2 y hy y (by simp[hm2]) rfl
   .exact hnd2.2.2 y hm2 y hy rfl
theorem CB{x y:Operand}{tt e u:TypeId}{ad:Addr}{n' c:Nat}{dst:Option Nat}{g:Option (Nat×Bool)}(hx:a.eval x=.slice (some ad) n' c)(hy:a.eval y=.slice none 0 0)(ht:P.underlying tt=some (.slice e)):(execOp a.eval ⟨dst,.binOp .eql tt x y u,ty,pos,aft,g⟩).run P w=.ok (.value (.bool false)) w:=by
 have he:(eqGuard .eql tt x y (.slice (some ad) n' c) (.slice none 0 0)).run P w=.ok () w:=by
  unfold eqGuard;split<;>rfl
 simp[execOp,hx,hy,he,Go.Lib.run_eql_slice_nil w tt e (some ad) n' c 0 0 ht]
theorem Cy{x y:Operand}{tt e u:TypeId}{n' c:Nat}{dst:Option Nat}{g:Option (Nat×Bool)}(hx:a.eval x=.slice none n' c)(hy:a.eval y=.slice none 0 0)(ht:P.underlying tt=some (.slice e)):(execOp a.eval ⟨dst,.binOp .eql tt x y u,ty,pos,aft,g⟩).run P w=.ok (.value (.bool true)) w:=by
 have he:(eqGuard .eql tt x y (.slice none n' c) (.slice none 0 0)).run P w=.ok () w:=by
  unfold eqGuard;split<;>rfl
 simp[execOp,hx,hy,he,Go.Lib.run_eql_slice_nil w tt e none n' c 0 0 ht]
end
end
end Go.Tr
