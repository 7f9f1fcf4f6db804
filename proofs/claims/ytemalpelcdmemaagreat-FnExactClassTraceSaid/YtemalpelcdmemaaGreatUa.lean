
/- Pairs of a net: what the program's list of pairs is. No program in it. -/
import Derived.Test.YtemalpelcdmemaaGreatNz
set_option linter.unusedSimpArgs false
set_option linter.unusedVariables false
namespace Go.Tr
open Go Go.RowKit
def Vb(xs:List NAgent)(i:Nat):Bool:=
 bif (elt (dflt uPort) (ah xs (i:Nat)).2.2.2.2 0).2==0 then decide ((i:Int)<(elt (dflt uPort) (ah xs (i:Nat)).2.2.2.2 0).1)else false
def MV(xs:List NAgent)(i:Nat):Bool:=bif Vb xs i then(ah xs (i:Nat)).1 !=1 else false
def Nn(xs:List NAgent)(i:Nat):Int×Int:=((i:Int),(elt (dflt uPort) (ah xs (i:Nat)).2.2.2.2 0).1)
def mh(c:Nat→Bool)(xs:List NAgent)(k:Nat):List (Int×Int):=((List.range k).filter c).map (Nn xs)
theorem Ad{c:Nat→Bool}{xs:List NAgent}{k:Nat}(h:c k=true):mh c xs (k+1)=mh c xs k++[Nn xs k]:=by
 unfold mh;rw[List.range_succ,List.filter_append,List.map_append];simp[h]
theorem sW{c:Nat→Bool}{xs:List NAgent}{k:Nat}(h:c k=false):mh c xs (k+1)=mh c xs k:=by
 unfold mh;rw[List.range_succ,List.filter_append];simp[h]
theorem Gg(c:Nat→Bool)(xs:List NAgent)(k:Nat):(mh c xs k).length≤k:=by
 unfold mh;rw[List.length_map];exact Nat.le_trans (List.length_filter_le _ _) (by simp)
def JD(xs:List NAgent):Prop:=∀i:Nat,i<xs.length→0<(ah xs (i:Nat)).2.2.2.2.length
def kZ(kv:List (Int×Bool))(p:Int×Int):Bool:=bL false kv p.1
def zQ(xs:List NAgent)(kv:List (Int×Bool)):List (Int×Int):=(mh (MV xs) xs xs.length).filter fun p=> !(kZ kv p)
theorem filter_all{α:Type}{g:α→Bool}{l:List α}(h:∀x∈l,g x=false):l.filter (fun p=> !(g p))=l:=List.filter_eq_self.2 fun x hx=>by rw[h x hx];rfl
theorem Ma{α:Type}{g:α→Bool}:∀(l:List α) (k:Int),0≤k→Bg g l k= -1→∀x∈l,g x=false
 |[],_,_,_,x,hx=>by cases hx
 |a::l,k,hk,h,x,hx=>by
  unfold Bg at h;cases ha:g a with
  |true=>rw[ha,cond_true]at h;omega
  |false=>
   rw[ha,cond_false]at h;rcases List.mem_cons.1 hx with rfl|hx
   ·exact ha
   ·exact Ma l (k+1) (by omega) h x hx
theorem Mc{α:Type}[Inhabited α]{g:α→Bool}(d:α):∀(l:List α) (k:Int),Bg g l k≠ -1→∃m:Nat,Bg g l k=k+(m:Nat)∧m<l.length∧(∀x∈l.take m,g x=false)∧g (l.getD m d)=true
 |[],_,h=>absurd rfl h
 |a::l,k,h=>by
  unfold Bg at h ⊢;cases ha:g a with
  |true=>
   rw[cond_true];exact⟨0,by omega,by simp,by simp,ha⟩
  |false=>
   rw[ha,cond_false]at h;rw[cond_false];obtain⟨m,e1,e2,e3,e4⟩:=Mc d l (k+1) h;refine⟨m+1,by rw[e1];omega,by rw[List.length_cons];omega,fun x hx=> ?_,e4⟩;rw[List.take_succ_cons]at hx;rcases List.mem_cons.1 hx with rfl|hx
   ·exact ha
   ·exact e3 x hx
theorem TJ{α:Type}{g:α→Bool}{x:α}(h:g x=false):[x].filter (fun p=> !(g p))=[x]:=by simp[h]
theorem J7{α:Type}{g:α→Bool}{x:α}(h:g x=true):[x].filter (fun p=> !(g p))=[]:=by simp[h]
theorem Vr{α:Type}{l:List α}{i:Nat}{a:α}(h:i<l.length):(l.set i a).take (i+1)=l.take i++[a]:=by
 rw[List.take_add_one,List.take_set_of_le (Nat.le_refl i),List.getElem?_set_self h];rfl
def schS(sch:List Int)(k:Int):Int:=bif decide (0<((sch.length:Nat):Int))then elt 0 sch (k.tmod ((sch.length:Nat):Int))else 0
def OC(sch:List Int)(n k:Int):Int:=(schS sch k).tmod n
def uH(sch:List Int)(ps:List (Int×Int))(k:Int):Int×Int:=elt (dflt uPort) ps (OC sch ((ps.length:Nat):Int) k)
theorem Vo{sch:List Int}(h:∀z∈sch,0≤z)(k:Int):0≤schS sch k:=by
 unfold schS;cases decide (0<((sch.length:Nat):Int))with
 |false=>exact Int.le_refl 0
 |true=>
  rw[cond_true];unfold elt;rw[List.getD_eq_getElem?_getD];cases hg:sch[(k.tmod ((sch.length:Nat):Int)).toNat]? with
  |none=>exact Int.le_refl 0
  |some z=>exact h z (List.mem_of_getElem? hg)
theorem tmodU{a n:Int}(h0:0≤a)(hn:0<n):0≤a.tmod n∧a.tmod n<n:=by
 rw[Int.tmod_eq_emod_of_nonneg h0];exact⟨Int.emod_nonneg _ (by omega),Int.emod_lt_of_pos _ hn⟩
theorem selI_in{sch:List Int}(h:∀z∈sch,0≤z){n:Int}(hn:0<n)(k:Int):0≤OC sch n k∧OC sch n k<n:=tmodU (Vo h k) hn
def Xa(m n:Int):Bool:=bif decide (n<0)then true else decide (m<n)
end Go.Tr
