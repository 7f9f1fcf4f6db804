
/- The symbolic machine with calls that leave data which is never written again: regions in order, control, functions. -/
import Derived.Test.YtpdipfohnpopmaaDoorWq
set_option linter.unusedSimpArgs false
set_option linter.unusedVariables false
namespace Go.Tr
open Go Go.RowKit
universe u
mutual
def qo(g:Nat)(e:U)(xs:List (El e)):SV->(SV->Prop)->Prop
 | .sl h,K=>bif Nat.beq h g then K (.rsl e xs)else K (.sl h)
 | .agg l,K=>oI g e xs l fun l'=>K (.agg l')
 | .tup l,K=>oI g e xs l fun l'=>K (.tup l')
 | .fn f l,K=>oI g e xs l fun l'=>K (.fn f l')
 | .gd d b v,K=>qo g e xs v fun v'=>K (.gd d b v')
 | .ptr h o,K=>K (.ptr h o)
 | .ep h s i o,K=>K (.ep h s i o)
 | .mp h,K=>K (.mp h)
 | .nh k o n hdr,K=>K (.nh k o n hdr)
 | .np k o n hdr s i j,K=>K (.np k o n hdr s i j)
 | .nn e xs,K=>K (.nn e xs)
 | .sx h s lo n,K=>K (.sx h s lo n)
 | .int k i,K=>K (.int k i)
 | .bool b,K=>K (.bool b)
 | .raw v,K=>K (.raw v)
 | .rsl e xs,K=>K (.rsl e xs)
 | .rp u x,K=>K (.rp u x)
 | .un,K=>K .un
def oI(g:Nat)(e:U)(xs:List (El e)):List SV->(List SV->Prop)->Prop
 |[],K=>K []
 |v::l,K=>qo g e xs v fun v'=>oI g e xs l fun l'=>K (v'::l')
end
section
variable {P:Program}{ti:TI}{nt:Nat}{env:Ev}{rs:List Tok}{K:X->Ev->List Tok->Prop}
end
section
variable {cx cx':Cx}{β β' β'':Nat->Value}{P:Program}{ti:TI}{n:Nat}{a a' a'':Act}{env env':Ev}{rs:List Tok}{fr:List aM}{w w':World}{g:Option (Nat×Bool)}{v:SV}{dst:Option Nat}{ty:TypeId}{pos:String}{aft:Array Edge}{gd:Option (Nat×Bool)}
section
variable {e:U}{xs:List (El e)}
mutual
theorem wz{q:Nat}:∀(s:SV) {K:SV->Prop},qo q e xs s K->∃s',K s'/\(∀d b x,s'=.gd d b x->∃y,s=.gd d b y)/\∀(cx cx':Cx) (β:Nat->Value) (a:Act) (v:Value),(∀{d:D} {v:Value},dB cx.w0 cx.F0 d v->dB cx'.w0 cx'.F0 d v)->(∀{b o:Nat} {ds:List D},kR cx.w0 cx.F0 b o ds->kR cx'.w0 cx'.F0 b o ds)->dB cx'.w0 cx'.F0 (.sl (List.length (α:=El e) xs) (List.flatMap (enc e) xs)) (β q)->
  (Den cx β s v->Den cx' β s' v)/\(bK cx β a s v->bK cx' β a s' v)
 | .sl h,K,hk=>by
  unfold qo at hk;cases hb:Nat.beq h q with
  |true=>
   rw[hb]at hk;have:=ak hb;subst this
   have key:∀(cx cx':Cx) (β:Nat->Value) (v:Value),dB cx'.w0 cx'.F0 (.sl (List.length (α:=El e) xs) (List.flatMap (enc e) xs)) (β h)->Den cx β (.sl h) v->Den cx' β (.rsl e xs) v:=fun cx cx' β v hr hd=>by
    unfold Den at hd |-;obtain⟨rfl,_⟩:=hd;exact hr
   exact⟨_,hk,fun d b x h=>(by cases h),fun cx cx' β a v _ _ hr=>⟨key cx cx' β v hr,fun hd=>bK.of (key cx cx' β v hr hd)⟩⟩
  |false=>
   rw[hb]at hk;exact⟨_,hk,fun d b x h=>(by cases h),fun cx cx' β a v hs hp _=>⟨fun hd=>Den.imp hs hp hd,fun hd=>bK.of (Den.imp hs hp (show Den cx β (.sl h) v from hd))⟩⟩
 | .agg l,K,hk=>by
  unfold qo at hk;obtain⟨l',h1,h2⟩:=jG l hk
  have key:∀(cx cx':Cx) (β:Nat->Value) (v:Value),(∀{d:D} {v:Value},dB cx.w0 cx.F0 d v->dB cx'.w0 cx'.F0 d v)->(∀{b o:Nat} {ds:List D},kR cx.w0 cx.F0 b o ds->kR cx'.w0 cx'.F0 b o ds)->dB cx'.w0 cx'.F0 (.sl (List.length (α:=El e) xs) (List.flatMap (enc e) xs)) (β q)->Den cx β (.agg l) v->Den cx' β (.agg l') v:=fun cx cx' β v hs hp hr hd=>by
   unfold Den at hd |-;obtain⟨us,e,h3⟩:=hd;exact⟨us,e,h2 cx cx' β us hs hp hr h3⟩
  exact⟨_,h1,fun d b x h=>(by cases h),fun cx cx' β a v hs hp hr=>⟨key cx cx' β v hs hp hr,fun hd=>bK.of (key cx cx' β v hs hp hr hd)⟩⟩
 | .tup l,K,hk=>by
  unfold qo at hk;obtain⟨l',h1,h2⟩:=jG l hk
  have key:∀(cx cx':Cx) (β:Nat->Value) (v:Value),(∀{d:D} {v:Value},dB cx.w0 cx.F0 d v->dB cx'.w0 cx'.F0 d v)->(∀{b o:Nat} {ds:List D},kR cx.w0 cx.F0 b o ds->kR cx'.w0 cx'.F0 b o ds)->dB cx'.w0 cx'.F0 (.sl (List.length (α:=El e) xs) (List.flatMap (enc e) xs)) (β q)->Den cx β (.tup l) v->Den cx' β (.tup l') v:=fun cx cx' β v hs hp hr hd=>by
   unfold Den at hd |-;obtain⟨us,e,h3⟩:=hd;exact⟨us,e,h2 cx cx' β us hs hp hr h3⟩
  exact⟨_,h1,fun d b x h=>(by cases h),fun cx cx' β a v hs hp hr=>⟨key cx cx' β v hs hp hr,fun hd=>bK.of (key cx cx' β v hs hp hr hd)⟩⟩
 | .fn f l,K,hk=>by
  unfold qo at hk;obtain⟨l',h1,h2⟩:=jG l hk
  have key:∀(cx cx':Cx) (β:Nat->Value) (v:Value),(∀{d:D} {v:Value},dB cx.w0 cx.F0 d v->dB cx'.w0 cx'.F0 d v)->(∀{b o:Nat} {ds:List D},kR cx.w0 cx.F0 b o ds->kR cx'.w0 cx'.F0 b o ds)->dB cx'.w0 cx'.F0 (.sl (List.length (α:=El e) xs) (List.flatMap (enc e) xs)) (β q)->Den cx β (.fn f l) v->Den cx' β (.fn f l') v:=fun cx cx' β v hs hp hr hd=>by
   unfold Den at hd |-;obtain⟨us,e,h3⟩:=hd;exact⟨us,e,h2 cx cx' β us hs hp hr h3⟩
  exact⟨_,h1,fun d b x h=>(by cases h),fun cx cx' β a v hs hp hr=>⟨key cx cx' β v hs hp hr,fun hd=>bK.of (key cx cx' β v hs hp hr hd)⟩⟩
 | .gd d b s,K,hk=>by
  unfold qo at hk;obtain⟨s',h1,_,h2⟩:=wz s hk;refine⟨_,h1,fun d' b' x h=>(by injection h with e1 e2 e3;subst e1 e2;exact⟨_,rfl⟩),fun cx cx' β a v hs hp hr=>⟨fun hd=>(by unfold Den at hd;exact hd.elim),fun hd=> ?_⟩⟩;have h3:(a.tmps[d]? =some (Value.bool b)->Den cx β s v)/\(a.tmps[d]? ≠some (Value.bool b)->v=undef):=hd;exact show(a.tmps[d]? =some (Value.bool b)->Den cx' β s' v)/\(a.tmps[d]? ≠some (Value.bool b)->v=undef) from⟨fun hh=>(h2 cx cx' β a v hs hp hr).1 (h3.1 hh),h3.2⟩
 | .ptr h o,K,hk| .ep h s i o,K,hk| .mp h,K,hk| .nh k o n hdr,K,hk| .np k o n hdr s i j,K,hk| .nn u ys,K,hk| .sx h s lo n,K,hk| .int k i,K,hk| .bool b,K,hk| .raw x,K,hk| .rsl u ys,K,hk| .rp u x,K,hk| .un,K,hk=>by
  unfold qo at hk;exact⟨_,hk,fun d b x h=>(by cases h),fun cx cx' β a v hs hp _=>⟨fun hd=>Den.imp hs hp hd,fun hd=>bK.of (Den.imp hs hp (show Den cx β _ v from hd))⟩⟩
theorem jG{q:Nat}:∀(l:List SV) {K:List SV->Prop},oI q e xs l K->∃l',K l'/\∀(cx cx':Cx) (β:Nat->Value) (us:aO),(∀{d:D} {v:Value},dB cx.w0 cx.F0 d v->dB cx'.w0 cx'.F0 d v)->(∀{b o:Nat} {ds:List D},kR cx.w0 cx.F0 b o ds->kR cx'.w0 cx'.F0 b o ds)->dB cx'.w0 cx'.F0 (.sl (List.length (α:=El e) xs) (List.flatMap (enc e) xs)) (β q)->ah cx β l us->ah cx' β l' us
 |[],K,hk=>⟨[],hk,fun cx cx' β us _ _ _ hd=>by unfold ah at hd |-;exact hd⟩
 |s::l,K,hk=>by
  unfold oI at hk;obtain⟨s',h1,_,h2⟩:=wz s hk;obtain⟨l',h3,h4⟩:=jG l h1;refine⟨_,h3,fun cx cx' β us hs hp hr hd=> ?_⟩;unfold ah at hd |-;obtain⟨v,vs',k1,k2,k3⟩:=hd;exact⟨v,vs',k1,(h2 cx cx' β ⟨#[],[]⟩ v hs hp hr).1 k2,h4 cx cx' β vs' hs hp hr k3⟩
end
end
end
end Go.Tr
