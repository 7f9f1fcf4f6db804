
/- Lazy reductions: the pair that is wanted is the same on both sides, and an active one. No program in it. -/
import Derived.Test.YtcjhkgfmklgikaaGreatHb
import Derived.Test.YtcjhkgfmklgikaaGreatHc
import Derived.Test.YtcjhkgfmklgikaaGreatYr
set_option linter.unusedSimpArgs false
set_option linter.unusedVariables false
namespace Go.Tr
open Go Go.RowKit
theorem VY{ys:List aj}{i:Nat}{b:Int}(hi:i<ys.length)(h1:1≤i)(hl:dL ys i=true)(hp:au ys ((i:Int),0)=(b,0))(hb:(i:Int)<b):((i:Int),b)∈kH ys:=by
 have e:elt (dflt aR) (ah ys (i:Nat)).2.2.2.2 0=(b,0):=hp;unfold kH sP;refine List.mem_map.2 ⟨i,?_,?_⟩
 ·rw[List.mem_filter,List.mem_range];refine⟨hi,?_⟩;unfold ED Rn;rw[e,decide_eq_true h1,hl];show decide ((i:Int)<b)=true;exact decide_eq_true hb
 ·unfold Ld;rw[e]
section
variable {kv:List (Int×Bool)}{xs ys N Y:List aj}{f:Nat→Nat}
theorem Zt{a b:Int}(h:a<b):((min a b,max a b):Int×Int)=(a,b):=by
 rw[show min a b=a by omega,show max a b=b by omega]
theorem Zu{a b:Int}(h:b<a):((min a b,max a b):Int×Int)=(b,a):=by
 rw[show min a b=b by omega,show max a b=a by omega]
theorem Ren.ZV(h:Ren f N Y){a b:Int}(ha:0≤a)(hab:a<b):fI f a<fI f b:=by
 rw[iP ha,iP (by omega)];have:=h.mono a.toNat b.toNat (by omega);omega
theorem Ren.mm(h:Ren f N Y){a b:Int}(ha:0≤a)(hb:0≤b):((min (fI f a) (fI f b),max (fI f a) (fI f b)):Int×Int)=pF f (min a b,max a b):=by
 rcases Int.lt_trichotomy a b with k|k|k
 ·rw[Zt k,Zt (h.ZV ha k)];rfl
 ·subst k;show _=(fI f (min a a),fI f (max a a));rw[show min a a=a by omega,show max a a=a by omega,show min (fI f a) (fI f a)=fI f a by omega,show max (fI f a) (fI f a)=fI f a by omega]
 ·rw[Zu k,Zu (h.ZV hb k)];rfl
end
end Go.Tr
