/- Short names for the two rules that bring in a pair and an example, and for lemmas that are used often; no conditions. -/
import Derived.IntWalk
namespace Go
abbrev LsK:=List (Int×Bool)
abbrev aK:=List Nat
abbrev aO:=List Value
theorem oX{A B:Prop}{α β γ:Sort _}{p:α->β->Prop}{q r:α->β->List γ->Prop}{x:α}{y:β}(h:p x y)(k:q x y []/\r x y []):((∃x y,p x y/\∃z,q x y z/\r x y z)\/B)\/A:=.inl (.inl ⟨x,y,h,_,k⟩)
theorem oY{A:Prop}{α β:Sort _}{p q:α->β->Prop}{x:α}{y:β}(h:p x y)(k:q x y):A\/∃x y,p x y/\q x y:=.inr ⟨x,y,h,k⟩
theorem oZ{A:Prop}{α:Sort _}{p q:α->Prop}{x:α}(h:p x)(k:q x):(∃x,p x/\q x)\/A:=.inl ⟨x,h,k⟩
theorem aI{a b:Prop}(h:a)(k:b):a/\b:=⟨h,k⟩
theorem eI{α:Sort _}{p:α->Prop}(w:α)(h:p w):Exists p:=⟨w,h⟩
theorem nP{α:Type _}{l:List α}:[]<+:l:=List.nil_prefix
theorem pR{α:Type _}(l:List α):l<+:l:=List.prefix_refl l
abbrev qA:= @List.length_append
abbrev qB:= @List.getElem?_eq_getElem
abbrev qC:= @List.getD_eq_getElem?_getD
abbrev qD:= @Bool.and_eq_true
abbrev qE:= @List.getElem?_eq_some_iff
abbrev qF:= @List.append_assoc
abbrev qG:= @cond_true
abbrev qH:= @cond_false
abbrev qI:= @List.length_cons
abbrev qJ:= @List.length_singleton
abbrev qK:= @Int.toNat_natCast
abbrev qL:= @List.getElem?_append_right
abbrev qM:= @List.getElem?_append_left
abbrev qN:= @List.take_of_length_le
abbrev qO:= @IntWalk.i64_in
abbrev qP:= @decide_eq_false_iff_not
abbrev qQ:= @decide_eq_true_eq
abbrev qR:= @List.length_nil
abbrev qS:= @List.append_nil
abbrev qT:= @List.mem_append
abbrev qU:= @List.flatMap_cons
abbrev qV:= @List.length_map
abbrev qW:= @Nat.lt_of_lt_of_le
abbrev qX:= @List.mem_singleton
abbrev qY:= @List.getElem?_map
abbrev qZ:= @List.map_append
end Go
