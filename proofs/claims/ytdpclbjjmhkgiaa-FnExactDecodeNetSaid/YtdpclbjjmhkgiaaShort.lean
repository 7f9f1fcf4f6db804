/- Short names for the two rules that bring in a pair and an example; no conditions. -/
namespace Go
theorem aI{a b:Prop}(h:a)(k:b):a∧b:=⟨h,k⟩
theorem eI{α:Sort _}{p:α→Prop}(w:α)(h:p w):Exists p:=⟨w,h⟩
theorem nP{α:Type _}{l:List α}:[]<+:l:=List.nil_prefix
theorem pR{α:Type _}(l:List α):l<+:l:=List.prefix_refl l
end Go
