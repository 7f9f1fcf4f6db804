
/- From the arguments of a law of bytes to the calls of the symbolic machine. No program in it. -/
import Derived.Test.YtpdipfohnpopmaaDoorLaw
import Derived.Test.YtpdipfohnpopmaaDoorWb
set_option linter.unusedSimpArgs false
set_option linter.unusedVariables false
namespace Go.Tr
open Go Go.RowKit Go.Deep
universe u
theorem aD.Eo{P:Program}{f:Nat}{args:List SV}{b:Bool}(h:aD P f args (.bool b)){w:World}[GT w []]{vs:aO}(hd:ah (Cx.now w) (fun _=>undef) args vs):Calls P f vs.toArray w fun e w'=>e=.returned (.bool b)/\Ext w w':=by
 refine Calls.mono (h.2 (Cx.now w) (fun _=>undef) w [] vs (Inv.uS w) hd) ?_;rintro e w' ⟨v',rfl,hv,hI⟩;exact⟨by rw[Ca hv],hI.zO⟩
section
variable {H:Type}{enc:TypeId×Value->H}{P:Program}{w:World}{spare:TypeId->Bool}{held:Bool}
theorem rJ{t e:TypeId}(ht:P.underlying t=some (.slice e))(he:P.underlying e=some (.int .u8))(hc:P.cellsOf e=1){fuel:Nat}{cs:aO}{x:DataW H×List MemPlace}
  (h:DataW.trod enc P w 0 spare held fuel t cs=some x):∃(A:Option Addr) (n c:Nat) (xs:List Int) (bs:List Nat),cs=[.slice A n c]/\xs.length=n/\(∀x∈xs,0<=x/\x<=255)/\T1 w (.sl n (List.flatMap (Tr.enc (.int .u8)) xs)) bs (.slice A n c):=by
 obtain⟨A,n,c,xs,bs,h1,h2,h3,h4,h5⟩:=xk (α:={ x:Int//0<=x/\x<=255}) (fun x=>[D.v (.int .u8 x.1)]) 1 (by omega) ht hc (fun fuel cs x h=>by
  obtain⟨n,rfl,_,hw⟩:=DataW.trod_int he h;have hr:0<=n/\n<=255:=by simpa[Lit.wf,IntKind.min,IntKind.max,IntKind.signed,IntKind.bits]using hw
  exact⟨⟨n,hr⟩,[],TN.cons.2 ⟨[],[],_,_,rfl,rfl,T1.v.2 ⟨rfl,rfl,rfl⟩,TN.nil.2 ⟨rfl,rfl⟩⟩⟩) h
 refine⟨A,n,c,xs.map (·.1),bs,h1,by rw[qV];exact h2.out,fun x hx=> ?_,?_⟩
 .obtain⟨y,_,rfl⟩:=List.mem_map.1 hx;exact y.2
 .rw[List.flatMap_map];exact h5
end
theorem Dt{w:World}[GT w []]{xs ys:List Int}{bs cs:aK}{v u:Value}(h:T1 w (.sl xs.length (List.flatMap (enc (.int .u8)) xs)) bs v)(k:T1 w (.sl ys.length (List.flatMap (enc (.int .u8)) ys)) cs u):ah (Cx.now w) (fun _=>undef) [.rsl (.int .u8) xs,.rsl (.int .u8) ys] [v,u]:=by
 unfold ah;refine⟨_,_,rfl,by unfold Den;exact dB.of h,?_⟩;unfold ah;exact⟨_,_,rfl,by unfold Den;exact dB.of k,by unfold ah;rfl⟩
end Go.Tr
