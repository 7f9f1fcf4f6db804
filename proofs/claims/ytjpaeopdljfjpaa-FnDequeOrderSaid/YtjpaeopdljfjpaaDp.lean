
/- Deques: what comes of a run of the owner alone, and of a thief behind the owner. No program in it. -/
import Derived.Test.YtjpaeopdljfjpaaShort
import Derived.Test.YtjpaeopdljfjpaaDqP
set_option linter.unusedSimpArgs false
set_option linter.unusedVariables false
namespace Go.Tr
theorem Hy{x:Int}(h: -9223372036854775808≤x∧x≤9223372036854775807):IntKind.i64.wrap x=x:=qO x (by omega)
theorem uR{k:Nat}(h:k<8):Jy (k:Int) 8=(k:Nat):=by
 unfold Jy;have h1:Int.tmod (k:Int) ((8:Nat):Int)=(k:Nat):=Int.tmod_eq_of_lt (by omega) (by omega);rw[h1,Hy (by omega)];rw[show((k:Nat):Int)+((8:Nat):Int)=(((k+8:Nat)):Int) by omega];have:Int.tmod ((k+8:Nat):Int) ((8:Nat):Int)=(((k+8) % 8:Nat):Int):=by exact_mod_cast rfl
 rw[this,Nat.add_mod_right,Nat.mod_eq_of_lt h]
theorem Jz(a:ah)(r:List ah)(h:0<a.todo.length):∀k,(aW (a::r) (k+1))[0]? =some ((0:Nat):Int)
 |0=>by simp[aW,h]
 |k+1=>by
  have ih:=Jz a r h k;rw[aW,qM (qE.1 ih).1];exact ih
theorem zu{f n:Nat}{y:aQ}{a:ah}{r:List ah}(hy:y.actors=a::r)(ha:0<a.todo.length)(hf:dK (bP y 0 a)=false):jB [] (f+1) y n=jB [] f (bP y 0 a) (n+1):=by
 have hb:=Jz a r ha r.length;have h0:(aW y.actors y.actors.length)[0]? =some ((0:Nat):Int):=by rw[hy];exact hb
 have hl:0<(aW y.actors y.actors.length).length:=(qE.1 h0).1;rw[uY (q:=0) (i:=0) (by simp only[beq_eq_false_iff_ne,ne_eq];omega) rfl h0 (by rw[hy];rfl),hf];rfl
theorem Ja{f n:Nat}{y:aQ}{a0 a:ah}(hy:y.actors=[a0,a])(h0:a0.todo=[])(ha:0<a.todo.length)(hf:dK (bP y 1 a)=false):jB [] (f+1) y n=jB [] f (bP y 1 a) (n+1):=by
 have hb:(aW y.actors y.actors.length)=[((1:Nat):Int)]:=by rw[hy];simp[aW,h0,ha]
 rw[uY (q:=0) (i:=1) (by rw[hb];rfl) rfl (by rw[hb];rfl) (by rw[hy];rfl),hf];rfl
abbrev idle(l:List Int):ah:=⟨l,0,0,0,0⟩
theorem iw{y:aQ}(h1:y.top≤1000)(h2:y.bottom≤1000)(h3:y.taken.length≤1000)(h4:y.refused.length≤1000):dK y=false:=by
 unfold dK;simp only[Bool.or_eq_false_iff,qP];omega
theorem K5{f n k:Nat}{buf:List Int}{t:Int}{tl:List Int}{r:List ah}{tk:List ak}(hk:k<8)(hb:buf.length=8)(ht:t≠0)(htk:tk.length≤1000):
  jB [] (f+3) ⟨0,(k:Nat),buf,idle (t::tl)::r,tk,[]⟩ n=jB [] f ⟨0,((k+1:Nat):Int),buf.set k t,idle tl::r,tk,[]⟩ (n+3):=by
 have ht':(t==0)=false:=by simpa using ht
 have e1:bP ⟨0,(k:Nat),buf,idle (t::tl)::r,tk,[]⟩ 0 (idle (t::tl))=⟨0,(k:Nat),buf,⟨t::tl,1,0,(k:Nat),0⟩::r,tk,[]⟩:=by
  have hd:decide (((buf.length:Nat):Int)≤IntKind.i64.wrap (((k:Nat):Int)-0))=false:=decide_eq_false (by rw[Hy (by omega),hb];omega);simp only[bP,jV,l8,List.headD_cons,ht'];rw[hd];rfl
 have e2:bP ⟨0,(k:Nat),buf,⟨t::tl,1,0,(k:Nat),0⟩::r,tk,[]⟩ 0 ⟨t::tl,1,0,(k:Nat),0⟩=⟨0,(k:Nat),buf.set k t,⟨t::tl,2,0,(k:Nat),0⟩::r,tk,[]⟩:=by
  simp[bP,jV,l8,ht',hb,uR hk]
 have e3:bP ⟨0,(k:Nat),buf.set k t,⟨t::tl,2,0,(k:Nat),0⟩::r,tk,[]⟩ 0 ⟨t::tl,2,0,(k:Nat),0⟩=⟨0,((k+1:Nat):Int),buf.set k t,idle tl::r,tk,[]⟩:=by
  simp[bP,jV,l8,ht',iV];rw[Hy (by omega)]
 rw[show f+3=(f+2)+1 from rfl,zu rfl (by simp) (by rw[e1];exact iw (by simp) (by simp;omega) htk (by simp)),e1,
  show f+2=(f+1)+1 from rfl,zu rfl (by simp) (by rw[e2];exact iw (by simp) (by simp;omega) htk (by simp)),e2,
  zu rfl (by simp) (by rw[e3];exact iw (by simp) (by simp;omega) htk (by simp)),e3]
def jm:List Int→Nat→List Int→List Int
 |buf,_,[]=>buf
 |buf,k,t::ts=>jm (buf.set k t) (k+1) ts
theorem qp:∀{ts buf:List Int} {k:Nat},(jm buf k ts).length=buf.length
 |[],_,_=>rfl
 |t::ts,buf,k=>by rw[jm,qp,List.length_set]
theorem yD:∀{ts buf:List Int} {k j:Nat},j<k→(jm buf k ts)[j]? =buf[j]?
 |[],_,_,_,_=>rfl
 |t::ts,buf,k,j,h=>by rw[jm,yD (by omega),List.getElem?_set_ne (by omega)]
theorem yC:∀{ts buf:List Int} {k i:Nat},i<ts.length→k+ts.length≤buf.length→(jm buf k ts)[k+i]? =ts[i]?
 |t::ts,buf,k,0,_,h=>by
  rw[jm,yD (by omega),Nat.add_zero,List.getElem?_set_self (by simp at h;omega)];rfl
 |t::ts,buf,k,i+1,h1,h=>by
  rw[jm,show k+(i+1)=(k+1)+i by omega,yC (by simpa using h1) (by rw[List.length_set];simp at h;omega)];rfl
theorem pushes{zs:List Int}{r:List ah}{tk:List ak}(htk:tk.length≤1000):∀{ts:List Int} {f n k:Nat} {buf:List Int},k+ts.length≤8→buf.length=8→(∀t∈ts,t≠0)→
  jB [] (f+3*ts.length) ⟨0,(k:Nat),buf,idle (ts++zs)::r,tk,[]⟩ n=jB [] f ⟨0,((k+ts.length:Nat):Int),jm buf k ts,idle zs::r,tk,[]⟩ (n+3*ts.length)
 |[],f,n,k,buf,_,_,_=>rfl
 |t::ts,f,n,k,buf,h1,h2,h3=>by
  simp only[qI]at h1 ⊢
  rw[show f+3*(ts.length+1)=(f+3*ts.length)+3 by omega,List.cons_append,K5 (by omega) h2 (h3 t (by simp)) htk,
   pushes htk (by omega) (by rw[List.length_set];exact h2) (fun x hx=>h3 x (by simp[hx])),show k+1+ts.length=k+(ts.length+1) by omega,show n+3+3*ts.length=n+3*(ts.length+1) by omega]
  rfl
theorem take2{f n k:Nat}{buf tl:List Int}{tk:List ak}{v:Int}(hk:k+1<8)(hb:buf.length=8)(htk:tk.length<1000)(hv:buf[k+1]? =some v):
  jB [] (f+2) ⟨0,((k+2:Nat):Int),buf,[idle (0::tl)],tk,[]⟩ n=jB [] f ⟨0,((k+1:Nat):Int),buf,[idle tl],tk++[⟨0,v⟩],[]⟩ (n+2):=by
 have hw:IntKind.i64.wrap (((k+2:Nat):Int)-1)=((k+1:Nat):Int):=by rw[Hy (by omega)];omega
 have e1:bP ⟨0,((k+2:Nat):Int),buf,[idle (0::tl)],tk,[]⟩ 0 (idle (0::tl))=⟨0,((k+1:Nat):Int),buf,[⟨0::tl,1,0,((k+1:Nat):Int),0⟩],tk,[]⟩:=by
  simp only[bP,jV,ku,List.headD_cons,hw];rfl
 have hd1:decide (((k+1:Nat):Int)<0)=false:=decide_eq_false (by omega);have hd2:decide ((0:Int)<((k+1:Nat):Int))=true:=decide_eq_true (by omega)
 have hba:fT ⟨0,((k+1:Nat):Int),buf,[⟨0::tl,1,0,((k+1:Nat):Int),0⟩],tk,[]⟩ ((k+1:Nat):Int)=v:=by
  unfold fT;simp only[hb];rw[uR hk,qK,hv];rfl
 have e2:bP ⟨0,((k+1:Nat):Int),buf,[⟨0::tl,1,0,((k+1:Nat):Int),0⟩],tk,[]⟩ 0 ⟨0::tl,1,0,((k+1:Nat):Int),0⟩=⟨0,((k+1:Nat):Int),buf,[idle tl],tk++[⟨0,v⟩],[]⟩:=by
  simp only[bP,jV,ku,List.headD_cons];rw[hd1,hd2,hba];rfl
 rw[show f+2=(f+1)+1 from rfl,zu rfl (by simp) (by rw[e1];exact iw (by simp) (by simp;omega) (by simp;omega) (by simp)),e1,
  zu rfl (by simp) (by rw[e2];exact iw (by simp) (by simp;omega) (by simp;omega) (by simp)),e2]
theorem take1{f n:Nat}{buf tl:List Int}{tk:List ak}{v:Int}(hb:buf.length=8)(htk:tk.length<1000)(hv:buf[0]? =some v):
  jB [] (f+4) ⟨0,1,buf,[idle (0::tl)],tk,[]⟩ n=jB [] f ⟨1,1,buf,[idle tl],tk++[⟨0,v⟩],[]⟩ (n+4):=by
 have e1:bP ⟨0,1,buf,[idle (0::tl)],tk,[]⟩ 0 (idle (0::tl))=⟨0,0,buf,[⟨0::tl,1,0,0,0⟩],tk,[]⟩:=rfl
 have hba:fT ⟨0,0,buf,[⟨0::tl,1,0,0,0⟩],tk,[]⟩ 0=v:=by
  unfold fT;simp only[hb];rw[show Jy 0 8=((0:Nat):Int) from uR (k:=0) (by omega),qK,hv];rfl
 have e2:bP ⟨0,0,buf,[⟨0::tl,1,0,0,0⟩],tk,[]⟩ 0 ⟨0::tl,1,0,0,0⟩=⟨0,0,buf,[⟨0::tl,2,0,0,v⟩],tk,[]⟩:=by
  simp only[bP,jV,ku,List.headD_cons];rw[hba];rfl
 have e3:bP ⟨0,0,buf,[⟨0::tl,2,0,0,v⟩],tk,[]⟩ 0 ⟨0::tl,2,0,0,v⟩=⟨1,0,buf,[⟨0::tl,3,0,0,v⟩],tk++[⟨0,v⟩],[]⟩:=rfl;have e4:bP ⟨1,0,buf,[⟨0::tl,3,0,0,v⟩],tk++[⟨0,v⟩],[]⟩ 0 ⟨0::tl,3,0,0,v⟩=⟨1,1,buf,[idle tl],tk++[⟨0,v⟩],[]⟩:=rfl
 rw[show f+4=(f+3)+1 from rfl,zu rfl (by simp) (by rw[e1];exact iw (by simp) (by simp) (by simp;omega) (by simp)),e1,
  show f+3=(f+2)+1 from rfl,zu rfl (by simp) (by rw[e2];exact iw (by simp) (by simp) (by simp;omega) (by simp)),e2,
  show f+2=(f+1)+1 from rfl,zu rfl (by simp) (by rw[e3];exact iw (by simp) (by simp) (by simp;omega) (by simp)),e3,
  zu rfl (by simp) (by rw[e4];exact iw (by simp) (by simp) (by simp;omega) (by simp)),e4]
theorem takes{buf ts:List Int}(hb:buf.length=8)(hts:ts.length≤8)(hv:∀i,i<ts.length→buf[i]? =ts[i]?):∀{k f n:Nat} {tk:List ak},k<ts.length→tk.length+k<1000→
  jB [] (f+(2*k+4)) ⟨0,((k+1:Nat):Int),buf,[idle (List.replicate (k+1) 0)],tk,[]⟩ n=jB [] f ⟨1,1,buf,[idle []],tk++((ts.take (k+1)).reverse.map (ak.mk 0)),[]⟩ (n+(2*k+4))
 |0,f,n,tk,h,htk=>by
  have hv0:=hv 0 h;rw[qB h]at hv0;rw[show List.replicate (0+1) (0:Int)=0::[] from rfl];rw[show f+(2*0+4)=f+4 by omega,show((0+1:Nat):Int)=1 from rfl,take1 hb (by omega) hv0]
  match ts,h with
  |t::ts,_=>rfl
 |k+1,f,n,tk,h,htk=>by
  have hv0:=hv (k+1) h;rw[qB h]at hv0;rw[show List.replicate (k+1+1) (0:Int)=0::List.replicate (k+1) 0 from rfl]
  rw[show f+(2*(k+1)+4)=(f+(2*k+4))+2 by omega,show((k+1+1:Nat):Int)=((k+2:Nat):Int) from rfl,take2 (by omega) hb (by omega) hv0,
   takes hb hts hv (by omega) (by simp;omega),show n+2+(2*k+4)=n+(2*(k+1)+4) by omega]
  congr 2
  rw[List.take_succ_eq_append_getElem h,List.reverse_append,qZ,qF];rfl
theorem KA{f n t m:Nat}{buf tl:List Int}{tk:List ak}{v:Int}(ht:t<m)(hm:m≤8)(hb:buf.length=8)(htk:tk.length<1000)(hv:buf[t]? =some v):
  jB [] (f+4) ⟨(t:Nat),(m:Nat),buf,[idle [],idle (0::tl)],tk,[]⟩ n=jB [] f ⟨((t+1:Nat):Int),(m:Nat),buf,[idle [],idle tl],tk++[⟨1,v⟩],[]⟩ (n+4):=by
 have e1:bP ⟨(t:Nat),(m:Nat),buf,[idle [],idle (0::tl)],tk,[]⟩ 1 (idle (0::tl))=⟨(t:Nat),(m:Nat),buf,[idle [],⟨0::tl,1,(t:Nat),0,0⟩],tk,[]⟩:=rfl;have hd:decide (((m:Nat):Int)≤((t:Nat):Int))=false:=by simp;omega
 have e2:bP ⟨(t:Nat),(m:Nat),buf,[idle [],⟨0::tl,1,(t:Nat),0,0⟩],tk,[]⟩ 1 ⟨0::tl,1,(t:Nat),0,0⟩=⟨(t:Nat),(m:Nat),buf,[idle [],⟨0::tl,2,(t:Nat),(m:Nat),0⟩],tk,[]⟩:=by
  simp only[bP,jV,iO];rw[hd];rfl
 have hba:fT ⟨(t:Nat),(m:Nat),buf,[idle [],⟨0::tl,2,(t:Nat),(m:Nat),0⟩],tk,[]⟩ (t:Nat)=v:=by
  unfold fT;simp only[hb];rw[uR (by omega),qK,hv];rfl
 have e3:bP ⟨(t:Nat),(m:Nat),buf,[idle [],⟨0::tl,2,(t:Nat),(m:Nat),0⟩],tk,[]⟩ 1 ⟨0::tl,2,(t:Nat),(m:Nat),0⟩=⟨(t:Nat),(m:Nat),buf,[idle [],⟨0::tl,3,(t:Nat),(m:Nat),v⟩],tk,[]⟩:=by
  simp only[bP,jV,iO];rw[hba];rfl
 have e4:bP ⟨(t:Nat),(m:Nat),buf,[idle [],⟨0::tl,3,(t:Nat),(m:Nat),v⟩],tk,[]⟩ 1 ⟨0::tl,3,(t:Nat),(m:Nat),v⟩=⟨((t+1:Nat):Int),(m:Nat),buf,[idle [],idle tl],tk++[⟨1,v⟩],[]⟩:=by
  have hw:IntKind.i64.wrap (((t:Nat):Int)+1)=((t+1:Nat):Int):=by rw[Hy (by omega)];omega
  simp only[bP,jV,iO];rw[hw];simp[iV]
 rw[show f+4=(f+3)+1 from rfl,Ja rfl rfl (by simp) (by rw[e1];exact iw (by simp;omega) (by simp;omega) (by simp;omega) (by simp)),e1,
  show f+3=(f+2)+1 from rfl,Ja rfl rfl (by simp) (by rw[e2];exact iw (by simp;omega) (by simp;omega) (by simp;omega) (by simp)),e2,
  show f+2=(f+1)+1 from rfl,Ja rfl rfl (by simp) (by rw[e3];exact iw (by simp;omega) (by simp;omega) (by simp;omega) (by simp)),e3,
  Ja rfl rfl (by simp) (by rw[e4];exact iw (by simp;omega) (by simp;omega) (by simp;omega) (by simp)),e4]
theorem Gz{buf ts:List Int}(hb:buf.length=8)(hts:ts.length≤8)(hv:∀i,i<ts.length→buf[i]? =ts[i]?):∀{j f n t:Nat} {tk:List ak},t+j=ts.length→tk.length+j<1000→
  jB [] (f+4*j) ⟨(t:Nat),(ts.length:Nat),buf,[idle [],idle (List.replicate j 0)],tk,[]⟩ n=jB [] f ⟨(ts.length:Nat),(ts.length:Nat),buf,[idle [],idle []],tk++((ts.drop t).map (ak.mk 1)),[]⟩ (n+4*j)
 |0,f,n,t,tk,h,htk=>by
  have:t=ts.length:=by omega
  subst this;rw[List.drop_length];simp
 |j+1,f,n,t,tk,h,htk=>by
  have ht:t<ts.length:=by omega
  have hv0:=hv t ht;rw[qB ht]at hv0
  rw[show List.replicate (j+1) (0:Int)=0::List.replicate j 0 from rfl,show f+4*(j+1)=(f+4*j)+4 by omega,KA ht hts hb (by omega) hv0,
   Gz hb hts hv (by omega) (by simp;omega),show n+4+4*j=n+4*(j+1) by omega]
  congr 2
  rw[qF,List.drop_eq_getElem_cons ht];rfl
theorem run_end{f n:Nat}{y:aQ}(h:aW y.actors y.actors.length=[]):jB [] (f+1) y n=(y,((n:Nat):Int),0):=AV (by rw[h];rfl)
theorem Gj{l:List Int}{ow:Bool}(hl:l.length≤10)(h:∀x∈l,bS x ow=true):aT (idle l) ow=true:=by
 unfold aT;have h1:l.all (fun n=>bS n ow)=true:=List.all_eq_true.2 h;have h2:decide ((10:Int)<((l.length:Nat):Int))=false:=by simp;omega
 simp[h1,h2,aP]
def wH(ops:List Int)(r:List ah):aQ:=⟨0,0,List.replicate 8 0,idle ops::r,[],[]⟩
theorem Dl{ops:List Int}{r:List ah}(hr:r.length≤3)(h0:aT (idle ops) true=true)(h1:∀a∈r,aT a false=true):okB (wH ops r)=true:=by
 have ha:kg (idle ops::r).length (pJ (idle ops::r))=true:=by
  unfold kg;rw[List.all_eq_true];intro k hk;have hk':=List.mem_range.1 hk;unfold pJ;rw[qB hk'];cases k with
  |zero=>exact h0
  |succ k=>exact h1 _ (by simp at hk' ⊢)
 have hroom:uK (wH ops r) (idle ops)=true:=by
  unfold uK y5;simp[wH,aP]
  decide
 unfold okB;have e1:(wH ops r).actors=idle ops::r:=rfl;have e2:aP (((idle ops::r).length:Nat):Int) 1 4=true:=Kl (by simp;omega) (by simp;omega);rw[e1,ha,e2];simp only[List.getElem?_cons_zero,hroom];rfl
theorem zO(ops:List Int)(r:List ah):xG (wH ops r)=4*ops.length+(r.map aM).sum:=rfl
theorem CZ{ts:List Int}(h:ts.length≤8):∀i,i<ts.length→(jm (List.replicate 8 0) 0 ts)[i]? =ts[i]? :=fun i hi=>by
 have:=yC (ts:=ts) (buf:=List.replicate 8 0) (k:=0) hi (by simp;omega)
 rwa[Nat.zero_add]at this
theorem Em{ts:List Int}(h0:0<ts.length)(h1:ts.length≤5)(h:∀t∈ts,1≤t∧t≤1000):
  ∃e s,gM (wH (ts++List.replicate ts.length 0) []) []=(e,s,0)∧e.taken=ts.reverse.map (ak.mk 0):=by
 have hok:okB (wH (ts++List.replicate ts.length 0) [])=true:=Dl (by simp) (Gj (by simp;omega) fun x hx=>by
  unfold bS;rcases qT.1 hx with hx|hx
  ·have:=h x hx;simp[aP,this]
  ·have:=List.eq_of_mem_replicate hx;simp[this]) (by simp)
 have hp:=fun f n:Nat=>pushes (zs:=List.replicate ts.length 0) (r:=[]) (tk:=[]) (by simp) (ts:=ts) (k:=0) (f:=f) (n:=n) (buf:=List.replicate 8 0) (by omega) (by simp) (fun t ht=>by have:=h t ht;omega)
 have ht:=fun f n:Nat=>takes (buf:=jm (List.replicate 8 0) 0 ts) (ts:=ts) (by rw[qp];simp) (by omega) (CZ (by omega)) (k:=ts.length-1) (f:=f) (n:=n) (tk:=[]) (by omega) (by simp;omega)
 simp only[show ts.length-1+1=ts.length by omega,Nat.zero_add]at ht hp;refine⟨⟨1,1,jm (List.replicate 8 0) 0 ts,[idle []],[]++((ts.take ts.length).reverse.map (ak.mk 0)),[]⟩,((0+3*ts.length+(2*(ts.length-1)+4):Nat):Int),?_,?_⟩
 ·unfold gM;rw[hok,show sF []=true from rfl,zO];simp only[Bool.not_true,qH];rw[show 4*(ts++List.replicate ts.length (0:Int)).length+(List.map aM []).sum+1=((3*ts.length-2)+1+(2*(ts.length-1)+4))+3*ts.length by simp;omega];refine(hp _ _).trans ((ht _ _).trans ?_);exact run_end rfl
 ·show[]++((ts.take ts.length).reverse.map (ak.mk 0))=_;rw[List.take_length,List.nil_append]
theorem Ez{ts:List Int}(h1:ts.length≤5)(h:∀t∈ts,1≤t∧t≤1000):
  ∃e s,gM (wH ts [idle (List.replicate ts.length 0)]) []=(e,s,0)∧e.taken=ts.map (ak.mk 1):=by
 have hok:okB (wH ts [idle (List.replicate ts.length 0)])=true:=Dl (by simp) (Gj (by omega) fun x hx=>by
  unfold bS;have:=h x hx;simp[aP,this]) (fun a ha=>by
  simp only[qX]at ha;subst ha;refine Gj (by simp;omega) fun x hx=> ?_
  have:=List.eq_of_mem_replicate hx;simp[bS,this])
 have hp:=fun f n:Nat=>pushes (zs:=[]) (r:=[idle (List.replicate ts.length 0)]) (tk:=[]) (by simp) (ts:=ts) (k:=0) (f:=f) (n:=n) (buf:=List.replicate 8 0) (by omega) (by simp) (fun t ht=>by have:=h t ht;omega)
 have ht:=fun f n:Nat=>Gz (buf:=jm (List.replicate 8 0) 0 ts) (ts:=ts) (by rw[qp];simp) (by omega) (CZ (by omega)) (j:=ts.length) (f:=f) (n:=n) (t:=0) (tk:=[]) (by omega) (by simp;omega)
 simp only[qS,Nat.zero_add]at ht hp;refine⟨⟨(ts.length:Nat),(ts.length:Nat),jm (List.replicate 8 0) 0 ts,[idle [],idle []],[]++((ts.drop 0).map (ak.mk 1)),[]⟩,((0+3*ts.length+4*ts.length:Nat):Int),?_,?_⟩
 ·unfold gM;rw[hok,show sF []=true from rfl,zO];simp only[Bool.not_true,qH];rw[show 4*ts.length+(List.map aM [idle (List.replicate ts.length 0)]).sum+1=(ts.length+1+4*ts.length)+3*ts.length by simp[aM];omega];refine(hp _ _).trans ((ht _ _).trans ?_);exact run_end rfl
 ·rfl
end Go.Tr
