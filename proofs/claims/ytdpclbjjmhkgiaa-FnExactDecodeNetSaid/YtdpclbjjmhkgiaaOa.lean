
/- Core terms as trees: plain functions. No program in it. -/
import Derived.Test.YtdpclbjjmhkgiaaWb
set_option linter.unusedSimpArgs false
set_option linter.unusedVariables false
namespace Go.Tr
open Go Go.RowKit
section
variable {α:Type}
mutual
theorem Tree.ind{P:Tree α→Prop}(h:∀t:Tree α,(∀k∈t.kids,P k)→P t):∀t:Tree α,P t
 | .node x l=>h (.node x l) (Tree.WX h l)
theorem Tree.WX{P:Tree α→Prop}(h:∀t:Tree α,(∀k∈t.kids,P k)→P t):∀l:List (Tree α),∀k∈l,P k
 |[],k,hk=>by simp at hk
 |t::l,k,hk=>by
  rcases List.mem_cons.1 hk with e|hk
  ·rw[e];exact Tree.ind h t
  ·exact Tree.WX h l k hk
end
end
abbrev jQ:=Tree (Int×Int×List Int)
abbrev Qy(c:jQ):Int:=(Tree.val c).1
abbrev SF(c:jQ):Int:=(Tree.val c).2.1
abbrev WB(c:jQ):List Int:=(Tree.val c).2.2
mutual
def IW:jQ→Nat
 | .node _ l=>BU l 1
def BU:List jQ→Nat→Nat
 |[],a=>a
 |t::l,a=>BU l (max a (IW t+1))
end
mutual
def uV:jQ→Nat
 | .node _ l=>pO l 1
def pO:List jQ→Nat→Nat
 |[],a=>a
 |t::l,a=>pO l (a+uV t)
end
theorem Fp:∀(l:List jQ) (a:Nat),a≤pO l a
 |[],a=>by unfold pO;omega
 |t::l,a=>by
  unfold pO;have:=Fp l (a+uV t);omega
theorem nW(x:Int×Int×List Int)(l:List jQ):uV (.node x l)=pO l 1:=by rw[uV]
theorem Cy(x:Int×Int×List Int)(l:List jQ):IW (.node x l)=BU l 1:=by rw[IW]
mutual
theorem Q9:∀t:jQ,IW t≤uV t
 | .node x l=>by rw[IW,uV];exact Kq l 1 1 (Nat.le_refl _) (Nat.le_refl _)
theorem Kq:∀(l:List jQ) (a b:Nat),a≤b→1≤b→BU l a≤pO l b
 |[],a,b,h,_=>by unfold BU pO;exact h
 |t::l,a,b,h,hb=>by
  unfold BU pO;have h1:=Q9 t;exact Kq l _ _ (by omega) (by omega)
end
def Jd(x a b:Int):Bool:=bif decide (a≤x)then decide (x≤b)else false
def Fj(k:Int):Int×Int×Int×Int:=
 bif k==1||k==2||k==11 then(0,0,0,0)else bif k==3||k==5||k==7 then(2,2,0,0)else bif k==4||k==6 then(1,1,0,0)
 else bif k==8 then(0,3,0,0)else bif k==9 then(1,1,1,4)else bif k==10 then(1,1,2,2)else(0, -1,0,0)
def YG(k v:Int):Bool:=bif k==1 then Jd v 0 255 else bif k==2 then Jd v (-2147483648) 2147483647 else bif k==3 then Jd v 1 6 else bif k==8 then Jd v 0 3 else bif k==11 then Jd v 0 23 else v==0
def Td(k v:Int)(n m:Nat):Bool:=Jd (n:Nat) (Fj k).1 (Fj k).2.1&&(Jd (m:Nat) (Fj k).2.2.1 (Fj k).2.2.2&&YG k v)
def Jm(c:jQ):Bool:=Td (Qy c) (SF c) (Tree.kids c).length (WB c).length&&(WB c).all fun x=>Jd x 0 23
mutual
def ru:jQ→Bool
 | .node x l=>Jm (.node x l)&&Gu l
def Gu:List jQ→Bool
 |[]=>true
 |t::l=>ru t&&Gu l
end
theorem CW:∀{l:List jQ},Gu l=true↔∀k∈l,ru k=true
 |[]=>by simp[Gu]
 |t::l=>by rw[Gu,Bool.and_eq_true,CW (l:=l)];simp
theorem yj{c:jQ}:ru c=true↔Jm c=true∧∀k∈c.kids,ru k=true:=by
 cases c with
 |node x l=>rw[ru,Bool.and_eq_true,CW];rfl
theorem KO{x a b:Int}:Jd x a b=true↔a≤x∧x≤b:=by
 unfold Jd
 by_cases h:a≤x
 ·rw[decide_eq_true h];simp[h]
 ·rw[decide_eq_false h];simp[h]
theorem OG(x a:Int):Jd x a a=(x==a):=by
 rw[Bool.eq_iff_iff,KO,beq_iff_eq];omega
theorem b3(a b c:Bool):(a&&(b&&c))=((c&&b)&&a):=by cases a<;>cases b<;>cases c<;>rfl
theorem Vv{k v:Int}(n m:Nat)(h:k=1):Td k v n m=((Jd v 0 255&&((m:Nat):Int)==0)&&((n:Nat):Int)==0):=by
 subst h;show(Jd n 0 0&&(Jd m 0 0&&Jd v 0 255))=_;rw[OG,OG,b3]
def Ac(k:Int)(i:Int):Int:=bif k==4||(k==7&&i==1)then 1 else 0
mutual
def UR:jQ→Int→Nat
 | .node x l,n=>bif x.1==1 then(bif x.2.1==n then 1 else 0)else NT x.1 l 0 n
def NT(k:Int):List jQ→Nat→Int→Nat
 |[],_,_=>0
 |t::l,i,n=>UR t (n+Ac k (i:Nat))+NT k l (i+1) n
end
mutual
theorem QY:∀(c:jQ) (n:Int),UR c n≤uV c
 | .node x l,n=>by
  rw[UR,nW];have h1:=Fp l 1;cases x.1==1 with
  |true=>cases x.2.1==n<;>simp<;>omega
  |false=>have:=Kk x.1 l 0 n 1;simp only[cond_false];omega
theorem Kk(k:Int):∀(l:List jQ) (i:Nat) (n:Int) (a:Nat),a+NT k l i n≤pO l a
 |[],i,n,a=>by simp[NT,pO]
 |t::l,i,n,a=>by
  rw[NT,pO];have h1:=QY t (n+Ac k (i:Nat));have h2:=Kk k l (i+1) n (a+uV t);omega
end
mutual
def WV:jQ→Int
 | .node x l=>Vm l (bif x.1==1 then x.2.1 else -1)
def Vm:List jQ→Int→Int
 |[],a=>a
 |t::l,a=>Vm l (max a (WV t))
end
mutual
def PZ:jQ→jQ→Bool
 | .node x l,.node y m=>(x.1==y.1&&(x.2.1==y.2.1&&x.2.2==y.2.2))&&Bt l m
def Bt:List jQ→List jQ→Bool
 |[],[]=>true
 |a::l,b::m=>PZ a b&&Bt l m
 |_,_=>false
end
mutual
theorem P5:∀{a b:jQ},PZ a b=true↔a=b
 | .node x l,.node y m=>by
  rw[PZ,Bool.and_eq_true,Bool.and_eq_true,Bool.and_eq_true,beq_iff_eq,beq_iff_eq,beq_iff_eq,Ic];constructor
  ·rintro⟨⟨h1,h2,h3⟩,h4⟩;rw[h4,show x=y from Prod.ext h1 (Prod.ext h2 h3)]
  ·intro h;injection h with h1 h2
   subst h1 h2;exact⟨⟨rfl,rfl,rfl⟩,rfl⟩
theorem Ic:∀{l m:List jQ},Bt l m=true↔l=m
 |[],[]=>by simp[Bt]
 |a::l,b::m=>by rw[Bt,Bool.and_eq_true,P5,Ic];simp
 |[],_::_=>by simp[Bt]
 |_::_,[]=>by simp[Bt]
end
mutual
def Tv(b:Int):jQ→Int→jQ
 | .node x l,f=>.node (x.1,(bif x.1==1&&decide (f≤x.2.1)then x.2.1+b else x.2.1),x.2.2) (Nj b x.1 l 0 f)
def Nj(b k:Int):List jQ→Nat→Int→List jQ
 |[],_,_=>[]
 |t::l,i,f=>Tv b t (f+Ac k (i:Nat))::Nj b k l (i+1) f
end
theorem Oy{c:jQ}(h:ru c=true)(hk:(Qy c==1)=true):0≤SF c∧SF c≤255∧WB c=[]∧c.kids=[]:=by
 have h1:=(yj.1 h).1;unfold Jm at h1;rw[Bool.and_eq_true,Vv _ _ (eq_of_beq hk)]at h1;simp only[Bool.and_eq_true]at h1;have h2:=KO.1 h1.1.1.1;have h3:=eq_of_beq h1.1.1.2;have h4:=eq_of_beq h1.1.2;exact⟨h2.1,h2.2,List.eq_nil_of_length_eq_zero (by omega),List.eq_nil_of_length_eq_zero (by omega)⟩
mutual
def EC(g:jQ→Int→jQ):jQ→Int→jQ
 | .node x l,a=>bif x.1==1 then g (.node x l) a else .node x (EB g x.1 l 0 a)
def EB(g:jQ→Int→jQ)(k:Int):List jQ→Nat→Int→List jQ
 |[],_,_=>[]
 |t::l,i,a=>EC g t (a+Ac k (i:Nat))::EB g k l (i+1) a
end
theorem OP{g:jQ→Int→jQ}{c:jQ}(h:(Qy c==1)=true)(a:Int):EC g c a=g c a:=by
 cases c with
 |node x l=>rw[EC];rw[show(x.1==1)=true from h];rfl
theorem MG{g:jQ→Int→jQ}{c:jQ}(h:(Qy c==1)=false)(a:Int):EC g c a=.node (Qy c,SF c,WB c) (EB g (Qy c) c.kids 0 a):=by
 cases c with
 |node x l=>rw[EC];rw[show(x.1==1)=false from h];rfl
def X0(b f:Int)(v:jQ)(a:Int):jQ:=.node (Qy v,(bif decide (a+f≤SF v)then SF v+b else SF v),WB v) v.kids
mutual
theorem Ry(b f:Int):∀(c:jQ) (a:Int),ru c=true→EC (X0 b f) c a=Tv b c (a+f)
 | .node x l,a,hg=>by
  cases hk:(x.1==1)with
  |true=>
   have h1:=Oy hg hk;have hl:l=[]:=h1.2.2.2;subst hl;rw[EC,Tv,hk];show X0 b f (.node x []) a=_;unfold X0;show Tree.node (x.1,(bif decide (a+f≤x.2.1)then x.2.1+b else x.2.1),x.2.2) []=_;simp[Nj]
  |false=>
   rw[EC,Tv,hk];have:=KU b f x.1 l 0 a (yj.1 hg).2;simp only[cond_false,Bool.false_and];rw[this]
theorem KU(b f k:Int):∀(l:List jQ) (i:Nat) (a:Int),(∀t∈l,ru t=true)→EB (X0 b f) k l i a=Nj b k l i (a+f)
 |[],i,a,_=>by simp[EB,Nj]
 |t::l,i,a,h=>by
  rw[EB,Nj,Ry b f t _ (h t (by simp)),KU b f k l (i+1) a fun t ht=>h t (by simp[ht]),show a+Ac k (i:Nat)+f=a+f+Ac k (i:Nat) by omega]
end
mutual
def Ui(g:jQ→Bool):jQ→Bool
 | .node x l=>g (.node x l)||Nz g l
def Nz(g:jQ→Bool):List jQ→Bool
 |[]=>false
 |t::l=>Ui g t||Nz g l
end
def QV(c:jQ):Bool:=Qy c==1&&decide (255<SF c)
mutual
theorem Ya:∀c:jQ,Ui QV c=decide (255<WV c)
 | .node x l=>by
  rw[Ui,WV,←WA l];cases hk:(x.1==1)with
  |true=>
   have:QV (.node x l)=decide (255<x.2.1):=by show(x.1==1&&decide (255<x.2.1))=_;rw[hk];rfl
   rw[this];rfl
  |false=>
   have:QV (.node x l)=false:=by show(x.1==1&&decide (255<x.2.1))=_;rw[hk];rfl
   rw[this];rfl
theorem WA:∀(l:List jQ) (a:Int),(decide (255<a)||Nz QV l)=decide (255<Vm l a)
 |[],a=>by rw[Nz,Vm,Bool.or_false]
 |t::l,a=>by
  rw[Nz,Vm,←WA l,Ya t]
  have:decide (255<max a (WV t))=(decide (255<a)||decide (255<WV t)):=by
   rw[Bool.eq_iff_iff];simp only[decide_eq_true_eq,Bool.or_eq_true];omega
  rw[this,Bool.or_assoc]
end
mutual
theorem R9(b:Int):∀(c:jQ) (f:Int),uV (Tv b c f)=uV c
 | .node x l,f=>by rw[Tv,nW,nW];exact LH b x.1 l 0 f 1
theorem LH(b k:Int):∀(l:List jQ) (i:Nat) (f:Int) (a:Nat),pO (Nj b k l i f) a=pO l a
 |[],i,f,a=>by simp[Nj]
 |t::l,i,f,a=>by rw[Nj,pO,pO,R9 b t,LH b k l]
end
mutual
theorem R8(b:Int):∀(c:jQ) (f:Int),IW (Tv b c f)=IW c
 | .node x l,f=>by rw[Tv,Cy,Cy];exact LG b x.1 l 0 f 1
theorem LG(b k:Int):∀(l:List jQ) (i:Nat) (f:Int) (a:Nat),BU (Nj b k l i f) a=BU l a
 |[],i,f,a=>by simp[Nj]
 |t::l,i,f,a=>by rw[Nj,BU,BU,R8 b t,LG b k l]
end
mutual
theorem OO(g:jQ→Int→jQ)(m:Nat)(hm:∀v a,ru v=true→Qy v=1→uV (g v a)≤m+1):∀(c:jQ) (a:Int),ru c=true→uV (EC g c a)≤uV c*(m+1)
 | .node x l,a,hg=>by
  cases hk:(x.1==1)with
  |true=>
   rw[OP (c:=.node x l) hk];have h1:=hm (.node x l) a hg (eq_of_beq hk);have h2:1≤uV (.node x l):=by rw[nW];exact Fp l 1
   have h3:1*(m+1)≤uV (.node x l)*(m+1):=Nat.mul_le_mul_right _ h2;omega
  |false=>
   rw[MG (c:=.node x l) hk,nW,nW];have:=GL g m hm x.1 l 0 a 1 1 (by omega) (yj.1 hg).2;exact this
theorem GL(g:jQ→Int→jQ)(m:Nat)(hm:∀v a,ru v=true→Qy v=1→uV (g v a)≤m+1)(k:Int):∀(l:List jQ) (i:Nat) (a:Int) (p q:Nat),p≤q*(m+1)→(∀t∈l,ru t=true)→pO (EB g k l i a) p≤pO l q*(m+1)
 |[],i,a,p,q,h,_=>by simpa[EB,pO]using h
 |t::l,i,a,p,q,h,hg=>by
  rw[EB,pO,pO];have h1:=OO g m hm t (a+Ac k (i:Nat)) (hg t (by simp));exact GL g m hm k l (i+1) a _ _ (by rw[Nat.add_mul];omega) fun t ht=>hg t (by simp[ht])
end
end Go.Tr
