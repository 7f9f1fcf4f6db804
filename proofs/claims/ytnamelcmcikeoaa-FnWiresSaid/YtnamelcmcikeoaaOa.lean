
/- Core terms as trees: plain functions. No program in it. -/
import Derived.Test.YtnamelcmcikeoaaWb
set_option linter.unusedSimpArgs false
set_option linter.unusedVariables false
namespace Go.Tr
open Go Go.RowKit
section
variable {α:Type}
mutual
theorem Tree.ind{P:Tree α→Prop}(h:∀t:Tree α,(∀k∈t.kids,P k)→P t):∀t:Tree α,P t
 | .node x l=>h (.node x l) (Tree.QO h l)
theorem Tree.QO{P:Tree α→Prop}(h:∀t:Tree α,(∀k∈t.kids,P k)→P t):∀l:List (Tree α),∀k∈l,P k
 |[],k,hk=>by simp at hk
 |t::l,k,hk=>by
  rcases List.mem_cons.1 hk with e|hk
  ·rw[e];exact Tree.ind h t
  ·exact Tree.QO h l k hk
end
end
abbrev iU:=Tree (Int×Int×List Int)
abbrev LH(c:iU):Int:=(Tree.val c).1
abbrev NJ(c:iU):Int:=(Tree.val c).2.1
abbrev Qs(c:iU):List Int:=(Tree.val c).2.2
theorem Sb{β:Type}{d:β}{l:List β}{i:Nat}(h:i<l.length):elt d l ((i:Nat):Int)=l[i]:=by
 unfold elt;rw[show(((i:Nat):Int)).toNat=i by omega,List.getD_eq_getElem?_getD,List.getElem?_eq_getElem h];rfl
theorem QH{β:Type}{d:β}{l:List β}{i:Nat}(h:i<l.length):elt d l ((i:Nat):Int)∈l:=by
 rw[Sb h];exact List.getElem_mem h
mutual
def Eb:iU→Nat
 | .node _ l=>yO l 1
def yO:List iU→Nat→Nat
 |[],a=>a
 |t::l,a=>yO l (max a (Eb t+1))
end
mutual
def qH:iU→Nat
 | .node _ l=>mQ l 1
def mQ:List iU→Nat→Nat
 |[],a=>a
 |t::l,a=>mQ l (a+qH t)
end
theorem Br:∀(l:List iU) (a:Nat),a≤mQ l a
 |[],a=>by unfold mQ;omega
 |t::l,a=>by
  unfold mQ;have:=Br l (a+qH t);omega
theorem lK(x:Int×Int×List Int)(l:List iU):qH (.node x l)=mQ l 1:=by rw[qH]
theorem zl(x:Int×Int×List Int)(l:List iU):Eb (.node x l)=yO l 1:=by rw[Eb]
mutual
theorem Mf:∀t:iU,Eb t≤qH t
 | .node x l=>by rw[Eb,qH];exact FU l 1 1 (Nat.le_refl _) (Nat.le_refl _)
theorem FU:∀(l:List iU) (a b:Nat),a≤b→1≤b→yO l a≤mQ l b
 |[],a,b,h,_=>by unfold yO mQ;exact h
 |t::l,a,b,h,hb=>by
  unfold yO mQ;have h1:=Mf t;exact FU l _ _ (by omega) (by omega)
end
def Eu(x a b:Int):Bool:=bif decide (a≤x)then decide (x≤b)else false
def Bq(k:Int):Int×Int×Int×Int:=
 bif k==1||k==2||k==11 then(0,0,0,0)else bif k==3||k==5||k==7 then(2,2,0,0)else bif k==4||k==6 then(1,1,0,0)
 else bif k==8 then(0,3,0,0)else bif k==9 then(1,1,1,4)else bif k==10 then(1,1,2,2)else(0, -1,0,0)
def Sw(k v:Int):Bool:=bif k==1 then Eu v 0 255 else bif k==2 then Eu v (-2147483648) 2147483647 else bif k==3 then Eu v 1 6 else bif k==8 then Eu v 0 3 else bif k==11 then Eu v 0 23 else v==0
def N9(k v:Int)(n m:Nat):Bool:=Eu (n:Nat) (Bq k).1 (Bq k).2.1&&(Eu (m:Nat) (Bq k).2.2.1 (Bq k).2.2.2&&Sw k v)
def EG(c:iU):Bool:=N9 (LH c) (NJ c) (Tree.kids c).length (Qs c).length&&(Qs c).all fun x=>Eu x 0 23
mutual
def oD:iU→Bool
 | .node x l=>EG (.node x l)&&Cw l
def Cw:List iU→Bool
 |[]=>true
 |t::l=>oD t&&Cw l
end
theorem zB:∀{l:List iU},Cw l=true↔∀k∈l,oD k=true
 |[]=>by simp[Cw]
 |t::l=>by rw[Cw,Bool.and_eq_true,zB (l:=l)];simp
theorem uz{c:iU}:oD c=true↔EG c=true∧∀k∈c.kids,oD k=true:=by
 cases c with
 |node x l=>rw[oD,Bool.and_eq_true,zB];rfl
theorem Gc{x a b:Int}:Eu x a b=true↔a≤x∧x≤b:=by
 unfold Eu
 by_cases h:a≤x
 ·rw[decide_eq_true h];simp[h]
 ·rw[decide_eq_false h];simp[h]
theorem Kc(x a:Int):Eu x a a=(x==a):=by
 rw[Bool.eq_iff_iff,Gc,beq_iff_eq];omega
theorem b3(a b c:Bool):(a&&(b&&c))=((c&&b)&&a):=by cases a<;>cases b<;>cases c<;>rfl
theorem Pn{k v:Int}(n m:Nat)(h:k=1):N9 k v n m=((Eu v 0 255&&((m:Nat):Int)==0)&&((n:Nat):Int)==0):=by
 subst h;show(Eu n 0 0&&(Eu m 0 0&&Eu v 0 255))=_;rw[Kc,Kc,b3]
def wQ(k:Int)(i:Int):Int:=bif k==4||(k==7&&i==1)then 1 else 0
mutual
def OO:iU→Int→Nat
 | .node x l,n=>bif x.1==1 then(bif x.2.1==n then 1 else 0)else Ju x.1 l 0 n
def Ju(k:Int):List iU→Nat→Int→Nat
 |[],_,_=>0
 |t::l,i,n=>OO t (n+wQ k (i:Nat))+Ju k l (i+1) n
end
mutual
theorem L9:∀(c:iU) (n:Int),OO c n≤qH c
 | .node x l,n=>by
  rw[OO,lK];have h1:=Br l 1;cases x.1==1 with
  |true=>cases x.2.1==n<;>simp<;>omega
  |false=>have:=FN x.1 l 0 n 1;simp only[cond_false];omega
theorem FN(k:Int):∀(l:List iU) (i:Nat) (n:Int) (a:Nat),a+Ju k l i n≤mQ l a
 |[],i,n,a=>by simp[Ju,mQ]
 |t::l,i,n,a=>by
  rw[Ju,mQ];have h1:=L9 t (n+wQ k (i:Nat));have h2:=FN k l (i+1) n (a+qH t);omega
end
mutual
def QN:iU→Int
 | .node x l=>O9 l (bif x.1==1 then x.2.1 else -1)
def O9:List iU→Int→Int
 |[],a=>a
 |t::l,a=>O9 l (max a (QN t))
end
mutual
def KY:iU→iU→Bool
 | .node x l,.node y m=>(x.1==y.1&&(x.2.1==y.2.1&&x.2.2==y.2.2))&&xY l m
def xY:List iU→List iU→Bool
 |[],[]=>true
 |a::l,b::m=>KY a b&&xY l m
 |_,_=>false
end
mutual
theorem KZ:∀{a b:iU},KY a b=true↔a=b
 | .node x l,.node y m=>by
  rw[KY,Bool.and_eq_true,Bool.and_eq_true,Bool.and_eq_true,beq_iff_eq,beq_iff_eq,beq_iff_eq,Dw];constructor
  ·rintro⟨⟨h1,h2,h3⟩,h4⟩;rw[h4,show x=y from Prod.ext h1 (Prod.ext h2 h3)]
  ·intro h;injection h with h1 h2
   subst h1 h2;exact⟨⟨rfl,rfl,rfl⟩,rfl⟩
theorem Dw:∀{l m:List iU},xY l m=true↔l=m
 |[],[]=>by simp[xY]
 |a::l,b::m=>by rw[xY,Bool.and_eq_true,KZ,Dw];simp
 |[],_::_=>by simp[xY]
 |_::_,[]=>by simp[xY]
end
theorem aP.Rq{P:Program}{f:Nat}{e:U}{xs:List (El e)}{l:List SV}{r:SV}(hok:bS P f=true)(h:List.length (α:=El e) xs≤9223372036854775807→aP P f (.rsl e xs::l) r):aP P f (.rsl e xs::l) r:=by
 refine⟨hok,fun cx β w fr vs hI hd=> ?_⟩;refine(h ?_).2 cx β w fr vs hI hd;unfold aA at hd;obtain⟨v,vs',_,h1,_⟩:=hd;unfold Den at h1;obtain⟨bs,h2,_⟩:=h1;obtain⟨A,c,_,h3,h4⟩:=h2.slice;exact Nat.le_trans h3 h4
mutual
def yM(b:Int):iU→Int→iU
 | .node x l,f=>.node (x.1,(bif x.1==1&&decide (f≤x.2.1)then x.2.1+b else x.2.1),x.2.2) (Jf b x.1 l 0 f)
def Jf(b k:Int):List iU→Nat→Int→List iU
 |[],_,_=>[]
 |t::l,i,f=>yM b t (f+wQ k (i:Nat))::Jf b k l (i+1) f
end
theorem J3{c:iU}(h:oD c=true)(hk:(LH c==1)=true):0≤NJ c∧NJ c≤255∧Qs c=[]∧c.kids=[]:=by
 have h1:=(uz.1 h).1;unfold EG at h1;rw[Bool.and_eq_true,Pn _ _ (eq_of_beq hk)]at h1;simp only[Bool.and_eq_true]at h1;have h2:=Gc.1 h1.1.1.1;have h3:=eq_of_beq h1.1.1.2;have h4:=eq_of_beq h1.1.2;exact⟨h2.1,h2.2,List.eq_nil_of_length_eq_zero (by omega),List.eq_nil_of_length_eq_zero (by omega)⟩
mutual
def AQ(g:iU→Int→iU):iU→Int→iU
 | .node x l,a=>bif x.1==1 then g (.node x l) a else .node x (AP g x.1 l 0 a)
def AP(g:iU→Int→iU)(k:Int):List iU→Nat→Int→List iU
 |[],_,_=>[]
 |t::l,i,a=>AQ g t (a+wQ k (i:Nat))::AP g k l (i+1) a
end
theorem Kl{g:iU→Int→iU}{c:iU}(h:(LH c==1)=true)(a:Int):AQ g c a=g c a:=by
 cases c with
 |node x l=>rw[AQ];rw[show(x.1==1)=true from h];rfl
theorem Iq{g:iU→Int→iU}{c:iU}(h:(LH c==1)=false)(a:Int):AQ g c a=.node (LH c,NJ c,Qs c) (AP g (LH c) c.kids 0 a):=by
 cases c with
 |node x l=>rw[AQ];rw[show(x.1==1)=false from h];rfl
def RU(b f:Int)(v:iU)(a:Int):iU:=.node (LH v,(bif decide (a+f≤NJ v)then NJ v+b else NJ v),Qs v) v.kids
mutual
theorem MJ(b f:Int):∀(c:iU) (a:Int),oD c=true→AQ (RU b f) c a=yM b c (a+f)
 | .node x l,a,hg=>by
  cases hk:(x.1==1)with
  |true=>
   have h1:=J3 hg hk;have hl:l=[]:=h1.2.2.2;subst hl;rw[AQ,yM,hk];show RU b f (.node x []) a=_;unfold RU;show Tree.node (x.1,(bif decide (a+f≤x.2.1)then x.2.1+b else x.2.1),x.2.2) []=_;simp[Jf]
  |false=>
   rw[AQ,yM,hk];have:=Gh b f x.1 l 0 a (uz.1 hg).2;simp only[cond_false,Bool.false_and];rw[this]
theorem Gh(b f k:Int):∀(l:List iU) (i:Nat) (a:Int),(∀t∈l,oD t=true)→AP (RU b f) k l i a=Jf b k l i (a+f)
 |[],i,a,_=>by simp[AP,Jf]
 |t::l,i,a,h=>by
  rw[AP,Jf,MJ b f t _ (h t (by simp)),Gh b f k l (i+1) a fun t ht=>h t (by simp[ht]),show a+wQ k (i:Nat)+f=a+f+wQ k (i:Nat) by omega]
end
mutual
def OE(g:iU→Bool):iU→Bool
 | .node x l=>g (.node x l)||Jp g l
def Jp(g:iU→Bool):List iU→Bool
 |[]=>false
 |t::l=>OE g t||Jp g l
end
def LZ(c:iU):Bool:=LH c==1&&decide (255<NJ c)
mutual
theorem R6:∀c:iU,OE LZ c=decide (255<QN c)
 | .node x l=>by
  rw[OE,QN,←Qq l];cases hk:(x.1==1)with
  |true=>
   have:LZ (.node x l)=decide (255<x.2.1):=by show(x.1==1&&decide (255<x.2.1))=_;rw[hk];rfl
   rw[this];rfl
  |false=>
   have:LZ (.node x l)=false:=by show(x.1==1&&decide (255<x.2.1))=_;rw[hk];rfl
   rw[this];rfl
theorem Qq:∀(l:List iU) (a:Int),(decide (255<a)||Jp LZ l)=decide (255<O9 l a)
 |[],a=>by rw[Jp,O9,Bool.or_false]
 |t::l,a=>by
  rw[Jp,O9,←Qq l,R6 t]
  have:decide (255<max a (QN t))=(decide (255<a)||decide (255<QN t)):=by
   rw[Bool.eq_iff_iff];simp only[decide_eq_true_eq,Bool.or_eq_true];omega
  rw[this,Bool.or_assoc]
end
mutual
theorem Nh(b:Int):∀(c:iU) (f:Int),qH (yM b c f)=qH c
 | .node x l,f=>by rw[yM,lK,lK];exact GZ b x.1 l 0 f 1
theorem GZ(b k:Int):∀(l:List iU) (i:Nat) (f:Int) (a:Nat),mQ (Jf b k l i f) a=mQ l a
 |[],i,f,a=>by simp[Jf]
 |t::l,i,f,a=>by rw[Jf,mQ,mQ,Nh b t,GZ b k l]
end
mutual
theorem Ng(b:Int):∀(c:iU) (f:Int),Eb (yM b c f)=Eb c
 | .node x l,f=>by rw[yM,zl,zl];exact GY b x.1 l 0 f 1
theorem GY(b k:Int):∀(l:List iU) (i:Nat) (f:Int) (a:Nat),yO (Jf b k l i f) a=yO l a
 |[],i,f,a=>by simp[Jf]
 |t::l,i,f,a=>by rw[Jf,yO,yO,Ng b t,GY b k l]
end
mutual
theorem Kk(g:iU→Int→iU)(m:Nat)(hm:∀v a,oD v=true→LH v=1→qH (g v a)≤m+1):∀(c:iU) (a:Int),oD c=true→qH (AQ g c a)≤qH c*(m+1)
 | .node x l,a,hg=>by
  cases hk:(x.1==1)with
  |true=>
   rw[Kl (c:=.node x l) hk];have h1:=hm (.node x l) a hg (eq_of_beq hk);have h2:1≤qH (.node x l):=by rw[lK];exact Br l 1
   have h3:1*(m+1)≤qH (.node x l)*(m+1):=Nat.mul_le_mul_right _ h2;omega
  |false=>
   rw[Iq (c:=.node x l) hk,lK,lK];have:=CS g m hm x.1 l 0 a 1 1 (by omega) (uz.1 hg).2;exact this
theorem CS(g:iU→Int→iU)(m:Nat)(hm:∀v a,oD v=true→LH v=1→qH (g v a)≤m+1)(k:Int):∀(l:List iU) (i:Nat) (a:Int) (p q:Nat),p≤q*(m+1)→(∀t∈l,oD t=true)→mQ (AP g k l i a) p≤mQ l q*(m+1)
 |[],i,a,p,q,h,_=>by simpa[AP,mQ]using h
 |t::l,i,a,p,q,h,hg=>by
  rw[AP,mQ,mQ];have h1:=Kk g m hm t (a+wQ k (i:Nat)) (hg t (by simp));exact CS g m hm k l (i+1) a _ _ (by rw[Nat.add_mul];omega) fun t ht=>hg t (by simp[ht])
end
end Go.Tr
