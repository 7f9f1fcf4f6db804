
/- Nets as data: agents, ports, wires. No program in it. -/
import Derived.Test.YtbakpddomlgjbaaVV
import Derived.Test.YtbakpddomlgjbaaKinds
set_option linter.unusedSimpArgs false
set_option linter.unusedVariables false
namespace Go.Tr
open Go Go.RowKit
abbrev Ec:U:=.pair (.int .i64) (.int .i64)
abbrev gD:U:=.pair (.int .i64) (.pair (.int .i64) (.pair (.int .i64) (.pair (.sl (.int .i64)) (.sl Ec))))
abbrev uNet:U:=.sl gD
abbrev dN:=Int×Int
abbrev aQ:=Int×Int×Int×List Int×List dN
abbrev oI:=List aQ
abbrev LsB:=List (List aQ)
def bD(xs:List aQ)(i:Int):aQ:=elt (dflt gD) xs i
abbrev aQ.kind(a:aQ):Int:=a.1
abbrev aQ.level(a:aQ):Int:=a.2.1
abbrev aQ.value(a:aQ):Int:=a.2.2.1
abbrev aQ.data(a:aQ):List Int:=a.2.2.2.1
abbrev aQ.nN(a:aQ):List dN:=a.2.2.2.2
def fP(xs:List aQ)(p:dN):dN:=elt (dflt Ec) (bD xs p.1).nN p.2
def aD(xs:List aQ)(p q:dN):List aQ:=xs.set p.1.toNat ((bD xs p.1).1,(bD xs p.1).2.1,(bD xs p.1).2.2.1,(bD xs p.1).2.2.2.1,(bD xs p.1).2.2.2.2.set p.2.toNat q)
def lC(xs:List aQ)(p q:dN):List aQ:=aD (aD xs p q) q p
def aY(xs:List aQ)(p:dN):Prop:=0<=p.1/\p.1<(xs.length:Nat)/\0<=p.2/\p.2<((bD xs p.1).nN.length:Nat)
abbrev vP(p:dN):SV:=.agg [.int .i64 p.1,.int .i64 p.2]
theorem iW(xs:oI)(p q:dN):(aD xs p q).length=xs.length:=by unfold aD;simp
theorem Fu{xs:oI}{k:Nat}{y:aQ}{i:Int}:bD (xs.set k y) i=if k=i.toNat/\k<xs.length then y else bD xs i:=by
 unfold bD elt;rw[qC,qC,List.getElem?_set]
 by_cases h:k=i.toNat
 .subst h
  by_cases h2:i.toNat<xs.length
  .simp[h2]
  .simp[h2]
 .simp[h]
theorem fM(xs:oI)(p q:dN)(i:Int):bD (aD xs p q) i=if p.1.toNat=i.toNat/\p.1.toNat<xs.length then((bD xs p.1).1,(bD xs p.1).2.1,(bD xs p.1).2.2.1,(bD xs p.1).2.2.2.1,(bD xs p.1).2.2.2.2.set p.2.toNat q)else bD xs i:=Fu
theorem Fq{xs:oI}{i j:Int}(h:i.toNat=j.toNat):bD xs i=bD xs j:=by unfold bD elt;rw[h]
theorem nO(xs:oI)(p q:dN)(i:Int):(bD (aD xs p q) i).nN.length=(bD xs i).nN.length:=by
 rw[fM];split
 .rename_i h;rw[Fq h.1.symm];simp[aQ.nN]
 .rfl
theorem aY.set{xs:oI}{p q r:dN}(h:aY xs r):aY (aD xs p q) r:=by
 unfold aY at h |-;rw[iW,nO];exact h
theorem aY.link{xs:oI}{p q r:dN}(h:aY xs r):aY (lC xs p q) r:=h.set.set
theorem xO(xs:oI)(p q:dN):(lC xs p q).length=xs.length:=by unfold lC;rw[iW,iW]
theorem Us{us:aO}{n:Nat}(hl:us.length=n*5){i:Int}(h0:0<=i)(h1:i<(n:Nat)):i.toNat*5+5<=us.length:=by omega
theorem Tf{us:aO}{n:Nat}(hl:us.length=n*5){i:Int}(h0:0<=i)(h1:i<(n:Nat)){o:Nat}(ho:o<5):us[i.toNat*5+o]? =some (us.getD (i.toNat*5+o) undef):=by
 rw[qC,qB (by omega)];rfl
def xS(xs:List aQ)(old now:dN):List aQ:=lC xs (fP xs old) now
def xL(xs:List aQ)(x y:dN):List aQ:=bif (fP xs x).1==y.1&&(fP xs x).2==y.2 then xs else lC xs (fP xs x) (fP xs y)
def Aw(kind level value:Int)(data:List Int)(n:Nat):aQ:=(kind,level,value,data,List.replicate n (0,0))
def M8(kv:List (Int×Bool))(ks:List Int):List (Int×Bool):=ks.foldl (fun kv k=>sO kv k true) kv
theorem NP(kv:LsK){ks:List Int}{i:Nat}(h:i<ks.length):sO (M8 kv (ks.take i)) (ks.getD i 0) true=M8 kv (ks.take (i+1)):=by
 unfold M8;rw[List.take_add_one,List.foldl_append,qC,qB h];rfl
theorem Qg{k:Nat}(h:k<1000000000):IntKind.i64.wrap ((k:Int)+1)=((k+1:Nat):Int):=yu (by omega)
def NW(xs:List aQ):Prop:=xs.length<=1048576/\∀i:Nat,(bD xs i).data.length<=1048576/\(bD xs i).nN.length<=1048576
def mV(c:Int)(x y:aQ):Bool:=bif (bif c==6 then y.kind==10 else false)then decide ((y.data.length:Int)<=x.value)else false
def jF(x y:aQ):Int×Bool:=
 bif dA x.kind x.level y.kind y.level==2 then(bif mV (bP x.kind x.level y.kind y.level) y x then(8,false)else(bP x.kind x.level y.kind y.level,dA x.kind x.level y.kind y.level==2))
 else(bif mV (bP x.kind x.level y.kind y.level) x y then(8,false)else(bP x.kind x.level y.kind y.level,dA x.kind x.level y.kind y.level==2))
theorem LQ{x y:aQ}(h1:(dA x.kind x.level y.kind y.level==2)=true)(h2:mV (bP x.kind x.level y.kind y.level) y x=true):jF x y=(8,false):=by unfold jF;rw[h1,h2];rfl
theorem LP{x y:aQ}(h1:(dA x.kind x.level y.kind y.level==2)=true)(h2:mV (bP x.kind x.level y.kind y.level) y x=false):jF x y=(bP x.kind x.level y.kind y.level,dA x.kind x.level y.kind y.level==2):=by unfold jF;rw[h1,h2];rfl
theorem LM{x y:aQ}(h1:(dA x.kind x.level y.kind y.level==2)=false)(h2:mV (bP x.kind x.level y.kind y.level) x y=true):jF x y=(8,false):=by unfold jF;rw[h1,h2];rfl
theorem LK{x y:aQ}(h1:(dA x.kind x.level y.kind y.level==2)=false)(h2:mV (bP x.kind x.level y.kind y.level) x y=false):jF x y=(bP x.kind x.level y.kind y.level,dA x.kind x.level y.kind y.level==2):=by unfold jF;rw[h1,h2];rfl
def u6(p lo hi d:Int):Int×Int:=bif (bif decide (p<lo)then true else decide (hi<p))then(0,2)else(IntKind.i64.wrap (p+d),0)
def QB(c p:Int):Int×Int:=
 bif c==1 then u6 p 0 0 (-2)else bif c==2 then u6 p 0 0 (-2)else bif c==3 then u6 p 0 3 0 else bif c==4 then u6 p 0 3 (-2)
 else bif c==5 then u6 p 0 0 (-1)else bif c==6 then u6 p 0 3 (-1)else bif c==7 then u6 p 2 600 (-2)else(0,2)
def Na(by_:Int)(x:aQ):aQ:=bif jG x.kind then(x.1,x.2.1+by_,x.2.2)else x
def QX(by_:Int)(xs:List aQ):Bool:=xs.all fun x=> !(jG x.kind)||decide (x.level+by_<=8)
def SH(by_:Int)(xs:List aQ):List aQ:=xs.map (Na by_)
def lg(x:Int):Int:=IntKind.i64.wrap (IntKind.i32.wrap x)
def opV(o a b:Int):Int:=
 bif o==1 then lg (IntKind.i64.wrap (lg a+lg b))else bif o==2 then lg (IntKind.i64.wrap (lg a-lg b))else bif o==3 then lg (IntKind.i64.wrap (lg a*lg b))
 else bif o==4 then(bif lg b==0 then 0 else lg (IntKind.i64.wrap ((lg a).tdiv (lg b))))else bif o==5 then(bif decide (lg a<lg b)then 1 else 0)else bif o==6 then(bif lg a==lg b then 1 else 0)else 0
theorem NT(x:Int):IntKind.i64.wrap (IntKind.i32.wrap (IntKind.u32.wrap (IntKind.u64.wrap x)))=lg x:=by
 unfold lg;simp only[IntKind.wrap,IntKind.bits,IntKind.signed];simp
def lq(xs:List aQ):Prop:=∀p,aY xs p->aY xs (fP xs p)
theorem Qv{α:Type}{d:α}{xs:List α}{i j:Int}(h:i.toNat=j.toNat):elt d xs i=elt d xs j:=by unfold elt;rw[h]
theorem Jq{α:Type}{d:α}{xs:List α}{k:Nat}{y:α}{i:Int}:elt d (xs.set k y) i=if k=i.toNat/\k<xs.length then y else elt d xs i:=by
 unfold elt;rw[qC,qC,List.getElem?_set]
 by_cases h:k=i.toNat
 .subst h
  by_cases h2:i.toNat<xs.length<;>simp[h2]
 .simp[h]
theorem Jp{α:Type}{d:α}{xs ys:List α}{i:Int}(h:i.toNat<xs.length):elt d (xs++ys) i=elt d xs i:=by
 unfold elt;rw[qC,qC,qM h]
theorem FQ{α:Type}{d y:α}{xs:List α}{i:Int}(h:i.toNat=xs.length):elt d (xs++[y]) i=y:=by
 unfold elt;rw[h,qC];simp
theorem uJ{xs ys:oI}{i:Int}(h:i.toNat<xs.length):bD (xs++ys) i=bD xs i:=Jp h
theorem xk{y:aQ}{xs:oI}{i:Int}(h:i.toNat=xs.length):bD (xs++[y]) i=y:=FQ h
theorem aY.app{xs ys:oI}{p:dN}(h:aY xs p):aY (xs++ys) p:=by
 obtain⟨h1,h2,h3,h4⟩:=h;refine⟨h1,by rw[qA];omega,h3,?_⟩;rw[uJ (by omega)];exact h4
theorem aY.new{k l v:Int}{d:List Int}{n:Nat}{xs:oI}{s:Int}(h0:0<=s)(h1:s<(n:Nat)):aY (xs++[Aw k l v d n]) ((xs.length:Nat),s):=by
 refine⟨by omega,by rw[qA,qJ];show((xs.length:Nat):Int)<_;omega,h0,?_⟩;rw[xk (by simp)];simpa[Aw,aQ.nN]using h1
theorem EJ{xs ys:oI}{p:dN}(h:p.1.toNat<xs.length):fP (xs++ys) p=fP xs p:=by unfold fP;rw[uJ h]
theorem xX{xs:oI}{p q r:dN}(hp:aY xs p)(hr:aY xs r):fP (aD xs p q) r=if p=r then q else fP xs r:=by
 obtain⟨p1,p2,p3,p4⟩:=hp;obtain⟨r1,r2,r3,r4⟩:=hr;unfold fP;rw[fM]
 by_cases h:p.1.toNat=r.1.toNat
 .have e:p.1=r.1:=by omega
  rw[if_pos ⟨h,by omega⟩];show elt (dflt Ec) ((bD xs p.1).2.2.2.2.set p.2.toNat q) r.2=_;rw[Jq]
  by_cases h2:p.2.toNat=r.2.toNat
  .have e2:p.2=r.2:=by omega
   rw[if_pos ⟨h2,by simp only[aQ.nN]at p4;omega⟩,if_pos (Prod.ext e e2)]
  .rw[if_neg (fun hh=>h2 hh.1),if_neg (fun hh=>h2 (by rw[hh])),e]
 .rw[if_neg (fun hh=>h hh.1),if_neg (fun hh=>h (by rw[hh]))]
theorem BZ{xs:oI}{p q r:dN}(hp:aY xs p)(hq:aY xs q)(hr:aY xs r):fP (lC xs p q) r=if q=r then p else if p=r then q else fP xs r:=by
 unfold lC;rw[xX hq.set hr.set,xX hp hr]
theorem aY.unset{xs:oI}{p q r:dN}(h:aY (aD xs p q) r):aY xs r:=by
 unfold aY at h |-
 rwa[iW,nO]at h
theorem aY.unlink{xs:oI}{p q r:dN}(h:aY (lC xs p q) r):aY xs r:=h.unset.unset
theorem lq.link{xs:oI}{p q:dN}(h:lq xs)(hp:aY xs p)(hq:aY xs q):lq (lC xs p q):=fun r hr=>by
 have hr':=hr.unlink;rw[BZ hp hq hr'];split
 .exact hp.link
 .split
  .exact hq.link
  .exact(h r hr').link
theorem lq.move{xs:oI}{p q:dN}(h:lq xs)(hp:aY xs p)(hq:aY xs q):lq (xS xs p q):=h.link (h p hp) hq
theorem aY.move{xs:oI}{p q r:dN}(h:aY xs r):aY (xS xs p q) r:=h.link
theorem aY.join{xs:oI}{p q r:dN}(h:aY xs r):aY (xL xs p q) r:=by
 unfold xL;cases ((fP xs p).1==q.1&&(fP xs p).2==q.2)with
 |true=>exact h
 |false=>exact h.link
theorem lq.join{xs:oI}{p q:dN}(h:lq xs)(hp:aY xs p)(hq:aY xs q):lq (xL xs p q):=by
 unfold xL;cases ((fP xs p).1==q.1&&(fP xs p).2==q.2)with
 |true=>exact h
 |false=>exact h.link (h p hp) (h q hq)
theorem lq.add{xs:oI}(h:lq xs)(h0:aY xs (0,0))(k l v:Int)(d:List Int)(n:Nat):lq (xs++[Aw k l v d n]):=fun r hr=>by
 by_cases hlt:r.1.toNat<xs.length
 .rw[EJ hlt];obtain⟨r1,r2,r3,r4⟩:=hr;rw[uJ hlt]at r4;exact(h r ⟨r1,by omega,r3,r4⟩).app
 .obtain⟨r1,r2,r3,r4⟩:=hr;rw[qA,qJ]at r2;have e:r.1.toNat=xs.length:=by omega
  have hp:fP (xs++[Aw k l v d n]) r=(0,0):=by
   unfold fP;rw[xk e]at r4 |-;simp only[Aw,aQ.nN,List.length_replicate]at r4;unfold elt;rw[qC];simp only[Aw,aQ.nN];rw[List.getElem?_replicate];split<;>rfl
  rw[hp];exact h0.app
theorem ND(xs:oI)(p q:dN):(xS xs p q).length=xs.length:=xO _ _ _
theorem NC(xs:oI)(p q:dN):(xL xs p q).length=xs.length:=by
 unfold xL;cases ((fP xs p).1==q.1&&(fP xs p).2==q.2)<;>simp[xO]
theorem wU{xs:oI}{p q a b:dN}(hp:aY xs p)(hq:aY xs q)(hn:p≠q):aD (aD xs p a) q b=aD (aD xs q b) p a:=by
 obtain⟨p1,p2,p3,p4⟩:=hp;obtain⟨q1,q2,q3,q4⟩:=hq
 by_cases h:p.1.toNat=q.1.toNat
 .have e:p.1=q.1:=by omega
  have h2:p.2.toNat≠q.2.toNat:=fun h2=>hn (Prod.ext e (by omega))
  have k1:bD (aD xs p a) q.1=((bD xs p.1).1,(bD xs p.1).2.1,(bD xs p.1).2.2.1,(bD xs p.1).2.2.2.1,(bD xs p.1).2.2.2.2.set p.2.toNat a):=by
   rw[fM,if_pos ⟨h,by omega⟩]
  have k2:bD (aD xs q b) p.1=((bD xs q.1).1,(bD xs q.1).2.1,(bD xs q.1).2.2.1,(bD xs q.1).2.2.2.1,(bD xs q.1).2.2.2.2.set q.2.toNat b):=by
   rw[fM,if_pos ⟨h.symm,by omega⟩]
  rw[show aD (aD xs p a) q b=(aD xs p a).set q.1.toNat ((bD (aD xs p a) q.1).1,(bD (aD xs p a) q.1).2.1,(bD (aD xs p a) q.1).2.2.1,(bD (aD xs p a) q.1).2.2.2.1,(bD (aD xs p a) q.1).2.2.2.2.set q.2.toNat b) from rfl,show aD (aD xs q b) p a=(aD xs q b).set p.1.toNat ((bD (aD xs q b) p.1).1,(bD (aD xs q b) p.1).2.1,(bD (aD xs q b) p.1).2.2.1,(bD (aD xs q b) p.1).2.2.2.1,(bD (aD xs q b) p.1).2.2.2.2.set p.2.toNat a) from rfl,k1,k2];unfold aD;rw[h,List.set_set,List.set_set,e]
  simp only[];rw[List.set_comm _ _ h2]
 .have k1:bD (aD xs p a) q.1=bD xs q.1:=by rw[fM,if_neg fun hh=>h hh.1]
  have k2:bD (aD xs q b) p.1=bD xs p.1:=by rw[fM,if_neg fun hh=>h hh.1.symm]
  rw[show aD (aD xs p a) q b=(aD xs p a).set q.1.toNat ((bD (aD xs p a) q.1).1,(bD (aD xs p a) q.1).2.1,(bD (aD xs p a) q.1).2.2.1,(bD (aD xs p a) q.1).2.2.2.1,(bD (aD xs p a) q.1).2.2.2.2.set q.2.toNat b) from rfl,show aD (aD xs q b) p a=(aD xs q b).set p.1.toNat ((bD (aD xs q b) p.1).1,(bD (aD xs q b) p.1).2.1,(bD (aD xs q b) p.1).2.2.1,(bD (aD xs q b) p.1).2.2.2.1,(bD (aD xs q b) p.1).2.2.2.2.set p.2.toNat a) from rfl,k1,k2];unfold aD;rw[List.set_comm _ _ h]
theorem MB{xs:oI}{p q:dN}(hp:aY xs p)(hq:aY xs q):lC xs p q=lC xs q p:=by
 by_cases h:p=q
 .rw[h]
 .unfold lC;exact wU hp hq h
def RI(d:List Int)(i:Int):Int:=elt (dflt (.int .i64)) d i
def Px(xs:List aQ)(x y:Int):List aQ:=
 bif (bD xs y).1==7 then xS (xS (xs++[Aw 8 (bD xs y).2.1 (bD xs y).2.2.1 [(bD xs x).2.2.1] 2]) (y,1) ((xs.length:Nat),0)) (y,2) ((xs.length:Nat),1)
 else xS (xs++[Aw 6 0 (opV (bD xs y).2.2.1 (RI (bD xs y).2.2.2.1 0) (bD xs x).2.2.1) [] 1]) (y,1) ((xs.length:Nat),0)
def OV:aQ:=(0,0,0,[],[])
def RH(xs:List aQ)(a:Int):List aQ:=xs.set a.toNat OV
def Oq(us:List Value):El (hol 5):=(us.getD 0 undef,us.getD 1 undef,us.getD 2 undef,us.getD 3 undef,us.getD 4 undef)
def jo:Nat->List Value->List (El (hol 5))
 |0,_=>[]
 |n+1,us=>Oq us::jo n (us.drop 5)
theorem rX:∀(n:Nat) (us:aO),(jo n us).length=n
 |0,_=>rfl
 |n+1,us=>by unfold jo;rw[qI,rX n]
theorem rW:∀(n:Nat) (us:aO),us.length=n*5->(jo n us).flatMap (enc (hol 5))=us.map D.v
 |0,us,h=>by
  have:us=[]:=List.length_eq_zero_iff.1 (by omega);rw[this];rfl
 |n+1,us,h=>by
  match us,h with
  |a::b::c::d::e::us,h=>
   have ih:=rW n us (by simp only[qI]at h;omega);unfold jo;rw[qU];show _++(jo n us).flatMap (enc (hol 5))=_;rw[ih];rfl
  |[],h=>simp at h
  |[_],h=>simp at h;omega
  |[_,_],h=>simp at h;omega
  |[_,_,_],h=>simp at h;omega
  |[_,_,_,_],h=>simp at h;omega
theorem TN.DJ{w:World}:∀{vs us:aO} {bs:aG},TN w (vs.map D.v) bs us->us=vs/\bs=[]
 |[],us,bs,h=>by obtain⟨rfl,rfl⟩:=TN.nil.1 h;exact⟨rfl,rfl⟩
 |v::vs,us,bs,h=>by
  rw[List.map_cons]at h;obtain⟨b1,b2,u,us',rfl,rfl,h1,h2⟩:=TN.cons.1 h;obtain⟨rfl,rfl,_⟩:=T1.v.1 h1;obtain⟨rfl,rfl⟩:=TN.DJ h2;exact⟨rfl,rfl⟩
theorem Nf{w:World}{x:Value}{ds:List D}{bs:aG}{us:aO}(h:TN w (.v x::ds) bs us):∃us',us=x::us'/\TN w ds bs us':=by
 obtain⟨b1,b2,u,us',e1,e2,h1,h2⟩:=TN.cons.1 h;obtain⟨e3,e4,_⟩:=T1.v.1 h1;exact⟨us',by rw[e1,e3],by rw[e2,e4];exact h2⟩
theorem Qb{w:World}{d:D}{ds:List D}{bs:aG}{us:aO}(h:TN w (d::ds) bs us):∃u us' b2,us=u::us'/\TN w ds b2 us':=by
 obtain⟨b1,b2,u,us',e1,e2,h1,h2⟩:=TN.cons.1 h;exact⟨u,us',b2,e1,h2⟩
section
variable {cx:Cx}{β:Nat->Value}{w:World}{R:List bn}
theorem Inv.R4{g t n:Nat}{xs:oI}{us:aO}(h:Inv cx.w0 cx.F0 w (Tok.res cx β (.row g t 5 gD xs us)::R))(hl:us.length=xs.length*5):
  Inv cx.w0 cx.F0 w (Tok.res cx β (.row g t 5 (hol 5) (jo xs.length us) us)::Tok.res cx β (.nest n gD xs us)::R):=by
 refine Inv.part h fun F hp=> ?_
 obtain⟨hs,bs,us',rfl,hg,hpre⟩:=hp;have hul:us'.length=xs.length*5:=hg.row.1;have e:us=us':=hpre.eq_of_length (by omega);subst e;refine⟨lQ (β g),bs,fun b hb=>by simp[hb],fun b hb=>by simp[hb],fun b hb=>hg.out b (dO.1 hb),⟨rfl,[],us,by simp,?_,pR _⟩,⟨hg.tn,hg.own⟩⟩;refine⟨?_,?_,Own.nil _ _,by simp⟩
 .have:=hg.row;show World.ownsRow w 0 t 5 (β g) (jo xs.length us).length us;rw[rX];exact this
 .show TN w ((jo xs.length us).flatMap (enc (hol 5))) [] us;rw[rW _ _ hl];exact TN.scalars hg.tn.wQ
def sJ(ys:List aQ)(us:List Value)(j:Nat):El (hol 5):=(.int .i64 (bD ys (j:Nat)).1,.int .i64 (bD ys (j:Nat)).2.1,.int .i64 (bD ys (j:Nat)).2.2.1,us.getD (j*5+3) undef,us.getD (j*5+4) undef)
theorem rA:∀{ys:oI} {us:aO} {bs:aG},TN w (ys.flatMap (enc gD)) bs us->us.length=ys.length*5/\((List.range ys.length).map (sJ ys us)).flatMap (enc (hol 5))=us.map D.v
 |[],us,bs,h=>by obtain⟨rfl,rfl⟩:=TN.nil.1 h;exact⟨rfl,rfl⟩
 |y::ys,us,bs,h=>by
  rw[qU]at h;obtain⟨b1,b2,u1,u2,rfl,rfl,h1,h2⟩:=TN.append.1 h;have h1':TN w [.v (.int .i64 y.1),.v (.int .i64 y.2.1),.v (.int .i64 y.2.2.1),.sl y.2.2.2.1.length (List.flatMap (enc (.int .i64)) y.2.2.2.1),.sl y.2.2.2.2.length (List.flatMap (enc Ec) y.2.2.2.2)] b1 u1:=h1;obtain⟨v1,rfl,k3⟩:=Nf h1';obtain⟨v2,rfl,k4⟩:=Nf k3;obtain⟨v3,rfl,k5⟩:=Nf k4;obtain⟨a4,v4,b4,rfl,k6⟩:=Qb k5;obtain⟨a5,v5,b5,rfl,k7⟩:=Qb k6;obtain⟨rfl,rfl⟩:=TN.nil.1 k7;obtain⟨k1,k2⟩:=rA h2;refine⟨by simp only[qA,qI,qR];omega,?_⟩
  rw[qI,List.range_succ_eq_map,List.map_cons,qU,List.map_map]
  have e:(List.range ys.length).map (sJ (y::ys) ([.int .i64 y.1,.int .i64 y.2.1,.int .i64 y.2.2.1,a4,a5]++u2)∘Nat.succ)=(List.range ys.length).map (sJ ys u2):=List.map_congr_left fun j _=>by
   have e1:bD (y::ys) ((j.succ:Nat):Int)=bD ys (j:Nat):=by unfold bD elt;rw[qK,qK];rfl
   have e2:∀o:Nat,([.int .i64 y.1,.int .i64 y.2.1,.int .i64 y.2.2.1,a4,a5]++u2:List Value).getD (j.succ*5+o) undef=u2.getD (j*5+o) undef:=fun o=>by
    rw[qC,qL (by simp only[qI,qR];omega),qC];simp only[qI,qR];rw[show j.succ*5+o-(0+1+1+1+1+1)=j*5+o by omega]
   simp only[Function.comp,sJ];rw[e1,e2,e2]
  have e':(List.range ys.length).map (sJ (y::ys) (Value.int .i64 y.1::Value.int .i64 y.2.1::Value.int .i64 y.2.2.1::a4::a5::[]++u2)∘Nat.succ)=(List.range ys.length).map (sJ ys u2):=e;rw[e',k2,qZ];rfl
theorem Inv.merge{gA gB t t' n:Nat}{xs ys:oI}{usA usB preA:aO}{hs:List (El (hol 5))}(h:Inv cx.w0 cx.F0 w (Tok.res cx β (.row gA t 5 (hol 5) (jo xs.length usA++hs) preA)::Tok.res cx β (.nest n gD xs usA)::Tok.res cx β (.row gB t' 5 gD ys usB)::R))
  (hlA:usA.length=xs.length*5) (hlB:usB.length=ys.length*5) (h0:0<ys.length) (hh:hs=(List.range (ys.length-1)).map fun j=>sJ ys usB (j+1)):
  Inv cx.w0 cx.F0 w (Tok.res cx β (.row gA t 5 gD (xs++ys.drop 1) usA)::R):=by
 have hB:=h.perm ((List.Perm.cons _ (List.Perm.swap _ _ _)).trans (List.Perm.swap _ _ _));obtain⟨F,hp,k,_⟩:=hB.take1;obtain⟨_,bs,us',rfl,hg,hpre⟩:=hp;have hul:us'.length=ys.length*5:=hg.row.1;have e:usB=us':=hpre.eq_of_length (by omega);subst e
 match ys,h0,hg,hh,hlB with
 |y::ys,h0,hg,hh,hlB=>
  have htn:TN w ((y::ys).flatMap (enc gD)) bs usB:=hg.tn;obtain⟨q1,q2⟩:=rA htn;rw[qU]at htn;obtain⟨b1,b2,u1,u2,rfl,rfl,h1,h2⟩:=TN.append.1 htn
  have hu1:u1.length=5:=by
   have:=(rA h2).1;rw[qA]at q1;simp only[qI]at q1;omega
  have hcell:hs.flatMap (enc (hol 5))=u2.map D.v:=by
   rw[qI,List.range_succ_eq_map,List.map_cons,qU,List.map_map,qZ]at q2;have l1:(enc (hol 5) (sJ (y::ys) (u1++u2) 0)).length=(u1.map D.v).length:=by rw[qV,hu1];rfl
   have:=(List.append_inj q2 l1).2;rw[hh];exact this
  have hN:Inv cx.w0 cx.F0 w (aZ u2 (ys.flatMap (enc gD))::Tok.res cx β (.row gA t 5 (hol 5) (jo xs.length usA++hs) preA)::Tok.res cx β (.nest n gD xs usA)::R):=k _ b2 (fun b hb=>by simp[hb]) ⟨h2,(Own.parts hg.own).2.1⟩
  have hM:Inv cx.w0 cx.F0 w (aZ (usA++u2) (xs.flatMap (enc gD)++ys.flatMap (enc gD))::Tok.res cx β (.row gA t 5 (hol 5) (jo xs.length usA++hs) preA)::R):=by
   have:Inv cx.w0 cx.F0 w (aZ usA (xs.flatMap (enc gD))::aZ u2 (ys.flatMap (enc gD))::Tok.res cx β (.row gA t 5 (hol 5) (jo xs.length usA++hs) preA)::R):=hN.perm (by
    refine(List.Perm.cons _ (List.Perm.swap _ _ _)).trans (List.Perm.swap _ _ _))
   exact this.iO
  refine hM.swap.join fun F1 F2 hp1 hp2 hd=> ?_
  obtain⟨_,bA,uA,rfl,gA',_⟩:=hp1;have hAtn:TN w ((jo xs.length usA++hs).flatMap (enc (hol 5))) bA uA:=gA'.tn;rw[List.flatMap_append,rW _ _ hlA,hcell,<-qZ]at hAtn;obtain⟨rfl,rfl⟩:=TN.DJ hAtn;have hhl:hs.length=ys.length:=by rw[hh,qV,List.length_range];rfl
  refine⟨lQ (β gA)++F2,fun b hb=>by
   rcases qT.1 hb with hb|hb
   .exact .inl (by simp[hb])
   .exact .inr hb,⟨rfl,F2,usA++u2,rfl,⟨?_,?_,hp2.2,fun k hk hm=>hd k (by simp[dO.2 hk]) hm⟩,List.prefix_append _ _⟩⟩
  .have:=gA'.row;show World.ownsRow w 0 t 5 (β gA) (xs++ys).length (usA++u2);rw[show(jo xs.length usA++hs).length=(xs++ys).length by rw[qA,rX,hhl,qA]]at this;exact this
  .have:=hp2.1;rw[<-List.flatMap_append]at this;exact this
end
end Go.Tr
