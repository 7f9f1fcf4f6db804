
/- Channels: slices.Delete of packets, by the library's own text. -/
import Derived.Test.YtbakpddomlgjbaaCa
import Derived.Shelf.Spec.SlicesInsertGrow
import Derived.Shelf.SlicesE.Delete
import Derived.Laws.CopyRow
set_option linter.unusedSimpArgs false
set_option linter.unusedVariables false
namespace Go.Proofs.Ytbakpddomlgjbaa
open Go Go.RowKit Go.Proofs Go.Tr Go.Lib
theorem Jm:fq Try.prog 25 42 3:=gZ aC (u:=aK) rfl
theorem jl:∃i z,Try.prog.info? 42=some i/\i.zero=some z/\i.size=3/\i.bytes<=1000/\z.cells.toList=bg aK:=by
 obtain⟨i,z,h1,h2,h3,h4,h5⟩:=Jm.i;refine⟨i,z,h1,h2,h3,h5,?_⟩;obtain⟨_,_,hz⟩:=kY (t:=42) aC rfl;unfold zeroOf at hz;rw[h1]at hz;simp only[Option.bind_some,h2,Option.map_some,Option.some.injEq]at hz;exact hz
theorem l5(L:aG)(w:World):gW L w w.drew:=⟨rfl,rfl,rfl,Nat.le_refl _,fun _ _ _=>rfl⟩
theorem gu{w:World}{g o:Nat}{cs:aO}{t:TypeId}(hg:w.heap[g]? =some (.cells cs.toArray t (0,0)))(h:o<cs.length):(w.cell? ⟨g,o,none⟩).isSome=true:=by
 rw[cell_of_row w g o _ t (0,0) hg];simp[h]
theorem eT{w:World}{g o:Nat}{cs:aO}{t:TypeId}(hg:w.heap[g]? =some (.cells cs.toArray t (0,0))):w.cell? ⟨g,o,none⟩=cs[o]? :=by
 rw[cell_of_row w g o _ t (0,0) hg];simp
theorem H7{w:World}{g o n c:Nat}{cs:aO}(hg:w.heap[g]? =some (.cells cs.toArray 42 (0,0)))(h:o+(n+1)*3<=cs.length)(ty:TypeId):
  (Builtin.clear_ #[25] ty #[.slice (some ⟨g,o,none⟩) (n+1) c]).run Try.prog w=.ok (.tuple #[]) (w.setCells g o (List.replicate (n+1) (bg aK)).flatten):=by
 obtain⟨i,z,h1,h2,h3,h4,h5⟩:=jl;have hl:z.cells.size=3:=by rw[<-Array.length_toList,h5];rfl
 have hc:(Builtin.zeroCells z.cells (n+1)).toList=(List.replicate (n+1) (bg aK)).flatten:=by
  unfold Builtin.zeroCells;rw[Array.toList_map,Array.toList_range,hl,<-h5,<-pK z.cells 3 hl (by omega),hl]
 have hll:((List.replicate (n+1) (bg aK)).flatten).length=(n+1)*3:=by simp[bg]
 have hst:=run_storeCells_cells (P:=Try.prog) g o ((List.replicate (n+1) (bg aK)).flatten) 0 w (fun j hj=>gu hg (by omega)) (fun j hj=>cB hg _) (fun v hv=>by
  rw[List.mem_flatten]at hv;obtain⟨l,hl1,hl2⟩:=hv;rw[List.eq_of_mem_replicate hl1]at hl2;simp[bg]at hl2;rcases hl2 with rfl|rfl|rfl<;>rfl)
 simp only[Nat.add_zero]at hst;have hzv:∀w,(zeroValue 42).run Try.prog w=.ok z w:=fun w=>by simp[zeroValue,typeInfo,h1,h2]
 simp[Builtin.clear_,run_underlying Jm.u,hzv,hc,hst]
set_option maxHeartbeats 4000000 in
set_option maxRecDepth 100000 in
theorem FK{g c n i j:Nat}{cs:aO}{w:World}(hg:w.heap[g]? =some (.cells cs.toArray 42 (0,0)))(hs:cs.length=c*3)(hn:n<=c)(hc:c<=9223372036854775807)(hij:i<j)(hj:j<=n)(h1:∀v∈cs.take (n*3),v.oneCell'=true):
  Calls Try.prog 61 #[.slice (some ⟨g,0,none⟩) n c,.int .i64 (i:Nat),.int .i64 (j:Nat)] w fun e w'=>e=.returned (.slice (some ⟨g,0,none⟩) (n-(j-i)) c)/\
   ∃cs':List Value,w'.heap[g]? =some (.cells cs'.toArray 42 (0,0))/\cs'.length=cs.length/\cs'.take ((n-(j-i))*3)=cs.take (i*3)++(cs.take (n*3)).drop (j*3)/\gW [g] w w':=by
 obtain⟨news,hnews⟩:∃news,news=(cs.take (n*3)).drop (j*3):=⟨_,rfl⟩;have hlen:news.length=(n-j)*3:=by rw[hnews];simp;omega
 obtain⟨A,hA,hsrc⟩:∃A:Addr,(if c=j then some (⟨g,0,none⟩:Addr)else some ⟨g,j*3,none⟩)=some A/\Hid (∀t u,news[t]? =some u->w.drew.cell? (A.add t)=some u):=by
  by_cases h:c=j
  .refine⟨⟨g,0,none⟩,by simp[h],fun t u hu=> ?_⟩;have h0:news.length=0:=by rw[hlen];omega
   rw[List.length_eq_zero_iff.1 h0]at hu;simp at hu
  .refine⟨⟨g,j*3,none⟩,by simp[h],fun t u hu=> ?_⟩
   have ht:t<(n-j)*3:=by
    have:=(qE.1 hu).1
    rwa[hlen]at this
   rw[Addr.add_lit];show w.cell? _=_;rw[eT hg];rw[hnews,List.getElem?_drop,List.getElem?_take,if_pos (by omega)]at hu;exact hu
 have s1:Hid (news.length=(n-j)*3):=hlen;have s2:Hid (∀u∈news,u.oneCell'=true):=fun u hu=>h1 u (by rw[hnews]at hu;exact List.mem_of_mem_drop hu)
 have s3:Hid (∀t,t<news.length->(w.drew.cell? ⟨g,0+i*3+t,none⟩).isSome=true/\w.drew.frozen? ⟨g,0+i*3+t,none⟩=false):=fun t ht=>⟨gu (w:=w.drew) hg (by omega),cB (w:=w.drew) hg _⟩
 obtain⟨W1,hW1⟩:∃W1,W1=w.drew.setCells g (0+i*3) news:=⟨_,rfl⟩;obtain⟨hr1,hch1⟩:=dw (w:=w.drew) (o:=0+i*3) (us:=news) hg (by omega);rw[<-hW1]at hr1 hch1;obtain⟨k,hk⟩:∃k,k+1=n-(i+(n-j)):=⟨n-(i+(n-j))-1,by omega⟩;have hcl:∀ty,(Builtin.clear_ #[25] ty #[.slice (some ⟨g,(i+(n-j))*3,none⟩) (n-(i+(n-j))) (c-(i+(n-j)))]).run Try.prog W1=.ok (.tuple #[]) (W1.setCells g ((i+(n-j))*3) (List.replicate (n-(i+(n-j))) (bg aK)).flatten):=fun ty=>hk▸H7 hr1 (by simp;omega) ty
 obtain⟨hr2,hch2⟩:=dw (w:=W1) (o:=(i+(n-j))*3) (us:=(List.replicate (n-(i+(n-j))) (bg aK)).flatten) hr1 (by simp[bg];omega);have hW:Hid (W1=w.drew.setCells g (0+i*3) news):=hW1
 have hfin:Hid (∃cs':List Value,(W1.setCells g ((i+(n-j))*3) (List.replicate (n-(i+(n-j))) (bg aK)).flatten).heap[g]? =some (.cells cs'.toArray 42 (0,0))/\cs'.length=cs.length/\cs'.take ((n-(j-i))*3)=cs.take (i*3)++(cs.take (n*3)).drop (j*3)/\gW [g] w (W1.setCells g ((i+(n-j))*3) (List.replicate (n-(i+(n-j))) (bg aK)).flatten)):=by
  have hz:((List.replicate (n-(i+(n-j))) (bg aK)).flatten).length=(n-(i+(n-j)))*3:=by simp[bg]
  refine⟨_,hr2,?_,?_,((l5 [g] w).trans hch1).trans hch2⟩
  .simp only[qA,List.length_take,List.length_drop,hz,hlen];omega
  .rw[show n-(j-i)=i+(n-j) by omega,qF,List.take_left' (by simp only[qA,List.length_take,List.length_drop,hlen];omega),<-hnews,Nat.zero_add];rw[List.take_left' (by simp only[qA,List.length_take,hlen];omega)]
 obtain⟨i0,z0,hi0,hz0,hi3, -, -⟩:=jl;have hic:i<=c:=by omega
 have hjc:i+1<=c:=by omega
 have hW':Hid (W1=_):=hW1;have hI0:Hid (_=_):=hi0;have hI3:Hid (_=_):=hi3;clear hr1 hr2 hg hch1 hch2 hz0 hnews hW1 hi0 hi3 h1 hlen hs
 go_enter Try.func61,Try.ntmps61
 go_wp2_with fail
 go_region_law (refine step_append_room rfl (.tmp 22) (.tmp 25) 25 rfl 42 i0 3 Jm.u hI0.out hI3.out g 0 i c (by simp[Act.eval,Act.put]) A (n-j) (c-j) news (by simp[Act.eval,Act.put]) s1.out hsrc.out s2.out (by omega) s3.out ?_;rw[<-hW.out])
 have hcx:∀(a:Act) (x:Operand),a.eval x=.slice (some ⟨g,(i+(n-j))*3,none⟩) (n-(i+(n-j))) (c-(i+(n-j)))->∀dst ty pos aft gd,(execOp a.eval ⟨dst,.call ⟨.builtin .clear, #[x], #[25]⟩,ty,pos,aft,gd⟩).run Try.prog W1=.ok (.value (.tuple #[])) (W1.setCells g ((i+(n-j))*3) (List.replicate (n-(i+(n-j))) (bg aK)).flatten):=fun a x hx dst ty pos aft gd=>by
  simp[execOp,hx,resolve,invoke,builtin,hcl]
 go_wp2_with (at_builtin;refine wpList_run rfl (hcx _ _ rfl _ _ _ _ _) ?_)
 go_ret;refine⟨?_,hfin.out⟩;show Ending.returned (Value.slice (some ⟨g,0,none⟩) (i+(n-j)) c)=_;rw[show i+(n-j)=n-(j-i) by omega]
section
variable {cx:Cx}{β:Nat->Value}{w:World}{R:List bn}
theorem PX{k:Nat}{xs:List fF}{us:aO}{F:aG}(h:(Tok.res cx β (.row k 42 3 aK xs us)).p w F)(hp:0<xs.length):
  ∃b c cs,β k=.slice (some ⟨b,0,none⟩) xs.length c/\F=[b]/\w.heap[b]? =some (.cells (List.toArray cs) 42 (0,0))/\cs.length=c*3/\xs.length<=c/\c<=maxLen/\TN w (xs.flatMap (enc aK)) [] (cs.take (xs.length*3)):=by
 obtain⟨_,bs,us,rfl,hg,_⟩:=h;have hb:bs=[]:=hg.tn.pq (nk rfl);subst hb;rcases hg.row.2 with⟨_,e2⟩|⟨b,cap,cur,e1,e2,e3,e4,e5,e6,e7⟩
 .exact absurd e2 (by show ¬xs.length=0;omega)
 .refine⟨b,cap,cur.toList,e1,?_,by simpa using e3,by simpa using e6,e4,e5,?_⟩
  .rw[e1];rfl
  .have:=hg.tn;rw[<-e7]at this;exact this
theorem KZ{w':World}{xs:List fF}{us:aO}(h:TN w (xs.flatMap (enc aK)) [] us):TN w' (xs.flatMap (enc aK)) [] us:=(h.flat (nk rfl)).2 w'
theorem Hg{xs:List fF}{us:aO}(h:TN w (xs.flatMap (enc aK)) [] us):us.length=xs.length*3:=by rw[h.length,aN];rfl
theorem pE:∀{ds:List D} {bs:aG} {us:aO},TN w ds bs us->(∀d∈ds,∃y,d=D.v y)->∀v∈us,v.oneCell'=true
 |[],_,_,h,_=>by obtain⟨rfl,_⟩:=TN.nil.1 h;simp
 |d::ds,_,_,h,hf=>by
  obtain⟨b1,b2,u,us',rfl,rfl,h1,h2⟩:=TN.cons.1 h;obtain⟨y,rfl⟩:=hf d (by simp);obtain⟨rfl,_,h3⟩:=T1.v.1 h1;intro v hv;rcases List.mem_cons.1 hv with rfl|hv
  .exact h3
  .exact pE h2 (fun d hd=>hf d (by simp[hd])) v hv
theorem Cc{xs ys:List fF}{us vs:aO}(h1:TN w (xs.flatMap (enc aK)) [] us)(h2:TN w (ys.flatMap (enc aK)) [] vs):TN w ((xs++ys).flatMap (enc aK)) [] (us++vs):=by
 rw[List.flatMap_append];exact TN.append.2 ⟨[],[],us,vs,rfl,rfl,h1,h2⟩
theorem zw{xs:List fF}{us:aO}(h:TN w (xs.flatMap (enc aK)) [] us)(k:Nat)(hk:k<=xs.length):TN w ((xs.take k).flatMap (enc aK)) [] (us.take (k*3))/\TN w ((xs.drop k).flatMap (enc aK)) [] (us.drop (k*3)):=by
 have h1:=h;rw[<-List.take_append_drop k xs,List.flatMap_append]at h1;obtain⟨b1,b2,u1,u2,rfl,e,h2,h3⟩:=TN.append.1 h1;have e1:b1=[]/\b2=[]:=by simpa using e.symm
 obtain⟨rfl,rfl⟩:=e1;have hl:u1.length=k*3:=by rw[Hg h2,List.length_take,Nat.min_eq_left hk]
 rw[List.take_left' hl,List.drop_left' hl];exact⟨h2,h3⟩
theorem MS{v:Value}{b c:Nat}{cs:aO}{xs:List fF}{w':World}(hv:v=.slice (some ⟨b,0,none⟩) xs.length c)(h1:w'.heap[b]? =some (.cells cs.toArray 42 (0,0)))(h2:cs.length=c*3)(h3:xs.length<=c)(h4:c<=maxLen)(h5:TN w' (xs.flatMap (enc aK)) [] (cs.take (xs.length*3))):
  (qz v 42 3 (List.length (α:=El aK) xs) (List.flatMap (enc aK) xs) []).p w' [b]:=by
 subst hv;refine⟨[],cs.take (xs.length*3),by rfl,⟨⟨?_,.inr ⟨b,c,cs.toArray,rfl,Nat.zero_le _,h1,h3,h4,by simpa using h2,by simp⟩⟩,h5,Own.nil _ _,by simp⟩,nP⟩;rw[List.length_take];omega
theorem RD{xs:List fF}{us:aO}{i:Nat}(hi:i<xs.length):au Try.prog 61 [.sl 10000,.int .i64 (i:Nat),.int .i64 ((i+1:Nat):Int)] [.row 10000 42 3 aK xs us] (.sl 10001) [.row 10001 42 3 aK (xs.take i++xs.drop (i+1)) []]:=by
 refine⟨(by kernel_rfl),fun cx β w fr vs H hd=> ?_⟩;obtain⟨F,hS,hF,hback⟩:=Inv.frame (pre:=[Tok.res cx β (.row 10000 42 3 aK xs us)]) (rest:=fr) H;obtain⟨F1,G1,rfl,hp,rfl,_⟩:=hS;obtain⟨b,c,cs,hb,rfl,hg,hlen,hnc,hcm,ht⟩:=PX hp (by omega);unfold aj at hd;obtain⟨v1,l1,rfl,d1,hd⟩:=hd;unfold aj at hd;obtain⟨v2,l2,rfl,d2,hd⟩:=hd;unfold aj at hd;obtain⟨v3,l3,rfl,d3,hd⟩:=hd;unfold aj at hd;subst hd;unfold Den at d1 d2 d3;obtain⟨rfl, -⟩:=d1;subst d2 d3;rw[hb];have hcm':c<=9223372036854775807:=by unfold maxLen at hcm;omega
 refine(FK (j:=i+1) hg hlen hnc hcm' (by omega) (by omega) ?_).mono ?_
 .exact pE ht (nk rfl)
 .rintro e w' ⟨rfl,cs',h1,h2,h3,h4⟩;have hxl:(xs.take i++xs.drop (i+1)).length=xs.length-1:=by simp;omega
  refine⟨_,up β 10001 (.slice (some ⟨b,0,none⟩) (xs.length-1) c),rfl,fun g h5 h6=> ?_,?_,?_⟩
  .have:g=10000:=by simp at h6;omega
   subst this;rfl
  .unfold Den;rw[bN,show i+1-i=1 by omega];exact⟨rfl,_,_,_,rfl⟩
  .refine hback w' [Tok.res cx _ _] ⟨by simpa using h4,[b],⟨[b],[],rfl,⟨rfl,?_⟩,rfl,by simp⟩,by simp⟩;rw[bN];refine MS (b:=b) (c:=c) (cs:=cs') (by rw[hxl]) h1 (by omega) (by omega) hcm ?_;rw[hxl];rw[show i+1-i=1 by omega]at h3;rw[h3];refine KZ (w:=w) (Cc ?_ (zw ht (i+1) (by omega)).2);have:=(zw ht i (by omega)).1
   rwa[List.take_take,Nat.min_eq_left (by omega)]at this
end
end Go.Proofs.Ytbakpddomlgjbaa
