
/- A lazy reduction recorded by both sides: the states on the way. Printed by gen_hr.py. -/
import Derived.Test.YtcjhkgfmklgikaaGreatShort
import Derived.Test.YtcjhkgfmklgikaaGreatUg
import Derived.Test.YtcjhkgfmklgikaaGreatHi
set_option linter.unusedSimpArgs false
set_option linter.unusedVariables false
namespace Go.Proofs.YtcjhkgfmklgikaaGreat
open Go Go.RowKit Go.Proofs Go.Tr
inductive Ee(bk:List (List aj))(st:Int):List (Int×Bool)→List aj→List aj→List aT→Int→List aT→Prop
 |done {kv:List (Int×Bool)} {xs ys:List aj} {ev:List aT} (T:Tr.Twin kv xs ys) (w:yI (fun _=>False) xs) (hl:xs.length≤3000) (hX:(xI true xs).1=true):Ee bk st kv xs ys ev 0 ev
 |stuck {kv:List (Int×Bool)} {xs ys:List aj} {ev:List aT} (T:Tr.Twin kv xs ys) (w:yI (fun _=>False) xs) (hl:xs.length≤3000) (hX:(xI true xs).1=false) (nX:fU xs (au xs (xI true xs).2)=none):Ee bk st kv xs ys ev 5 []
 |full {kv:List (Int×Bool)} {xs ys:List aj} {ev:List aT} (T:Tr.Twin kv xs ys) (w:yI (fun _=>False) xs) (hl:xs.length≤3000) (hX:(xI true xs).1=false) (X:Int×Int) (nX:fU xs (au xs (xI true xs).2)=some X) (e:((ev.length:Nat):Int)=st):Ee bk st kv xs ys ev 12 []
 |bad {kv:List (Int×Bool)} {xs ys:List aj} {ev:List aT} (T:Tr.Twin kv xs ys) (w:yI (fun _=>False) xs) (hl:xs.length≤3000) (hX:(xI true xs).1=false) (X:Int×Int) (nX:fU xs (au xs (xI true xs).2)=some X) (e:((ev.length:Nat):Int)<st) (code:Int) (hc:code≠0)
  (hI:∀us,aA Tryz.prog 49 [.ptr 10000 0,vP (OX X)] (tR xs us bk kv ev) (.int .i64 code) (tR xs us bk kv ev))
  (hS:∀us,aA Tryz.prog 45 [.rsl bO bk,.ptr 10000 0,.int .i64 (OX X).1,.int .i64 (OX X).2] (tA ys us) (.tup [OP (0,0,0,0,0),.int .i64 code]) (tA ys us)):Ee bk st kv xs ys ev code []
 |over {kv:List (Int×Bool)} {xs ys:List aj} {ev:List aT} (T:Tr.Twin kv xs ys) (w:yI (fun _=>False) xs) (hl:xs.length≤3000) (hX:(xI true xs).1=false) (X:Int×Int) (nX:fU xs (au xs (xI true xs).2)=some X) (e:((ev.length:Nat):Int)<st) (code:Int) (hc:code≠0) (x' y':List aj) (kv':List (Int×Bool)) (ev':List aT)
  (hI:∀us,aA Tryz.prog 49 [.ptr 10000 0,vP (OX X)] (tR xs us bk kv ev) (.int .i64 code) (Un 10005 10006 x' us bk kv' ev'))
  (hS:∀us,aA Tryz.prog 45 [.rsl bO bk,.ptr 10000 0,.int .i64 (OX X).1,.int .i64 (OX X).2] (tA ys us) (.tup [OP (0,0,0,0,0),.int .i64 code]) (J3 10002 y' [])):Ee bk st kv xs ys ev code []
 |next {kv:List (Int×Bool)} {xs ys:List aj} {ev:List aT} (T:Tr.Twin kv xs ys) (w:yI (fun _=>False) xs) (hl:xs.length≤3000) (hX:(xI true xs).1=false) (X:Int×Int) (nX:fU xs (au xs (xI true xs).2)=some X) (e:((ev.length:Nat):Int)<st) (x' y':List aj) (kv':List (Int×Bool)) (f:aT) {code:Int} {out:List aT}
  (hI:∀us,aA Tryz.prog 49 [.ptr 10000 0,vP (OX X)] (tR xs us bk kv ev) (.int .i64 0) (Un 10005 10006 x' us bk kv' (ev++[f])))
  (hS:∀us,aA Tryz.prog 45 [.rsl bO bk,.ptr 10000 0,.int .i64 (OX X).1,.int .i64 (OX X).2] (tA ys us) (.tup [OP f,.int .i64 0]) (J3 10002 y' [])) (r:Ee bk st kv' x' y' (ev++[f]) code out):Ee bk st kv xs ys ev code out
section
variable {bk:List (List aj)}{st:Int}{kv:List (Int×Bool)}{xs ys:List aj}{ev out:List aT}{c:Int}
theorem Ee.ok(h:Ee bk st kv xs ys ev c out):Tr.Twin kv xs ys∧yI (fun _=>False) xs∧xs.length≤3000:=by
 cases h with
 |done T w hl=>exact⟨T,w,hl⟩
 |stuck T w hl=>exact⟨T,w,hl⟩
 |full T w hl=>exact⟨T,w,hl⟩
 |bad T w hl=>exact⟨T,w,hl⟩
 |over T w hl=>exact⟨T,w,hl⟩
 |next T w hl=>exact⟨T,w,hl⟩
end
theorem Nz{bk:List (List aj)}{st:Int}(hb:Kg bk)(h300:st≤300):∀(n:Nat) {kv:List (Int×Bool)} {xs ys:List aj} {ev:List aT},Tr.Twin kv xs ys→yI (fun _=>False) xs→xs.length≤3000→((ev.length:Nat):Int)≤st→st≤((ev.length+n:Nat):Int)→∃code out,Ee bk st kv xs ys ev code out∧out.length≤300
 |n,kv,xs,ys,ev,T,w,hl,h1,h2=>by
  cases hX:(xI true xs).1 with
  |true=>exact⟨_,_,.done T w hl hX,by omega⟩
  |false=>
   cases nX:fU xs (au xs (xI true xs).2)with
   |none=>exact⟨_,_,.stuck T w hl hX nX,by simp⟩
   |some X=>
    by_cases he:((ev.length:Nat):Int)=st
    ·exact⟨_,_,.full T w hl hX X nX he,by simp⟩
    have he':((ev.length:Nat):Int)<st:=by omega
    have lX:=kT T.wd true;have nY:=T.QE lX;rw[nX]at nY;obtain⟨a,b⟩:=X;have lY:=kT T.Yh true;rw[T.Zd true]at lY;obtain⟨_,w2,_,_⟩:=T.Yh.wi _ lY;have hin:=T.TK w2 nY;obtain⟨kp,ra,rb,_⟩:=T.Rq hin;cases Rz (ev:=ev) T hb hl (by omega) kp ra rb with
    |bad code hc hI hS=>exact⟨code,[],.bad T w hl hX (a,b) nX he' code hc hI hS,by simp⟩
    |full code hc x' y' kv' ev' hI hS=>exact⟨code,[],.over T w hl hX (a,b) nX he' code hc x' y' kv' ev' hI hS,by simp⟩
    |next x' y' kv' e hI hS tw l1 wl=>
     match n with
     |0=>omega
     |n+1=>
      obtain⟨code,out,r,h⟩:=Nz hb h300 n (ev:=ev++[e]) tw (wl w) l1 (by rw[qA,qJ];omega) (by rw[qA,qJ];omega);exact⟨code,out,.next T w hl hX (a,b) nX he' x' y' kv' e hI hS r,h⟩
end Go.Proofs.YtcjhkgfmklgikaaGreat
