
/- Data of the program as structures, and how they lie in memory. No program in it. Printed by gen_fam.py. -/
import Derived.Test.YtjpaeopdljfjpaaSc
set_option linter.unusedSimpArgs false
set_option linter.unusedVariables false
namespace Go.Tr
open Go Go.RowKit
structure ah where
 todo:(List Int)
 pc:Int
 t:Int
 b:Int
 x:Int
def ah.enc(x:ah):List D:=[.sl x.todo.length (x.todo.flatMap au),.v (.int .i64 x.pc),.v (.int .i64 x.t),.v (.int .i64 x.b),.v (.int .i64 x.x)]
theorem ah.aV(x:ah):x.enc.length=5:=rfl
theorem ah.us{w:World}{x:ah}{bs us}(h0:TN w x.enc bs us):∃(A0:Option Addr) (c0:Nat) (b0:List Nat),us=[.slice A0 x.todo.length c0,.int .i64 x.pc,.int .i64 x.t,.int .i64 x.b,.int .i64 x.x]∧bs=b0∧T1 w (.sl x.todo.length (x.todo.flatMap au)) b0 (.slice A0 x.todo.length c0)∧x.todo.length≤c0∧c0≤maxLen:=by
 unfold ah.enc at h0;obtain⟨A0,c0,b0,r0,u0,rfl,rfl,t0,l0,m0,h1⟩:=TN.eF h0;obtain⟨u1,rfl,h2⟩:=TN.dZ h1;obtain⟨u2,rfl,h3⟩:=TN.dZ h2;obtain⟨u3,rfl,h4⟩:=TN.dZ h3;obtain⟨u4,rfl,h5⟩:=TN.dZ h4;obtain⟨rfl,rfl⟩:=TN.end_ h5;exact⟨A0,c0,b0,rfl,by simp,t0,l0,m0⟩
def ah.small(x:ah):Prop:=(x.todo.length≤1048576)
structure ak where
 actor:Int
 value:Int
def ak.enc(x:ak):List D:=[.v (.int .i64 x.actor),.v (.int .i64 x.value)]
theorem ak.aV(x:ak):x.enc.length=2:=rfl
theorem ak.us{w:World}{x:ak}{bs us}(h0:TN w x.enc bs us):us=[.int .i64 x.actor,.int .i64 x.value]∧bs=[]:=by
 unfold ak.enc at h0;obtain⟨u0,rfl,h1⟩:=TN.dZ h0;obtain⟨u1,rfl,h2⟩:=TN.dZ h1;obtain⟨rfl,rfl⟩:=TN.end_ h2;exact⟨rfl,rfl⟩
def ak.small(_x:ak):Prop:=True
structure aQ where
 top:Int
 bottom:Int
 buffer:(List Int)
 actors:(List ah)
 taken:(List ak)
 refused:(List Int)
def aQ.enc(x:aQ):List D:=[.v (.int .i64 x.top),.v (.int .i64 x.bottom),.sl x.buffer.length (x.buffer.flatMap au),.sl x.actors.length (x.actors.flatMap ah.enc),.sl x.taken.length (x.taken.flatMap ak.enc),.sl x.refused.length (x.refused.flatMap au)]
theorem aQ.aV(x:aQ):x.enc.length=6:=rfl
theorem aQ.us{w:World}{x:aQ}{bs us}(h0:TN w x.enc bs us):∃(A2:Option Addr) (c2:Nat) (b2:List Nat) (A3:Option Addr) (c3:Nat) (b3:List Nat) (A4:Option Addr) (c4:Nat) (b4:List Nat) (A5:Option Addr) (c5:Nat) (b5:List Nat),us=[.int .i64 x.top,.int .i64 x.bottom,.slice A2 x.buffer.length c2,.slice A3 x.actors.length c3,.slice A4 x.taken.length c4,.slice A5 x.refused.length c5]∧bs=b2++b3++b4++b5∧T1 w (.sl x.buffer.length (x.buffer.flatMap au)) b2 (.slice A2 x.buffer.length c2)∧x.buffer.length≤c2∧c2≤maxLen∧T1 w (.sl x.actors.length (x.actors.flatMap ah.enc)) b3 (.slice A3 x.actors.length c3)∧x.actors.length≤c3∧c3≤maxLen∧T1 w (.sl x.taken.length (x.taken.flatMap ak.enc)) b4 (.slice A4 x.taken.length c4)∧x.taken.length≤c4∧c4≤maxLen∧T1 w (.sl x.refused.length (x.refused.flatMap au)) b5 (.slice A5 x.refused.length c5)∧x.refused.length≤c5∧c5≤maxLen:=by
 unfold aQ.enc at h0;obtain⟨u0,rfl,h1⟩:=TN.dZ h0;obtain⟨u1,rfl,h2⟩:=TN.dZ h1;obtain⟨A2,c2,b2,r2,u2,rfl,rfl,t2,l2,m2,h3⟩:=TN.eF h2;obtain⟨A3,c3,b3,r3,u3,rfl,rfl,t3,l3,m3,h4⟩:=TN.eF h3;obtain⟨A4,c4,b4,r4,u4,rfl,rfl,t4,l4,m4,h5⟩:=TN.eF h4;obtain⟨A5,c5,b5,r5,u5,rfl,rfl,t5,l5,m5,h6⟩:=TN.eF h5;obtain⟨rfl,rfl⟩:=TN.end_ h6;exact⟨A2,c2,b2,A3,c3,b3,A4,c4,b4,A5,c5,b5,rfl,by simp,t2,l2,m2,t3,l3,m3,t4,l4,m4,t5,l5,m5⟩
def aQ.small(x:aQ):Prop:=(x.buffer.length≤1048576)∧(x.actors.length≤1048576∧∀y∈x.actors,ah.small y)∧(x.taken.length≤1048576∧∀y∈x.taken,ak.small y)∧(x.refused.length≤1048576)
end Go.Tr
