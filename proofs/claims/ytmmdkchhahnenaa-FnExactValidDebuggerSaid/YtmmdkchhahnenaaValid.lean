/- Books, schedules and debuggers as plain functions: what makes them valid. No program in it. -/
import Derived.Test.YtmmdkchhahnenaaNet
set_option linter.unusedSimpArgs false
set_option linter.unusedVariables false
namespace Go.Tr
open Go Go.RowKit
def nilNet : GNet := ⟨[]⟩
def netAt (l : List GNet) (k : Nat) : GNet := l.getD k nilNet
theorem netAt_of {l : List GNet} {k : Nat} {x : GNet} (h : Hid (l[k]? = some x)) : netAt l k = x := getD_of h
def originAt (l : List GOrigin) (k : Nat) : GOrigin := l.getD k ⟨0, 0, 0⟩
theorem originAt_of {l : List GOrigin} {k : Nat} {x : GOrigin} (h : Hid (l[k]? = some x)) : originAt l k = x := getD_of h
def breakAt (l : List GBreak) (k : Nat) : GBreak := l.getD k ⟨0, 0⟩
theorem breakAt_of {l : List GBreak} {k : Nat} {x : GBreak} (h : Hid (l[k]? = some x)) : breakAt l k = x := getD_of h
def pointAt (l : List GCheckpoint) (k : Nat) : GCheckpoint := l.getD k ⟨0, nilNet, []⟩
theorem pointAt_of {l : List GCheckpoint} {k : Nat} {x : GCheckpoint} (h : Hid (l[k]? = some x)) : pointAt l k = x := getD_of h
noncomputable def bookB (l : List GNet) : Bool := decide ((l.length : Int) ≤ 24) && allTo l.length fun k => netB (netAt l k)
def schedB (l : List Int) : Bool := decide ((l.length : Int) ≤ 200) && allTo l.length fun k => inB (intAt l k) 0 600
def origOk (o : GOrigin) (t : Int) : Bool := inB o.step 0 t && inB o.def_ (-1) 23 && inB o.source (-1) 599 && (decide (0 ≤ o.source) || decide (o.def_ < 0))
def origsOk (l : List GOrigin) (t : Int) : Bool := allTo l.length fun k => origOk (originAt l k) t
noncomputable def keptB (n : GNet) (l : List GOrigin) (t : Int) : Bool := netB n && ((l.length : Int) == (n.agents.length : Int)) && origsOk l t
def brkOk (b : GBreak) : Bool := if b.kind == 1 then inB b.value 1 8 else if b.kind == 2 then inB b.value 0 23 else if b.kind == 3 then inB b.value 1 600 else false
noncomputable def pointB (every : Int) (k : Nat) (p : GCheckpoint) : Bool := (p.at_ == (k : Int) * every) && keptB p.net p.origins p.at_
noncomputable def debuggerB (d : GDebugger) : Bool :=
  bookB d.book && schedB d.schedule && inB d.every 1 50 && inB d.at_ 0 4000 && keptB d.net d.origins d.at_ && decide ((d.breaks.length : Int) ≤ 8) && (allTo d.breaks.length fun k => brkOk (breakAt d.breaks k)) &&
    inB d.points.length (d.at_ / d.every + 1) (4000 / d.every + 1) && allTo d.points.length fun k => pointB d.every k (pointAt d.points k)
end Go.Tr
