/- The program's peers. Printed by gen_neti.py. -/
import Derived.Test.YtmmdkchhahnenaaProg
import Derived.Test.YtmmdkchhahnenaaAgents
import Derived.Test.YtmmdkchhahnenaaNet
import Derived.Test.YtmmdkchhahnenaaQDbg
import Derived.Test.YtmmdkchhahnenaaGrow
import Derived.Test.YtmmdkchhahnenaaNetI
import Derived.BigGuardPart
import Derived.StillTailTactics
import Derived.BigRegion
import Derived.Deep.CutBlock
set_option linter.unusedSimpArgs false
set_option linter.unusedVariables false
namespace Go.Proofs.Ytmmdkchhahnenaa
open Go Go.RowKit Go.Proofs Go.Tr
set_option maxRecDepth 100000 in
set_option maxHeartbeats 4000000 in
theorem peer_any (x : GNet) (b o : Nat) (bs : List Nat) (p : GPort) (w : World) (h : PtAt w b o x.enc bs) (hp : portIn x.agents p = true) : Calls Try.prog 259 #[.pointer (some ⟨b, o, none⟩), .agg #[.int .i64 p.agent, .int .i64 p.slot]] w fun e w' => e = .returned (.agg #[.int .i64 (peerOf x.agents p).agent, .int .i64 (peerOf x.agents p).slot]) ∧ Ext w w' := by
  refine quiet_start fun e => ?_
  obtain ⟨A0, c0, b0, h0, t0⟩ := GNet.pt h
  have hltn := h.lt
  obtain ⟨i, s, a, r, rfl, hi, ha, hs, hr, hpeer⟩ := portIn_t hp
  rw [hpeer]
  clear hpeer hp
  obtain ⟨bz, oz, z, bs3, rfl, hzi, hz⟩ := T1.elem GAgent.enc_len t0 Hid_rfl hi
  obtain ⟨_, rfl⟩ : True ∧ z = a := ⟨trivial, Option.some.inj (hzi.out.symm.trans ha.out)⟩
  obtain ⟨A3, c3, b3, A5, c5, b5, u0, u1, u2, u3, u4, t3, t5⟩ := GAgent.pt hz
  have hn5 := t5.nle
  have hn0 := t0.nle
  clear u0 u1 u2 u3 t3
  obtain ⟨bt, ot, r', bs4, rfl, hrs, hrr⟩ := T1.elem GPort.enc_len t5 Hid_rfl hs
  obtain ⟨_, rfl⟩ : True ∧ r' = r := ⟨trivial, Option.some.inj (hrs.out.symm.trans hr.out)⟩
  obtain ⟨r0, r1⟩ := GPort.pt hrr
  clear h hz hrr hltn
  have i0 : (0 : Int) ≤ (i : Int) := by omega
  have i1 : (i : Int) < (x.agents.length : Int) := by omega
  have s0 : (0 : Int) ≤ (s : Int) := by omega
  have s1 : (s : Int) < (z.ports.length : Int) := by omega
  go_enter Try.func259, Try.ntmps259
  go_upto_region 1 with (fail)
  generalize hg2 : e.to.heap.size + 1 = g2
  generalize hg1 : e.to.heap.size = g1
  refine open_box2 e hg1 hg2 (fun w1 hx1 hge1 hne hge2 r1_ r2_ => ?_)
  clear hg1 hg2
  have q0 := h0.in_ hx1
  have q4 := u4.in_ hx1
  have q5 := r0.in_ hx1
  have q6 := r1.in_ hx1
  clear h0 u4 r0 r1
  have k0 := row_cell (i := 0) r1_ rfl
  have k1 := row_cell (i := 1) r1_ rfl
  have m0 := row_cell (i := 0) r2_ rfl
  have m1 := row_cell (i := 1) r2_ rfl
  have f2 : ∀ o, w1.frozen? ⟨g2, o, none⟩ = false := fz_of_row r2_
  clear r1_ r2_
  go_still_tail 13, (by kernel_rfl)
  go_wp2_with fail
  refine bodyPost_ret (v := .agg #[.int .i64 r'.agent, .int .i64 r'.slot]) (by simp [results, Try.results259, go_sem, *]) rfl ⟨rfl, ⟨_, ?_⟩, rfl⟩
  exact (((hx1.drewN _).setCell (by simpa using hge2) _).setCell (by simpa using hge2) _)
end Go.Proofs.Ytmmdkchhahnenaa
