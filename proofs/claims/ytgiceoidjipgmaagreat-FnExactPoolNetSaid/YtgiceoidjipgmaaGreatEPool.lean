
/- What arguments of these types read as. Printed by gen_dec.py. -/
import Derived.Test.YtgiceoidjipgmaaGreatProg
import Derived.Test.YtgiceoidjipgmaaGreatDec
import Derived.Test.YtgiceoidjipgmaaGreatDPool
import Derived.KernelRfl
set_option linter.unusedSimpArgs false
set_option linter.unusedVariables false
namespace Go.Proofs.YtgiceoidjipgmaaGreat
open Go Go.RowKit Go.Proofs Go.Tr
theorem vC{H:Type}{enc:TypeId×Value→H}{w:World}{spare:Nat→Bool}{held:Bool}:Dec Tryz.prog w enc spare held 24 aN.enc:=fun _ _ _ h=>by
 have hl:=lH Tryz.underlying24 h;rw[show Tryz.prog.cellsOf 24=2 by kernel_rfl]at hl;obtain⟨a0,b0,h0⟩:=bT Tryz.underlying24 h 0 rfl (o:=0) (s:=1) rfl (by kernel_rfl) (iQ Tryz.underlying2);obtain⟨a1,b1,h1⟩:=bT Tryz.underlying24 h 1 rfl (o:=1) (s:=1) rfl (by kernel_rfl) (iQ Tryz.underlying2);exact⟨⟨a0,a1⟩,_,TN.piece h0 (TN.piece h1 (TN.pend hl))⟩
theorem J7{H:Type}{enc:TypeId×Value→H}{w:World}{spare:Nat→Bool}{held:Bool}:Dec Tryz.prog w enc spare held 118 aK.enc:=fun _ _ _ h=>by
 have hl:=lH Tryz.underlying118 h;rw[show Tryz.prog.cellsOf 118=5 by kernel_rfl]at hl;obtain⟨a0,b0,h0⟩:=bT Tryz.underlying118 h 0 rfl (o:=0) (s:=1) rfl (by kernel_rfl) (iQ Tryz.underlying2);obtain⟨a1,b1,h1⟩:=bT Tryz.underlying118 h 1 rfl (o:=1) (s:=1) rfl (by kernel_rfl) (iQ Tryz.underlying2);obtain⟨a2,b2,h2⟩:=bT Tryz.underlying118 h 2 rfl (o:=2) (s:=1) rfl (by kernel_rfl) (iQ Tryz.underlying2);obtain⟨a3,b3,h3⟩:=bT Tryz.underlying118 h 3 rfl (o:=3) (s:=1) rfl (by kernel_rfl) (jm 1 (by omega) Tryz.underlying70 (by kernel_rfl) (iQ Tryz.underlying2))
 obtain⟨a4,b4,h4⟩:=bT Tryz.underlying118 h 4 rfl (o:=4) (s:=1) rfl (by kernel_rfl) (jm 2 (by omega) Tryz.underlying116 (by kernel_rfl) vC);exact⟨⟨a0,a1,a2,a3,a4⟩,_,TN.piece h0 (TN.piece h1 (TN.piece h2 (TN.piece h3 (TN.piece h4 (TN.pend hl)))))⟩
theorem EH{H:Type}{enc:TypeId×Value→H}{w:World}{spare:Nat→Bool}{held:Bool}:Dec Tryz.prog w enc spare held 142 aD.enc:=fun _ _ _ h=>by
 have hl:=lH Tryz.underlying142 h;rw[show Tryz.prog.cellsOf 142=2 by kernel_rfl]at hl;obtain⟨a0,b0,h0⟩:=bT Tryz.underlying142 h 0 rfl (o:=0) (s:=1) rfl (by kernel_rfl) (iQ Tryz.underlying2);obtain⟨a1,b1,h1⟩:=bT Tryz.underlying142 h 1 rfl (o:=1) (s:=1) rfl (by kernel_rfl) (iQ Tryz.underlying2);exact⟨⟨a0,a1⟩,_,TN.piece h0 (TN.piece h1 (TN.pend hl))⟩
theorem FV{H:Type}{enc:TypeId×Value→H}{w:World}{spare:Nat→Bool}{held:Bool}:Dec Tryz.prog w enc spare held 27 bg.enc:=fun _ _ _ h=>by
 have hl:=lH Tryz.underlying27 h;rw[show Tryz.prog.cellsOf 27=5 by kernel_rfl]at hl;obtain⟨a0,b0,h0⟩:=bT Tryz.underlying27 h 0 rfl (o:=0) (s:=1) rfl (by kernel_rfl) (jm 5 (by omega) Tryz.underlying22 (by kernel_rfl) J7);obtain⟨a1,b1,h1⟩:=bT Tryz.underlying27 h 1 rfl (o:=1) (s:=1) rfl (by kernel_rfl) (iQ Tryz.underlying2);obtain⟨a2,b2,h2⟩:=bT Tryz.underlying27 h 2 rfl (o:=2) (s:=2) rfl (by kernel_rfl) vC;obtain⟨a3,b3,h3⟩:=bT Tryz.underlying27 h 3 rfl (o:=4) (s:=1) rfl (by kernel_rfl) (jm 2 (by omega) Tryz.underlying25 (by kernel_rfl) EH)
 exact⟨⟨a0,a1,a2,a3⟩,_,TN.piece h0 (TN.piece h1 (TN.piece h2 (TN.piece h3 (TN.pend hl))))⟩
theorem J8{H:Type}{enc:TypeId×Value→H}{w:World}{spare:Nat→Bool}{held:Bool}:Dec Tryz.prog w enc spare held 180 aS.enc:=fun _ _ _ h=>by
 have hl:=lH Tryz.underlying180 h;rw[show Tryz.prog.cellsOf 180=4 by kernel_rfl]at hl;obtain⟨a0,b0,h0⟩:=bT Tryz.underlying180 h 0 rfl (o:=0) (s:=2) rfl (by kernel_rfl) vC;obtain⟨a1,b1,h1⟩:=bT Tryz.underlying180 h 1 rfl (o:=2) (s:=2) rfl (by kernel_rfl) vC;exact⟨⟨a0,a1⟩,_,TN.piece h0 (TN.piece h1 (TN.pend hl))⟩
theorem FW{H:Type}{enc:TypeId×Value→H}{w:World}{spare:Nat→Bool}{held:Bool}:Dec Tryz.prog w enc spare held 72 aA.enc:=fun _ _ _ h=>by
 have hl:=lH Tryz.underlying72 h;rw[show Tryz.prog.cellsOf 72=5 by kernel_rfl]at hl;obtain⟨a0,b0,h0⟩:=bT Tryz.underlying72 h 0 rfl (o:=0) (s:=1) rfl (by kernel_rfl) (iQ Tryz.underlying2);obtain⟨a1,b1,h1⟩:=bT Tryz.underlying72 h 1 rfl (o:=1) (s:=1) rfl (by kernel_rfl) (iQ Tryz.underlying2);obtain⟨a2,b2,h2⟩:=bT Tryz.underlying72 h 2 rfl (o:=2) (s:=1) rfl (by kernel_rfl) (jm 2 (by omega) Tryz.underlying25 (by kernel_rfl) EH);obtain⟨a3,b3,h3⟩:=bT Tryz.underlying72 h 3 rfl (o:=3) (s:=1) rfl (by kernel_rfl) (jm 4 (by omega) Tryz.underlying69 (by kernel_rfl) J8)
 obtain⟨a4,b4,h4⟩:=bT Tryz.underlying72 h 4 rfl (o:=4) (s:=1) rfl (by kernel_rfl) (jm 1 (by omega) Tryz.underlying70 (by kernel_rfl) (iQ Tryz.underlying2));exact⟨⟨a0,a1,a2,a3,a4⟩,_,TN.piece h0 (TN.piece h1 (TN.piece h2 (TN.piece h3 (TN.piece h4 (TN.pend hl)))))⟩
theorem J9{H:Type}{enc:TypeId×Value→H}{w:World}{spare:Nat→Bool}{held:Bool}:Dec Tryz.prog w enc spare held 30 bP.enc:=fun _ _ _ h=>by
 have hl:=lH Tryz.underlying30 h;rw[show Tryz.prog.cellsOf 30=7 by kernel_rfl]at hl;obtain⟨a0,b0,h0⟩:=bT Tryz.underlying30 h 0 rfl (o:=0) (s:=5) rfl (by kernel_rfl) FV;obtain⟨a1,b1,h1⟩:=bT Tryz.underlying30 h 1 rfl (o:=5) (s:=1) rfl (by kernel_rfl) (jm 5 (by omega) Tryz.underlying28 (by kernel_rfl) FW);obtain⟨a2,b2,h2⟩:=bT Tryz.underlying30 h 2 rfl (o:=6) (s:=1) rfl (by kernel_rfl) (iQ Tryz.underlying2);exact⟨⟨a0,a1,a2⟩,_,TN.piece h0 (TN.piece h1 (TN.piece h2 (TN.pend hl)))⟩
end Go.Proofs.YtgiceoidjipgmaaGreat
