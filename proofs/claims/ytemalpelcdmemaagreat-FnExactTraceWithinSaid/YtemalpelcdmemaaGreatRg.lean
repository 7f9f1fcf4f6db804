
/- One interaction of the program's and of the reference's nets. -/
import Derived.Test.YtemalpelcdmemaaGreatShort
import Derived.Test.YtemalpelcdmemaaGreatIo
import Derived.Test.YtemalpelcdmemaaGreatJh
import Derived.Test.YtemalpelcdmemaaGreatNy
import Derived.Test.YtemalpelcdmemaaGreatRa
set_option linter.unusedSimpArgs false
set_option linter.unusedVariables false
set_option linter.unusedSectionVars false
namespace Go.Proofs.YtemalpelcdmemaaGreat
open Go Go.RowKit Go.Proofs Go.Tr
inductive Inter (bk : List (List NAgent)) (kv : List (Int × Bool)) (xs ys : List NAgent) (a b : Int) : Prop
 | bad (code : Int) (hc : code ≠ 0)
  (hI : ∀ us, FCall Tryz.prog 103 [.ptr 10000 0, vP (a, b)] (tW xs us bk kv) (.int .i64 code) (tW xs us bk kv))
  (hA : ∀ us, FCall Tryz.prog 126 [.rsl uNet bk, .ptr 10000 0, .int .i64 a, .int .i64 b] (tA ys us) (.int .i64 code) (tA ys us))
 | ok (x' y' : List NAgent) (kv' : List (Int × Bool))
  (hI : ∀ us, FCall Tryz.prog 103 [.ptr 10000 0, vP (a, b)] (tW xs us bk kv) (.int .i64 0) (tWn 10003 x' us bk kv'))
  (hA : ∀ us, FCall Tryz.prog 126 [.rsl uNet bk, .ptr 10000 0, .int .i64 a, .int .i64 b] (tA ys us) (.int .i64 0) (tAn 10002 y' []))
  (tw : Tr.Twin kv' x' y') (l0 : xs.length ≤ x'.length) (l1 : x'.length ≤ xs.length + 600)
  (sg : x'.map sig = xs.map sig ++ nwA bk (agAt xs a) (agAt xs b)) (cl : classS (agAt xs a) (agAt xs b) ≠ 8)
theorem inter_step {bk : List (List NAgent)} {kv : List (Int × Bool)} {xs ys : List NAgent} {a b : Int} (T : Tr.Twin kv xs ys) (k : Pair2 (Gone kv) xs a b) (ra : (agAt xs a).1 ≠ 1) (rb : (agAt xs b).1 ≠ 1) (hb : BkS bk) (hl : xs.length ≤ 700000) : Inter bk kv xs ys a b := by
 have ha0 : 0 ≤ a ∧ a < (xs.length : Nat) := ⟨k.px.1, k.px.2.1⟩; have hb0 : 0 ≤ b ∧ b < (xs.length : Nat) := ⟨k.py.1, k.py.2.1⟩; have hlen := T.len; have ha1 : 0 ≤ a ∧ a < (ys.length : Nat) := by rw [← hlen]; exact ha0
 have hb1 : 0 ≤ b ∧ b < (ys.length : Nat) := by rw [← hlen]; exact hb0
 have ea := T.at_ ha0.1 ha0.2 k.lx; have eb := T.at_ hb0.1 hb0.2 k.ly; have wa := T.wf a ha0.1 ha0.2 k.lx; have wb := T.wf b hb0.1 hb0.2 k.ly; have ef : firstS ys a b = firstS xs a b := by unfold firstS; rw [ea, eb]
 obtain ⟨q1, q2⟩ := class_eq wa wb ra rb; obtain ⟨c1, c2⟩ := code_eq wa wb ra rb hb.toBkW; have kf := k.first T.st
 have rf : (agAt xs (firstS xs a b).1).1 ≠ 1 ∧ (agAt xs (firstS xs a b).2).1 ≠ 1 := by
  unfold firstS; cases pairFirst (agAt xs a).1 (agAt xs a).2.1 (agAt xs b).1 (agAt xs b).2.1 == 2
  ·exact ⟨ra, rb⟩
  ·exact ⟨rb, ra⟩
 have hx7 : (classFN (agAt xs (a, b).1) (agAt xs (a, b).2)).1 = 7 → 0 ≤ (agAt xs (bif (classFN (agAt xs (a, b).1) (agAt xs (a, b).2)).2 then (a, b).2 else (a, b).1)).2.2.1 ∧ 0 ≤ (agAt xs (bif (classFN (agAt xs (a, b).1) (agAt xs (a, b).2)).2 then (a, b).2 else (a, b).1)).2.1 ∧ (agAt xs (bif (classFN (agAt xs (a, b).1) (agAt xs (a, b).2)).2 then (a, b).2 else (a, b).1)).2.1 ≤ 8 := fun e => by
  have e' : (classFN (agAt xs a) (agAt xs b)).1 = 7 := e; obtain ⟨k1, k2, k3, k4, k5⟩ := q2 (by rw [e']; decide); rw [e'] at k3; have e2 : (bif (classFN (agAt xs (a, b).1) (agAt xs (a, b).2)).2 then (a, b).2 else (a, b).1) = (firstS xs a b).1 := k1; rw [e2]; have w1 := T.wf (firstS xs a b).1 kf.px.1 kf.px.2.1 kf.lx; have h1 := wf_ref_v w1 ((rule_cases k3 (by decide)).2.2.2.2.2.2 rfl).1; have h2 := wf_lev w1; refine ⟨h1.1, ?_⟩; omega
 generalize hxy : firstS xs a b = xy at *; obtain ⟨x, y⟩ := xy; simp only at q1 q2 c1 c2 kf rf; have hx0 : 0 ≤ x ∧ x < (xs.length : Nat) := ⟨kf.px.1, kf.px.2.1⟩; have hy0 : 0 ≤ y ∧ y < (xs.length : Nat) := ⟨kf.py.1, kf.py.2.1⟩; have ex := T.at_ hx0.1 hx0.2 kf.lx; have ey := T.at_ hy0.1 hy0.2 kf.ly
 have hv : classS (agAt ys (firstS ys a b).1) (agAt ys (firstS ys a b).2) = 7 → 0 ≤ (agAt ys (firstS ys a b).1).2.2.1 := fun e => by
  rw [ef] at e ⊢; simp only at e ⊢; rw [ex, ey] at e; rw [ex]; obtain ⟨k1, k2, k3, k4, k5⟩ := q2 (by rw [q1, e]; decide); rw [q1, e] at k3; exact (wf_ref_v (T.wf x hx0.1 hx0.2 kf.lx) ((rule_cases k3 (by decide)).2.2.2.2.2.2 rfl).1).1
 have hly : ys.length ≤ 800000 := by omega
 cases hge : growS bk (agAt xs x) (agAt xs y) with
 | mk g e =>
  rw [hge] at c1 c2
  have hgy : growS bk (agAt ys (firstS ys a b).1) (agAt ys (firstS ys a b).2) = (g, e) := by
   rw [ef]; simp only; rw [ex, ey]; exact hge
  by_cases he : e = 0
  ·subst he; obtain ⟨k1, k2, k3⟩ := c2 rfl
   have hn8 : classS (agAt xs x) (agAt xs y) ≠ 8 := fun e8 => by
    unfold growS at hge; rw [e8] at hge; cases hge
   obtain ⟨_, _, hr, h1, h7⟩ := q2 (by rw [q1]; exact hn8); rw [q1] at hr h1 h7; generalize hc : classS (agAt xs x) (agAt xs y) = c at *; have hc7 : 1 ≤ c ∧ c ≤ 7 := ⟨h1, h7⟩
   have hcl : clashS (agAt xs x) (agAt xs y) = false := by
    unfold classS at hc; cases h : clashS (agAt xs x) (agAt xs y) with
    | false => rfl
    | true => rw [h] at hc; exact absurd hc.symm hn8
   obtain ⟨sx, sy, v0, tw, hln⟩ := T.next (bk := bk) kf hb.toBkV rf.1 rf.2 hr hc7 hcl k3; have h7' : c = 7 → 0 ≤ (agAt xs x).2.2.1 ∧ (agAt xs x).2.2.1 < (bk.length : Nat) := fun e => ⟨v0 e, (k3 e).1⟩
   have hlv := T.live; have hw : IntKind.i64.wrap ((xs.length : Nat) - (kv.length : Nat)) = ((liveTo ys ys.length : Nat) : Int) := by rw [← hlv, IntWalk.i64_in _ (by omega)]; omega
   have hck : checkN bk xs (a, b) = (c, x, y, 0) := k1
   by_cases hf : 600 < IntKind.i64.wrap ((liveTo ys ys.length : Nat) + g)
   ·refine .bad 4 (by decide) (fun us => ?_) (fun us => ?_)
    ·exact interFull xs us bk kv (a, b) ha0 hb0 hb.ok hb.small hx7 hck hx0 hy0 h7' (by rw [hw, k2]; exact hf)
    ·exact doFullA bk ys us a b ha1 hb1 hb.small hly hv hgy hf
   ·have pA : PortIn ys (y, 0) := by
     have := T.st.ag.port kf.py kf.ly; exact this.1
    have wx := T.wf x hx0.1 hx0.2 kf.lx; have lx := wf_lev wx; have lx2 : 0 ≤ (agAt xs x).2.1 ∧ (agAt xs x).2.1 ≤ 8 := by omega
    have hpos : 0 < xs.length := T.rl; have hbkv : ∀ v : Int, 0 ≤ v → bkAt bk v = bkAt bk (v.toNat : Nat) := fun v h => by rw [show ((v.toNat : Nat) : Int) = v by omega]
    have exq : agAt ys (firstS ys a b).1 = agAt xs x := by rw [ef]; exact ex
    refine .ok (interN bk xs c x y) (doneS bk ys c x y) (remN kv (goneN c x y)) (fun us => ?_) (fun us => ?_) tw (by omega) ?_ ?_ ?_
    ·refine interOk xs us bk kv (a, b) ha0 hb0 hb.ok hb.small hx7 hck hc7 sx.toIntPre T.al T.p0 (by omega) h7' (by rw [hw, k2]; exact hf) fun e us => ?_
     have F := hb.exp (v0 e) (k3 e).1 xs (agAt xs x).2.1 ((xs.length : Int) - 1) rfl hpos; have hsm : NetSmall (bkAt bk (agAt xs x).2.2.1) := by rw [hbkv _ (v0 e)]; exact hb.small _
     have hok8 : ∀ i : Nat, 0 ≤ (agAt (bkAt bk (agAt xs x).2.2.1) i).2.1 ∧ (agAt (bkAt bk (agAt xs x).2.2.1) i).2.1 ≤ 8 := by rw [hbkv _ (v0 e)]; exact fun i => hb.ok _ i
     have htl := hb.tl _ (v0 e) (k3 e).1; exact expI (bkAt bk (agAt xs x).2.2.1) xs us bk kv x y hx0 (h7' e) rfl (by omega) hsm F.two (by omega) F.r0 lx2 hok8 (k3 e).2 F.bs F.ps F.rs kf.py.app F.top
    ·refine doOkA bk ys us a b ha1 hb1 hb.small hly hv (by rw [ef]) (by rw [ex, ey]; exact hc) (by rw [ex, ey]; exact hge) hc7 sy T.ally T.p0y (by rw [ex]; exact h7') hf fun e us => ?_
     rw [ex]; have F := hb.exp (v0 e) (k3 e).1 ys (agAt xs x).2.1 ((ys.length : Int) - 1) rfl (by omega); have hsm : NetSmall (bkAt bk (agAt xs x).2.2.1) := by rw [hbkv _ (v0 e)]; exact hb.small _
     have hok8 : ∀ i : Nat, 0 ≤ (agAt (bkAt bk (agAt xs x).2.2.1) i).2.1 ∧ (agAt (bkAt bk (agAt xs x).2.2.1) i).2.1 ≤ 8 := by rw [hbkv _ (v0 e)]; exact fun i => hb.ok _ i
     have htl := hb.tl _ (v0 e) (k3 e).1; have htop := F.top; rw [F.pe, ← F.ex, Int.add_comm] at htop; exact expA (bkAt bk (agAt xs x).2.2.1) ys us x y (agAt xs x).2.1 (by rw [ex]) (by rw [← hlen]; exact hx0) (by omega) hsm (by have := F.two; omega) (by omega) (Int.ofNat_lt.1 F.r0.2.2.2) lx2 hok8 F.bt pA htop
    ·have n1 := (wf_small wx).2; have n2 := (wf_small (T.wf y hy0.1 hy0.2 kf.ly)).2; have := news_len (c := c) hb n2 n1 h7'; omega
    ·have hf1 := classS_first xs a b; rw [hxy] at hf1; have hf2 : c = classS (agAt xs a) (agAt xs b) := by rw [← hf1, ← hc]
     have := inter_maps (bk := bk) (xs := xs) (x := a) (y := b) (by rw [← hf2]; exact hc7) (z := x) (w := y) (by omega) hxy; rw [hc] at this; exact this
    ·have hf1 := classS_first xs a b; rw [hxy] at hf1; have hf2 : classS (agAt xs x) (agAt xs y) = classS (agAt xs a) (agAt xs b) := hf1; rw [← hf2, hc]; exact hn8
  ·refine .bad e he (fun us => ?_) (fun us => ?_)
   ·have h1 := c1 he; have := interBad xs us bk kv (a, b) ha0 hb0 hb.ok hb.small hx7 (by rw [h1]; exact he); rw [h1] at this; exact this
   ·exact doBadA bk ys us a b ha1 hb1 hb.small hly hv hgy he
theorem eqInts_eq : ∀ {a b : List Int}, a.length = b.length → eqInts a b = true → a = b
 | [], [], _, _ => rfl
 | [], _ :: _, hl, _ => by cases hl
 | _ :: _, [], hl, _ => by cases hl
 | x :: a, y :: b, hl, h => by
  unfold eqInts at h; rw [Bool.and_eq_true, beq_iff_eq] at h; rw [h.1, eqInts_eq (by simpa using hl) h.2]
section
variable {bk : List (List NAgent)} {kv : List (Int × Bool)} {xs ys : List NAgent}
theorem there_eq (T : Tr.Twin kv xs ys) (k : Int) : thereS ys k = thereI xs kv k := by
 have hl := T.len; unfold thereS thereI; cases hb : hasB xs k with
 | false =>
  have e : inB k 0 ((ys.length : Int) - 1) = false := by
   cases h : inB k 0 ((ys.length : Int) - 1) with
   | false => rfl
   | true =>
    have := inB_t h
    have h2 : hasB xs k = true := by
     unfold hasB; rw [show decide (0 ≤ k) = true by simp; omega]; simp only [cond_true, decide_eq_true_eq]; omega
    rw [h2] at hb; cases hb
  rw [e]; rfl
 | true =>
  obtain ⟨h0, h1⟩ := hasB_t hb
  have e : inB k 0 ((ys.length : Int) - 1) = true := by
   unfold inB; simp only [Bool.and_eq_true, decide_eq_true_eq]; omega
  rw [e]; simp only [cond_true]; cases hk : kvGet false kv k with
  | true =>
   rw [(T.hole k hk).2]; rfl
  | false =>
   have hd : ¬ Gone kv k := fun e => by
    have e' : kvGet false kv k = true := e; rw [hk] at e'; cases e'
   rw [T.at_ h0 h1 hd]; have := wf_kind (T.wf k h0 h1 hd); simp; omega
theorem there_live {k : Int} (h : thereI xs kv k = true) : (0 ≤ k ∧ k < (xs.length : Nat)) ∧ ¬ Gone kv k := by
 refine ⟨there_in h, fun e => ?_⟩; have e' : kvGet false kv k = true := e; unfold thereI at h; rw [e'] at h; cases hb : hasB xs k <;> rw [hb] at h <;> cases h
theorem root_iff (T : Tr.Twin kv xs ys) {k : Int} (h : (0 ≤ k ∧ k < (xs.length : Nat)) ∧ ¬ Gone kv k) : (agAt xs k).1 = 1 ↔ k = 0 := by
 constructor
 ·intro e
  by_cases h0 : k = 0
  ·exact h0
  ·exact absurd e (T.uq k (by omega) h.1.2 h.2)
 ·intro e; rw [e]; exact T.r1
theorem active_eq (T : Tr.Twin kv xs ys) {a b : Int} (ha : thereI xs kv a = true) (hb : thereI xs kv b = true) : activeS ys a b = activeI xs a b := by
 have la := there_live ha; have lb := there_live hb; have ra := root_iff T la; have rb := root_iff T lb; unfold activeS activeI; rw [T.at_ la.1.1 la.1.2 la.2]
 by_cases h : a < b
 ·rw [show decide (a < b) = true by simpa using h]; simp only [cond_true]
  have nb : ((agAt xs b).1 != 1) = true := by
   rw [bne_iff_ne]; intro e; have := rb.1 e; omega
  rw [nb]
  by_cases h0 : 0 < a
  ·rw [show decide (0 < a) = true by simpa using h0, show ((agAt xs a).1 != 1) = true by rw [bne_iff_ne]; intro e; have := ra.1 e; omega]; simp only [cond_true]; cases eqInts _ _ <;> rfl
  ·rw [show decide (0 < a) = false by simpa using h0, show ((agAt xs a).1 != 1) = false by simp; exact ra.2 (by omega)]; cases eqInts _ _ <;> rfl
 ·rw [show decide (a < b) = false by simpa using h]; cases decide (0 < a) <;> rfl
theorem active_pair (T : Tr.Twin kv xs ys) {a b : Int} (ha : thereI xs kv a = true) (hb : thereI xs kv b = true) (h : activeI xs a b = true) : Pair2 (Gone kv) xs a b ∧ (agAt xs a).1 ≠ 1 ∧ (agAt xs b).1 ≠ 1 := by
 have la := there_live ha; have lb := there_live hb; have wa := (wf_small (T.wf a la.1.1 la.1.2 la.2)).1; have wb := (wf_small (T.wf b lb.1.1 lb.1.2 lb.2)).1; unfold activeI at h; cases h1 : decide (a < b) with
 | false => rw [h1] at h; simp at h
 | true =>
  cases h2 : eqInts [(elt (dflt uPort) (agAt xs a).2.2.2.2 0).1, (elt (dflt uPort) (agAt xs a).2.2.2.2 0).2] [b, 0] with
  | false => rw [h1, h2] at h; simp at h
  | true =>
   cases h3 : ((agAt xs a).1 != 1) with
   | false => rw [h1, h2, h3] at h; simp at h
   | true =>
    rw [h1, h2, h3] at h; simp only [cond_true] at h; have e := eqInts_eq (by rfl) h2; simp only [List.cons.injEq, and_true] at e; have hlt : a < b := by simpa using h1
    refine ⟨⟨by omega, la.2, lb.2, ⟨la.1.1, la.1.2, Int.le_refl 0, ?_⟩, ⟨lb.1.1, lb.1.2, Int.le_refl 0, ?_⟩, Prod.ext e.1 e.2⟩, by simpa using h3, by simpa using h⟩
    ·show (0 : Int) < ((agAt xs a).2.2.2.2.length : Nat); omega
    ·show (0 : Int) < ((agAt xs b).2.2.2.2.length : Nat); omega
end
inductive Both (bk : List (List NAgent)) (kv : List (Int × Bool)) (xs ys : List NAgent) (ev : List NEvent) (e : NEvent) : Prop
 | bad (code : Int) (hc : code ≠ 0)
  (hI : ∀ us, FCall Tryz.prog 115 [.ptr 10000 0, vEv e] (tR xs us bk kv ev) (.int .i64 code) (tR xs us bk kv ev))
  (hS : ∀ us, FCall Tryz.prog 108 [.rsl uNet bk, .ptr 10000 0, vEv e] (tA ys us) (.int .i64 code) (tA ys us))
 | full (code : Int) (hc : code ≠ 0) (x' y' : List NAgent) (kv' : List (Int × Bool)) (ev' : List NEvent)
  (hI : ∀ us, FCall Tryz.prog 115 [.ptr 10000 0, vEv e] (tR xs us bk kv ev) (.int .i64 code) (tRn 10005 10006 x' us bk kv' ev'))
  (hS : ∀ us, FCall Tryz.prog 108 [.rsl uNet bk, .ptr 10000 0, vEv e] (tA ys us) (.int .i64 code) (tAn 10002 y' []))
 | next (x' y' : List NAgent) (kv' : List (Int × Bool))
  (hI : ∀ us, FCall Tryz.prog 115 [.ptr 10000 0, vEv e] (tR xs us bk kv ev) (.int .i64 0) (tRn 10005 10006 x' us bk kv' (ev ++ [e])))
  (hS : ∀ us, FCall Tryz.prog 108 [.rsl uNet bk, .ptr 10000 0, vEv e] (tA ys us) (.int .i64 0) (tAn 10002 y' []))
  (tw : Tr.Twin kv' x' y') (l1 : x'.length ≤ 3000) (hr : ∀ (es : List NEvent) (s' : List Sig), SRun bk (x'.map sig) es s' → SRun bk (xs.map sig) (e :: es) s')
theorem both_step {bk : List (List NAgent)} {kv : List (Int × Bool)} {xs ys : List NAgent} {ev : List NEvent} (T : Tr.Twin kv xs ys) (hb : BkS bk) (hl : xs.length ≤ 3000) (he : ev.length ≤ 1000) (e : NEvent) : Both bk kv xs ys ev e := by
 have hlen := T.len; have t1 := there_eq T e.1; have t2 := there_eq T e.2.1; cases h3 : (thereI xs kv e.1 && thereI xs kv e.2.1) with
 | false => exact .bad 3 (by decide) (fun us => replay3 xs us bk kv ev e h3) (fun us => play3 bk ys us e (by omega) (by rw [t1, t2]; exact h3))
 | true =>
  rw [Bool.and_eq_true] at h3; obtain ⟨ha, hb2⟩ := h3; have hta : thereS ys e.1 = true := by rw [t1]; exact ha
  have htb : thereS ys e.2.1 = true := by rw [t2]; exact hb2
  have la := there_live ha; have wa := (wf_small (T.wf e.1 la.1.1 la.1.2 la.2)).1; have lb := there_live hb2; have hpa : 0 < (agAt ys e.1).2.2.2.2.length := by rw [T.at_ la.1.1 la.1.2 la.2]; exact wa
  have hact := active_eq T ha hb2; have ia := there_in ha; have ib := there_in hb2; cases h5 : activeI xs e.1 e.2.1 with
  | false => exact .bad 5 (by decide) (fun us => replay5 xs us bk kv ev e ha hb2 wa h5) (fun us => play5 bk ys us e (by omega) hta htb hpa (by rw [hact]; exact h5))
  | true =>
   have h5s : activeS ys e.1 e.2.1 = true := by rw [hact]; exact h5
   obtain ⟨kp, ra, rb⟩ := active_pair T ha hb2 h5; have iay : 0 ≤ e.1 ∧ e.1 < (ys.length : Nat) := by rw [← hlen]; exact ia
   have iby : 0 ≤ e.2.1 ∧ e.2.1 < (ys.length : Nat) := by rw [← hlen]; exact ib
   cases inter_step T kp ra rb hb (by omega) with
   | bad code hc hI hA =>
    refine .bad code hc (fun us => ?_) (fun us => ?_)
    ·exact replayBad xs us bk kv ev e ha hb2 wa h5 hc (recordBad xs us bk kv ev (e.1, e.2.1) hc (performBad xs us bk kv ev (e.1, e.2.1) ia ib hc (hI us)))
    ·exact playBad bk ys us e (by omega) hta htb hpa h5s hc (evBad bk ys us e.1 e.2.1 iay iby hc (hA us))
   | ok x' y' kv' hI hA tw l0 l1 sg cl =>
    have hlen' := tw.len
    have hcl : (classFN (agAt xs e.1) (agAt xs e.2.1)).1 = classS (agAt ys e.1) (agAt ys e.2.1) := by
     rw [T.at_ la.1.1 la.1.2 la.2, T.at_ lb.1.1 lb.1.2 lb.2, (class_eq (T.wf e.1 la.1.1 la.1.2 la.2) (T.wf e.2.1 lb.1.1 lb.1.2 lb.2) ra rb).1, classS_first]
    have hR := fun us => recordOk xs us bk kv ev (e.1, e.2.1) (performOk xs us bk kv ev (e.1, e.2.1) ia ib (by omega) l0 he (hI us))
    have hE := fun us => evNext bk ys us e.1 e.2.1 iay iby (by omega) (by omega) (hA us)
    rw [← hcl, ← hlen, ← hlen'] at hE
    by_cases h4 : (3000 : Int) < (x'.length : Int)
    ·rw [show decide ((3000 : Int) < (x'.length : Int)) = true by simpa using h4] at hR hE; simp only [cond_true] at hR hE; exact .full 4 (by decide) _ _ _ _ (fun us => replayFull xs us bk kv ev e ha hb2 wa h5 (by decide) (hR us)) (fun us => playFull bk ys us e (by omega) hta htb hpa h5s (by decide) (hE us))
    ·rw [show decide ((3000 : Int) < (x'.length : Int)) = false by simpa using h4] at hR hE; simp only [cond_false] at hR hE; have hQ := fun us => replayOk xs us bk kv ev e ha hb2 wa h5 he (hR us)
     have hS := fun us => playOk bk ys us e (by omega) hta htb hpa h5s (hE us)
     generalize hf : ((e.1, e.2.1, (classFN (agAt xs e.1) (agAt xs e.2.1)).1, (xs.length : Int), (x'.length : Int) - (xs.length : Int)) : NEvent) = f at *; cases hq : eqInts (evInts f) (evInts e) with
     | false =>
      rw [hq] at hQ hS; exact .full 14 (by decide) _ _ _ _ hQ hS
     | true =>
      rw [hq] at hQ hS
      have hef : f = e := by
       have := eqInts_eq (by rfl) hq; unfold evInts at this; simp only [List.cons.injEq, and_true] at this; obtain ⟨q1, q2, q3, q4, q5⟩ := this; exact Prod.ext q1 (Prod.ext q2 (Prod.ext q3 (Prod.ext q4 q5)))
      subst hef; have q1 : f.2.2.2.1 = (xs.length : Int) := by rw [← hf]
      have q2 : f.2.2.2.2 = (x'.length : Int) - (xs.length : Int) := by rw [← hf]
      have hlt : f.1 < f.2.1 := by
       unfold activeI at h5; cases h1 : decide (f.1 < f.2.1) with
       | false => rw [h1] at h5; simp at h5
       | true => simpa using h1
      refine .next _ _ _ hQ hS tw (by omega) fun es s' hrun => ?_
      have sga : ∀ i : Int, 0 ≤ i → i < (xs.length : Nat) → sig (sAt (xs.map sig) i) = sig (agAt xs i) := fun i i0 i1 => by
       unfold sAt sgAt agAt elt; rw [sig_toA, List.getD_eq_getElem?_getD, List.getD_eq_getElem?_getD, List.getElem?_map, List.getElem?_eq_getElem (by omega)]; rfl
      have ea := sga f.1 ia.1 ia.2; have eb := sga f.2.1 ib.1 ib.2; have hnw := nwA_sigs (bk := bk) ea eb; have hD : Duo (agAt xs f.1) (agAt xs f.2.1) := ⟨T.wf f.1 la.1.1 la.1.2 la.2, T.wf f.2.1 lb.1.1 lb.1.2 lb.2, ra, rb, cl⟩; have hxl : (x'.map sig).length = (xs.map sig).length + (nwA bk (agAt xs f.1) (agAt xs f.2.1)).length := by rw [sg, List.length_append]
      rw [List.length_map, List.length_map] at hxl; refine .step ia.1 hlt (by rw [List.length_map]; exact ib.2) (by rw [List.length_map]; exact q1) ?_ (hD.sigs ea.symm eb.symm) ?_
      ·rw [hnw, q2]; omega
      ·rw [hnw, ← sg]; exact hrun
end Go.Proofs.YtemalpelcdmemaaGreat
namespace Go.Proofs.YtemalpelcdmemaaGreat
open Go Go.RowKit Go.Proofs Go.Tr
abbrev CSt := List (Int × Bool) × List NAgent × List NAgent × List NEvent × List NEvent
inductive Runs (bk : List (List NAgent)) : List (Int × Bool) → List NAgent → List NAgent → List NEvent → List NEvent → Int → List (Int × Bool) → List NAgent → List NAgent → Prop
 | done (kv : List (Int × Bool)) (xs ys : List NAgent) (ev : List NEvent) : Runs bk kv xs ys ev [] 0 kv xs ys
 | bad {kv : List (Int × Bool)} {xs ys : List NAgent} {ev es : List NEvent} {e : NEvent} (code : Int) (hc : code ≠ 0)
  (hI : ∀ us, FCall Tryz.prog 115 [.ptr 10000 0, vEv e] (tR xs us bk kv ev) (.int .i64 code) (tR xs us bk kv ev))
  (hS : ∀ us, FCall Tryz.prog 108 [.rsl uNet bk, .ptr 10000 0, vEv e] (tA ys us) (.int .i64 code) (tA ys us)) : Runs bk kv xs ys ev (e :: es) code kv xs ys
 | full {kv : List (Int × Bool)} {xs ys : List NAgent} {ev es : List NEvent} {e : NEvent} (code : Int) (hc : code ≠ 0) (x' y' : List NAgent) (kv' : List (Int × Bool)) (ev' : List NEvent)
  (hI : ∀ us, FCall Tryz.prog 115 [.ptr 10000 0, vEv e] (tR xs us bk kv ev) (.int .i64 code) (tRn 10005 10006 x' us bk kv' ev'))
  (hS : ∀ us, FCall Tryz.prog 108 [.rsl uNet bk, .ptr 10000 0, vEv e] (tA ys us) (.int .i64 code) (tAn 10002 y' [])) : Runs bk kv xs ys ev (e :: es) code kv' x' y'
 | next {kv : List (Int × Bool)} {xs ys : List NAgent} {ev es : List NEvent} {e : NEvent} (x' y' : List NAgent) (kv' : List (Int × Bool)) {code : Int} {k : List (Int × Bool)} {f g : List NAgent}
  (hI : ∀ us, FCall Tryz.prog 115 [.ptr 10000 0, vEv e] (tR xs us bk kv ev) (.int .i64 0) (tRn 10005 10006 x' us bk kv' (ev ++ [e])))
  (hS : ∀ us, FCall Tryz.prog 108 [.rsl uNet bk, .ptr 10000 0, vEv e] (tA ys us) (.int .i64 0) (tAn 10002 y' [])) (r : Runs bk kv' x' y' (ev ++ [e]) es code k f g) : Runs bk kv xs ys ev (e :: es) code k f g
theorem runs_all {bk : List (List NAgent)} (hb : BkS bk) : ∀ (es : List NEvent) {kv : List (Int × Bool)} {xs ys : List NAgent} {ev : List NEvent}, Tr.Twin kv xs ys → xs.length ≤ 3000 → ev.length + es.length ≤ 1000 →
  ∃ code k f g, Runs bk kv xs ys ev es code k f g ∧ (code = 0 → Tr.Twin k f g ∧ f.length ≤ 3000 ∧ SRun bk (xs.map sig) es (f.map sig))
 | [], kv, xs, ys, ev, T, hl, he => ⟨0, kv, xs, ys, .done _ _ _ _, fun _ => ⟨T, hl, .done _⟩⟩
 | e :: es, kv, xs, ys, ev, T, hl, he => by
  rw [List.length_cons] at he; cases both_step (ev := ev) T hb hl (by omega) e with
  | bad code hc hI hS => exact ⟨code, _, _, _, .bad code hc hI hS, fun h => absurd h hc⟩
  | full code hc x' y' kv' ev' hI hS => exact ⟨code, _, _, _, .full code hc x' y' kv' ev' hI hS, fun h => absurd h hc⟩
  | next x' y' kv' hI hS tw l1 hr =>
   obtain ⟨code, k, f, g, r, h⟩ := runs_all hb es (ev := ev ++ [e]) tw l1 (by rw [List.length_append, List.length_singleton]; omega); refine ⟨code, k, f, g, .next x' y' kv' hI hS r, fun h0 => ?_⟩; obtain ⟨t1, t2, t3⟩ := h h0; exact ⟨t1, t2, hr es _ t3⟩
theorem okChecked : callOk Tryz.prog 62 = true := by kernel_rfl
def ckT (bk : List (List NAgent)) (s : CSt) : List Tok := [.cel 27 87 [.ptr 1000027 0, .sl 20001], .cel 1000027 109 [.sl 20000, .rsl uNet bk, .mp 3000027], .row 20000 150 5 uAgent s.2.1 [], .map 3000027 .bool s.1, .row 20001 74 5 uEvent s.2.2.2.1 []]
section
variable (bk : List (List NAgent)) (xs : List NAgent) (es : List NEvent)
set_option maxRecDepth 100000 in
theorem checkedInv (h : (bookB (bk.map gN) && netB (gN xs)) = false) : FCall Tryz.prog 62 [.rsl uNet bk, .agg [.rsl uAgent xs], .rsl uEvent es] [] (.tup [.raw (.pointer none), .int .i64 1]) [] := by
 refine FCall.intro (nt := 42) ti_ok mixed okChecked Tryz.func62 rfl rfl rfl rfl rfl rfl ?_; refine Or.inl (eI _ (aI (tmplI bk) ?_)); refine Or.inl (eI _ (aI (fun _ => netI xs) ?_)); refine aI (fun q => ?_) (fun q => ?_)
 ·refine fin [] (aI rfl ?_); exact trivial
 ·exfalso; have q1 : (bif !bookB (bk.map gN) then true else !netB (gN xs)) = false := q; revert q1 h; cases bookB (bk.map gN) <;> cases netB (gN xs) <;> simp
variable (hB : bookB (bk.map gN) = true) (hN : netB (gN xs) = true)
include hB hN
set_option maxRecDepth 100000 in
theorem checkedLong (h : 300 < es.length) : FCall Tryz.prog 62 [.rsl uNet bk, .agg [.rsl uAgent xs], .rsl uEvent es] [] (.tup [.raw (.pointer none), .int .i64 2]) [] := by
 refine FCall.intro (nt := 42) ti_ok mixed okChecked Tryz.func62 rfl rfl rfl rfl rfl rfl ?_; refine Or.inl (eI _ (aI (tmplI bk) ?_)); refine Or.inl (eI _ (aI (fun _ => netI xs) ?_)); refine aI (fun q => ?_) (fun q => ?_)
 ·exfalso; have q1 : (bif !bookB (bk.map gN) then true else !netB (gN xs)) = true := q; rw [hB, hN] at q1; cases q1
 refine aI (fun q1 => ?_) (fun q1 => ?_)
 ·refine fin [] (aI rfl ?_); exact trivial
 ·exfalso; have q2 : decide ((300 : Int) < (es.length : Nat)) = false := q1; simp only [decide_eq_false_iff_not] at q2; omega
set_option maxRecDepth 100000 in
set_option maxHeartbeats 4000000 in
theorem checkedBad {code : Int} {k : List (Int × Bool)} {f g : List NAgent} (hs : NetSmall xs) (hl : es.length ≤ 300) (hc : code ≠ 0) (R : Runs bk [] xs xs [] es code k f g) : FCall Tryz.prog 62 [.rsl uNet bk, .agg [.rsl uAgent xs], .rsl uEvent es] [] (.tup [.raw (.pointer none), .int .i64 code]) [] := by
 refine FCall.intro (nt := 42) ti_ok mixed okChecked Tryz.func62 rfl rfl rfl rfl rfl rfl ?_; refine Or.inl (eI _ (aI (tmplI bk) ?_)); refine Or.inl (eI _ (aI (fun _ => netI xs) ?_)); refine aI (fun q => ?_) (fun q => ?_)
 ·exfalso; have q1 : (bif !bookB (bk.map gN) then true else !netB (gN xs)) = true := q; rw [hB, hN] at q1; cases q1
 refine aI (fun q1 => ?_) (fun q1 => ?_)
 ·exfalso; have q2 : decide ((300 : Int) < (es.length : Nat)) = true := q1; simp only [decide_eq_true_eq] at q2; omega
 refine Or.inr (eI _ (eI _ (aI (newRecI xs bk hs) ?_))); refine lp CSt (fun s => [(30, .int .i64 (s.2.2.2.1.length : Nat))]) (ckT bk) (fun s => s.2.2.2.2.length) (fun s => Runs bk s.1 s.2.1 s.2.2.1 s.2.2.2.1 s.2.2.2.2 code k f g ∧ s.2.2.2.1 ++ s.2.2.2.2 = es) ([], xs, xs, [], es) ⟨R, rfl⟩ ?_ ?_
 ·exact hdm [⟨2000027, 30000, 74, 5, uEvent⟩] [(20000, 2000027), (20001, 30000)] rfl (aI (aI (aI rfl rfl) trivial) ⟨trivial, ⟨rfl, rfl, trivial⟩, trivial, ⟨rfl, rfl, rfl, trivial⟩, ⟨rfl, List.nil_prefix⟩, rfl, ⟨rfl, List.nil_prefix⟩, trivial⟩)
 rintro ⟨kv, zs, ys, ev, rest⟩ ⟨hR, hes⟩; have hes' : ev ++ rest = es := hes; have hR' : Runs bk kv zs ys ev rest code k f g := hR; refine aI (fun q2 => ?_) (fun q2 => ?_)
 ·have hlt : ev.length < es.length := by
   have q3 : decide (((ev.length : Nat) : Int) < (es.length : Nat)) = true := q2; simp only [decide_eq_true_eq] at q3; omega
  refine aI (show 0 ≤ ((ev.length : Nat) : Int) ∧ ((ev.length : Nat) : Int) < (es.length : Nat) by omega) ?_
  have hel : ∀ {e : NEvent} {r : List NEvent}, rest = e :: r → elt (dflt uEvent) es ((ev.length : Nat) : Int) = e := fun {e r} he => by
   unfold elt; rw [← hes', he, Int.toNat_natCast, List.getD_eq_getElem?_getD, List.getElem?_append_right (Nat.le_refl _), Nat.sub_self]; rfl
  cases hR' with
  | done => rw [List.append_nil] at hes'; rw [hes'] at hlt; omega
  | bad c2 hc hI hS =>
   have hI2 := hI []; rw [← hel rfl] at hI2; refine Or.inr (eI _ (eI _ (aI hI2 ?_))); refine aI (fun q3 => ?_) (fun q3 => ?_)
   ·refine fin [] (aI rfl ?_); exact trivial
   ·exfalso; have q4 : (code != 0) = false := q3; simp at q4; exact hc q4
  | full c2 hc x' y' kv' ev' hI hS =>
   have hI2 := hI []; rw [← hel rfl] at hI2; refine Or.inr (eI _ (eI _ (aI hI2 ?_))); refine aI (fun q3 => ?_) (fun q3 => ?_)
   ·refine fin [] (aI rfl ?_); exact trivial
   ·exfalso; have q4 : (code != 0) = false := q3; simp at q4; exact hc q4
  | @next _ _ _ _ r e x' y' kv' _ _ _ _ hI hS R2 =>
   have hI2 := hI []; have he := hel rfl; rw [← he] at hI2; refine Or.inr (eI _ (eI _ (aI hI2 ?_))); refine aI (fun q3 => by cases q3) (fun q3 => ?_); refine lp_next (kv', x', y', ev ++ [e], r) ⟨R2, by rw [← hes']; simp⟩ ?_ ?_
   ·refine hd [(20000, 36), (20001, 1000036)] rfl (aI (aI ?_ rfl) trivial) ⟨trivial, ⟨rfl, rfl, trivial⟩, trivial, ⟨rfl, rfl, rfl, trivial⟩, ⟨rfl, List.nil_prefix⟩, rfl, ⟨?_, List.nil_prefix⟩, trivial⟩
    ·show IntKind.i64.wrap (((ev.length : Nat) : Int) + 1) = (((ev ++ [e]).length : Nat) : Int); rw [List.length_append, List.length_singleton]; exact wrapS (by omega)
    ·show ev ++ [elt (dflt uEvent) es ((ev.length : Nat) : Int)] = ev ++ [e]; rw [he]
   ·show r.length < (e :: r).length; rw [List.length_cons]; omega
 ·exfalso
  have hge : es.length ≤ ev.length := by
   have q3 : decide (((ev.length : Nat) : Int) < (es.length : Nat)) = false := q2; simp only [decide_eq_false_iff_not] at q3; omega
  have : rest = [] := by
   have := congrArg List.length hes'; rw [List.length_append] at this; exact List.eq_nil_of_length_eq_zero (by omega)
  subst this; cases hR'; exact hc rfl
set_option maxRecDepth 100000 in
set_option maxHeartbeats 4000000 in
theorem checkedOk {k : List (Int × Bool)} {f g : List NAgent} (hs : NetSmall xs) (hl : es.length ≤ 300) (R : Runs bk [] xs xs [] es 0 k f g) : FCall Tryz.prog 62 [.rsl uNet bk, .agg [.rsl uAgent xs], .rsl uEvent es] [] (.tup [.ptr 10000 0, .int .i64 0]) (tR f [] bk k es) := by
 refine FCall.intro (nt := 42) ti_ok mixed okChecked Tryz.func62 rfl rfl rfl rfl rfl rfl ?_; refine Or.inl (eI _ (aI (tmplI bk) ?_)); refine Or.inl (eI _ (aI (fun _ => netI xs) ?_)); refine aI (fun q => ?_) (fun q => ?_)
 ·exfalso; have q1 : (bif !bookB (bk.map gN) then true else !netB (gN xs)) = true := q; rw [hB, hN] at q1; cases q1
 refine aI (fun q1 => ?_) (fun q1 => ?_)
 ·exfalso; have q2 : decide ((300 : Int) < (es.length : Nat)) = true := q1; simp only [decide_eq_true_eq] at q2; omega
 refine Or.inr (eI _ (eI _ (aI (newRecI xs bk hs) ?_))); refine lp CSt (fun s => [(30, .int .i64 (s.2.2.2.1.length : Nat))]) (ckT bk) (fun s => s.2.2.2.2.length) (fun s => Runs bk s.1 s.2.1 s.2.2.1 s.2.2.2.1 s.2.2.2.2 0 k f g ∧ s.2.2.2.1 ++ s.2.2.2.2 = es) ([], xs, xs, [], es) ⟨R, rfl⟩ ?_ ?_
 ·exact hdm [⟨2000027, 30000, 74, 5, uEvent⟩] [(20000, 2000027), (20001, 30000)] rfl (aI (aI (aI rfl rfl) trivial) ⟨trivial, ⟨rfl, rfl, trivial⟩, trivial, ⟨rfl, rfl, rfl, trivial⟩, ⟨rfl, List.nil_prefix⟩, rfl, ⟨rfl, List.nil_prefix⟩, trivial⟩)
 rintro ⟨kv, zs, ys, ev, rest⟩ ⟨hR, hes⟩; have hes' : ev ++ rest = es := hes; have hR' : Runs bk kv zs ys ev rest 0 k f g := hR; refine aI (fun q2 => ?_) (fun q2 => ?_)
 ·have hlt : ev.length < es.length := by
   have q3 : decide (((ev.length : Nat) : Int) < (es.length : Nat)) = true := q2; simp only [decide_eq_true_eq] at q3; omega
  refine aI (show 0 ≤ ((ev.length : Nat) : Int) ∧ ((ev.length : Nat) : Int) < (es.length : Nat) by omega) ?_
  have hel : ∀ {e : NEvent} {r : List NEvent}, rest = e :: r → elt (dflt uEvent) es ((ev.length : Nat) : Int) = e := fun {e r} he => by
   unfold elt; rw [← hes', he, Int.toNat_natCast, List.getD_eq_getElem?_getD, List.getElem?_append_right (Nat.le_refl _), Nat.sub_self]; rfl
  cases hR' with
  | done => rw [List.append_nil] at hes'; rw [hes'] at hlt; omega
  | bad c2 hc hI hS => exact absurd rfl hc
  | full c2 hc x' y' kv' ev' hI hS => exact absurd rfl hc
  | @next _ _ _ _ r e x' y' kv' _ _ _ _ hI hS R2 =>
   have hI2 := hI []; have he := hel rfl; rw [← he] at hI2; refine Or.inr (eI _ (eI _ (aI hI2 ?_))); refine aI (fun q3 => by cases q3) (fun q3 => ?_); refine lp_next (kv', x', y', ev ++ [e], r) ⟨R2, by rw [← hes']; simp⟩ ?_ ?_
   ·refine hd [(20000, 36), (20001, 1000036)] rfl (aI (aI ?_ rfl) trivial) ⟨trivial, ⟨rfl, rfl, trivial⟩, trivial, ⟨rfl, rfl, rfl, trivial⟩, ⟨rfl, List.nil_prefix⟩, rfl, ⟨?_, List.nil_prefix⟩, trivial⟩
    ·show IntKind.i64.wrap (((ev.length : Nat) : Int) + 1) = (((ev ++ [e]).length : Nat) : Int); rw [List.length_append, List.length_singleton]; exact wrapS (by omega)
    ·show ev ++ [elt (dflt uEvent) es ((ev.length : Nat) : Int)] = ev ++ [e]; rw [he]
   ·show r.length < (e :: r).length; rw [List.length_cons]; omega
 ·have hge : es.length ≤ ev.length := by
   have q3 : decide (((ev.length : Nat) : Int) < (es.length : Nat)) = false := q2; simp only [decide_eq_false_iff_not] at q3; omega
  have : rest = [] := by
   have := congrArg List.length hes'; rw [List.length_append] at this; exact List.eq_nil_of_length_eq_zero (by omega)
  subst this; rw [List.append_nil] at hes'; subst hes'; cases hR'; refine fin [(10000, 27), (10001, 1000027), (10002, 20000), (10003, 3000027), (10004, 20001)] (aI rfl ?_); exact ⟨trivial, ⟨rfl, rfl, trivial⟩, trivial, ⟨rfl, rfl, rfl, trivial⟩, ⟨rfl, List.nil_prefix⟩, rfl, ⟨rfl, List.nil_prefix⟩, trivial⟩
end
end Go.Proofs.YtemalpelcdmemaaGreat
namespace Go.Proofs.YtemalpelcdmemaaGreat
open Go Go.RowKit Go.Proofs Go.Tr
theorem okOwnS11 : callOk Tryz.prog 71 = true := by kernel_rfl
set_option maxRecDepth 100000 in
theorem ownNetS (xs : List NAgent) (h : NetSmall xs) : FCall Tryz.prog 71 [.rp uNet xs] [] (.agg [.sl 10000]) [.row 10000 150 5 uAgent xs []] := by
 obtain ⟨hl, ha⟩ := h; refine FCall.intro (nt := 28) ti_ok mixed okOwnS11 Tryz.func71 rfl rfl rfl rfl rfl rfl ?_; refine lp Nat (fun i => [(4, .int .i64 (i : Nat))]) (fun i => [.cel 2 36 [.raw (.slice none 0 0)], .cel 3 36 [.sl 20000], .row 20000 150 5 uAgent (xs.take i) []]) (fun i => xs.length - i) (fun i => i ≤ xs.length) 0 (Nat.zero_le _) ?_ ?_
 ·exact hdm [⟨1000003, 30000, 150, 5, uAgent⟩] [(20000, 30000)] rfl (aI (aI (aI rfl rfl) trivial) ⟨trivial, ⟨rfl, trivial⟩, trivial, ⟨rfl, trivial⟩, ⟨rfl, List.nil_prefix⟩, trivial⟩)
 intro i hi; refine aI (fun q1 => ?_) (fun q1 => ?_)
 ·have hlt : i < xs.length := by simpa using q1
  refine aI (by show (0 : Int) ≤ (i : Nat) ∧ ((i : Nat) : Int) < (xs.length : Nat); omega) ?_; refine Or.inr (eI _ (eI _ (aI (ownAgS (agAt xs i) (ha i).1 (ha i).2) ?_))); refine aI (by show (xs.take i).length + 1 ≤ _; rw [List.length_take]; omega) ?_; refine aI (by kernel_rfl) ?_; refine lp_next (i + 1) hlt ?_ ?_
  ·refine hd [(20000, 25)] rfl (aI (aI (wrapS (by omega)) rfl) trivial) ⟨trivial, ⟨rfl, trivial⟩, trivial, ⟨rfl, trivial⟩, ⟨?_, List.nil_prefix⟩, trivial⟩; show xs.take i ++ [agAt xs i] = xs.take (i + 1); rw [List.take_add_one, List.getElem?_eq_getElem hlt]; unfold agAt elt; rw [Int.toNat_natCast, List.getD_eq_getElem?_getD, List.getElem?_eq_getElem hlt]; rfl
  ·show xs.length - (i + 1) < xs.length - i; omega
 ·have hge : xs.length ≤ i := by simpa using q1
  refine fin [(10000, 20000)] (aI rfl ?_); refine ⟨⟨?_, List.nil_prefix⟩, trivial⟩; show xs.take i = xs; rw [List.take_of_length_le hge]
theorem okCheckS39 : callOk Tryz.prog 58 = true := by kernel_rfl
def csT (s : CSt) : List Tok := [.cel 6 36 [.raw (.slice none 0 0)], .cel 8 36 [.sl 20000], .row 20000 150 5 uAgent s.2.2.1 []]
section
variable (bk : List (List NAgent)) (xs : List NAgent) (es : List NEvent)
set_option maxRecDepth 100000 in
theorem checkSInv (h : (bookB (bk.map gN) && netB (gN xs)) = false) : FCall Tryz.prog 58 [.rsl uNet bk, .rp uNet xs, .rsl uEvent es] [] (.tup [.agg [.raw (.slice none 0 0)], .int .i64 1]) [] := by
 refine FCall.intro (nt := 43) ti_ok mixed okCheckS39 Tryz.func58 rfl rfl rfl rfl rfl rfl ?_; refine Or.inl (eI _ (aI (bookQ bk) ?_)); refine Or.inl (eI _ (aI (fun _ => netQ xs) ?_)); refine aI (fun q => ?_) (fun q => ?_)
 ·refine fin [] (aI rfl ?_); exact trivial
 ·exfalso; have q1 : (bif !bookB (bk.map gN) then true else !netB (gN xs)) = false := q; revert q1 h; cases bookB (bk.map gN) <;> cases netB (gN xs) <;> simp
variable (hB : bookB (bk.map gN) = true) (hN : netB (gN xs) = true)
include hB hN
set_option maxRecDepth 100000 in
theorem checkSLong (h : 300 < es.length) : FCall Tryz.prog 58 [.rsl uNet bk, .rp uNet xs, .rsl uEvent es] [] (.tup [.agg [.raw (.slice none 0 0)], .int .i64 2]) [] := by
 refine FCall.intro (nt := 43) ti_ok mixed okCheckS39 Tryz.func58 rfl rfl rfl rfl rfl rfl ?_; refine Or.inl (eI _ (aI (bookQ bk) ?_)); refine Or.inl (eI _ (aI (fun _ => netQ xs) ?_)); refine aI (fun q => ?_) (fun q => ?_)
 ·exfalso; have q1 : (bif !bookB (bk.map gN) then true else !netB (gN xs)) = true := q; rw [hB, hN] at q1; cases q1
 refine aI (fun q1 => ?_) (fun q1 => ?_)
 ·refine fin [] (aI rfl ?_); exact trivial
 ·exfalso; have q2 : decide ((300 : Int) < (es.length : Nat)) = false := q1; simp only [decide_eq_false_iff_not] at q2; omega
set_option maxRecDepth 100000 in
set_option maxHeartbeats 4000000 in
theorem checkSBad {code : Int} {k : List (Int × Bool)} {f g : List NAgent} (hs : NetSmall xs) (hl : es.length ≤ 300) (hc : code ≠ 0) (R : Runs bk [] xs xs [] es code k f g) : FCall Tryz.prog 58 [.rsl uNet bk, .rp uNet xs, .rsl uEvent es] [] (.tup [.agg [.raw (.slice none 0 0)], .int .i64 code]) [] := by
 refine FCall.intro (nt := 43) ti_ok mixed okCheckS39 Tryz.func58 rfl rfl rfl rfl rfl rfl ?_; refine Or.inl (eI _ (aI (bookQ bk) ?_)); refine Or.inl (eI _ (aI (fun _ => netQ xs) ?_)); refine aI (fun q => ?_) (fun q => ?_)
 ·exfalso; have q1 : (bif !bookB (bk.map gN) then true else !netB (gN xs)) = true := q; rw [hB, hN] at q1; cases q1
 refine aI (fun q1 => ?_) (fun q1 => ?_)
 ·exfalso; have q2 : decide ((300 : Int) < (es.length : Nat)) = true := q1; simp only [decide_eq_true_eq] at q2; omega
 refine Or.inr (eI _ (eI _ (aI (ownNetS xs hs) ?_))); refine lp CSt (fun s => [(9, .int .i64 (s.2.2.2.1.length : Nat))]) csT (fun s => s.2.2.2.2.length) (fun s => Runs bk s.1 s.2.1 s.2.2.1 s.2.2.2.1 s.2.2.2.2 code k f g ∧ s.2.2.2.1 ++ s.2.2.2.2 = es) ([], xs, xs, [], es) ⟨R, rfl⟩ ?_ ?_
 ·exact hd [(20000, 25)] rfl (aI (aI rfl rfl) trivial) ⟨trivial, ⟨rfl, trivial⟩, trivial, ⟨rfl, trivial⟩, ⟨rfl, List.nil_prefix⟩, trivial⟩
 rintro ⟨kv, zs, ys, ev, rest⟩ ⟨hR, hes⟩; have hes' : ev ++ rest = es := hes; have hR' : Runs bk kv zs ys ev rest code k f g := hR; refine aI (fun q2 => ?_) (fun q2 => ?_)
 ·have hlt : ev.length < es.length := by
   have q3 : decide (((ev.length : Nat) : Int) < (es.length : Nat)) = true := q2; simp only [decide_eq_true_eq] at q3; omega
  refine aI (show 0 ≤ ((ev.length : Nat) : Int) ∧ ((ev.length : Nat) : Int) < (es.length : Nat) by omega) ?_
  have hel : ∀ {e : NEvent} {r : List NEvent}, rest = e :: r → elt (dflt uEvent) es ((ev.length : Nat) : Int) = e := fun {e r} he => by
   unfold elt; rw [← hes', he, Int.toNat_natCast, List.getD_eq_getElem?_getD, List.getElem?_append_right (Nat.le_refl _), Nat.sub_self]; rfl
  cases hR' with
  | done => rw [List.append_nil] at hes'; rw [hes'] at hlt; omega
  | bad c2 hc hI hS =>
   have hI2 := hS []; rw [← hel rfl] at hI2; refine Or.inr (eI _ (eI _ (aI hI2 ?_))); refine aI (fun q3 => ?_) (fun q3 => ?_)
   ·refine fin [] (aI rfl ?_); exact trivial
   ·exfalso; have q4 : (code != 0) = false := q3; simp at q4; exact hc q4
  | full c2 hc x' y' kv' ev' hI hS =>
   have hI2 := hS []; rw [← hel rfl] at hI2; refine Or.inr (eI _ (eI _ (aI hI2 ?_))); refine aI (fun q3 => ?_) (fun q3 => ?_)
   ·refine fin [] (aI rfl ?_); exact trivial
   ·exfalso; have q4 : (code != 0) = false := q3; simp at q4; exact hc q4
  | @next _ _ _ _ r e x' y' kv' _ _ _ _ hI hS R2 =>
   have hI2 := hS []; have he := hel rfl; rw [← he] at hI2; refine Or.inr (eI _ (eI _ (aI hI2 ?_))); refine aI (fun q3 => by cases q3) (fun q3 => ?_); refine lp_next (kv', x', y', ev ++ [e], r) ⟨R2, by rw [← hes']; simp⟩ ?_ ?_
   ·refine hd [(20000, 37)] rfl (aI (aI ?_ rfl) trivial) ⟨trivial, ⟨rfl, trivial⟩, trivial, ⟨rfl, trivial⟩, ⟨rfl, List.nil_prefix⟩, trivial⟩; show IntKind.i64.wrap (((ev.length : Nat) : Int) + 1) = (((ev ++ [e]).length : Nat) : Int); rw [List.length_append, List.length_singleton]; exact wrapS (by omega)
   ·show r.length < (e :: r).length; rw [List.length_cons]; omega
 ·exfalso
  have hge : es.length ≤ ev.length := by
   have q3 : decide (((ev.length : Nat) : Int) < (es.length : Nat)) = false := q2; simp only [decide_eq_false_iff_not] at q3; omega
  have : rest = [] := by
   have := congrArg List.length hes'; rw [List.length_append] at this; exact List.eq_nil_of_length_eq_zero (by omega)
  subst this; cases hR'; exact hc rfl
set_option maxRecDepth 100000 in
set_option maxHeartbeats 4000000 in
theorem checkSOk {k : List (Int × Bool)} {f g : List NAgent} (hs : NetSmall xs) (hl : es.length ≤ 300) (R : Runs bk [] xs xs [] es 0 k f g) : FCall Tryz.prog 58 [.rsl uNet bk, .rp uNet xs, .rsl uEvent es] [] (.tup [.agg [.sl 10000], .int .i64 0]) [.row 10000 150 5 uAgent g []] := by
 refine FCall.intro (nt := 43) ti_ok mixed okCheckS39 Tryz.func58 rfl rfl rfl rfl rfl rfl ?_; refine Or.inl (eI _ (aI (bookQ bk) ?_)); refine Or.inl (eI _ (aI (fun _ => netQ xs) ?_)); refine aI (fun q => ?_) (fun q => ?_)
 ·exfalso; have q1 : (bif !bookB (bk.map gN) then true else !netB (gN xs)) = true := q; rw [hB, hN] at q1; cases q1
 refine aI (fun q1 => ?_) (fun q1 => ?_)
 ·exfalso; have q2 : decide ((300 : Int) < (es.length : Nat)) = true := q1; simp only [decide_eq_true_eq] at q2; omega
 refine Or.inr (eI _ (eI _ (aI (ownNetS xs hs) ?_))); refine lp CSt (fun s => [(9, .int .i64 (s.2.2.2.1.length : Nat))]) csT (fun s => s.2.2.2.2.length) (fun s => Runs bk s.1 s.2.1 s.2.2.1 s.2.2.2.1 s.2.2.2.2 0 k f g ∧ s.2.2.2.1 ++ s.2.2.2.2 = es) ([], xs, xs, [], es) ⟨R, rfl⟩ ?_ ?_
 ·exact hd [(20000, 25)] rfl (aI (aI rfl rfl) trivial) ⟨trivial, ⟨rfl, trivial⟩, trivial, ⟨rfl, trivial⟩, ⟨rfl, List.nil_prefix⟩, trivial⟩
 rintro ⟨kv, zs, ys, ev, rest⟩ ⟨hR, hes⟩; have hes' : ev ++ rest = es := hes; have hR' : Runs bk kv zs ys ev rest 0 k f g := hR; refine aI (fun q2 => ?_) (fun q2 => ?_)
 ·have hlt : ev.length < es.length := by
   have q3 : decide (((ev.length : Nat) : Int) < (es.length : Nat)) = true := q2; simp only [decide_eq_true_eq] at q3; omega
  refine aI (show 0 ≤ ((ev.length : Nat) : Int) ∧ ((ev.length : Nat) : Int) < (es.length : Nat) by omega) ?_
  have hel : ∀ {e : NEvent} {r : List NEvent}, rest = e :: r → elt (dflt uEvent) es ((ev.length : Nat) : Int) = e := fun {e r} he => by
   unfold elt; rw [← hes', he, Int.toNat_natCast, List.getD_eq_getElem?_getD, List.getElem?_append_right (Nat.le_refl _), Nat.sub_self]; rfl
  cases hR' with
  | done => rw [List.append_nil] at hes'; rw [hes'] at hlt; omega
  | bad c2 hc hI hS => exact absurd rfl hc
  | full c2 hc x' y' kv' ev' hI hS => exact absurd rfl hc
  | @next _ _ _ _ r e x' y' kv' _ _ _ _ hI hS R2 =>
   have hI2 := hS []; have he := hel rfl; rw [← he] at hI2; refine Or.inr (eI _ (eI _ (aI hI2 ?_))); refine aI (fun q3 => by cases q3) (fun q3 => ?_); refine lp_next (kv', x', y', ev ++ [e], r) ⟨R2, by rw [← hes']; simp⟩ ?_ ?_
   ·refine hd [(20000, 37)] rfl (aI (aI ?_ rfl) trivial) ⟨trivial, ⟨rfl, trivial⟩, trivial, ⟨rfl, trivial⟩, ⟨rfl, List.nil_prefix⟩, trivial⟩; show IntKind.i64.wrap (((ev.length : Nat) : Int) + 1) = (((ev ++ [e]).length : Nat) : Int); rw [List.length_append, List.length_singleton]; exact wrapS (by omega)
   ·show r.length < (e :: r).length; rw [List.length_cons]; omega
 ·have hge : es.length ≤ ev.length := by
   have q3 : decide (((ev.length : Nat) : Int) < (es.length : Nat)) = false := q2; simp only [decide_eq_false_iff_not] at q3; omega
  have : rest = [] := by
   have := congrArg List.length hes'; rw [List.length_append] at this; exact List.eq_nil_of_length_eq_zero (by omega)
  subst this; cases hR'; refine fin [(10000, 20000)] (aI rfl ?_); exact ⟨⟨rfl, List.nil_prefix⟩, trivial⟩
end
end Go.Proofs.YtemalpelcdmemaaGreat
namespace Go.Proofs.YtemalpelcdmemaaGreat
open Go Go.RowKit Go.Proofs Go.Tr
theorem okBirth : callOk Tryz.prog 117 = true := by kernel_rfl
theorem okWithin : callOk Tryz.prog 63 = true := by kernel_rfl
theorem okWithin1 : callOk Tryz.prog 116 = true := by kernel_rfl
theorem okWithin2 : callOk Tryz.prog 119 = true := by kernel_rfl
theorem okIdxEv : callOk Tryz.prog 118 = true := by kernel_rfl
theorem dropE {es : List NEvent} {i : Nat} (h : i < es.length) : es.drop i = elt (dflt uEvent) es (i : Nat) :: es.drop (i + 1) := by
 unfold elt; rw [Int.toNat_natCast, List.getD_eq_getElem?_getD, List.getElem?_eq_getElem h]; exact List.drop_eq_getElem_cons h
theorem eltE {es : List NEvent} {i : Nat} (h : i < es.length) : elt (dflt uEvent) es (i : Nat) ∈ es := by
 unfold elt; rw [Int.toNat_natCast, List.getD_eq_getElem?_getD, List.getElem?_eq_getElem h]; exact List.getElem_mem h
def EvB (es : List NEvent) : Prop := ∀ e ∈ es, (0 ≤ evF e ∧ evF e ≤ 1000000) ∧ 0 ≤ evC e ∧ evC e ≤ 1000000
set_option maxRecDepth 100000 in
theorem birthQ (es : List NEvent) (k : Int) (hl : es.length ≤ 1000000) (hb : EvB es) (hk : -1000000 ≤ k ∧ k ≤ 1000000) : QCall Tryz.prog 117 [.rsl uEvent es, .int .i64 k] (.agg [.int .i64 (bOf es 0 k).1, .int .i64 (bOf es 0 k).2]) := by
 refine QCall.intro (nt := 36) ti_ok mixed okBirth Tryz.func117 rfl rfl rfl rfl rfl ?_; refine lp Nat (fun i => [(9, .int .i64 (i : Nat))]) (fun _ => [.cel 4 157 [.int .i64 0, .int .i64 0]]) (fun i => es.length - i) (fun i => i ≤ es.length ∧ bOf es 0 k = bOf (es.drop i) (i : Nat) k) 0 ⟨Nat.zero_le _, rfl⟩ ?_ ?_
 ·exact hd [] rfl (aI (aI rfl rfl) trivial) ⟨trivial, ⟨⟨rfl, rfl⟩, ⟨rfl, rfl⟩, trivial⟩, trivial⟩
 rintro i ⟨hi, he⟩; refine aI (fun q1 => ?_) (fun q1 => ?_)
 ·have hlt : i < es.length := by
   have q2 : decide (((i : Nat) : Int) < (es.length : Nat)) = true := q1; simp only [decide_eq_true_eq] at q2; omega
  have hm := hb _ (eltE hlt); rw [dropE hlt] at he; generalize hx : elt (dflt uEvent) es ((i : Nat) : Int) = e at *; have hw : IntKind.i64.wrap (evF e + evC e) = evF e + evC e := IntWalk.i64_in _ (by omega); refine aI (show 0 ≤ ((i : Nat) : Int) ∧ ((i : Nat) : Int) < (es.length : Nat) by omega) ?_; refine aI (fun q2 => ?_) (fun q2 => ?_)
  ·have q3 : (bif decide (evF e ≤ k) then decide (k < IntKind.i64.wrap (evF e + evC e)) else false) = true := by rw [← hx]; exact q2
   rw [hw] at q3; cases c1 : decide (evF e ≤ k) with
   | false => rw [c1] at q3; cases q3
   | true =>
    rw [c1] at q3; have d1 : evF e ≤ k := by simpa using c1
    have d2 : k < evF e + evC e := by simpa using q3
    rw [he, bOf_in d1 d2]; have hw2 : IntKind.i64.wrap (k - evF e) = k - evF e := IntWalk.i64_in _ (by omega); rw [← hw2, ← hx]; exact rfl
  ·have q3 : (bif decide (evF e ≤ k) then decide (k < IntKind.i64.wrap (evF e + evC e)) else false) = false := by rw [← hx]; exact q2
   rw [hw] at q3
   have hn : ¬ (evF e ≤ k ∧ k < evF e + evC e) := fun ⟨d1, d2⟩ => by
    rw [show decide (evF e ≤ k) = true by simpa using d1, show decide (k < evF e + evC e) = true by simpa using d2] at q3; cases q3
   refine lp_next (i + 1) ⟨hlt, ?_⟩ ?_ ?_
   ·rw [he, bOf_out hn]; congr 1
   ·exact hd [] rfl (aI (aI (wrapS (by omega)) rfl) trivial) ⟨trivial, ⟨⟨rfl, rfl⟩, ⟨rfl, rfl⟩, trivial⟩, trivial⟩
   ·show es.length - (i + 1) < es.length - i; omega
 ·have hge : es.length ≤ i := by
   have q2 : decide (((i : Nat) : Int) < (es.length : Nat)) = false := q1; simp only [decide_eq_false_iff_not] at q2; omega
  rw [he, List.drop_of_length_le hge]; exact rfl
def w1T (a : List NEvent) (same : List Int) : List Tok := [.cel 10000 38 [.rsl uEvent a], .cel 10001 155 [.sl 10002], .row 10002 3 1 (.int .i64) same []]
abbrev vB (p : Int × Int) : SV := .agg [.int .i64 p.1, .int .i64 p.2]
set_option maxRecDepth 100000 in
theorem within1 (a : List NEvent) (same : List Int) (k : Int) (hl : a.length ≤ 1000000) (hb : EvB a) (hk : -1000000 ≤ k ∧ k ≤ 1000000) (hs : (bOf a 0 k).1 < (same.length : Nat)) : FCall Tryz.prog 116 [.int .i64 k, .ptr 10000 0, .ptr 10001 0] (w1T a same) (vB (inBf a same k)) (w1T a same) := by
 refine FCall.intro (nt := 19) ti_ok mixed okWithin1 Tryz.func116 rfl rfl rfl rfl rfl rfl ?_; refine Or.inl (eI _ (aI (birthQ a k hl hb hk) ?_)); unfold inBf; refine aI (fun q1 => ?_) (fun q1 => ?_)
 ·have q2 : decide (0 ≤ (bOf a 0 k).1) = true := q1; have q3 : 0 ≤ (bOf a 0 k).1 := by simpa using q2
  rw [q2]; refine aI ⟨q3, hs⟩ ?_; refine fin [] (aI rfl ?_); exact ⟨trivial, ⟨rfl, trivial⟩, trivial, ⟨rfl, trivial⟩, ⟨rfl, List.nil_prefix⟩, trivial⟩
 ·have q2 : decide (0 ≤ (bOf a 0 k).1) = false := q1; rw [q2]; refine fin [] (aI rfl ?_); exact ⟨trivial, ⟨rfl, trivial⟩, trivial, ⟨rfl, trivial⟩, ⟨rfl, List.nil_prefix⟩, trivial⟩
def w2T (b : List NEvent) (x y : Int × Int) : List Tok := [.cel 10000 38 [.rsl uEvent b], .cel 10001 157 [.int .i64 x.1, .int .i64 x.2], .cel 10002 157 [.int .i64 y.1, .int .i64 y.2]]
set_option maxRecDepth 100000 in
theorem within2 (b : List NEvent) (x y : Int × Int) (f : NEvent) (hl : b.length ≤ 1000000) (hb : EvB b) (h1 : -1000000 ≤ f.1 ∧ f.1 ≤ 1000000) (h2 : -1000000 ≤ f.2.1 ∧ f.2.1 ≤ 1000000) : FCall Tryz.prog 119 [vEv f, .ptr 10000 0, .ptr 10001 0, .ptr 10002 0] (w2T b x y) (.bool (hitI b x y f)) (w2T b x y) := by
 refine FCall.intro (nt := 34) ti_ok mixed okWithin2 Tryz.func119 rfl rfl rfl rfl rfl rfl ?_; refine Or.inl (eI _ (aI (birthQ b f.1 hl hb h1) ?_)); refine Or.inl (eI _ (aI (birthQ b f.2.1 hl hb h2) ?_)); refine aI (by kernel_rfl) ?_; refine aI ⟨by kernel_rfl, rfl⟩ ?_; refine aI (fun _ => ⟨by kernel_rfl, rfl⟩) ?_; refine aI (fun _ => ⟨by kernel_rfl, rfl⟩) ?_; refine aI (fun _ => ⟨by kernel_rfl, rfl⟩) ?_; refine fin [] (aI rfl ?_); exact ⟨trivial, ⟨rfl, trivial⟩, trivial, ⟨⟨rfl, rfl⟩, ⟨rfl, rfl⟩, trivial⟩, trivial, ⟨⟨rfl, rfl⟩, ⟨rfl, rfl⟩, trivial⟩, trivial⟩
set_option maxRecDepth 100000 in
theorem idxEv (b : List NEvent) (x y : Int × Int) (hl : b.length ≤ 1000000) (hb : EvB b) (hf : ∀ f ∈ b, (-1000000 ≤ f.1 ∧ f.1 ≤ 1000000) ∧ -1000000 ≤ f.2.1 ∧ f.2.1 ≤ 1000000) : FCall Tryz.prog 118 [.rsl uEvent b, .fn 119 [.ptr 10000 0, .ptr 10001 0, .ptr 10002 0]] (w2T b x y) (.int .i64 (idxN (hitI b x y) b 0)) (w2T b x y) := by
 refine FCall.intro (nt := 19) ti_ok mixed okIdxEv Tryz.func118 rfl rfl rfl rfl rfl rfl ?_; refine lp Nat (fun i => [(8, .int .i64 (i : Nat))]) (fun _ => w2T b x y) (fun i => b.length - i) (fun i => i ≤ b.length ∧ idxN (hitI b x y) b 0 = idxN (hitI b x y) (b.drop i) i) 0 ⟨Nat.zero_le _, rfl⟩ ?_ ?_
 ·exact hd [] rfl (aI (aI rfl rfl) trivial) ⟨trivial, ⟨rfl, trivial⟩, trivial, ⟨⟨rfl, rfl⟩, ⟨rfl, rfl⟩, trivial⟩, trivial, ⟨⟨rfl, rfl⟩, ⟨rfl, rfl⟩, trivial⟩, trivial⟩
 rintro i ⟨hi, he⟩; refine aI (fun q1 => ?_) (fun q1 => ?_)
 ·have hlt : i < b.length := by
   have q2 : decide (((i : Nat) : Int) < (b.length : Nat)) = true := q1; simp only [decide_eq_true_eq] at q2; omega
  have hm := hf _ (eltE hlt); rw [dropE hlt] at he; refine aI (show 0 ≤ ((i : Nat) : Int) ∧ ((i : Nat) : Int) < (b.length : Nat) by omega) ?_; refine Or.inr (eI _ (eI _ (aI (within2 b x y (elt (dflt uEvent) b ((i : Nat) : Int)) hl hb hm.1 hm.2) ?_))); refine aI (fun q2 => ?_) (fun q2 => ?_)
  ·rw [he, show idxN (hitI b x y) (elt (dflt uEvent) b ((i : Nat) : Int) :: b.drop (i + 1)) i = i by unfold idxN; rw [show hitI b x y (elt (dflt uEvent) b ((i : Nat) : Int)) = true from q2]; rfl]; exact fin [] (aI ⟨rfl, rfl⟩ ⟨trivial, ⟨rfl, trivial⟩, trivial, ⟨⟨rfl, rfl⟩, ⟨rfl, rfl⟩, trivial⟩, trivial, ⟨⟨rfl, rfl⟩, ⟨rfl, rfl⟩, trivial⟩, trivial⟩)
  ·refine lp_next (i + 1) ⟨hlt, ?_⟩ ?_ ?_
   ·rw [he]
    conv => lhs; unfold idxN
    rw [show hitI b x y (elt (dflt uEvent) b ((i : Nat) : Int)) = false from q2]; rfl
   ·exact hd [] rfl (aI (aI (wrapS (by omega)) rfl) trivial) ⟨trivial, ⟨rfl, trivial⟩, trivial, ⟨⟨rfl, rfl⟩, ⟨rfl, rfl⟩, trivial⟩, trivial, ⟨⟨rfl, rfl⟩, ⟨rfl, rfl⟩, trivial⟩, trivial⟩
   ·show b.length - (i + 1) < b.length - i; omega
 ·have hge : b.length ≤ i := by
   have q2 : decide (((i : Nat) : Int) < (b.length : Nat)) = false := q1; simp only [decide_eq_false_iff_not] at q2; omega
  rw [he, List.drop_of_length_le hge]; exact fin [] (aI ⟨rfl, rfl⟩ ⟨trivial, ⟨rfl, trivial⟩, trivial, ⟨⟨rfl, rfl⟩, ⟨rfl, rfl⟩, trivial⟩, trivial, ⟨⟨rfl, rfl⟩, ⟨rfl, rfl⟩, trivial⟩, trivial⟩)
set_option maxRecDepth 100000 in
set_option maxHeartbeats 4000000 in
theorem withinI (a b : List NEvent) (hla : a.length ≤ 300) (hlb : b.length ≤ 300) (hba : EvB a) (hbb : EvB b) (hfa : ∀ f ∈ a, (-1000000 ≤ f.1 ∧ f.1 ≤ 1000000) ∧ -1000000 ≤ f.2.1 ∧ f.2.1 ≤ 1000000) (hfb : ∀ f ∈ b, (-1000000 ≤ f.1 ∧ f.1 ≤ 1000000) ∧ -1000000 ≤ f.2.1 ∧ f.2.1 ≤ 1000000)
  (ho : ∀ i : Nat, i < a.length → (bOf a 0 (elt (dflt uEvent) a (i : Nat)).1).1 < ((i : Nat) : Int) ∧ (bOf a 0 (elt (dflt uEvent) a (i : Nat)).2.1).1 < ((i : Nat) : Int)) : FCall Tryz.prog 63 [.rsl uEvent a, .rsl uEvent b] [] (.bool (wIF a b a [])) [] := by
 refine FCall.intro (nt := 37) ti_ok mixed okWithin Tryz.func63 rfl rfl rfl rfl rfl rfl ?_; refine lp (Nat × List Int) (fun s => [(15, .int .i64 (s.1 : Nat))]) (fun s => [.cel 2 38 [.rsl uEvent a], .cel 3 38 [.rsl uEvent b], .cel 5 155 [.sl 20000], .row 20000 3 1 (.int .i64) s.2 []]) (fun s => a.length - s.1) (fun s => s.1 ≤ a.length ∧ s.2.length = s.1 ∧ wIF a b a [] = wIF a b (a.drop s.1) s.2) (0, []) ⟨Nat.zero_le _, rfl, rfl⟩ ?_ ?_
 ·exact hdm [⟨1000005, 30000, 3, 1, .int .i64⟩] [(20000, 30000)] rfl (aI (aI (aI rfl rfl) trivial) ⟨trivial, ⟨rfl, trivial⟩, trivial, ⟨rfl, trivial⟩, trivial, ⟨rfl, trivial⟩, ⟨rfl, List.nil_prefix⟩, trivial⟩)
 rintro ⟨i, same⟩ ⟨hi, hsl, he⟩; have hi' : i ≤ a.length := hi; have hsl' : same.length = i := hsl; have he' : wIF a b a [] = wIF a b (a.drop i) same := he; refine aI (fun q1 => ?_) (fun q1 => ?_)
 ·have hlt : i < a.length := by
   have q2 : decide (((i : Nat) : Int) < (a.length : Nat)) = true := q1; simp only [decide_eq_true_eq] at q2; omega
  have hm := hfa _ (eltE hlt); have hoi := ho i hlt; rw [dropE hlt] at he'; have hstep : ∀ (e : NEvent) (es : List NEvent), wIF a b (e :: es) same = bif decide (idxN (hitI b (inBf a same e.1) (inBf a same e.2.1)) b 0 < 0) then false else wIF a b es (same ++ [idxN (hitI b (inBf a same e.1) (inBf a same e.2.1)) b 0]) := fun _ _ => rfl
  rw [hstep] at he'; refine aI (show 0 ≤ ((i : Nat) : Int) ∧ ((i : Nat) : Int) < (a.length : Nat) by omega) ?_; refine Or.inl (eI _ (eI _ (aI (within1 a same (elt (dflt uEvent) a ((i : Nat) : Int)).1 (by omega) hba hm.1 (by rw [hsl']; exact hoi.1)) (aI rfl ?_)))); refine Or.inl (eI _ (eI _ (aI (within1 a same (elt (dflt uEvent) a ((i : Nat) : Int)).2.1 (by omega) hba hm.2 (by rw [hsl']; exact hoi.2)) (aI rfl ?_)))); refine aI (by kernel_rfl) ?_; refine Or.inr (eI _ (eI _ (aI (idxEv b (inBf a same (elt (dflt uEvent) a ((i : Nat) : Int)).1) (inBf a same (elt (dflt uEvent) a ((i : Nat) : Int)).2.1) (by omega) hbb hfb) ?_)))
  refine aI (fun q2 => ?_) (fun q2 => ?_)
  ·have q3 : decide (idxN (hitI b (inBf a same (elt (dflt uEvent) a ((i : Nat) : Int)).1) (inBf a same (elt (dflt uEvent) a ((i : Nat) : Int)).2.1)) b 0 < 0) = true := q2; rw [q3] at he'; rw [he']; exact fin [] (aI rfl trivial)
  ·have q3 : decide (idxN (hitI b (inBf a same (elt (dflt uEvent) a ((i : Nat) : Int)).1) (inBf a same (elt (dflt uEvent) a ((i : Nat) : Int)).2.1)) b 0 < 0) = false := q2; rw [q3] at he'; refine aI (show same.length + 1 ≤ 1073741824 by omega) ?_; refine lp_next (i + 1, same ++ [idxN (hitI b (inBf a same (elt (dflt uEvent) a ((i : Nat) : Int)).1) (inBf a same (elt (dflt uEvent) a ((i : Nat) : Int)).2.1)) b 0]) ⟨hlt, by show (same ++ [_]).length = i + 1; rw [List.length_append, hsl']; rfl, he'⟩ ?_ ?_
   ·exact hd [(20000, 35)] rfl (aI (aI (wrapS (by omega)) rfl) trivial) ⟨trivial, ⟨rfl, trivial⟩, trivial, ⟨rfl, trivial⟩, trivial, ⟨rfl, trivial⟩, ⟨rfl, List.nil_prefix⟩, trivial⟩
   ·show a.length - (i + 1) < a.length - i; omega
 ·have hge : a.length ≤ i := by
   have q2 : decide (((i : Nat) : Int) < (a.length : Nat)) = false := q1; simp only [decide_eq_false_iff_not] at q2; omega
  rw [he', List.drop_of_length_le hge]; exact fin [] (aI rfl trivial)
theorem okFindS : callOk Tryz.prog 59 = true := by kernel_rfl
theorem okMinS : callOk Tryz.prog 109 = true := by kernel_rfl
theorem okTwS : callOk Tryz.prog 18 = true := by kernel_rfl
theorem minQ (a b : Int) : QCall Tryz.prog 109 [.int .i64 a, .int .i64 b] (.int .i64 (min a b)) := by
 refine QCall.intro (nt := 10) ti_ok mixed okMinS Tryz.func109 rfl rfl rfl rfl rfl ?_; refine aI (fun q => ?_) (fun q => ?_)
 ·have q2 : decide (a < b) = true := q; simp only [decide_eq_true_eq] at q2; rw [show min a b = a by omega]; exact ⟨rfl, rfl⟩
 ·have q2 : decide (a < b) = false := q; simp only [decide_eq_false_iff_not] at q2; rw [show min a b = b by omega]; exact ⟨rfl, rfl⟩
theorem maxQ (a b : Int) : QCall Tryz.prog 110 [.int .i64 a, .int .i64 b] (.int .i64 (max a b)) := by
 have h := maxS a b
 have e : maxI a b = max a b := by
  unfold maxI; cases hd : decide (b < a) with
  | true => simp only [decide_eq_true_eq] at hd; simp only [cond_true]; omega
  | false => simp only [decide_eq_false_iff_not] at hd; simp only [cond_false]; omega
 rw [e] at h; exact h
set_option maxRecDepth 100000 in
theorem findQ (b : List NEvent) (u v : Int) (hl : b.length ≤ 1000000) : QCall Tryz.prog 59 [.rsl uEvent b, .int .i64 u, .int .i64 v] (.int .i64 (idxN (hitS u v) b 0)) := by
 refine QCall.intro (nt := 35) ti_ok mixed okFindS Tryz.func59 rfl rfl rfl rfl rfl ?_; refine lp Nat (fun i => [(7, .int .i64 (i : Nat))]) (fun _ => []) (fun i => b.length - i) (fun i => i ≤ b.length ∧ idxN (hitS u v) b 0 = idxN (hitS u v) (b.drop i) i) 0 ⟨Nat.zero_le _, rfl⟩ ?_ ?_
 ·exact hd [] rfl (aI (aI rfl rfl) trivial) trivial
 rintro i ⟨hi, he⟩; refine aI (fun q1 => ?_) (fun q1 => ?_)
 ·have hlt : i < b.length := by
   have q2 : decide (((i : Nat) : Int) < (b.length : Nat)) = true := q1; simp only [decide_eq_true_eq] at q2; omega
  rw [dropE hlt] at he; have hbd : 0 ≤ ((i : Nat) : Int) ∧ ((i : Nat) : Int) < (b.length : Nat) := by omega
  refine aI hbd ?_; refine Or.inl (eI _ (aI (minQ u v) ?_)); refine aI (fun _ => hbd) ?_; refine Or.inl (eI _ (aI (fun _ => maxQ u v) ?_)); refine aI (by kernel_rfl) ?_; refine aI (fun q2 => ?_) (fun q2 => ?_)
  ·rw [he, show idxN (hitS u v) (elt (dflt uEvent) b ((i : Nat) : Int) :: b.drop (i + 1)) i = i by unfold idxN; rw [show hitS u v (elt (dflt uEvent) b ((i : Nat) : Int)) = true from q2]; rfl]; exact ⟨rfl, rfl⟩
  ·refine lp_next (i + 1) ⟨hlt, ?_⟩ ?_ ?_
   ·rw [he]
    conv => lhs; unfold idxN
    rw [show hitS u v (elt (dflt uEvent) b ((i : Nat) : Int)) = false from q2]; rfl
   ·exact hd [] rfl (aI (aI (wrapS (by omega)) rfl) trivial) trivial
   ·show b.length - (i + 1) < b.length - i; omega
 ·have hge : b.length ≤ i := by
   have q2 : decide (((i : Nat) : Int) < (b.length : Nat)) = false := q1; simp only [decide_eq_false_iff_not] at q2; omega
  rw [he, List.drop_of_length_le hge]; exact ⟨rfl, rfl⟩
section
variable (bk : List (List NAgent)) (xs : List NAgent) (a b : List NEvent)
theorem ckBadE {es : List NEvent} {c : Int} (h : FCall Tryz.prog 58 [.rsl uNet bk, .rp uNet xs, .rsl uEvent es] [] (.tup [.agg [.raw (.slice none 0 0)], .int .i64 c]) []) : FCall Tryz.prog 58 [.rsl uNet bk, .ptr 10000 0, .rsl uEvent es] [.cel 10000 36 [.rsl uAgent xs]] (.tup [.agg [.raw (.slice none 0 0)], .int .i64 c]) [.cel 10000 36 [.rsl uAgent xs]] :=
 FCall.of_f (ts2 := []) ti_ok [0, 71, 0] okCheckS39 h rfl rfl rfl
theorem ckOkE {es : List NEvent} {g : List NAgent} (h : FCall Tryz.prog 58 [.rsl uNet bk, .rp uNet xs, .rsl uEvent es] [] (.tup [.agg [.sl 10000], .int .i64 0]) [.row 10000 150 5 uAgent g []]) : FCall Tryz.prog 58 [.rsl uNet bk, .ptr 10000 0, .rsl uEvent es] [.cel 10000 36 [.rsl uAgent xs]] (.tup [.agg [.sl 10001], .int .i64 0]) [.row 10001 150 5 uAgent g [], .cel 10000 36 [.rsl uAgent xs]] :=
 FCall.of_f (ts2 := [.row 10001 150 5 uAgent g []]) ti_ok [0, 71, 0] okCheckS39 h rfl rfl rfl
set_option maxRecDepth 100000 in
theorem twS1 {c : Int} (hc : c ≠ 0) (h : FCall Tryz.prog 58 [.rsl uNet bk, .rp uNet xs, .rsl uEvent a] [] (.tup [.agg [.raw (.slice none 0 0)], .int .i64 c]) []) : FCall Tryz.prog 18 [.rsl uNet bk, .agg [.rsl uAgent xs], .rsl uEvent a, .rsl uEvent b] [] (.tup [.bool false, .int .i64 c]) [] := by
 refine FCall.intro (nt := 92) ti_ok mixed okTwS Tryz.func18 rfl rfl rfl rfl rfl rfl ?_; refine Or.inr (eI _ (eI _ (aI (ckBadE bk xs h) ?_))); refine aI (fun q => ?_) (fun q => ?_)
 ·exact fin [] (aI rfl trivial)
 ·exfalso; have q2 : (c != 0) = false := q; simp at q2; exact hc q2
set_option maxRecDepth 100000 in
theorem twS2 {g : List NAgent} {c : Int} (hc : c ≠ 0) (h1 : FCall Tryz.prog 58 [.rsl uNet bk, .rp uNet xs, .rsl uEvent a] [] (.tup [.agg [.sl 10000], .int .i64 0]) [.row 10000 150 5 uAgent g []]) (h : FCall Tryz.prog 58 [.rsl uNet bk, .rp uNet xs, .rsl uEvent b] [] (.tup [.agg [.raw (.slice none 0 0)], .int .i64 c]) []) : FCall Tryz.prog 18 [.rsl uNet bk, .agg [.rsl uAgent xs], .rsl uEvent a, .rsl uEvent b] [] (.tup [.bool false, .int .i64 c]) [] := by
 refine FCall.intro (nt := 92) ti_ok mixed okTwS Tryz.func18 rfl rfl rfl rfl rfl rfl ?_; refine Or.inr (eI _ (eI _ (aI (ckOkE bk xs h1) ?_))); refine aI (fun q => by cases q) (fun _ => ?_); refine Or.inr (eI _ (eI _ (aI (ckBadE bk xs h) ?_))); refine aI (fun q => ?_) (fun q => ?_)
 ·exact fin [] (aI rfl trivial)
 ·exfalso; have q2 : (c != 0) = false := q; simp at q2; exact hc q2
structure ToOk (n : Nat) (a : List NEvent) (N : Nat → Nat) : Prop where
 n0 : N 0 = n
 ns : ∀ i : Nat, i < a.length → N (i + 1) = N i + (evC (elt (dflt uEvent) a (i : Nat))).toNat
 le : ∀ i : Nat, i ≤ a.length → N i ≤ 1000000
 ab : ∀ i : Nat, i < a.length → (0 ≤ (elt (dflt uEvent) a (i : Nat)).1 ∧ (elt (dflt uEvent) a (i : Nat)).1 < ((N i : Nat) : Int)) ∧ 0 ≤ (elt (dflt uEvent) a (i : Nat)).2.1 ∧ (elt (dflt uEvent) a (i : Nat)).2.1 < ((N i : Nat) : Int)
set_option maxRecDepth 100000 in
set_option maxHeartbeats 4000000 in
theorem twS3 {g h : List NAgent} {N : Nat → Nat} (hxl : xs.length ≤ 1000000) (hla : a.length ≤ 300) (hlb : b.length ≤ 300) (hba : EvB a) (hbb : EvB b) (hN : ToOk xs.length a N)
  (h1 : FCall Tryz.prog 58 [.rsl uNet bk, .rp uNet xs, .rsl uEvent a] [] (.tup [.agg [.sl 10000], .int .i64 0]) [.row 10000 150 5 uAgent g []]) (h2 : FCall Tryz.prog 58 [.rsl uNet bk, .rp uNet xs, .rsl uEvent b] [] (.tup [.agg [.sl 10000], .int .i64 0]) [.row 10000 150 5 uAgent h []]) : FCall Tryz.prog 18 [.rsl uNet bk, .agg [.rsl uAgent xs], .rsl uEvent a, .rsl uEvent b] [] (.tup [.bool (wSF b a ((List.range xs.length).map fun i : Nat => (i : Int))), .int .i64 0]) [] := by
 refine FCall.intro (nt := 92) ti_ok mixed okTwS Tryz.func18 rfl rfl rfl rfl rfl rfl ?_; refine Or.inr (eI _ (eI _ (aI (ckOkE bk xs h1) ?_))); refine aI (fun q => by cases q) (fun _ => ?_); refine Or.inr (eI _ (eI _ (aI (ckOkE bk xs h2) ?_))); refine aI (fun q => by cases q) (fun _ => ?_); refine lp Nat (fun i => [(13, .int .i64 (i : Nat)), (12, .sl 20000)]) (fun i => [.cel 5 36 [.rsl uAgent xs], .row 20000 2 1 (.int .i64) ((List.range i).map fun i : Nat => (i : Int)) []]) (fun i => xs.length - i) (fun i => i ≤ xs.length) 0 (Nat.zero_le _) ?_ ?_
 ·exact hd [(20000, 35)] rfl (aI (aI rfl rfl) (aI rfl trivial)) ⟨trivial, ⟨rfl, trivial⟩, ⟨rfl, List.nil_prefix⟩, trivial⟩
 intro i hi; refine aI (fun q1 => ?_) (fun q1 => ?_)
 ·have hlt : i < xs.length := by
   have q2 : decide (((i : Nat) : Int) < (xs.length : Nat)) = true := q1; simp only [decide_eq_true_eq] at q2; omega
  refine aI (show ((List.range i).map fun i : Nat => (i : Int)).length + 1 ≤ 1073741824 by simp; omega) ?_; refine lp_next (i + 1) hlt ?_ ?_
  ·refine hd [(20000, 46)] rfl (aI (aI (wrapS (by omega)) rfl) (aI rfl trivial)) ⟨trivial, ⟨rfl, trivial⟩, ⟨?_, List.nil_prefix⟩, trivial⟩; show ((List.range i).map fun i : Nat => (i : Int)) ++ [(i : Int)] = (List.range (i + 1)).map fun i : Nat => (i : Int)
   rw [List.range_succ, List.map_append]; rfl
  ·show xs.length - (i + 1) < xs.length - i; omega
 have hie : i = xs.length := by
  have q2 : decide (((i : Nat) : Int) < (xs.length : Nat)) = false := q1; simp only [decide_eq_false_iff_not] at q2; have hi' : i ≤ xs.length := hi; omega
 subst hie; refine lp (Nat × List Int) (fun s => [(14, .int .i64 (s.1 : Nat)), (12, .sl 20000)]) (fun s => [.row 20000 2 1 (.int .i64) s.2 []]) (fun s => a.length - s.1) (fun s => s.1 ≤ a.length ∧ s.2.length = N s.1 ∧ wSF b a ((List.range xs.length).map fun i : Nat => (i : Int)) = wSF b (a.drop s.1) s.2) (0, (List.range xs.length).map fun i : Nat => (i : Int)) ⟨Nat.zero_le _, by show (List.map _ _).length = N 0; rw [hN.n0]; simp, rfl⟩ ?_ ?_
 ·exact hd [] rfl (aI (aI rfl rfl) (aI rfl trivial)) ⟨⟨rfl, List.nil_prefix⟩, trivial⟩
 rintro ⟨k, tl⟩ ⟨hk, htl, he⟩; have hk' : k ≤ a.length := hk; have htl' : tl.length = N k := htl; have he' : wSF b a ((List.range xs.length).map fun i : Nat => (i : Int)) = wSF b (a.drop k) tl := he; refine aI (fun q2 => ?_) (fun q2 => ?_)
 ·have hlt : k < a.length := by
   have q3 : decide (((k : Nat) : Int) < (a.length : Nat)) = true := q2; simp only [decide_eq_true_eq] at q3; omega
  have hstep : ∀ (e : NEvent) (es : List NEvent), wSF b (e :: es) tl = bif decide (idxN (hitS (elt 0 tl e.1) (elt 0 tl e.2.1)) b 0 < 0) then false else wSF b es (tl ++ newTo (evF (evAt b (idxN (hitS (elt 0 tl e.1) (elt 0 tl e.2.1)) b 0))) (evC e)) := fun _ _ => rfl
  rw [dropE hlt, hstep] at he'; have hba' := hba _ (eltE hlt); have hab := hN.ab k hlt; have hns := hN.ns k hlt; have hle := hN.le (k + 1) hlt; generalize hx : elt (dflt uEvent) a ((k : Nat) : Int) = e at *; have hbd : 0 ≤ ((k : Nat) : Int) ∧ ((k : Nat) : Int) < (a.length : Nat) := by omega
  have hA : 0 ≤ (elt (dflt uEvent) a ((k : Nat) : Int)).1 ∧ (elt (dflt uEvent) a ((k : Nat) : Int)).1 < (tl.length : Nat) := by rw [hx, htl']; exact hab.1
  have hB : 0 ≤ (elt (dflt uEvent) a ((k : Nat) : Int)).2.1 ∧ (elt (dflt uEvent) a ((k : Nat) : Int)).2.1 < (tl.length : Nat) := by rw [hx, htl']; exact hab.2
  refine aI hbd ?_; refine aI hA ?_; refine aI hbd ?_; refine aI hB ?_; refine Or.inl (eI _ (aI (findQ b _ _ (by omega)) ?_)); refine aI (by kernel_rfl) ?_; have hfe : idxN (hitS (elt 0 tl (elt (dflt uEvent) a ((k : Nat) : Int)).1) (elt 0 tl (elt (dflt uEvent) a ((k : Nat) : Int)).2.1)) b 0 = idxN (hitS (elt 0 tl e.1) (elt 0 tl e.2.1)) b 0 := by rw [hx]
  refine aI (fun q3 => ?_) (fun q3 => ?_)
  ·have q4 : decide (idxN (hitS (elt 0 tl e.1) (elt 0 tl e.2.1)) b 0 < 0) = true := by rw [← hfe]; exact q3
   rw [q4] at he'; rw [he']; exact fin [] (aI rfl trivial)
  have q4 : decide (idxN (hitS (elt 0 tl e.1) (elt 0 tl e.2.1)) b 0 < 0) = false := by rw [← hfe]; exact q3
  rw [q4] at he'; simp only [cond_false] at he'; generalize hat : idxN (hitS (elt 0 tl e.1) (elt 0 tl e.2.1)) b 0 = at_ at *
  have hge : 0 ≤ at_ := by simpa using q4
  have hatl : at_ < (b.length : Nat) := by
   obtain ⟨p, f, r, e1, e2, _⟩ := idxN_spec (hitS (elt 0 tl e.1) (elt 0 tl e.2.1)) b 0 (Int.le_refl 0) (by rw [hat]; exact hge); rw [hat] at e2; rw [e1, List.length_append, List.length_cons]; omega
  have hfm : evAt b at_ ∈ b := by
   unfold evAt; rw [show at_ = ((at_.toNat : Nat) : Int) by omega]; exact eltE (by omega)
  have hFb := hbb _ hfm; have hbd2 : 0 ≤ idxN (hitS (elt 0 tl (elt (dflt uEvent) a ((k : Nat) : Int)).1) (elt 0 tl (elt (dflt uEvent) a ((k : Nat) : Int)).2.1)) b 0 ∧ idxN (hitS (elt 0 tl (elt (dflt uEvent) a ((k : Nat) : Int)).1) (elt 0 tl (elt (dflt uEvent) a ((k : Nat) : Int)).2.1)) b 0 < (b.length : Nat) := by rw [hfe]; exact ⟨hge, hatl⟩
  refine lp Nat (fun j => [(16, .int .i64 (j : Nat)), (12, .sl 21000)]) (fun j => [.row 21000 2 1 (.int .i64) (tl ++ newTo (evF (evAt b at_)) ((j : Nat) : Int)) []]) (fun j => (evC e).toNat - j) (fun j => j ≤ (evC e).toNat) 0 (Nat.zero_le _) ?_ ?_
  ·refine hd [(21000, 20000)] rfl (aI (aI rfl rfl) (aI rfl trivial)) ⟨⟨?_, List.nil_prefix⟩, trivial⟩; show tl = tl ++ newTo (evF (evAt b at_)) ((0 : Nat) : Int); exact (List.append_nil tl).symm
  intro j hj; have hj' : j ≤ (evC e).toNat := hj; refine aI hbd ?_; refine aI (fun q5 => ?_) (fun q5 => ?_)
  ·have hjl : ((j : Nat) : Int) < evC e := by
    have q6 : decide (((j : Nat) : Int) < evC (elt (dflt uEvent) a ((k : Nat) : Int))) = true := q5; rw [hx] at q6; simpa using q6
   refine aI hbd2 ?_; refine aI (show (tl ++ newTo (evF (evAt b at_)) ((j : Nat) : Int)).length + 1 ≤ 1073741824 by rw [List.length_append, newTo_len]; omega) ?_; refine lp_next (j + 1) (by omega) ?_ ?_
   ·refine hd [(21000, 91)] rfl (aI (aI (wrapS (by omega)) rfl) (aI rfl trivial)) ⟨⟨?_, List.nil_prefix⟩, trivial⟩; show (tl ++ newTo (evF (evAt b at_)) ((j : Nat) : Int)) ++ [IntKind.i64.wrap (evF (evAt b (idxN (hitS (elt 0 tl (elt (dflt uEvent) a ((k : Nat) : Int)).1) (elt 0 tl (elt (dflt uEvent) a ((k : Nat) : Int)).2.1)) b 0)) + ((j : Nat) : Int))] = tl ++ newTo (evF (evAt b at_)) ((j + 1 : Nat) : Int); rw [hfe, IntWalk.i64_in _ (by omega), List.append_assoc]
    congr 1
    unfold newTo; rw [Int.toNat_natCast, Int.toNat_natCast, List.range_succ, List.map_append]; rfl
   ·show (evC e).toNat - (j + 1) < (evC e).toNat - j; omega
  have hje : ((j : Nat) : Int) = evC e := by
   have q6 : decide (((j : Nat) : Int) < evC (elt (dflt uEvent) a ((k : Nat) : Int))) = false := q5; rw [hx] at q6; simp only [decide_eq_false_iff_not] at q6; omega
  refine lp_next (k + 1, tl ++ newTo (evF (evAt b at_)) (evC e)) ⟨hlt, by show (tl ++ newTo _ _).length = N (k + 1); rw [List.length_append, newTo_len, hns, htl'], he'⟩ ?_ ?_
  ·refine hd [(20000, 21000)] rfl (aI (aI (wrapS (by omega)) rfl) (aI rfl trivial)) ⟨⟨?_, List.nil_prefix⟩, trivial⟩; show tl ++ newTo (evF (evAt b at_)) ((j : Nat) : Int) = tl ++ newTo (evF (evAt b at_)) (evC e); rw [hje]
  ·show a.length - (k + 1) < a.length - k; omega
 ·have hge : a.length ≤ k := by
   have q3 : decide (((k : Nat) : Int) < (a.length : Nat)) = false := q2; simp only [decide_eq_false_iff_not] at q3; omega
  rw [he', List.drop_of_length_le hge]; exact fin [] (aI rfl trivial)
end
end Go.Proofs.YtemalpelcdmemaaGreat
namespace Go.Proofs.YtemalpelcdmemaaGreat
open Go Go.RowKit Go.Proofs Go.Tr
theorem okTwI : callOk Tryz.prog 22 = true := by kernel_rfl
section
variable (bk : List (List NAgent)) (xs : List NAgent) (a b : List NEvent)
set_option maxRecDepth 100000 in
theorem twI1 {c : Int} (hc : c ≠ 0) (h : FCall Tryz.prog 62 [.rsl uNet bk, .agg [.rsl uAgent xs], .rsl uEvent a] [] (.tup [.raw (.pointer none), .int .i64 c]) []) : FCall Tryz.prog 22 [.rsl uNet bk, .agg [.rsl uAgent xs], .rsl uEvent a, .rsl uEvent b] [] (.tup [.bool false, .int .i64 c]) [] := by
 refine FCall.intro (nt := 37) ti_ok mixed okTwI Tryz.func22 rfl rfl rfl rfl rfl rfl ?_; refine Or.inr (eI _ (eI _ (aI h ?_))); refine aI (fun q => ?_) (fun q => ?_)
 ·exact fin [] (aI rfl trivial)
 ·exfalso; have q2 : (c != 0) = false := q; simp at q2; exact hc q2
set_option maxRecDepth 100000 in
theorem twI2 {k : List (Int × Bool)} {f : List NAgent} {c : Int} (hc : c ≠ 0) (h1 : FCall Tryz.prog 62 [.rsl uNet bk, .agg [.rsl uAgent xs], .rsl uEvent a] [] (.tup [.ptr 10000 0, .int .i64 0]) (tR f [] bk k a)) (h : FCall Tryz.prog 62 [.rsl uNet bk, .agg [.rsl uAgent xs], .rsl uEvent b] [] (.tup [.raw (.pointer none), .int .i64 c]) []) : FCall Tryz.prog 22 [.rsl uNet bk, .agg [.rsl uAgent xs], .rsl uEvent a, .rsl uEvent b] [] (.tup [.bool false, .int .i64 c]) [] := by
 refine FCall.intro (nt := 37) ti_ok mixed okTwI Tryz.func22 rfl rfl rfl rfl rfl rfl ?_; refine Or.inr (eI _ (eI _ (aI h1 ?_))); refine aI (fun q => by cases q) (fun _ => ?_); refine Or.inr (eI _ (eI _ (aI h ?_))); refine aI (fun q => ?_) (fun q => ?_)
 ·exact fin [] (aI rfl trivial)
 ·exfalso; have q2 : (c != 0) = false := q; simp at q2; exact hc q2
set_option maxRecDepth 100000 in
theorem twI3 {k l : List (Int × Bool)} {f g : List NAgent} {r : Bool} (h1 : FCall Tryz.prog 62 [.rsl uNet bk, .agg [.rsl uAgent xs], .rsl uEvent a] [] (.tup [.ptr 10000 0, .int .i64 0]) (tR f [] bk k a)) (h2 : FCall Tryz.prog 62 [.rsl uNet bk, .agg [.rsl uAgent xs], .rsl uEvent b] [] (.tup [.ptr 10000 0, .int .i64 0]) (tR g [] bk l b))
  (h3 : FCall Tryz.prog 63 [.rsl uEvent a, .rsl uEvent b] [] (.bool r) []) : FCall Tryz.prog 22 [.rsl uNet bk, .agg [.rsl uAgent xs], .rsl uEvent a, .rsl uEvent b] [] (.tup [.bool r, .int .i64 0]) [] := by
 refine FCall.intro (nt := 37) ti_ok mixed okTwI Tryz.func22 rfl rfl rfl rfl rfl rfl ?_; refine Or.inr (eI _ (eI _ (aI h1 ?_))); refine aI (fun q => by cases q) (fun _ => ?_); refine Or.inr (eI _ (eI _ (aI h2 ?_))); refine aI (fun q => by cases q) (fun _ => ?_); refine Or.inr (eI _ (eI _ (aI h3 ?_))); exact fin [] (aI rfl trivial)
inductive Ck (es : List NEvent) : Prop
 | bad (c : Int) (hc : c ≠ 0) (hI : FCall Tryz.prog 62 [.rsl uNet bk, .agg [.rsl uAgent xs], .rsl uEvent es] [] (.tup [.raw (.pointer none), .int .i64 c]) [])
  (hS : FCall Tryz.prog 58 [.rsl uNet bk, .rp uNet xs, .rsl uEvent es] [] (.tup [.agg [.raw (.slice none 0 0)], .int .i64 c]) [])
 | ok (k : List (Int × Bool)) (f g : List NAgent) (hI : FCall Tryz.prog 62 [.rsl uNet bk, .agg [.rsl uAgent xs], .rsl uEvent es] [] (.tup [.ptr 10000 0, .int .i64 0]) (tR f [] bk k es))
  (hS : FCall Tryz.prog 58 [.rsl uNet bk, .rp uNet xs, .rsl uEvent es] [] (.tup [.agg [.sl 10000], .int .i64 0]) [.row 10000 150 5 uAgent g []])
  (tw : Tr.Twin k f g) (l1 : f.length ≤ 3000) (le : es.length ≤ 300) (hB : BkS bk) (hN : NetOk xs) (run : SRun bk (xs.map sig) es (f.map sig))
theorem NetOk.small {xs : List NAgent} (h : NetOk xs) : NetSmall xs := by
 have hl := h.l2; refine ⟨by omega, fun i => ?_⟩
 by_cases hi : i < xs.length
 ·have w := h.wf (i : Nat) (by omega) (by omega); have h1 := wf_data w; have h2 := (wf_small w).2; exact ⟨by show (agAt xs (i : Nat)).2.2.2.1.length ≤ 1048576; omega, by show (agAt xs (i : Nat)).2.2.2.2.length ≤ 1048576; omega⟩
 ·rw [agAt_out (by omega)]; decide
theorem ck_all (es : List NEvent) : Ck bk xs es := by
 cases hv : (bookB (bk.map gN) && netB (gN xs)) with
 | false => exact .bad 1 (by decide) (checkedInv bk xs es hv) (checkSInv bk xs es hv)
 | true =>
  rw [Bool.and_eq_true] at hv; obtain ⟨hB, hN⟩ := hv
  by_cases hl : 300 < es.length
  ·exact .bad 2 (by decide) (checkedLong bk xs es hB hN hl) (checkSLong bk xs es hB hN hl)
  ·have nb := (bookB_ok hB).1; have nn := netB_ok hN; have hl2 := nn.l2; have hs : NetSmall xs := NetOk.small nn; obtain ⟨code, k, f, g, R, h⟩ := runs_all nb es (ev := []) nn.twin (by omega) (by rw [List.length_nil]; omega)
   by_cases hc : code = 0
   ·subst hc; obtain ⟨t1, t2, t3⟩ := h rfl; exact .ok k f g (checkedOk bk xs es hB hN hs (by omega) R) (checkSOk bk xs es hB hN hs (by omega) R) t1 t2 (by omega) nb nn t3
   ·exact .bad code hc (checkedBad bk xs es hB hN hs (by omega) hc R) (checkSBad bk xs es hB hN hs (by omega) hc R)
end
theorem run_ev {bk : List (List NAgent)} {s s' : List Sig} {es : List NEvent} (h : SRun bk s es s') (hl : s'.length ≤ 3000) : EvB es ∧ ∀ f ∈ es, (-1000000 ≤ f.1 ∧ f.1 ≤ 1000000) ∧ -1000000 ≤ f.2.1 ∧ f.2.1 ≤ 1000000 := by
 refine ⟨fun e he => ?_, fun f hf => ?_⟩
 ·have := h.rng e he; omega
 ·have hab := h.ab f hf; have h1 : 0 ≤ f.1 := hab.1; have h2 : f.1 < f.2.1 := hab.2.1; have h3 : f.2.1 < ((s'.length : Nat) : Int) := hab.2.2; omega
def lenAt (n : Nat) (es : List NEvent) (i : Nat) : Nat := (es.take i).foldl (fun k e => k + (evC e).toNat) n
theorem run_len {bk : List (List NAgent)} : ∀ {s s' : List Sig} {es : List NEvent}, SRun bk s es s' → es.foldl (fun k e => k + (evC e).toNat) s.length = s'.length
 | _, _, _, .done _ => rfl
 | _, _, _, .step (s := s) (e := e) h0 hlt h1 hf hn hw r => by
  rw [List.foldl_cons]; have h2 := run_len r; rw [List.length_append] at h2
  have : (evC e).toNat = (nwA bk (sAt s e.1) (sAt s e.2.1)).length := by
   have h3 : evC e = _ := hn; omega
  rw [this]; exact h2
theorem run_at {bk : List (List NAgent)} {s s' : List Sig} {es : List NEvent} (h : SRun bk s es s') {i : Nat} (hi : i < es.length) : ∃ t, SRun bk s (es.take i) t ∧ SRun bk t (elt (dflt uEvent) es (i : Nat) :: es.drop (i + 1)) s' ∧ t.length = lenAt s.length es i := by
 have e : es = es.take i ++ elt (dflt uEvent) es (i : Nat) :: es.drop (i + 1) := by rw [← dropE hi, List.take_append_drop]
 obtain ⟨t, h1, h2⟩ := SRun.split (p := es.take i) (q := elt (dflt uEvent) es (i : Nat) :: es.drop (i + 1)) (by rw [← e]; exact h); exact ⟨t, h1, h2, (run_len h1).symm⟩
theorem run_to {bk : List (List NAgent)} {s s' : List Sig} {es : List NEvent} (h : SRun bk s es s') (hl : s'.length ≤ 3000) : ToOk s.length es (lenAt s.length es) := by
 refine ⟨rfl, fun i hi => ?_, fun i hi => ?_, fun i hi => ?_⟩
 ·unfold lenAt; rw [List.take_add_one, List.foldl_append]
  have e : es[i]?.toList = [elt (dflt uEvent) es (i : Nat)] := by
   unfold elt; rw [Int.toNat_natCast, List.getD_eq_getElem?_getD, List.getElem?_eq_getElem hi]; rfl
  rw [e]; rfl
 ·by_cases hlt : i < es.length
  ·obtain ⟨t, h1, h2, h3⟩ := run_at h hlt; have := h2.pre.length_le; omega
  ·have e : es.take i = es := List.take_of_length_le (by omega); unfold lenAt; rw [e, run_len h]; omega
 ·obtain ⟨t, h1, h2, h3⟩ := run_at h hi; rw [← h3]; cases h2 with
  | step h0 hlt g1 hf hn hw r => exact ⟨⟨h0, Int.lt_trans hlt g1⟩, Int.le_of_lt (Int.lt_of_le_of_lt h0 hlt), g1⟩
theorem run_old {bk : List (List NAgent)} {s s' : List Sig} {es : List NEvent} (h : SRun bk s es s') {i : Nat} (hi : i < es.length) : (bOf es 0 (elt (dflt uEvent) es (i : Nat)).1).1 < ((i : Nat) : Int) ∧ (bOf es 0 (elt (dflt uEvent) es (i : Nat)).2.1).1 < ((i : Nat) : Int) := by
 obtain ⟨t, h1, h2, h3⟩ := run_at h hi; have e : es = es.take i ++ elt (dflt uEvent) es (i : Nat) :: es.drop (i + 1) := by rw [← dropE hi, List.take_append_drop]
 have hlen : (es.take i).length = i := by rw [List.length_take]; omega
 have g := h2; cases g with
 | step h0 hlt g1 hf hn hw r =>
  have k1 := h1.old h2 (k := (elt (dflt uEvent) es (i : Nat)).1) (by omega); have k2 := h1.old h2 (k := (elt (dflt uEvent) es (i : Nat)).2.1) g1; rw [← e, hlen] at k1 k2; exact ⟨k1, k2⟩
theorem tw_both (bk : List (List NAgent)) (xs : List NAgent) (a b : List NEvent) : ∃ (r : Bool) (c : Int), FCall Tryz.prog 22 [.rsl uNet bk, .agg [.rsl uAgent xs], .rsl uEvent a, .rsl uEvent b] [] (.tup [.bool r, .int .i64 c]) [] ∧
  FCall Tryz.prog 18 [.rsl uNet bk, .agg [.rsl uAgent xs], .rsl uEvent a, .rsl uEvent b] [] (.tup [.bool r, .int .i64 c]) [] := by
 cases ck_all bk xs a with
 | bad c hc hI hS => exact ⟨false, c, twI1 bk xs a b hc hI, twS1 bk xs a b hc hS⟩
 | ok k f g hI hS tw l1 le hB hN run =>
  cases ck_all bk xs b with
  | bad c hc hI2 hS2 => exact ⟨false, c, twI2 bk xs a b hc hI hI2, twS2 bk xs a b hc hS hS2⟩
  | ok k2 f2 g2 hI2 hS2 tw2 l2 le2 hB2 hN2 run2 =>
   obtain ⟨ea, fa⟩ := run_ev run (by rw [List.length_map]; exact l1); obtain ⟨eb, fb⟩ := run_ev run2 (by rw [List.length_map]; exact l2); have hl2 := hN.l2; have hto := run_to run (by rw [List.length_map]; exact l1); rw [List.length_map] at hto; refine ⟨wIF a b a [], 0, twI3 bk xs a b hI hI2 (withinI a b le le2 ea eb fa fb fun i hi => run_old run hi), ?_⟩; have hw := within_eq run run2; rw [List.length_map] at hw; rw [hw]; exact twS3 bk xs a b (by omega) le le2 ea eb hto hS hS2
end Go.Proofs.YtemalpelcdmemaaGreat
