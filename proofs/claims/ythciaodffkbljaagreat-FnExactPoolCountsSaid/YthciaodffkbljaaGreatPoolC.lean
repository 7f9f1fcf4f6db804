/- Memories of cells and pools of workers, as data. No program in it. -/
import Derived.Test.YthciaodffkbljaaGreatNa
import Derived.Test.YthciaodffkbljaaGreatNet
import Derived.Test.YthciaodffkbljaaGreatProg
import Derived.Test.YthciaodffkbljaaGreatVti
import Derived.Test.YthciaodffkbljaaGreatVW
import Derived.Test.YthciaodffkbljaaGreatNetS
import Derived.Test.YthciaodffkbljaaGreatNetJ
import Derived.Test.YthciaodffkbljaaGreatDPool
import Derived.Test.YthciaodffkbljaaGreatMk
set_option linter.unusedSimpArgs false
set_option linter.unusedVariables false
namespace Go.Tr
open Go Go.RowKit
/-! ### agents as structures and as pairs -/
def gA (a : NAgent) : GAgent := ⟨a.1, a.2.1, a.2.2.1, a.2.2.2.1, a.2.2.2.2.map fun p => ⟨p.1, p.2⟩⟩
theorem enc_ints (l : List Int) : List.flatMap (enc (.int .i64)) l = l.flatMap intE := by
  induction l with
  | nil => rfl
  | cons x l ih => rw [List.flatMap_cons, List.flatMap_cons, ih]; rfl
theorem enc_ports (l : List NPort) : (l.map fun p => (⟨p.1, p.2⟩ : GPort)).flatMap GPort.enc = List.flatMap (enc uPort) l := by
  induction l with
  | nil => rfl
  | cons x l ih => rw [List.map_cons, List.flatMap_cons, List.flatMap_cons, ih]; rfl
theorem gA_enc (a : NAgent) : (gA a).enc = enc uAgent a := by
  show [_, _, _, D.sl _ _, D.sl _ _] = [_] ++ ([_] ++ ([_] ++ ([_] ++ [_])))
  simp only [List.cons_append, List.nil_append, gA]
  rw [enc_ports, ← enc_ints, List.length_map]
/-! ### memories -/
abbrev uLink : U := .pair uPort uPort
abbrev uMem : U := .pair (.sl uAgent) (.pair (.int .i64) (.pair uPort (.sl uPort)))
abbrev uWorker : U := .pair (.int .i64) (.pair (.int .i64) (.pair (.sl uPort) (.pair (.sl uLink) (.sl (.int .i64)))))
abbrev uPool : U := .pair uMem (.pair (.sl uWorker) (.int .i64))
abbrev NWord := Int × Int
abbrev NMem := List NAgent × Int × NWord × List NWord
abbrev NWorker := Int × Int × List NWord × List (NWord × NWord) × List Int
abbrev NPool := NMem × List NWorker × Int
def isAgB (k : Int) : Bool := inB k 2 12
/-- The agent that is looked at for a cell. -/
def cellA (c : NAgent) : NAgent := (c.1, c.2.1, c.2.2.1, c.2.2.2.1, List.replicate (c.2.2.2.2.length + 1) (0, 0))
def cellS (c : NAgent) (size : Int) : Bool :=
  bif c.1 == 0 then (((c.2.1 == 0 && c.2.2.2.1.length == 0) && c.2.2.2.2.length == 0) && inB c.2.2.1 (-1) (size - 1))
  else bif c.1 == 13 then (((c.2.1 == 0 && c.2.2.1 == 0) && c.2.2.2.1.length == 0) && decide (c.2.2.2.2.length < 2))
  else isAgB c.1 && agentB (gA (cellA c))
def cellI (c : NAgent) : Bool :=
  bif isAgB c.1 then agentB (gA (cellA c))
  else bif c.1 == 13 then (((c.2.1 == 0 && c.2.2.1 == 0) && c.2.2.2.1.length == 0) && decide (c.2.2.2.2.length ≤ 1))
  else ((c.1 == 0 && c.2.1 == 0) && c.2.2.2.1.length == 0) && c.2.2.2.2.length == 0
def wordB (xs : List NAgent) (w : NWord) : Bool := inB w.2 0 ((xs.length : Int) - 1) && ((w.1 == 1 && isAgB (agAt xs w.2).1) || (w.1 == 2 && (agAt xs w.2).1 == 13))
def wordsN (m : NMem) : List NWord := m.2.2.1 :: m.1.flatMap fun c => c.2.2.2.2
def redexB (xs : List NAgent) (p : NWord) : Bool := ((inB p.2 1 ((xs.length : Int) - 1) && inB p.1 0 (p.2 - 1)) && isAgB (agAt xs p.1).1) && isAgB (agAt xs p.2).1
def bumpN (l : List Int) (i : Int) : List Int := l.set i.toNat (IntKind.i64.wrap (l.getD i.toNat 0 + 1))
def usesW (l : List Int) (ws : List NWord) : List Int := ws.foldl (fun l w => bumpN l w.2) l
def usesR (l : List Int) (rs : List NWord) : List Int := rs.foldl (fun l p => bumpN (bumpN l p.1) p.2) l
def usesN (xs : List NAgent) (ws rs : List NWord) : List Int := usesR (usesW (List.replicate xs.length 0) ws) rs
def resN (xs : List NAgent) : Nat → NWord → NWord × Bool
  | 0, w => (w, false)
  | k + 1, w => bif (w.1 != 2) || (agAt xs w.2).2.2.2.2.length == 0 then (w, true) else resN xs k ((agAt xs w.2).2.2.2.2.getD 0 (0, 0))
def chainN (xs : List NAgent) : Nat → Int → Bool
  | 0, a => a == -1
  | k + 1, a => (inB a 0 ((xs.length : Int) - 1) && (agAt xs a).1 == 0) && chainN xs k (agAt xs a).2.2.1
def freeN (xs : List NAgent) : Nat := xs.countP fun c => c.1 == 0
/-- What the reference asks of a cell when all uses are counted. -/
def occS (xs : List NAgent) (us : List Int) (i : Nat) : Bool :=
  !(isAgB (agAt xs i).1 && us.getD i 0 != 1) && (!((agAt xs i).1 == 13) || (us.getD i 0 == 2 - ((agAt xs i).2.2.2.2.length : Int) && (resN xs (xs.length + 1) (2, i)).2))
def wantI (c : NAgent) : Int := bif c.1 == 0 then 0 else bif c.1 == 13 && c.2.2.2.2.length == 0 then 2 else 1
def occI (xs : List NAgent) (us : List Int) (i : Nat) : Bool := us.getD i 0 == wantI (agAt xs i)
def memS (m : NMem) (held rs : List NWord) : Bool :=
  (inB m.1.length 1 1500 && decide (rs.length ≤ m.1.length)) && (m.1.all (fun c => cellS c m.1.length) && ((wordsN m ++ held).all (wordB m.1) && (rs.all (redexB m.1) && (allTo m.1.length (occS m.1 (usesN m.1 (wordsN m ++ held) rs)) && chainN m.1 (freeN m.1) m.2.1))))
def memI (m : NMem) (held : List NWord) : Bool :=
  (inB m.1.length 1 1500 && decide (m.2.2.2.length ≤ m.1.length)) && (m.1.all cellI && ((wordsN m ++ held).all (wordB m.1) && (m.2.2.2.all (redexB m.1) && (allTo m.1.length (occI m.1 (usesN m.1 (wordsN m ++ held) m.2.2.2)) && (chainN m.1 (freeN m.1) m.2.1 && allTo m.1.length fun i => !((agAt m.1 i).1 == 13) || (resN m.1 (m.1.length + 1) (2, i)).2)))))
/-! ### pools -/
def countsB (l : List Int) : Bool := allTo l.length (fun k => inB (l.getD k 0) 0 1000000000) && l.length == 7
def activeB (w : NWorker) : Bool := w.1 == 1 || w.1 == 3
def workerB (n : Int) (w : NWorker) : Bool :=
  (((inB w.1 1 4 && inB w.2.1 0 (n - 1)) && countsB w.2.2.2.2) && decide (w.2.2.2.1.length ≤ 1500)) && (w.1 == 1 || (w.2.2.1.length == 0 && w.2.2.2.1.length == 0))
def heldN (ws : List NWorker) : List NWord := ws.flatMap fun w => w.2.2.2.1.flatMap fun l => [l.1, l.2]
def redsN (ws : List NWorker) : List NWord := ws.flatMap fun w => w.2.2.1
def poolPre (p : NPool) : Bool := ((inB p.2.1.length 1 4 && p.1.2.2.2.length == 0) && p.2.1.all (workerB p.2.1.length)) && ((p.2.1.countP activeB : Nat) : Int) == p.2.2
def poolS (p : NPool) : Bool := poolPre p && memS p.1 (heldN p.2.1) (redsN p.2.1)
def poolI (p : NPool) : Bool := poolPre p && memI (p.1.1, p.1.2.1, p.1.2.2.1, redsN p.2.1) (heldN p.2.1)
/-! ### the first one -/
def idxN {α : Type} (g : α → Bool) : List α → Int → Int
  | [], _ => -1
  | x :: l, k => bif g x then k else idxN g l (k + 1)
theorem idxN_any {α : Type} (g : α → Bool) : ∀ (l : List α) (k : Int), 0 ≤ k → decide (0 ≤ idxN g l k) = l.any g
  | [], k, _ => rfl
  | x :: l, k, h => by
    unfold idxN
    rw [List.any_cons]
    cases hg : g x with
    | true => simpa using h
    | false => simpa using idxN_any g l (k + 1) (by omega)
theorem drop_d {α : Type} (d : α) {xs : List α} {i : Nat} (h : i < xs.length) : xs.drop i = xs.getD i d :: xs.drop (i + 1) := by
  rw [List.getD_eq_getElem?_getD, List.getElem?_eq_getElem h]
  exact List.drop_eq_getElem_cons h
/-! ### steps of loops -/
theorem usesW_take (l : List Int) (ws : List NWord) {i : Nat} (h : i < ws.length) : usesW l (ws.take (i + 1)) = bumpN (usesW l (ws.take i)) (ws.getD i (0, 0)).2 := by
  unfold usesW
  rw [List.take_add_one, List.foldl_append, List.getD_eq_getElem?_getD, List.getElem?_eq_getElem h]; rfl
theorem usesR_take (l : List Int) (ws : List NWord) {i : Nat} (h : i < ws.length) : usesR l (ws.take (i + 1)) = bumpN (bumpN (usesR l (ws.take i)) (ws.getD i (0, 0)).1) (ws.getD i (0, 0)).2 := by
  unfold usesR
  rw [List.take_add_one, List.foldl_append, List.getD_eq_getElem?_getD, List.getElem?_eq_getElem h]; rfl
theorem bumpN_len (l : List Int) (i : Int) : (bumpN l i).length = l.length := by simp [bumpN]
theorem usesW_len (l : List Int) (ws : List NWord) : (usesW l ws).length = l.length := by
  unfold usesW
  induction ws generalizing l with
  | nil => rfl
  | cons w ws ih => rw [List.foldl_cons, ih, bumpN_len]
theorem usesR_len (l : List Int) (ws : List NWord) : (usesR l ws).length = l.length := by
  unfold usesR
  induction ws generalizing l with
  | nil => rfl
  | cons w ws ih => rw [List.foldl_cons, ih, bumpN_len, bumpN_len]
theorem all_take {α : Type} (f : α → Bool) (d : α) (xs : List α) {i : Nat} (h : i < xs.length) : (xs.take (i + 1)).all f = ((xs.take i).all f && f (xs.getD i d)) := by
  rw [List.take_add_one, List.all_append, List.getD_eq_getElem?_getD, List.getElem?_eq_getElem h]; simp
theorem all_f {α : Type} (f : α → Bool) (d : α) (xs : List α) {i : Nat} (h : i < xs.length) (h1 : f (xs.getD i d) = false) : xs.all f = false := by
  rw [List.getD_eq_getElem?_getD, List.getElem?_eq_getElem h] at h1
  rw [List.all_eq_false]
  exact ⟨xs[i], List.getElem_mem h, by simpa using h1⟩
theorem flat_take {α β : Type} (f : α → List β) (d : α) (xs : List α) {i : Nat} (h : i < xs.length) : (xs.take (i + 1)).flatMap f = (xs.take i).flatMap f ++ f (xs.getD i d) := by
  rw [List.take_add_one, List.flatMap_append, List.getD_eq_getElem?_getD, List.getElem?_eq_getElem h]; simp
theorem flat_le {α β : Type} (f : α → List β) (xs : List α) (i : Nat) : ((xs.take i).flatMap f).length ≤ (xs.flatMap f).length := by
  have h : xs.flatMap f = (xs.take i).flatMap f ++ (xs.drop i).flatMap f := by rw [← List.flatMap_append, List.take_append_drop]
  rw [h, List.length_append]; omega
theorem countP_take {α : Type} (f : α → Bool) (d : α) (xs : List α) {i : Nat} (h : i < xs.length) : (xs.take (i + 1)).countP f = (xs.take i).countP f + (bif f (xs.getD i d) then 1 else 0) := by
  rw [List.take_add_one, List.countP_append, List.getD_eq_getElem?_getD, List.getElem?_eq_getElem h]
  cases hf : f xs[i] <;> simp [hf]
theorem allTo_succ' (n : Nat) (f : Nat → Bool) : allTo (n + 1) f = (allTo n f && f n) := by simp [allTo, List.range_succ]
end Go.Tr

/- The reference and the program ask the same of a memory. No program in it. -/
set_option linter.unusedSimpArgs false
set_option linter.unusedVariables false
namespace Go.Tr
open Go Go.RowKit
theorem agAt_getD (xs : List NAgent) (i : Nat) : agAt xs (i : Int) = xs.getD i (dflt uAgent) := by unfold agAt elt; simp
theorem agAt_mem {xs : List NAgent} {i : Nat} (h : i < xs.length) : agAt xs (i : Int) ∈ xs := by
  rw [agAt_getD, List.getD_eq_getElem?_getD, List.getElem?_eq_getElem h]; exact List.getElem_mem h
theorem range_map (xs : List NAgent) : (List.range xs.length).map (fun i : Nat => agAt xs i) = xs := by
  refine List.ext_getElem (by simp) fun i h1 h2 => ?_
  simp only [List.getElem_map, List.getElem_range]
  rw [agAt_getD, List.getD_eq_getElem?_getD, List.getElem?_eq_getElem h2]; rfl
theorem nodup_le {l F : List Nat} (h : l.Nodup) (hs : ∀ x ∈ l, x ∈ F) : l.length ≤ F.length := by
  induction l generalizing F with
  | nil => simp
  | cons x l ih =>
    rw [List.nodup_cons] at h
    have hx : x ∈ F := hs x (by simp)
    have h1 := ih (F := F.erase x) h.2 fun y hy => (List.mem_erase_of_ne (fun e => by subst e; exact h.1 hy)).2 (hs y (by simp [hy]))
    rw [List.length_erase_of_mem hx] at h1
    have : 0 < F.length := List.length_pos_of_mem hx
    simp only [List.length_cons]; omega
theorem chain_one {xs : List NAgent} : ∀ {n m : Nat} {a : Int}, chainN xs n a = true → chainN xs m a = true → n = m
  | 0, 0, _, _, _ => rfl
  | 0, m + 1, a, h1, h2 => by
    simp only [chainN, Bool.and_eq_true, beq_iff_eq, inB, decide_eq_true_eq] at h1 h2; omega
  | n + 1, 0, a, h1, h2 => by
    simp only [chainN, Bool.and_eq_true, beq_iff_eq, inB, decide_eq_true_eq] at h1 h2; omega
  | n + 1, m + 1, a, h1, h2 => by
    simp only [chainN, Bool.and_eq_true] at h1 h2
    rw [chain_one h1.2 h2.2]
theorem chain_list {xs : List NAgent} : ∀ (n : Nat) (a : Int), chainN xs n a = true → ∃ l : List Nat, l.length = n ∧ l.Nodup ∧ ∀ x ∈ l, x < xs.length ∧ (agAt xs (x : Nat)).1 = 0 ∧ inB (agAt xs (x : Nat)).2.2.1 (-1) ((xs.length : Int) - 1) = true ∧ ∃ m, m ≤ n ∧ chainN xs m (x : Nat) = true
  | 0, a, _ => ⟨[], rfl, List.nodup_nil, by simp⟩
  | n + 1, a, h => by
    have h0 := h
    simp only [chainN, Bool.and_eq_true, beq_iff_eq] at h
    obtain ⟨⟨h1, h2⟩, h3⟩ := h
    obtain ⟨l, hl, hn, ha⟩ := chain_list n _ h3
    have hr : 0 ≤ a ∧ a ≤ (xs.length : Int) - 1 := by simpa [inB] using h1
    have ea : ((a.toNat : Nat) : Int) = a := by omega
    have hv : inB (agAt xs a).2.2.1 (-1) ((xs.length : Int) - 1) = true := by
      cases n with
      | zero => simp only [chainN, beq_iff_eq] at h3; rw [h3]; simp [inB]; omega
      | succ n => simp only [chainN, Bool.and_eq_true, inB, decide_eq_true_eq] at h3; simp only [inB, Bool.and_eq_true, decide_eq_true_eq]; omega
    refine ⟨a.toNat :: l, by simp [hl], List.nodup_cons.2 ⟨fun hm => ?_, hn⟩, fun x hx => ?_⟩
    · obtain ⟨_, _, _, m, hm1, hm2⟩ := ha _ hm
      rw [ea] at hm2
      have := chain_one hm2 h0
      omega
    · rcases List.mem_cons.1 hx with rfl | hx
      · rw [ea]; exact ⟨by omega, h2, hv, n + 1, Nat.le_refl _, h0⟩
      · obtain ⟨p1, p2, p3, m, p4, p5⟩ := ha x hx
        exact ⟨p1, p2, p3, m, by omega, p5⟩
theorem freeN_range (xs : List NAgent) : freeN xs = ((List.range xs.length).filter fun i : Nat => (agAt xs i).1 == 0).length := by
  have h : freeN xs = ((List.range xs.length).map (fun i : Nat => agAt xs i)).countP (fun c => c.1 == 0) := by rw [range_map]; rfl
  rw [h, List.countP_map, List.countP_eq_length_filter]; rfl
/-- A chain of as many free cells as there are meets each of them. -/
theorem chain_values {xs : List NAgent} {a : Int} (h : chainN xs (freeN xs) a = true) {i : Nat} (hi : i < xs.length) (h0 : (agAt xs i).1 = 0) : inB (agAt xs i).2.2.1 (-1) ((xs.length : Int) - 1) = true := by
  obtain ⟨l, hl, hn, ha⟩ := chain_list _ _ h
  by_cases hm : i ∈ l
  · exact (ha i hm).2.2.1
  · have h1 : (i :: l).length ≤ ((List.range xs.length).filter fun i : Nat => (agAt xs i).1 == 0).length := nodup_le (List.nodup_cons.2 ⟨hm, hn⟩) fun x hx => by
      rcases List.mem_cons.1 hx with rfl | hx
      · simp [hi, h0]
      · obtain ⟨p1, p2, _⟩ := ha x hx
        simp [p1, p2]
    rw [← freeN_range] at h1
    simp only [List.length_cons, hl] at h1
    omega
theorem getD_set_ne {l : List Int} {i j : Nat} {x : Int} (h : j ≠ i) : (l.set j x).getD i 0 = l.getD i 0 := by
  rw [List.getD_eq_getElem?_getD, List.getD_eq_getElem?_getD, List.getElem?_set_ne h]
theorem usesW_free {xs : List NAgent} {i : Nat} (h0 : (agAt xs i).1 = 0) : ∀ (ws : List NWord) (l : List Int), ws.all (wordB xs) = true → (usesW l ws).getD i 0 = l.getD i 0
  | [], l, _ => rfl
  | w :: ws, l, h => by
    rw [List.all_cons, Bool.and_eq_true] at h
    unfold usesW
    rw [List.foldl_cons]
    refine Eq.trans (usesW_free h0 ws _ h.2) ?_
    refine getD_set_ne fun e => ?_
    have h1 := h.1
    simp only [wordB, Bool.and_eq_true, Bool.or_eq_true, beq_iff_eq, inB, isAgB, decide_eq_true_eq] at h1
    have ew : agAt xs w.2 = agAt xs (i : Nat) := agAt_nat (by omega)
    rw [ew, h0] at h1
    omega
theorem usesR_free {xs : List NAgent} {i : Nat} (h0 : (agAt xs i).1 = 0) : ∀ (ws : List NWord) (l : List Int), ws.all (redexB xs) = true → (usesR l ws).getD i 0 = l.getD i 0
  | [], l, _ => rfl
  | w :: ws, l, h => by
    rw [List.all_cons, Bool.and_eq_true] at h
    unfold usesR
    rw [List.foldl_cons]
    have h1 := h.1
    simp only [redexB, Bool.and_eq_true, inB, isAgB, decide_eq_true_eq] at h1
    refine Eq.trans (usesR_free h0 ws _ h.2) ?_
    refine Eq.trans (getD_set_ne fun e => ?_) (getD_set_ne fun e => ?_)
    · have ew : agAt xs w.2 = agAt xs (i : Nat) := agAt_nat (by omega)
      rw [ew, h0] at h1; omega
    · have ew : agAt xs w.1 = agAt xs (i : Nat) := agAt_nat (by omega)
      rw [ew, h0] at h1; omega
theorem cellS_eq (c : NAgent) (n : Int) : cellS c n = (cellI c && (!(c.1 == 0) || inB c.2.2.1 (-1) (n - 1))) := by
  have hd : decide (c.2.2.2.2.length < 2) = decide (c.2.2.2.2.length ≤ 1) := by congr 1; exact propext ⟨by omega, by omega⟩
  unfold cellS cellI
  by_cases h0 : c.1 = 0
  · have hA : isAgB c.1 = false := by simp [isAgB, inB, h0]
    have hB : (c.1 == 13) = false := by simp [h0]
    have hC : (c.1 == 0) = true := by simp [h0]
    simp [hA, hB, hC]
  · have hC : (c.1 == 0) = false := by simpa using h0
    by_cases h1 : c.1 = 13
    · have hA : isAgB c.1 = false := by simp [isAgB, inB, h1]
      have hB : (c.1 == 13) = true := by simp [h1]
      rw [hA, hB, hC, hd]; simp
    · have hB : (c.1 == 13) = false := by simpa using h1
      rw [hB, hC]
      cases hA : isAgB c.1 <;> simp
theorem all_at {α : Type} {f : α → Bool} {xs : List α} (h : xs.all f = true) {x : α} (hx : x ∈ xs) : f x = true := List.all_eq_true.1 h x hx
theorem allTo_t {n : Nat} {f : Nat → Bool} : allTo n f = true ↔ ∀ i < n, f i = true := by simp [allTo]
/-- What is asked of the uses of one cell. -/
theorem occ_eq {xs : List NAgent} {us : List Int} {i : Nat} (hi : i < xs.length) (hc : xs.all cellI = true) (hf : (agAt xs i).1 = 0 → us.getD i 0 = 0) :
    occS xs us i = (occI xs us i && (!((agAt xs i).1 == 13) || (resN xs (xs.length + 1) (2, i)).2)) := by
  have hI := all_at hc (agAt_mem hi)
  unfold occS occI wantI
  generalize agAt xs (i : Int) = c at *
  by_cases h0 : c.1 = 0
  · have hA : isAgB c.1 = false := by simp [isAgB, inB, h0]
    rw [hA, hf h0, h0]; simp
  · have hC : (c.1 == 0) = false := by simpa using h0
    by_cases h1 : c.1 = 13
    · have hA : isAgB c.1 = false := by simp [isAgB, inB, h1]
      have hB : (c.1 == 13) = true := by simp [h1]
      unfold cellI at hI
      rw [hA, hB] at hI
      simp only [cond_false, cond_true, Bool.and_eq_true, decide_eq_true_eq] at hI
      have hl := hI.2
      rw [hA, hB, hC]
      rcases Nat.lt_or_ge c.2.2.2.2.length 1 with h | h
      · have e : c.2.2.2.2.length = 0 := by omega
        simp [e]
      · have e : c.2.2.2.2.length = 1 := by omega
        simp [e]
    · have hB : (c.1 == 13) = false := by simpa using h1
      have hA : isAgB c.1 = true := by
        cases h : isAgB c.1 with
        | true => rfl
        | false =>
          unfold cellI at hI
          rw [h, hB] at hI
          simp only [cond_false, Bool.and_eq_true, beq_iff_eq] at hI
          exact absurd hI.1.1.1 h0
      rw [hA, hB, hC]; simp [bne]
theorem memS_eq (m : NMem) (held : List NWord) : memS m held m.2.2.2 = memI m held := by
  unfold memS memI
  congr 1
  have hcell : (m.1.all fun c => cellS c m.1.length) = (m.1.all cellI && m.1.all fun c => !(c.1 == 0) || inB c.2.2.1 (-1) ((m.1.length : Int) - 1)) := by
    have e : (fun c => cellS c (m.1.length : Int)) = fun c => (cellI c && (!(c.1 == 0) || inB c.2.2.1 (-1) ((m.1.length : Int) - 1))) := funext fun c => cellS_eq c _
    rw [e]
    generalize m.1 = l
    generalize (l.length : Int) = n
    induction l with
    | nil => rfl
    | cons c l ih => simp only [List.all_cons, ih]; cases cellI c <;> cases (!(c.1 == 0) || inB c.2.2.1 (-1) (n - 1)) <;> simp
  rw [hcell]
  cases hC : m.1.all cellI with
  | false => rfl
  | true =>
    rw [Bool.true_and, Bool.true_and]
    cases hW : (wordsN m ++ held).all (wordB m.1) with
    | false => simp
    | true =>
      rw [Bool.true_and, Bool.true_and]
      cases hR : m.2.2.2.all (redexB m.1) with
      | false => simp
      | true =>
        rw [Bool.true_and, Bool.true_and]
        have hocc : allTo m.1.length (occS m.1 (usesN m.1 (wordsN m ++ held) m.2.2.2)) = (allTo m.1.length (occI m.1 (usesN m.1 (wordsN m ++ held) m.2.2.2)) && allTo m.1.length fun i => !((agAt m.1 i).1 == 13) || (resN m.1 (m.1.length + 1) (2, i)).2) := by
          rw [Bool.eq_iff_iff, Bool.and_eq_true, allTo_t, allTo_t, allTo_t]
          have key : ∀ i < m.1.length, occS m.1 (usesN m.1 (wordsN m ++ held) m.2.2.2) i = (occI m.1 (usesN m.1 (wordsN m ++ held) m.2.2.2) i && (!((agAt m.1 i).1 == 13) || (resN m.1 (m.1.length + 1) (2, i)).2)) := fun i hi => occ_eq hi hC fun h0 => by
            unfold usesN
            rw [usesR_free h0 _ _ hR, usesW_free h0 _ _ hW]
            rw [List.getD_eq_getElem?_getD, List.getElem?_replicate]; simp [hi]
          constructor
          · intro h
            exact ⟨fun i hi => by have := h i hi; rw [key i hi, Bool.and_eq_true] at this; exact this.1, fun i hi => by have := h i hi; rw [key i hi, Bool.and_eq_true] at this; exact this.2⟩
          · intro h i hi
            rw [key i hi, Bool.and_eq_true]; exact ⟨h.1 i hi, h.2 i hi⟩
        rw [hocc]
        cases hO : allTo m.1.length (occI m.1 (usesN m.1 (wordsN m ++ held) m.2.2.2)) with
        | false => simp
        | true =>
          cases hCh : chainN m.1 (freeN m.1) m.2.1 with
          | false => simp
          | true =>
            have hv : (m.1.all fun c => !(c.1 == 0) || inB c.2.2.1 (-1) ((m.1.length : Int) - 1)) = true := by
              rw [List.all_eq_true]
              intro c hc
              obtain ⟨i, hi, rfl⟩ := List.mem_iff_getElem.1 hc
              by_cases h0 : (m.1[i]).1 = 0
              · have e : agAt m.1 (i : Nat) = m.1[i] := by rw [agAt_getD, List.getD_eq_getElem?_getD, List.getElem?_eq_getElem hi]; rfl
                have := chain_values hCh hi (by rw [e]; exact h0)
                rw [e] at this
                simp [this]
              · simp [h0]
            rw [hv]; simp
theorem pool_eq (p : NPool) : poolS p = poolI p := by
  unfold poolS poolI
  congr 1
  exact memS_eq (p.1.1, p.1.2.1, p.1.2.2.1, redsN p.2.1) _
end Go.Tr

/- The reference's memories and pools: the small functions. -/
set_option linter.unusedSimpArgs false
set_option linter.unusedVariables false
namespace Go.Proofs.YthciaodffkbljaaGreat
open Go Go.RowKit Go.Proofs Go.Tr
theorem nat_beq (n : Nat) (k : Nat) : ((n : Int) == (k : Int)) = (n == k) := by rw [Bool.eq_iff_iff]; simp only [beq_iff_eq]; omega
theorem nat_beq0 (n : Nat) : ((n : Int) == 0) = (n == 0) := by rw [Bool.eq_iff_iff]; simp only [beq_iff_eq]; omega
theorem lt_of {k n : Nat} (h : decide (((k : Nat) : Int) < ((n : Nat) : Int)) = true) : k < n := by simp only [decide_eq_true_eq] at h; omega
theorem ge_of {k n : Nat} (h : decide (((k : Nat) : Int) < ((n : Nat) : Int)) = false) : n ≤ k := by simp only [decide_eq_false_iff_not] at h; omega
theorem okIn : callOk Tryz.prog 51 = true := by kernel_rfl
theorem inQ (n lo hi : Int) : QCall Tryz.prog 51 [.int .i64 n, .int .i64 lo, .int .i64 hi] (.bool (inB n lo hi)) := QCall.ints (l := [n, lo, hi]) okIn (l00In_any n lo hi) fun _ _ => den_b _
theorem okAg : callOk Tryz.prog 178 = true := by kernel_rfl
theorem agentQ (a : NAgent) : QCall Tryz.prog 178 [.rp uAgent a] (.bool (agentB (gA a))) := QCall.of_ptr okAg (fun w b o bs h => l11Agent_any (gA a) b o bs w (by rw [gA_enc]; exact h)) fun _ _ => den_b _
theorem okCountsS : callOk Tryz.prog 75 = true := by kernel_rfl
theorem countsS (l : List Int) (hl : l.length ≤ 1048576) : QCall Tryz.prog 75 [.rsl (.int .i64) l] (.bool (countsB l)) := by
  refine QCall.intro (nt := 19) ti_ok mixed okCountsS Tryz.func75 rfl rfl rfl rfl rfl ?_
  refine lp Nat (fun i => [(3, .int .i64 (i : Nat))]) (fun _ => []) (fun i => l.length - i) (fun i => i ≤ l.length ∧ allTo i (fun k => inB (l.getD k 0) 0 1000000000) = true) 0 ⟨Nat.zero_le _, rfl⟩ ?_ ?_
  · exact hd [] rfl (And.intro (And.intro rfl rfl) trivial) trivial
  rintro i ⟨hi, ha⟩
  refine And.intro (fun q1 => ?_) (fun q1 => ?_)
  · have hlt : i < l.length := by simpa using q1
    refine And.intro (show 0 ≤ ((i : Nat) : Int) ∧ ((i : Nat) : Int) < (l.length : Nat) by omega) ?_
    refine Or.inl (Exists.intro _ (And.intro (inQ _ _ _) ?_))
    refine And.intro (fun q2 => ?_) (fun q2 => ?_)
    · have q3 : inB (l.getD i 0) 0 1000000000 = false := by have q4 : (!inB (l.getD i 0) 0 1000000000) = true := q2; simpa using q4
      have e : countsB l = false := by unfold countsB; rw [allTo_f hlt q3]; rfl
      rw [e]; exact rfl
    · have q3 : inB (l.getD i 0) 0 1000000000 = true := by have q4 : (!inB (l.getD i 0) 0 1000000000) = false := q2; simpa using q4
      refine lp_next (i + 1) ⟨hlt, by rw [allTo_succ']; simp only [ha, q3, Bool.and_true]⟩ ?_ ?_
      · exact hd [] rfl (And.intro (And.intro (wrapS (by omega)) rfl) trivial) trivial
      · show l.length - (i + 1) < l.length - i
        omega
  · have hge : l.length ≤ i := by simpa using q1
    have hie : i = l.length := by omega
    subst hie
    refine Eq.trans (Eq.refl _) ?_
    unfold countsB
    rw [ha]
    have e : ((l.length : Int) == 7) = (l.length == 7) := by rw [Bool.eq_iff_iff]; simp only [beq_iff_eq]; omega
    simpa using e
theorem okActS : callOk Tryz.prog 83 = true := by kernel_rfl
theorem activeS (w : NWorker) : QCall Tryz.prog 83 [.rp uWorker w] (.bool (activeB w)) := by
  refine QCall.intro (nt := 15) ti_ok mixed okActS Tryz.func83 rfl rfl rfl rfl rfl ?_
  refine Eq.trans (Eq.refl _) ?_
  unfold activeB
  cases w.1 == 1 <;> rfl
theorem okIsAg : callOk Tryz.prog 147 = true := by kernel_rfl
theorem isAgQ (c : NAgent) : QCall Tryz.prog 147 [.rp uAgent c] (.bool (isAgB c.1)) := by
  refine QCall.intro (nt := 8) ti_ok mixed okIsAg Tryz.func147 rfl rfl rfl rfl rfl ?_
  refine Or.inl (Exists.intro _ (And.intro (inQ _ _ _) ?_))
  exact rfl
theorem okAgent21 : callOk Tryz.prog 177 = true := by kernel_rfl
set_option maxRecDepth 100000 in
theorem agent21 (c : NAgent) (hl : c.2.2.2.2.length ≤ 1048576) : FCall Tryz.prog 177 [.rp uAgent c] [] (.agg [.int .i64 c.1, .int .i64 c.2.1, .int .i64 c.2.2.1, .rsl (.int .i64) c.2.2.2.1, .sl 10000]) [.row 10000 175 2 uPort (List.replicate (c.2.2.2.2.length + 1) (0, 0)) []] := by
  refine FCall.intro (nt := 40) ti_ok mixed okAgent21 Tryz.func177 rfl rfl rfl rfl rfl rfl ?_
  refine And.intro (by kernel_rfl) ?_
  refine lp Nat (fun i => [(4, .int .i64 (i : Nat))]) (fun i => [.cel 2 169 [.int .i64 0, .int .i64 0, .int .i64 0, .raw (.slice none 0 0), .raw (.slice none 0 0)], .cel 3 169 [.int .i64 c.1, .int .i64 c.2.1, .int .i64 c.2.2.1, .rsl (.int .i64) c.2.2.2.1, .sl 20000], .row 20000 175 2 uPort (List.replicate (i + 1) (0, 0)) []]) (fun i => c.2.2.2.2.length - i) (fun i => i ≤ c.2.2.2.2.length) 0 (Nat.zero_le _) ?_ ?_
  · exact hd [(20000, 22)] rfl (And.intro (And.intro rfl rfl) trivial) ⟨trivial, ⟨⟨rfl, rfl⟩, ⟨rfl, rfl⟩, ⟨rfl, rfl⟩, rfl, rfl, trivial⟩, trivial, ⟨⟨rfl, rfl⟩, ⟨rfl, rfl⟩, ⟨rfl, rfl⟩, rfl, rfl, trivial⟩, ⟨rfl, List.nil_prefix⟩, trivial⟩
  intro i hi
  refine And.intro (fun q1 => ?_) (fun q1 => ?_)
  · have hlt : i < c.2.2.2.2.length := by simpa using q1
    refine And.intro (show (List.replicate (i + 1) ((0 : Int), (0 : Int))).length + 1 ≤ 1073741824 by rw [List.length_replicate]; omega) ?_
    refine lp_next (i + 1) hlt ?_ ?_
    · refine hd [(20000, 37)] rfl (And.intro (And.intro (wrapS (by omega)) rfl) trivial) ⟨trivial, ⟨⟨rfl, rfl⟩, ⟨rfl, rfl⟩, ⟨rfl, rfl⟩, rfl, rfl, trivial⟩, trivial, ⟨⟨rfl, rfl⟩, ⟨rfl, rfl⟩, ⟨rfl, rfl⟩, rfl, rfl, trivial⟩, ⟨?_, List.nil_prefix⟩, trivial⟩
      exact (List.replicate_succ' (n := i + 1) (a := ((0 : Int), (0 : Int)))).symm
    · show c.2.2.2.2.length - (i + 1) < c.2.2.2.2.length - i
      omega
  · have hge : c.2.2.2.2.length ≤ i := by simpa using q1
    have hie : i = c.2.2.2.2.length := by omega
    subst hie
    refine fin [(10000, 20000)] (And.intro rfl ?_)
    exact ⟨⟨rfl, List.nil_prefix⟩, trivial⟩
theorem okCell21 : callOk Tryz.prog 144 = true := by kernel_rfl
set_option maxRecDepth 100000 in
theorem cell21 (c : NAgent) (n : Int) (hl : c.2.2.2.2.length ≤ 1048576) (hn : 0 ≤ n ∧ n ≤ 1048576) : QCall Tryz.prog 144 [.rp uAgent c, .int .i64 n] (.bool (cellS c n)) := by
  refine QCall.intro (nt := 82) ti_ok mixed okCell21 Tryz.func144 rfl rfl rfl rfl rfl ?_
  have hw : IntKind.i64.wrap (n - 1) = n - 1 := IntWalk.i64_in _ (by omega)
  refine And.intro (fun q1 => ?_) (fun q1 => ?_)
  · refine Or.inl (Exists.intro _ (And.intro (fun _ => inQ _ _ _) ?_))
    refine Eq.trans (Eq.refl _) ?_
    have e : cellS c n = (((c.2.1 == 0 && c.2.2.2.1.length == 0) && c.2.2.2.2.length == 0) && inB c.2.2.1 (-1) (n - 1)) := by unfold cellS; rw [show (c.1 == 0) = true from q1]; rfl
    rw [e, hw]
    rw [show (c.2.2.2.1.length == 0) = ((c.2.2.2.1.length : Int) == 0) from (nat_beq _ _).symm, show (c.2.2.2.2.length == 0) = ((c.2.2.2.2.length : Int) == 0) from (nat_beq _ _).symm]
    cases c.2.1 == 0 <;> cases ((c.2.2.2.1.length : Int) == 0) <;> cases ((c.2.2.2.2.length : Int) == 0) <;> rfl
  refine And.intro (fun q2 => ?_) (fun q2 => ?_)
  · refine Eq.trans (Eq.refl _) ?_
    have e : cellS c n = (((c.2.1 == 0 && c.2.2.1 == 0) && c.2.2.2.1.length == 0) && decide (c.2.2.2.2.length < 2)) := by unfold cellS; rw [show (c.1 == 0) = false from q1, show (c.1 == 13) = true from q2]; rfl
    rw [e]
    rw [show (c.2.2.2.1.length == 0) = ((c.2.2.2.1.length : Int) == 0) from (nat_beq _ _).symm, show decide (c.2.2.2.2.length < 2) = decide ((c.2.2.2.2.length : Int) < 2) from decide_eq_decide.2 (by omega)]
    cases c.2.1 == 0 <;> cases c.2.2.1 == 0 <;> cases ((c.2.2.2.1.length : Int) == 0) <;> rfl
  refine Or.inl (Exists.intro _ (And.intro (isAgQ _) ?_))
  have e : cellS c n = (isAgB c.1 && agentB (gA (cellA c))) := by unfold cellS; rw [show (c.1 == 0) = false from q1, show (c.1 == 13) = false from q2]; rfl
  refine And.intro (fun q3 => ?_) (fun q3 => ?_)
  · refine Or.inr (Exists.intro _ (Exists.intro _ (And.intro (agent21 c hl) ?_)))
    refine Or.inr (Exists.intro _ (Exists.intro _ (And.intro (FCall.of_q ti_ok [220] okAg (agentQ (cellA c)) rfl) ?_)))
    rw [e, show isAgB c.1 = true from q3]
    exact rfl
  · rw [e, show isAgB c.1 = false from q3]
    exact rfl
theorem okWords21 : callOk Tryz.prog 145 = true := by kernel_rfl
set_option maxRecDepth 100000 in
theorem words21 (m : NMem) (hl : m.1.length ≤ 1048576) (hb : (wordsN m).length ≤ 1048576) : FCall Tryz.prog 145 [.rp uMem m] [] (.sl 10000) [.row 10000 34 2 uPort (wordsN m) []] := by
  refine FCall.intro (nt := 30) ti_ok mixed okWords21 Tryz.func145 rfl rfl rfl rfl rfl rfl ?_
  refine lp Nat (fun i => [(4, .int .i64 (i : Nat)), (3, .sl 20000)]) (fun i => [.row 20000 34 2 uPort (m.2.2.1 :: (m.1.take i).flatMap fun c => c.2.2.2.2) []]) (fun i => m.1.length - i) (fun i => i ≤ m.1.length) 0 (Nat.zero_le _) ?_ ?_
  · exact hd [(20000, 9)] rfl (And.intro (And.intro rfl rfl) (And.intro rfl trivial)) ⟨⟨rfl, List.nil_prefix⟩, trivial⟩
  intro i hi
  refine And.intro (fun q1 => ?_) (fun q1 => ?_)
  · have hlt : i < m.1.length := by simpa using q1
    have e := flat_take (fun c : NAgent => c.2.2.2.2) (dflt uAgent) m.1 hlt
    have hle := flat_le (fun c : NAgent => c.2.2.2.2) m.1 (i + 1)
    rw [e, List.length_append] at hle
    refine And.intro (show 0 ≤ ((i : Nat) : Int) ∧ ((i : Nat) : Int) < (m.1.length : Nat) by omega) ?_
    refine And.intro ?_ ?_
    · show (m.2.2.1 :: (m.1.take i).flatMap fun c => c.2.2.2.2).length + (m.1.getD i (dflt uAgent)).2.2.2.2.length ≤ 1073741824
      have : (wordsN m).length = (m.1.flatMap fun c => c.2.2.2.2).length + 1 := rfl
      rw [List.length_cons]; omega
    refine lp_next (i + 1) hlt ?_ ?_
    · refine hd [(20000, 28)] rfl (And.intro (And.intro (wrapS (by omega)) rfl) (And.intro rfl trivial)) ⟨⟨?_, List.nil_prefix⟩, trivial⟩
      show _ = m.2.2.1 :: (m.1.take (i + 1)).flatMap fun c => c.2.2.2.2
      rw [e]; rfl
    · show m.1.length - (i + 1) < m.1.length - i
      omega
  · have hge : m.1.length ≤ i := by simpa using q1
    have hie : i = m.1.length := by omega
    subst hie
    refine fin [(10000, 20000)] (And.intro rfl ?_)
    refine ⟨⟨?_, List.nil_prefix⟩, trivial⟩
    show (m.2.2.1 :: (m.1.take m.1.length).flatMap fun c => c.2.2.2.2) = wordsN m
    rw [List.take_length]; rfl
theorem okWord21 : callOk Tryz.prog 146 = true := by kernel_rfl
theorem wrapPred {n : Nat} (h : n ≤ 1048576) : IntKind.i64.wrap ((n : Int) - 1) = (n : Int) - 1 := IntWalk.i64_in _ (by omega)
set_option maxRecDepth 100000 in
theorem word21 (m : NMem) (w : NWord) (hl : m.1.length ≤ 1048576) : QCall Tryz.prog 146 [.rp uMem m, vP w] (.bool (wordB m.1 w)) := by
  refine QCall.intro (nt := 42) ti_ok mixed okWord21 Tryz.func146 rfl rfl rfl rfl rfl ?_
  refine Or.inl (Exists.intro _ (And.intro (inQ _ _ _) ?_))
  refine And.intro (by kernel_rfl) ?_
  refine And.intro (fun q1 => ?_) (fun q1 => ?_)
  · have q2 : inB w.2 0 ((m.1.length : Int) - 1) = false := by have q3 : (!inB w.2 0 (IntKind.i64.wrap ((m.1.length : Int) - 1))) = true := q1; rw [wrapPred hl] at q3; simpa using q3
    have e : wordB m.1 w = false := by unfold wordB; rw [q2]; rfl
    rw [e]; exact rfl
  · have q2 : inB w.2 0 ((m.1.length : Int) - 1) = true := by have q3 : (!inB w.2 0 (IntKind.i64.wrap ((m.1.length : Int) - 1))) = false := q1; rw [wrapPred hl] at q3; simpa using q3
    have q4 : 0 ≤ w.2 ∧ w.2 < (m.1.length : Nat) := by simp only [inB, Bool.and_eq_true, decide_eq_true_eq] at q2; omega
    refine And.intro q4 ?_
    refine And.intro (by kernel_rfl) ?_
    refine Or.inl (Exists.intro _ (And.intro (fun _ => isAgQ _) ?_))
    refine Eq.trans (Eq.refl _) ?_
    unfold wordB
    rw [q2, Bool.true_and]
    show _ = ((w.1 == 1 && isAgB (agAt m.1 w.2).1) || (w.1 == 2 && (agAt m.1 w.2).1 == 13))
    unfold agAt
    cases w.1 == 1 <;> cases w.1 == 2 <;> cases isAgB (elt (dflt uAgent) m.1 w.2).1 <;> rfl
end Go.Proofs.YthciaodffkbljaaGreat

/- slices.ContainsFunc at the pools' types. Printed by gen_me.py. -/
set_option linter.unusedSimpArgs false
set_option linter.unusedVariables false
namespace Go.Proofs.YthciaodffkbljaaGreat
open Go Go.RowKit Go.Proofs Go.Tr
theorem okIdxInt : callOk Tryz.prog 171 = true := by kernel_rfl
theorem okConInt : callOk Tryz.prog 127 = true := by kernel_rfl
set_option maxRecDepth 100000 in
theorem idxInt (xs : List (Int)) (f : Nat) (g : Int → Bool) (hl : xs.length ≤ 1048576) (hf : ∀ i : Nat, i < xs.length → QCall Tryz.prog f [.int .i64 (xs.getD i 0)] (.bool (g (xs.getD i 0)))) : QCall Tryz.prog 171 [.rsl (.int .i64) xs, .fn f []] (.int .i64 (idxN g xs 0)) := by
  refine QCall.intro (nt := 19) ti_ok mixed okIdxInt Tryz.func171 rfl rfl rfl rfl rfl ?_
  refine lp Nat (fun i => [(8, .int .i64 (i : Nat))]) (fun _ => []) (fun i => xs.length - i) (fun i => i ≤ xs.length ∧ idxN g xs 0 = idxN g (xs.drop i) i) 0 ⟨Nat.zero_le _, rfl⟩ ?_ ?_
  · exact hd [] rfl (And.intro (And.intro rfl rfl) trivial) trivial
  rintro i ⟨hi, he⟩
  refine And.intro (fun q1 => ?_) (fun q1 => ?_)
  · have hlt : i < xs.length := lt_of q1
    refine And.intro (show 0 ≤ ((i : Nat) : Int) ∧ ((i : Nat) : Int) < (xs.length : Nat) by omega) ?_
    refine Or.inl (Exists.intro _ (And.intro (hf i hlt) ?_))
    rw [drop_d 0 hlt] at he
    refine And.intro (fun q2 => ?_) (fun q2 => ?_)
    · rw [he, show idxN g (xs.getD i 0 :: xs.drop (i + 1)) i = i by unfold idxN; rw [show g (xs.getD i 0) = true from q2]; rfl]; exact ⟨rfl, rfl⟩
    · refine lp_next (i + 1) ⟨hlt, ?_⟩ ?_ ?_
      · rw [he]
        conv => lhs; unfold idxN
        rw [show g (xs.getD i 0) = false from q2]; rfl
      · exact hd [] rfl (And.intro (And.intro (wrapS (by omega)) rfl) trivial) trivial
      · show xs.length - (i + 1) < xs.length - i
        omega
  · have hge : xs.length ≤ i := ge_of q1
    have hie : i = xs.length := by omega
    subst hie
    rw [he, List.drop_length]; exact ⟨rfl, rfl⟩
theorem conInt (xs : List (Int)) (f : Nat) (g : Int → Bool) (hl : xs.length ≤ 1048576) (hf : ∀ i : Nat, i < xs.length → QCall Tryz.prog f [.int .i64 (xs.getD i 0)] (.bool (g (xs.getD i 0)))) : QCall Tryz.prog 127 [.rsl (.int .i64) xs, .fn f []] (.bool (xs.any g)) := by
  refine QCall.intro (nt := 9) ti_ok mixed okConInt Tryz.func127 rfl rfl rfl rfl rfl ?_
  refine Or.inl (Exists.intro _ (And.intro (idxInt xs f g hl hf) ?_))
  rw [← idxN_any g xs 0 (by omega)]; exact rfl
theorem okIdxCell : callOk Tryz.prog 153 = true := by kernel_rfl
theorem okConCell : callOk Tryz.prog 91 = true := by kernel_rfl
set_option maxRecDepth 100000 in
theorem idxCell (xs : List (NAgent)) (f : Nat) (g : NAgent → Bool) (hl : xs.length ≤ 1048576) (hf : ∀ i : Nat, i < xs.length → QCall Tryz.prog f [.agg [.int .i64 (xs.getD i (dflt uAgent)).1, .int .i64 (xs.getD i (dflt uAgent)).2.1, .int .i64 (xs.getD i (dflt uAgent)).2.2.1, .rsl (.int .i64) (xs.getD i (dflt uAgent)).2.2.2.1, .rsl uPort (xs.getD i (dflt uAgent)).2.2.2.2]] (.bool (g (xs.getD i (dflt uAgent))))) : QCall Tryz.prog 153 [.rsl uAgent xs, .fn f []] (.int .i64 (idxN g xs 0)) := by
  refine QCall.intro (nt := 19) ti_ok mixed okIdxCell Tryz.func153 rfl rfl rfl rfl rfl ?_
  refine lp Nat (fun i => [(8, .int .i64 (i : Nat))]) (fun _ => []) (fun i => xs.length - i) (fun i => i ≤ xs.length ∧ idxN g xs 0 = idxN g (xs.drop i) i) 0 ⟨Nat.zero_le _, rfl⟩ ?_ ?_
  · exact hd [] rfl (And.intro (And.intro rfl rfl) trivial) trivial
  rintro i ⟨hi, he⟩
  refine And.intro (fun q1 => ?_) (fun q1 => ?_)
  · have hlt : i < xs.length := lt_of q1
    refine And.intro (show 0 ≤ ((i : Nat) : Int) ∧ ((i : Nat) : Int) < (xs.length : Nat) by omega) ?_
    refine Or.inl (Exists.intro _ (And.intro (hf i hlt) ?_))
    rw [drop_d (dflt uAgent) hlt] at he
    refine And.intro (fun q2 => ?_) (fun q2 => ?_)
    · rw [he, show idxN g (xs.getD i (dflt uAgent) :: xs.drop (i + 1)) i = i by unfold idxN; rw [show g (xs.getD i (dflt uAgent)) = true from q2]; rfl]; exact ⟨rfl, rfl⟩
    · refine lp_next (i + 1) ⟨hlt, ?_⟩ ?_ ?_
      · rw [he]
        conv => lhs; unfold idxN
        rw [show g (xs.getD i (dflt uAgent)) = false from q2]; rfl
      · exact hd [] rfl (And.intro (And.intro (wrapS (by omega)) rfl) trivial) trivial
      · show xs.length - (i + 1) < xs.length - i
        omega
  · have hge : xs.length ≤ i := ge_of q1
    have hie : i = xs.length := by omega
    subst hie
    rw [he, List.drop_length]; exact ⟨rfl, rfl⟩
theorem conCell (xs : List (NAgent)) (f : Nat) (g : NAgent → Bool) (hl : xs.length ≤ 1048576) (hf : ∀ i : Nat, i < xs.length → QCall Tryz.prog f [.agg [.int .i64 (xs.getD i (dflt uAgent)).1, .int .i64 (xs.getD i (dflt uAgent)).2.1, .int .i64 (xs.getD i (dflt uAgent)).2.2.1, .rsl (.int .i64) (xs.getD i (dflt uAgent)).2.2.2.1, .rsl uPort (xs.getD i (dflt uAgent)).2.2.2.2]] (.bool (g (xs.getD i (dflt uAgent))))) : QCall Tryz.prog 91 [.rsl uAgent xs, .fn f []] (.bool (xs.any g)) := by
  refine QCall.intro (nt := 9) ti_ok mixed okConCell Tryz.func91 rfl rfl rfl rfl rfl ?_
  refine Or.inl (Exists.intro _ (And.intro (idxCell xs f g hl hf) ?_))
  rw [← idxN_any g xs 0 (by omega)]; exact rfl
theorem okIdxWord : callOk Tryz.prog 157 = true := by kernel_rfl
theorem okConWord : callOk Tryz.prog 94 = true := by kernel_rfl
set_option maxRecDepth 100000 in
theorem idxWord (m : NMem) (xs : List (NWord)) (f : Nat) (g : NWord → Bool) (hl : xs.length ≤ 2097152) (hf : ∀ i : Nat, i < xs.length → FCall Tryz.prog f [vP (xs.getD i (0, 0)), .ptr 10000 0] [.cel 10000 132 [.rp uMem m]] (.bool (g (xs.getD i (0, 0)))) [.cel 10000 132 [.rp uMem m]]) : FCall Tryz.prog 157 [.sl 10000, .fn f [.ptr 10001 0]] [.row 10000 34 2 uPort xs [], .cel 10001 132 [.rp uMem m]] (.int .i64 (idxN g xs 0)) [.row 10000 34 2 uPort xs [], .cel 10001 132 [.rp uMem m]] := by
  refine FCall.intro (nt := 19) ti_ok mixed okIdxWord Tryz.func157 rfl rfl rfl rfl rfl rfl ?_
  refine lp Nat (fun i => [(8, .int .i64 (i : Nat))]) (fun _ => [.row 10000 34 2 uPort xs [], .cel 10001 132 [.rp uMem m]]) (fun i => xs.length - i) (fun i => i ≤ xs.length ∧ idxN g xs 0 = idxN g (xs.drop i) i) 0 ⟨Nat.zero_le _, rfl⟩ ?_ ?_
  · exact hd [] rfl (And.intro (And.intro rfl rfl) trivial) ⟨⟨rfl, List.nil_prefix⟩, trivial, ⟨rfl, trivial⟩, trivial⟩
  rintro i ⟨hi, he⟩
  refine And.intro (fun q1 => ?_) (fun q1 => ?_)
  · have hlt : i < xs.length := lt_of q1
    refine And.intro (show 0 ≤ ((i : Nat) : Int) ∧ ((i : Nat) : Int) < (xs.length : Nat) by omega) ?_
    refine Or.inr (Exists.intro _ (Exists.intro _ (And.intro (hf i hlt) ?_)))
    rw [drop_d (0, 0) hlt] at he
    refine And.intro (fun q2 => ?_) (fun q2 => ?_)
    · rw [he, show idxN g (xs.getD i (0, 0) :: xs.drop (i + 1)) i = i by unfold idxN; rw [show g (xs.getD i (0, 0)) = true from q2]; rfl]
      exact fin [] (And.intro ⟨rfl, rfl⟩ ⟨⟨rfl, List.nil_prefix⟩, trivial, ⟨rfl, trivial⟩, trivial⟩)
    · refine lp_next (i + 1) ⟨hlt, ?_⟩ ?_ ?_
      · rw [he]
        conv => lhs; unfold idxN
        rw [show g (xs.getD i (0, 0)) = false from q2]; rfl
      · exact hd [] rfl (And.intro (And.intro (wrapS (by omega)) rfl) trivial) ⟨⟨rfl, List.nil_prefix⟩, trivial, ⟨rfl, trivial⟩, trivial⟩
      · show xs.length - (i + 1) < xs.length - i
        omega
  · have hge : xs.length ≤ i := ge_of q1
    have hie : i = xs.length := by omega
    subst hie
    rw [he, List.drop_length]
    exact fin [] (And.intro ⟨rfl, rfl⟩ ⟨⟨rfl, List.nil_prefix⟩, trivial, ⟨rfl, trivial⟩, trivial⟩)
theorem conWord (m : NMem) (xs : List (NWord)) (f : Nat) (g : NWord → Bool) (hl : xs.length ≤ 2097152) (hf : ∀ i : Nat, i < xs.length → FCall Tryz.prog f [vP (xs.getD i (0, 0)), .ptr 10000 0] [.cel 10000 132 [.rp uMem m]] (.bool (g (xs.getD i (0, 0)))) [.cel 10000 132 [.rp uMem m]]) : FCall Tryz.prog 94 [.sl 10000, .fn f [.ptr 10001 0]] [.row 10000 34 2 uPort xs [], .cel 10001 132 [.rp uMem m]] (.bool (xs.any g)) [.row 10000 34 2 uPort xs [], .cel 10001 132 [.rp uMem m]] := by
  refine FCall.intro (nt := 9) ti_ok mixed okConWord Tryz.func94 rfl rfl rfl rfl rfl rfl ?_
  refine Or.inr (Exists.intro _ (Exists.intro _ (And.intro (idxWord m xs f g hl hf) ?_)))
  rw [← idxN_any g xs 0 (by omega)]
  exact fin [] (And.intro rfl ⟨⟨rfl, List.nil_prefix⟩, trivial, ⟨rfl, trivial⟩, trivial⟩)
theorem okIdxPair : callOk Tryz.prog 159 = true := by kernel_rfl
theorem okConPair : callOk Tryz.prog 98 = true := by kernel_rfl
set_option maxRecDepth 100000 in
theorem idxPair (m : NMem) (xs : List (NWord)) (f : Nat) (g : NWord → Bool) (hl : xs.length ≤ 2097152) (hf : ∀ i : Nat, i < xs.length → FCall Tryz.prog f [vP (xs.getD i (0, 0)), .ptr 10000 0] [.cel 10000 132 [.rp uMem m]] (.bool (g (xs.getD i (0, 0)))) [.cel 10000 132 [.rp uMem m]]) : FCall Tryz.prog 159 [.rsl uPort xs, .fn f [.ptr 10000 0]] [.cel 10000 132 [.rp uMem m]] (.int .i64 (idxN g xs 0)) [.cel 10000 132 [.rp uMem m]] := by
  refine FCall.intro (nt := 19) ti_ok mixed okIdxPair Tryz.func159 rfl rfl rfl rfl rfl rfl ?_
  refine lp Nat (fun i => [(8, .int .i64 (i : Nat))]) (fun _ => [.cel 10000 132 [.rp uMem m]]) (fun i => xs.length - i) (fun i => i ≤ xs.length ∧ idxN g xs 0 = idxN g (xs.drop i) i) 0 ⟨Nat.zero_le _, rfl⟩ ?_ ?_
  · exact hd [] rfl (And.intro (And.intro rfl rfl) trivial) ⟨trivial, ⟨rfl, trivial⟩, trivial⟩
  rintro i ⟨hi, he⟩
  refine And.intro (fun q1 => ?_) (fun q1 => ?_)
  · have hlt : i < xs.length := lt_of q1
    refine And.intro (show 0 ≤ ((i : Nat) : Int) ∧ ((i : Nat) : Int) < (xs.length : Nat) by omega) ?_
    refine Or.inr (Exists.intro _ (Exists.intro _ (And.intro (hf i hlt) ?_)))
    rw [drop_d (0, 0) hlt] at he
    refine And.intro (fun q2 => ?_) (fun q2 => ?_)
    · rw [he, show idxN g (xs.getD i (0, 0) :: xs.drop (i + 1)) i = i by unfold idxN; rw [show g (xs.getD i (0, 0)) = true from q2]; rfl]
      exact fin [] (And.intro ⟨rfl, rfl⟩ ⟨trivial, ⟨rfl, trivial⟩, trivial⟩)
    · refine lp_next (i + 1) ⟨hlt, ?_⟩ ?_ ?_
      · rw [he]
        conv => lhs; unfold idxN
        rw [show g (xs.getD i (0, 0)) = false from q2]; rfl
      · exact hd [] rfl (And.intro (And.intro (wrapS (by omega)) rfl) trivial) ⟨trivial, ⟨rfl, trivial⟩, trivial⟩
      · show xs.length - (i + 1) < xs.length - i
        omega
  · have hge : xs.length ≤ i := ge_of q1
    have hie : i = xs.length := by omega
    subst hie
    rw [he, List.drop_length]
    exact fin [] (And.intro ⟨rfl, rfl⟩ ⟨trivial, ⟨rfl, trivial⟩, trivial⟩)
theorem conPair (m : NMem) (xs : List (NWord)) (f : Nat) (g : NWord → Bool) (hl : xs.length ≤ 2097152) (hf : ∀ i : Nat, i < xs.length → FCall Tryz.prog f [vP (xs.getD i (0, 0)), .ptr 10000 0] [.cel 10000 132 [.rp uMem m]] (.bool (g (xs.getD i (0, 0)))) [.cel 10000 132 [.rp uMem m]]) : FCall Tryz.prog 98 [.rsl uPort xs, .fn f [.ptr 10000 0]] [.cel 10000 132 [.rp uMem m]] (.bool (xs.any g)) [.cel 10000 132 [.rp uMem m]] := by
  refine FCall.intro (nt := 9) ti_ok mixed okConPair Tryz.func98 rfl rfl rfl rfl rfl rfl ?_
  refine Or.inr (Exists.intro _ (Exists.intro _ (And.intro (idxPair m xs f g hl hf) ?_)))
  rw [← idxN_any g xs 0 (by omega)]
  exact fin [] (And.intro rfl ⟨trivial, ⟨rfl, trivial⟩, trivial⟩)
end Go.Proofs.YthciaodffkbljaaGreat

/- The reference's memories and pools: chains, words that are held. -/
set_option linter.unusedSimpArgs false
set_option linter.unusedVariables false
namespace Go.Proofs.YthciaodffkbljaaGreat
open Go Go.RowKit Go.Proofs Go.Tr
theorem word_in {xs : List NAgent} {w : NWord} (h : wordB xs w = true) : 0 ≤ w.2 ∧ w.2 < (xs.length : Nat) := by
  unfold wordB at h
  simp only [inB, Bool.and_eq_true, decide_eq_true_eq] at h
  omega
theorem agAt_all {xs : List NAgent} {p : NAgent → Prop} (h : ∀ c ∈ xs, p c) {i : Int} (h0 : 0 ≤ i) (h1 : i < (xs.length : Nat)) : p (agAt xs i) := by
  have e : agAt xs i = agAt xs (i.toNat : Nat) := agAt_nat (by omega)
  rw [e]; exact h _ (agAt_mem (by omega))
theorem okRes21 : callOk Tryz.prog 148 = true := by kernel_rfl
set_option maxRecDepth 100000 in
theorem res21 (m : NMem) (w : NWord) (hl : m.1.length ≤ 1048576) (hv : ∀ c ∈ m.1, ∀ x ∈ c.2.2.2.2, wordB m.1 x = true) (hw : wordB m.1 w = true) : QCall Tryz.prog 148 [.rp uMem m, vP w] (.tup [vP (resN m.1 (m.1.length + 1) w).1, .bool (resN m.1 (m.1.length + 1) w).2]) := by
  refine QCall.intro (nt := 45) ti_ok mixed okRes21 Tryz.func148 rfl rfl rfl rfl rfl ?_
  refine lp (Nat × NWord) (fun s => [(6, .int .i64 ((m.1.length : Nat) - (s.1 : Nat)))]) (fun s => [.cel 3 34 [.int .i64 s.2.1, .int .i64 s.2.2], .cel 4 34 [.int .i64 0, .int .i64 0]]) (fun s => m.1.length + 1 - s.1) (fun s => s.1 ≤ m.1.length + 1 ∧ wordB m.1 s.2 = true ∧ resN m.1 (m.1.length + 1) w = resN m.1 (m.1.length + 1 - s.1) s.2) (0, w) ⟨Nat.zero_le _, hw, rfl⟩ ?_ ?_
  · exact hd [] rfl (And.intro (And.intro (Int.sub_zero _).symm rfl) trivial) ⟨trivial, ⟨⟨rfl, rfl⟩, ⟨rfl, rfl⟩, trivial⟩, trivial, ⟨⟨rfl, rfl⟩, ⟨rfl, rfl⟩, trivial⟩, trivial⟩
  rintro ⟨j, x⟩ ⟨hj, hx, he⟩
  refine And.intro (fun q1 => ?_) (fun q1 => ?_)
  · have hlt : j ≤ m.1.length := by have q2 : decide ((0 : Int) ≤ (m.1.length : Nat) - (j : Nat)) = true := q1; simp only [decide_eq_true_eq] at q2; omega
    have hin := word_in hx
    refine And.intro (fun _ => hin) ?_
    refine And.intro (by kernel_rfl) ?_
    have ek : m.1.length + 1 - j = (m.1.length - j) + 1 := by omega
    have hee : resN m.1 (m.1.length + 1) w = resN m.1 ((m.1.length - j) + 1) x := by rw [← ek]; exact he
    have hcond : (bif x.1 != 2 then true else (((agAt m.1 x.2).2.2.2.2.length : Nat) : Int) == 0) = ((x.1 != 2) || (agAt m.1 x.2).2.2.2.2.length == 0) := by rw [nat_beq0]; cases x.1 != 2 <;> rfl
    refine And.intro (fun q2 => ?_) (fun q2 => ?_)
    · have q3 : ((x.1 != 2) || (agAt m.1 x.2).2.2.2.2.length == 0) = true := by rw [← hcond]; exact q2
      have e : resN m.1 (m.1.length + 1) w = (x, true) := by rw [hee]; unfold resN; rw [q3]; rfl
      rw [e]; exact rfl
    · have q3 : ((x.1 != 2) || (agAt m.1 x.2).2.2.2.2.length == 0) = false := by rw [← hcond]; exact q2
      have q4 : 0 < (agAt m.1 x.2).2.2.2.2.length := by rw [Bool.or_eq_false_iff, beq_eq_false_iff_ne] at q3; omega
      have e : resN m.1 (m.1.length + 1) w = resN m.1 (m.1.length - j) ((agAt m.1 x.2).2.2.2.2.getD 0 (0, 0)) := by
        rw [hee]
        conv => lhs; unfold resN
        rw [q3]; rfl
      refine And.intro hin ?_
      refine And.intro (show (0 : Int) ≤ 0 ∧ (0 : Int) < ((agAt m.1 x.2).2.2.2.2.length : Nat) by omega) ?_
      refine And.intro (by kernel_rfl) ?_
      refine lp_next (j + 1, (agAt m.1 x.2).2.2.2.2.getD 0 (0, 0)) ⟨by show j + 1 ≤ _; omega, ?_, ?_⟩ ?_ ?_
      · refine agAt_all (p := fun c => ∀ x ∈ c.2.2.2.2, wordB m.1 x = true) hv hin.1 hin.2 _ ?_
        rw [List.getD_eq_getElem?_getD, List.getElem?_eq_getElem q4]; exact List.getElem_mem q4
      · rw [e, show m.1.length + 1 - (j + 1) = m.1.length - j by omega]
      · refine hd [] rfl (And.intro (And.intro ?_ rfl) trivial) ⟨trivial, ⟨⟨rfl, rfl⟩, ⟨rfl, rfl⟩, trivial⟩, trivial, ⟨⟨rfl, rfl⟩, ⟨rfl, rfl⟩, trivial⟩, trivial⟩
        show IntKind.i64.wrap ((m.1.length : Nat) - (j : Nat) - 1) = (m.1.length : Nat) - ((j + 1 : Nat) : Int)
        rw [IntWalk.i64_in _ (by omega)]; omega
      · show m.1.length + 1 - (j + 1) < m.1.length + 1 - j
        omega
  · have hge : j = m.1.length + 1 := by
      have q2 : decide ((0 : Int) ≤ (m.1.length : Nat) - (j : Nat)) = false := q1
      simp only [decide_eq_false_iff_not] at q2
      have hj' : j ≤ m.1.length + 1 := hj
      omega
    subst hge
    have e : resN m.1 (m.1.length + 1) w = (x, false) := by refine he.trans ?_; show resN m.1 (m.1.length + 1 - (m.1.length + 1)) x = _; rw [Nat.sub_self]; rfl
    rw [e]; exact rfl
theorem okChain21 : callOk Tryz.prog 149 = true := by kernel_rfl
theorem freeN_take (xs : List NAgent) {i : Nat} (h : i < xs.length) : freeN (xs.take (i + 1)) = freeN (xs.take i) + (bif (agAt xs i).1 == 0 then 1 else 0) := by
  unfold freeN
  rw [countP_take _ (dflt uAgent) xs h, agAt_getD]
theorem freeN_le (xs : List NAgent) (i : Nat) : freeN (xs.take i) ≤ xs.length := by
  unfold freeN
  refine Nat.le_trans List.countP_le_length ?_
  rw [List.length_take]; omega
set_option maxRecDepth 100000 in
theorem chain21 (m : NMem) (hl : m.1.length ≤ 1048576) : QCall Tryz.prog 149 [.rp uMem m] (.bool (chainN m.1 (freeN m.1) m.2.1)) := by
  refine QCall.intro (nt := 64) ti_ok mixed okChain21 Tryz.func149 rfl rfl rfl rfl rfl ?_
  refine lp Nat (fun i => [(4, .int .i64 (i : Nat)), (3, .int .i64 (freeN (m.1.take i) : Nat))]) (fun _ => []) (fun i => m.1.length - i) (fun i => i ≤ m.1.length) 0 (Nat.zero_le _) ?_ ?_
  · exact hd [] rfl (And.intro (And.intro rfl rfl) (And.intro (And.intro rfl rfl) trivial)) trivial
  intro i hi
  refine And.intro (fun q1 => ?_) (fun q1 => ?_)
  · have hlt : i < m.1.length := by simpa using q1
    have hf := freeN_le m.1 i
    refine And.intro (show 0 ≤ ((i : Nat) : Int) ∧ ((i : Nat) : Int) < (m.1.length : Nat) by omega) ?_
    refine And.intro (fun q2 => ?_) (fun q2 => ?_)
    · refine lp_next (i + 1) hlt ?_ ?_
      · refine hd [] rfl (And.intro (And.intro (wrapS (by omega)) rfl) (And.intro (And.intro ?_ rfl) trivial)) trivial
        rw [freeN_take m.1 hlt, show ((agAt m.1 (i : Nat)).1 == 0) = true from q2]
        exact wrapS (by omega)
      · show m.1.length - (i + 1) < m.1.length - i
        omega
    · refine lp_next (i + 1) hlt ?_ ?_
      · refine hd [] rfl (And.intro (And.intro (wrapS (by omega)) rfl) (And.intro (And.intro ?_ rfl) trivial)) trivial
        rw [freeN_take m.1 hlt, show ((agAt m.1 (i : Nat)).1 == 0) = false from q2]; rfl
      · show m.1.length - (i + 1) < m.1.length - i
        omega
  have hge : m.1.length ≤ i := by simpa using q1
  have hie : i = m.1.length := by omega
  subst hie
  have hn : freeN (m.1.take m.1.length) = freeN m.1 := by rw [List.take_length]
  have hf := freeN_le m.1 m.1.length
  rw [hn] at hf
  refine lp (Nat × Int) (fun s => [(3, .int .i64 ((freeN m.1 : Nat) - (s.1 : Nat))), (5, .int .i64 s.2)]) (fun _ => []) (fun s => freeN m.1 - s.1) (fun s => s.1 ≤ freeN m.1 ∧ chainN m.1 (freeN m.1) m.2.1 = chainN m.1 (freeN m.1 - s.1) s.2) (0, m.2.1) ⟨Nat.zero_le _, rfl⟩ ?_ ?_
  · refine hd [] rfl (And.intro (And.intro ?_ rfl) (And.intro (And.intro rfl rfl) trivial)) trivial
    rw [hn]; exact (Int.sub_zero _).symm
  rintro ⟨j, a⟩ ⟨hj, he⟩
  refine And.intro (fun q1 => ?_) (fun q1 => ?_)
  · have hlt : j < freeN m.1 := by have q2 : decide ((0 : Int) < (freeN m.1 : Nat) - (j : Nat)) = true := q1; simp only [decide_eq_true_eq] at q2; omega
    have ek : freeN m.1 - j = (freeN m.1 - (j + 1)) + 1 := by omega
    rw [ek] at he
    refine Or.inl (Exists.intro _ (And.intro (inQ _ _ _) ?_))
    refine And.intro (fun q2 => ?_) ?_
    · have q3 : inB a 0 ((m.1.length : Int) - 1) = true := by
        have q4 : (!inB a 0 (IntKind.i64.wrap ((m.1.length : Int) - 1))) = false := by simpa using q2
        rw [wrapPred hl] at q4; simpa using q4
      simp only [inB, Bool.and_eq_true, decide_eq_true_eq] at q3
      show 0 ≤ a ∧ a < (m.1.length : Nat)
      omega
    have hcond : (bif !inB a 0 (IntKind.i64.wrap ((m.1.length : Int) - 1)) then true else ((agAt m.1 a).1 != 0)) = !(inB a 0 ((m.1.length : Int) - 1) && (agAt m.1 a).1 == 0) := by rw [wrapPred hl]; cases inB a 0 ((m.1.length : Int) - 1) <;> rfl
    refine And.intro (fun q2 => ?_) (fun q2 => ?_)
    · have q3 : (inB a 0 ((m.1.length : Int) - 1) && (agAt m.1 a).1 == 0) = false := Eq.mp (Bool.not_eq_true' _) (hcond.symm.trans q2)
      have e : chainN m.1 (freeN m.1) m.2.1 = false := by refine he.trans ?_; show chainN m.1 ((freeN m.1 - (j + 1)) + 1) a = false; unfold chainN; rw [q3]; rfl
      rw [e]; exact rfl
    · have q3 : (inB a 0 ((m.1.length : Int) - 1) && (agAt m.1 a).1 == 0) = true := Eq.mp (Bool.not_eq_false' _) (hcond.symm.trans q2)
      have e : chainN m.1 (freeN m.1) m.2.1 = chainN m.1 (freeN m.1 - (j + 1)) (agAt m.1 a).2.2.1 := by
        refine he.trans ?_
        show chainN m.1 ((freeN m.1 - (j + 1)) + 1) a = _
        conv => lhs; unfold chainN
        rw [q3]; rfl
      have q4 : 0 ≤ a ∧ a < (m.1.length : Nat) := by simp only [inB, Bool.and_eq_true, decide_eq_true_eq] at q3; omega
      refine And.intro q4 ?_
      refine lp_next (j + 1, (agAt m.1 a).2.2.1) ⟨hlt, e⟩ ?_ ?_
      · refine hd [] rfl (And.intro (And.intro ?_ rfl) (And.intro (And.intro rfl rfl) trivial)) trivial
        show IntKind.i64.wrap ((freeN m.1 : Nat) - (j : Nat) - 1) = (freeN m.1 : Nat) - ((j + 1 : Nat) : Int)
        rw [IntWalk.i64_in _ (by omega)]; omega
      · show freeN m.1 - (j + 1) < freeN m.1 - j
        omega
  · have hge : j = freeN m.1 := by
      have q2 : decide ((0 : Int) < (freeN m.1 : Nat) - (j : Nat)) = false := q1
      simp only [decide_eq_false_iff_not] at q2
      have hj' : j ≤ freeN m.1 := hj
      omega
    subst hge
    have e : chainN m.1 (freeN m.1) m.2.1 = (a == -1) := by refine he.trans ?_; show chainN m.1 (freeN m.1 - freeN m.1) a = _; rw [Nat.sub_self]; rfl
    rw [e]; exact rfl
theorem okHeld24 : callOk Tryz.prog 85 = true := by kernel_rfl
abbrev wAt (ws : List NWorker) (i : Nat) : NWorker := ws.getD i (dflt uWorker)
set_option maxRecDepth 100000 in
theorem held24 (p : NPool) (hl : p.2.1.length ≤ 1048576) (hb : (heldN p.2.1).length ≤ 1048576) : FCall Tryz.prog 85 [.rp uPool p] [] (.sl 10000) [.row 10000 34 2 uPort (heldN p.2.1) []] := by
  refine FCall.intro (nt := 57) ti_ok mixed okHeld24 Tryz.func85 rfl rfl rfl rfl rfl rfl ?_
  refine lp Nat (fun i => [(4, .int .i64 (i : Nat)), (3, .sl 20000)]) (fun i => [.row 20000 34 2 uPort (heldN (p.2.1.take i)) []]) (fun i => p.2.1.length - i) (fun i => i ≤ p.2.1.length) 0 (Nat.zero_le _) ?_ ?_
  · exact hd [(20000, 6)] rfl (And.intro (And.intro rfl rfl) (And.intro rfl trivial)) ⟨⟨rfl, List.nil_prefix⟩, trivial⟩
  intro i hi
  refine And.intro (fun q1 => ?_) (fun q1 => ?_)
  · have hlt : i < p.2.1.length := by simpa using q1
    have hii : 0 ≤ ((i : Nat) : Int) ∧ ((i : Nat) : Int) < (p.2.1.length : Nat) := by omega
    have e : heldN (p.2.1.take (i + 1)) = heldN (p.2.1.take i) ++ (wAt p.2.1 i).2.2.2.1.flatMap fun l : NWord × NWord => [l.1, l.2] := flat_take (fun w : NWorker => w.2.2.2.1.flatMap fun l : NWord × NWord => [l.1, l.2]) (dflt uWorker) p.2.1 hlt
    have hle : (heldN (p.2.1.take (i + 1))).length ≤ (heldN p.2.1).length := flat_le (fun w : NWorker => w.2.2.2.1.flatMap fun l : NWord × NWord => [l.1, l.2]) p.2.1 (i + 1)
    have hfl : ((wAt p.2.1 i).2.2.2.1.flatMap fun l : NWord × NWord => [l.1, l.2]).length = 2 * (wAt p.2.1 i).2.2.2.1.length := by
      induction (wAt p.2.1 i).2.2.2.1 with
      | nil => rfl
      | cons x l ih => rw [List.flatMap_cons, List.length_append, ih]; simp only [List.length_cons, List.length_nil]; omega
    rw [e, List.length_append] at hle
    refine lp Nat (fun k => [(5, .int .i64 (k : Nat)), (3, .sl 21000)]) (fun k => [.row 21000 34 2 uPort (heldN (p.2.1.take i) ++ ((wAt p.2.1 i).2.2.2.1.take k).flatMap fun l : NWord × NWord => [l.1, l.2]) []]) (fun k => (wAt p.2.1 i).2.2.2.1.length - k) (fun k => k ≤ (wAt p.2.1 i).2.2.2.1.length) 0 (Nat.zero_le _) ?_ ?_
    · exact hd [(21000, 20000)] rfl (And.intro (And.intro rfl rfl) (And.intro rfl trivial)) ⟨⟨(List.append_nil _).symm, List.nil_prefix⟩, trivial⟩
    intro k hk
    refine And.intro hii ?_
    refine And.intro (fun q2 => ?_) (fun q2 => ?_)
    · have hkt : k < (wAt p.2.1 i).2.2.2.1.length := lt_of q2
      have hkk : 0 ≤ ((k : Nat) : Int) ∧ ((k : Nat) : Int) < ((wAt p.2.1 i).2.2.2.1.length : Nat) := by omega
      have e2 := flat_take (fun l : NWord × NWord => [l.1, l.2]) ((0, 0), (0, 0)) (wAt p.2.1 i).2.2.2.1 hkt
      have hle2 := flat_le (fun l : NWord × NWord => [l.1, l.2]) (wAt p.2.1 i).2.2.2.1 (k + 1)
      rw [e2, List.length_append] at hle2
      refine And.intro hii ?_
      refine And.intro hkk ?_
      refine And.intro hii ?_
      refine And.intro hkk ?_
      refine And.intro ?_ ?_
      · show (heldN (p.2.1.take i) ++ ((wAt p.2.1 i).2.2.2.1.take k).flatMap fun l : NWord × NWord => [l.1, l.2]).length + 2 ≤ 1073741824
        have h3 : ([((wAt p.2.1 i).2.2.2.1.getD k ((0, 0), (0, 0))).1, ((wAt p.2.1 i).2.2.2.1.getD k ((0, 0), (0, 0))).2] : List NWord).length = 2 := rfl
        rw [List.length_append]; omega
      refine And.intro (by kernel_rfl) ?_
      refine lp_next (k + 1) hkt ?_ ?_
      · refine hd [(21000, 55)] rfl (And.intro (And.intro (wrapS (by omega)) rfl) (And.intro rfl trivial)) ⟨⟨?_, List.nil_prefix⟩, trivial⟩
        show (heldN (p.2.1.take i) ++ ((wAt p.2.1 i).2.2.2.1.take k).flatMap fun l : NWord × NWord => [l.1, l.2]) ++ _ = heldN (p.2.1.take i) ++ ((wAt p.2.1 i).2.2.2.1.take (k + 1)).flatMap fun l : NWord × NWord => [l.1, l.2]
        rw [e2, List.append_assoc]; rfl
      · show (wAt p.2.1 i).2.2.2.1.length - (k + 1) < (wAt p.2.1 i).2.2.2.1.length - k
        omega
    · have hge : (wAt p.2.1 i).2.2.2.1.length ≤ k := ge_of q2
      have hke : k = (wAt p.2.1 i).2.2.2.1.length := by omega
      subst hke
      refine lp_next (i + 1) hlt ?_ ?_
      · refine hd [(20000, 21000)] rfl (And.intro (And.intro (wrapS (by omega)) rfl) (And.intro rfl trivial)) ⟨⟨?_, List.nil_prefix⟩, trivial⟩
        show heldN (p.2.1.take i) ++ ((wAt p.2.1 i).2.2.2.1.take (wAt p.2.1 i).2.2.2.1.length).flatMap _ = heldN (p.2.1.take (i + 1))
        rw [e, List.take_length]
      · show p.2.1.length - (i + 1) < p.2.1.length - i
        omega
  · have hge : p.2.1.length ≤ i := by simpa using q1
    have hie : i = p.2.1.length := by omega
    subst hie
    refine fin [(10000, 20000)] (And.intro rfl ?_)
    refine ⟨⟨?_, List.nil_prefix⟩, trivial⟩
    show heldN (p.2.1.take p.2.1.length) = heldN p.2.1
    rw [List.take_length]
theorem okReds24 : callOk Tryz.prog 86 = true := by kernel_rfl
set_option maxRecDepth 100000 in
theorem reds24 (p : NPool) (hl : p.2.1.length ≤ 1048576) (hb : (redsN p.2.1).length ≤ 16777216) : FCall Tryz.prog 86 [.rp uPool p] [] (.sl 10000) [.row 10000 147 2 uPort (redsN p.2.1) []] := by
  refine FCall.intro (nt := 26) ti_ok mixed okReds24 Tryz.func86 rfl rfl rfl rfl rfl rfl ?_
  refine lp Nat (fun i => [(4, .int .i64 (i : Nat)), (3, .sl 20000)]) (fun i => [.row 20000 147 2 uPort (redsN (p.2.1.take i)) []]) (fun i => p.2.1.length - i) (fun i => i ≤ p.2.1.length) 0 (Nat.zero_le _) ?_ ?_
  · exact hd [(20000, 5)] rfl (And.intro (And.intro rfl rfl) (And.intro rfl trivial)) ⟨⟨rfl, List.nil_prefix⟩, trivial⟩
  intro i hi
  refine And.intro (fun q1 => ?_) (fun q1 => ?_)
  · have hlt : i < p.2.1.length := by simpa using q1
    have e : redsN (p.2.1.take (i + 1)) = redsN (p.2.1.take i) ++ (wAt p.2.1 i).2.2.1 := flat_take (fun w : NWorker => w.2.2.1) (dflt uWorker) p.2.1 hlt
    have hle : (redsN (p.2.1.take (i + 1))).length ≤ (redsN p.2.1).length := flat_le (fun w : NWorker => w.2.2.1) p.2.1 (i + 1)
    rw [e, List.length_append] at hle
    refine And.intro (show 0 ≤ ((i : Nat) : Int) ∧ ((i : Nat) : Int) < (p.2.1.length : Nat) by omega) ?_
    refine And.intro (show (redsN (p.2.1.take i)).length + (wAt p.2.1 i).2.2.1.length ≤ 1073741824 by omega) ?_
    refine lp_next (i + 1) hlt ?_ ?_
    · refine hd [(20000, 24)] rfl (And.intro (And.intro (wrapS (by omega)) rfl) (And.intro rfl trivial)) ⟨⟨?_, List.nil_prefix⟩, trivial⟩
      show _ = redsN (p.2.1.take (i + 1))
      rw [e]; rfl
    · show p.2.1.length - (i + 1) < p.2.1.length - i
      omega
  · have hge : p.2.1.length ≤ i := by simpa using q1
    have hie : i = p.2.1.length := by omega
    subst hie
    refine fin [(10000, 20000)] (And.intro rfl ?_)
    refine ⟨⟨?_, List.nil_prefix⟩, trivial⟩
    show redsN (p.2.1.take p.2.1.length) = redsN p.2.1
    rw [List.take_length]
end Go.Proofs.YthciaodffkbljaaGreat

/- The program's memories and pools: the small functions. -/
set_option linter.unusedSimpArgs false
set_option linter.unusedVariables false
namespace Go.Proofs.YthciaodffkbljaaGreat
open Go Go.RowKit Go.Proofs Go.Tr
abbrev vCell (c : NAgent) : SV := .agg [.int .i64 c.1, .int .i64 c.2.1, .int .i64 c.2.2.1, .rsl (.int .i64) c.2.2.2.1, .rsl uPort c.2.2.2.2]
abbrev vWrk (w : NWorker) : SV := .agg [.int .i64 w.1, .int .i64 w.2.1, .rsl uPort w.2.2.1, .rsl uLink w.2.2.2.1, .rsl (.int .i64) w.2.2.2.2]
theorem okTruth : callOk Tryz.prog 40 = true := by kernel_rfl
theorem truthI (b : Bool) : QCall Tryz.prog 40 [.bool b] (.int .i64 (bif b then 1 else 0)) := by
  refine QCall.intro (nt := 4) ti_ok mixed okTruth Tryz.func40 rfl rfl rfl rfl rfl ?_
  refine And.intro (fun q => ?_) (fun q => ?_)
  · subst q; exact ⟨rfl, rfl⟩
  · subst q; exact ⟨rfl, rfl⟩
theorem okWF : callOk Tryz.prog 155 = true := by kernel_rfl
theorem wellI (a : NAgent) : QCall Tryz.prog 155 [vCell a] (.bool (agentB (gA a))) :=
  QCall.of_agg (u := uAgent) (x := a) okWF (fun w bs us h => wellFormed_any (gA a) w (by rw [gA_enc]; exact h)) (fun _ _ => den_b _) fun _ _ _ _ _ h1 h2 => tn_of' h1 h2
theorem okIAC : callOk Tryz.prog 154 = true := by kernel_rfl
theorem isAgI (c : NAgent) : QCall Tryz.prog 154 [vCell c] (.bool (isAgB c.1)) := by
  refine QCall.intro (nt := 11) ti_ok mixed okIAC Tryz.func154 rfl rfl rfl rfl rfl ?_
  refine Eq.trans (Eq.refl _) ?_
  show (bif decide ((2 : Int) ≤ c.1) then decide (c.1 ≤ 12) else false) = _
  unfold isAgB inB
  cases decide ((2 : Int) ≤ c.1) <;> rfl
theorem okIVr : callOk Tryz.prog 103 = true := by kernel_rfl
theorem isVarI (c : NAgent) : QCall Tryz.prog 103 [vCell c] (.bool (c.1 == 13)) := by
  refine QCall.intro (nt := 6) ti_ok mixed okIVr Tryz.func103 rfl rfl rfl rfl rfl ?_
  exact rfl
theorem okIFr : callOk Tryz.prog 156 = true := by kernel_rfl
theorem isFreeI (c : NAgent) : QCall Tryz.prog 156 [vCell c] (.bool (c.1 == 0)) := by
  refine QCall.intro (nt := 6) ti_ok mixed okIFr Tryz.func156 rfl rfl rfl rfl rfl ?_
  exact rfl
theorem okHas : callOk Tryz.prog 158 = true := by kernel_rfl
theorem hasI (m : NMem) (k : Int) : QCall Tryz.prog 158 [.rp uMem m, .int .i64 k] (.bool (inB k 0 ((m.1.length : Int) - 1))) := by
  refine QCall.intro (nt := 16) ti_ok mixed okHas Tryz.func158 rfl rfl rfl rfl rfl ?_
  refine Eq.trans (Eq.refl _) ?_
  show (bif decide ((0 : Int) ≤ k) then decide (k < (m.1.length : Nat)) else false) = _
  unfold inB
  rw [show decide (k < ((m.1.length : Nat) : Int)) = decide (k ≤ (m.1.length : Int) - 1) from decide_eq_decide.2 (by omega)]
  cases decide ((0 : Int) ≤ k) <;> rfl
theorem okVC : callOk Tryz.prog 93 = true := by kernel_rfl
set_option maxRecDepth 100000 in
theorem validCellI (c : NAgent) (hl : c.2.2.2.2.length ≤ 1048576) : QCall Tryz.prog 93 [vCell c] (.bool (cellI c)) := by
  refine QCall.intro (nt := 63) ti_ok mixed okVC Tryz.func93 rfl rfl rfl rfl rfl ?_
  refine Or.inl (Exists.intro _ (And.intro (isAgI c) ?_))
  refine And.intro (fun q1 => ?_) (fun q1 => ?_)
  · have hw : IntKind.i64.wrap ((c.2.2.2.2.length : Int) + 1) = ((c.2.2.2.2.length + 1 : Nat) : Int) := wrapS (by omega)
    refine And.intro (show 0 ≤ IntKind.i64.wrap ((c.2.2.2.2.length : Int) + 1) ∧ IntKind.i64.wrap ((c.2.2.2.2.length : Int) + 1) ≤ IntKind.i64.wrap ((c.2.2.2.2.length : Int) + 1) ∧ IntKind.i64.wrap ((c.2.2.2.2.length : Int) + 1) ≤ 2097152 by rw [hw]; omega) ?_
    refine Or.inr (Exists.intro _ (Exists.intro _ (And.intro (FCall.of_q ti_ok [169] okWF (wellI (c.1, c.2.1, c.2.2.1, c.2.2.2.1, List.replicate (IntKind.i64.wrap ((c.2.2.2.2.length : Int) + 1)).toNat (0, 0))) rfl) ?_)))
    refine And.intro (by kernel_rfl) ?_
    have e : cellI c = agentB (gA (c.1, c.2.1, c.2.2.1, c.2.2.2.1, List.replicate (IntKind.i64.wrap ((c.2.2.2.2.length : Int) + 1)).toNat (0, 0))) := by
      unfold cellI
      rw [show isAgB c.1 = true from q1, hw]; rfl
    rw [e]; exact rfl
  refine Or.inl (Exists.intro _ (And.intro (isVarI c) ?_))
  refine And.intro (fun q2 => ?_) (fun q2 => ?_)
  · refine Eq.trans (Eq.refl _) ?_
    have e : cellI c = (((c.2.1 == 0 && c.2.2.1 == 0) && c.2.2.2.1.length == 0) && decide (c.2.2.2.2.length ≤ 1)) := by unfold cellI; rw [show isAgB c.1 = false from q1, show (c.1 == 13) = true from q2]; rfl
    rw [e]
    rw [show (c.2.2.2.1.length == 0) = ((c.2.2.2.1.length : Int) == 0) from (nat_beq0 _).symm, show decide (c.2.2.2.2.length ≤ 1) = decide ((c.2.2.2.2.length : Int) ≤ 1) from decide_eq_decide.2 (by omega)]
    cases c.2.1 == 0 <;> cases c.2.2.1 == 0 <;> cases ((c.2.2.2.1.length : Int) == 0) <;> rfl
  refine Or.inl (Exists.intro _ (And.intro (isFreeI c) ?_))
  refine Eq.trans (Eq.refl _) ?_
  have e : cellI c = (((c.1 == 0 && c.2.1 == 0) && c.2.2.2.1.length == 0) && c.2.2.2.2.length == 0) := by unfold cellI; rw [show isAgB c.1 = false from q1, show (c.1 == 13) = false from q2]; rfl
  rw [e]
  rw [show (c.2.2.2.1.length == 0) = ((c.2.2.2.1.length : Int) == 0) from (nat_beq0 _).symm, show (c.2.2.2.2.length == 0) = ((c.2.2.2.2.length : Int) == 0) from (nat_beq0 _).symm]
  cases c.1 == 0 <;> cases c.2.1 == 0 <;> cases ((c.2.2.2.1.length : Int) == 0) <;> rfl
theorem okV1 : callOk Tryz.prog 92 = true := by kernel_rfl
theorem valid1 (c : NAgent) (hl : c.2.2.2.2.length ≤ 1048576) : QCall Tryz.prog 92 [vCell c] (.bool (!cellI c)) := by
  refine QCall.intro (nt := 6) ti_ok mixed okV1 Tryz.func92 rfl rfl rfl rfl rfl ?_
  refine Or.inl (Exists.intro _ (And.intro (validCellI c hl) ?_))
  exact rfl
theorem okVW : callOk Tryz.prog 97 = true := by kernel_rfl
set_option maxRecDepth 100000 in
theorem wordI (m : NMem) (w : NWord) : QCall Tryz.prog 97 [.rp uMem m, vP w] (.bool (wordB m.1 w)) := by
  refine QCall.intro (nt := 35) ti_ok mixed okVW Tryz.func97 rfl rfl rfl rfl rfl ?_
  refine Or.inl (Exists.intro _ (And.intro (hasI m w.2) ?_))
  refine And.intro (fun q1 => ?_) (fun q1 => ?_)
  · have q2 : inB w.2 0 ((m.1.length : Int) - 1) = false := Eq.mp (Bool.not_eq_true' _) q1
    have e : wordB m.1 w = false := by unfold wordB; rw [q2]; rfl
    rw [e]; exact rfl
  have q2 : inB w.2 0 ((m.1.length : Int) - 1) = true := Eq.mp (Bool.not_eq_false' _) q1
  have q4 : 0 ≤ w.2 ∧ w.2 < (m.1.length : Nat) := by simp only [inB, Bool.and_eq_true, decide_eq_true_eq] at q2; omega
  refine And.intro q4 ?_
  refine And.intro (by kernel_rfl) ?_
  refine Or.inl (Exists.intro _ (And.intro (fun _ => isAgI _) ?_))
  refine Or.inl (Exists.intro _ (And.intro (fun _ => isVarI _) ?_))
  refine Eq.trans (Eq.refl _) ?_
  unfold wordB
  rw [q2, Bool.true_and]
  show _ = ((w.1 == 1 && isAgB (agAt m.1 w.2).1) || (w.1 == 2 && (agAt m.1 w.2).1 == 13))
  unfold agAt
  cases w.1 == 1 <;> cases w.1 == 2 <;> cases isAgB (elt (dflt uAgent) m.1 w.2).1 <;> rfl
theorem okVR : callOk Tryz.prog 100 = true := by kernel_rfl
set_option maxRecDepth 100000 in
theorem redexI (m : NMem) (p : NWord) : QCall Tryz.prog 100 [.rp uMem m, vP p] (.bool (redexB m.1 p)) := by
  refine QCall.intro (nt := 44) ti_ok mixed okVR Tryz.func100 rfl rfl rfl rfl rfl ?_
  refine Or.inl (Exists.intro _ (And.intro (fun _ => hasI m p.1) ?_))
  refine Or.inl (Exists.intro _ (And.intro (fun _ => hasI m p.2) ?_))
  have hpre : (bif (bif decide (p.1 < p.2) then inB p.1 0 ((m.1.length : Int) - 1) else false) then inB p.2 0 ((m.1.length : Int) - 1) else false) = (inB p.2 1 ((m.1.length : Int) - 1) && inB p.1 0 (p.2 - 1)) := by
    have c : ∀ a b : Bool, (bif a then b else false) = (a && b) := fun a b => by cases a <;> rfl
    rw [c, c, Bool.eq_iff_iff]
    simp only [inB, Bool.and_eq_true, decide_eq_true_eq]
    omega
  have hin : (bif (bif decide (p.1 < p.2) then inB p.1 0 ((m.1.length : Int) - 1) else false) then inB p.2 0 ((m.1.length : Int) - 1) else false) = true → (0 ≤ p.1 ∧ p.1 < (m.1.length : Nat)) ∧ (0 ≤ p.2 ∧ p.2 < (m.1.length : Nat)) := fun h => by
    rw [hpre] at h
    simp only [inB, Bool.and_eq_true, decide_eq_true_eq] at h
    omega
  refine And.intro (fun g => (hin g).1) ?_
  refine Or.inl (Exists.intro _ (And.intro (fun _ => isAgI _) ?_))
  refine And.intro (fun g => (hin (by
    have g2 : (bif (bif (bif decide (p.1 < p.2) then inB p.1 0 ((m.1.length : Int) - 1) else false) then inB p.2 0 ((m.1.length : Int) - 1) else false) then isAgB (agAt m.1 p.1).1 else false) = true := g
    cases h : (bif (bif decide (p.1 < p.2) then inB p.1 0 ((m.1.length : Int) - 1) else false) then inB p.2 0 ((m.1.length : Int) - 1) else false) with
    | true => rfl
    | false => rw [h] at g2; exact g2)).2) ?_
  refine Or.inl (Exists.intro _ (And.intro (fun _ => isAgI _) ?_))
  refine And.intro (by kernel_rfl) ?_
  have e : redexB m.1 p = (bif (bif (bif (bif decide (p.1 < p.2) then inB p.1 0 ((m.1.length : Int) - 1) else false) then inB p.2 0 ((m.1.length : Int) - 1) else false) then isAgB (agAt m.1 p.1).1 else false) then isAgB (agAt m.1 p.2).1 else false) := by
    rw [hpre]; unfold redexB
    cases (inB p.2 1 ((m.1.length : Int) - 1) && inB p.1 0 (p.2 - 1)) <;> cases isAgB (agAt m.1 p.1).1 <;> rfl
  rw [e]; exact rfl
abbrev tM (m : NMem) : List Tok := [.cel 10000 132 [.rp uMem m]]
theorem okV2 : callOk Tryz.prog 96 = true := by kernel_rfl
set_option maxRecDepth 100000 in
theorem valid2 (m : NMem) (w : NWord) : FCall Tryz.prog 96 [vP w, .ptr 10000 0] (tM m) (.bool (!wordB m.1 w)) (tM m) := by
  refine FCall.intro (nt := 8) ti_ok mixed okV2 Tryz.func96 rfl rfl rfl rfl rfl rfl ?_
  refine Or.inl (Exists.intro _ (And.intro (wordI m w) ?_))
  exact fin [] (And.intro rfl ⟨trivial, ⟨rfl, trivial⟩, trivial⟩)
theorem okV3 : callOk Tryz.prog 99 = true := by kernel_rfl
set_option maxRecDepth 100000 in
theorem valid3 (m : NMem) (w : NWord) : FCall Tryz.prog 99 [vP w, .ptr 10000 0] (tM m) (.bool (!redexB m.1 w)) (tM m) := by
  refine FCall.intro (nt := 8) ti_ok mixed okV3 Tryz.func99 rfl rfl rfl rfl rfl rfl ?_
  refine Or.inl (Exists.intro _ (And.intro (redexI m w) ?_))
  exact fin [] (And.intro rfl ⟨trivial, ⟨rfl, trivial⟩, trivial⟩)
theorem okAct : callOk Tryz.prog 41 = true := by kernel_rfl
theorem activeI (w : NWorker) : QCall Tryz.prog 41 [vWrk w] (.bool (activeB w)) := by
  refine QCall.intro (nt := 11) ti_ok mixed okAct Tryz.func41 rfl rfl rfl rfl rfl ?_
  refine Eq.trans (Eq.refl _) ?_
  unfold activeB
  cases w.1 == 1 <;> rfl
theorem okVCt1 : callOk Tryz.prog 137 = true := by kernel_rfl
theorem counts1 (k : Int) : QCall Tryz.prog 137 [.int .i64 k] (.bool (!inB k 0 1000000000)) := by
  refine QCall.intro (nt := 9) ti_ok mixed okVCt1 Tryz.func137 rfl rfl rfl rfl rfl ?_
  refine Eq.trans (Eq.refl _) ?_
  show (bif decide (k < 0) then true else decide (1000000000 < k)) = _
  unfold inB
  rw [show decide (k < 0) = !decide (0 ≤ k) by rw [← decide_not]; exact decide_eq_decide.2 (by omega), show decide (1000000000 < k) = !decide (k ≤ 1000000000) by rw [← decide_not]; exact decide_eq_decide.2 (by omega)]
  cases decide (0 ≤ k) <;> cases decide (k ≤ 1000000000) <;> rfl
theorem okVCt : callOk Tryz.prog 77 = true := by kernel_rfl
theorem countsB_any (l : List Int) : countsB l = (bif (l.length : Int) == 7 then !(l.any fun k => !inB k 0 1000000000) else false) := by
  unfold countsB
  rw [show ((l.length : Int) == 7) = (l.length == 7) from nat_beq _ 7]
  have e : allTo l.length (fun k => inB (l.getD k 0) 0 1000000000) = !(l.any fun k => !inB k 0 1000000000) := by
    rw [← List.all_eq_not_any_not, Bool.eq_iff_iff, allTo_t, List.all_eq_true]
    constructor
    · intro h x hx
      obtain ⟨i, hi, rfl⟩ := List.mem_iff_getElem.1 hx
      have := h i hi
      rwa [List.getD_eq_getElem?_getD, List.getElem?_eq_getElem hi] at this
    · intro h i hi
      rw [List.getD_eq_getElem?_getD, List.getElem?_eq_getElem hi]
      exact h _ (List.getElem_mem hi)
  rw [e]
  cases l.length == 7 <;> cases (l.any fun k => !inB k 0 1000000000) <;> rfl
theorem countsI (l : List Int) (hl : l.length ≤ 1048576) : QCall Tryz.prog 77 [.rsl (.int .i64) l] (.bool (countsB l)) := by
  refine QCall.intro (nt := 11) ti_ok mixed okVCt Tryz.func77 rfl rfl rfl rfl rfl ?_
  refine Or.inl (Exists.intro _ (And.intro (fun _ => conInt l _ (fun k => !inB k 0 1000000000) hl fun i _ => counts1 _) ?_))
  rw [countsB_any]; exact rfl
theorem okVWk : callOk Tryz.prog 39 = true := by kernel_rfl
set_option maxRecDepth 100000 in
theorem workerI (w : NWorker) (n : Nat) (hl : w.2.2.2.2.length ≤ 1048576) : QCall Tryz.prog 39 [vWrk w, .int .i64 (n : Nat)] (.bool (workerB n w)) := by
  refine QCall.intro (nt := 51) ti_ok mixed okVWk Tryz.func39 rfl rfl rfl rfl rfl ?_
  refine Or.inl (Exists.intro _ (And.intro (fun _ => countsI _ hl) ?_))
  have hA : (bif (bif (bif decide (w.1 < 1) then true else decide (4 < w.1)) then true else decide (w.2.1 < 0)) then true else decide (((n : Nat) : Int) ≤ w.2.1)) = !(inB w.1 1 4 && inB w.2.1 0 ((n : Int) - 1)) := by
    unfold inB
    rw [show decide (w.1 < 1) = !decide (1 ≤ w.1) by rw [← decide_not]; exact decide_eq_decide.2 (by omega), show decide (4 < w.1) = !decide (w.1 ≤ 4) by rw [← decide_not]; exact decide_eq_decide.2 (by omega), show decide (w.2.1 < 0) = !decide (0 ≤ w.2.1) by rw [← decide_not]; exact decide_eq_decide.2 (by omega), show decide (((n : Nat) : Int) ≤ w.2.1) = !decide (w.2.1 ≤ (n : Int) - 1) by rw [← decide_not]; exact decide_eq_decide.2 (by omega)]
    cases decide (1 ≤ w.1) <;> cases decide (w.1 ≤ 4) <;> cases decide (0 ≤ w.2.1) <;> cases decide (w.2.1 ≤ (n : Int) - 1) <;> rfl
  have hB : (bif (bif (bif (bif (bif decide (w.1 < 1) then true else decide (4 < w.1)) then true else decide (w.2.1 < 0)) then true else decide (((n : Nat) : Int) ≤ w.2.1)) then true else !countsB w.2.2.2.2) then true else decide ((1500 : Int) < (w.2.2.2.1.length : Nat))) = !(((inB w.1 1 4 && inB w.2.1 0 ((n : Int) - 1)) && countsB w.2.2.2.2) && decide (w.2.2.2.1.length ≤ 1500)) := by
    rw [hA, show decide ((1500 : Int) < (w.2.2.2.1.length : Nat)) = !decide (w.2.2.2.1.length ≤ 1500) by rw [← decide_not]; exact decide_eq_decide.2 (by omega)]
    cases (inB w.1 1 4 && inB w.2.1 0 ((n : Int) - 1)) <;> cases countsB w.2.2.2.2 <;> cases decide (w.2.2.2.1.length ≤ 1500) <;> rfl
  refine And.intro (fun q1 => ?_) (fun q1 => ?_)
  · have q2 := Eq.mp (Bool.not_eq_true' _) (hB.symm.trans q1)
    have e : workerB n w = false := by unfold workerB; rw [q2]; rfl
    rw [e]; exact rfl
  · have q2 := Eq.mp (Bool.not_eq_false' _) (hB.symm.trans q1)
    refine Eq.trans (Eq.refl _) ?_
    unfold workerB
    rw [q2, Bool.true_and, ← nat_beq0, ← nat_beq0]
    cases w.1 == 1 <;> cases ((w.2.2.1.length : Int) == 0) <;> cases ((w.2.2.2.1.length : Int) == 0) <;> rfl
end Go.Proofs.YthciaodffkbljaaGreat

/- The reference's memories and pools: what is valid. -/
set_option linter.unusedSimpArgs false
set_option linter.unusedVariables false
namespace Go.Proofs.YthciaodffkbljaaGreat
open Go Go.RowKit Go.Proofs Go.Tr
theorem ports_le {c : NAgent} (h : agentB (gA (cellA c)) = true) : c.2.2.2.2.length ≤ 4 := by
  unfold agentB at h
  simp only [Bool.and_eq_true, beq_iff_eq] at h
  have h1 := h.1.1.2
  have e : ((gA (cellA c)).ports.length : Int) = ((c.2.2.2.2.length + 1 : Nat) : Int) := by simp [gA, cellA]
  rw [e] at h1
  have h2 : portsOf (gA (cellA c)).kind (fieldsOf (gA (cellA c))) ≤ 4 := by
    unfold portsOf
    repeat' split
    all_goals first | omega | (rename_i h3; have := inB_t h3; omega)
  omega
theorem cell_words {c : NAgent} {n : Int} (h : cellS c n = true) : c.2.2.2.2.length ≤ 4 := by
  unfold cellS at h
  cases h0 : c.1 == 0 with
  | true => rw [h0] at h; simp only [cond_true, Bool.and_eq_true, beq_iff_eq] at h; omega
  | false =>
    rw [h0] at h
    cases h1 : c.1 == 13 with
    | true => rw [h1] at h; simp only [cond_true, cond_false, Bool.and_eq_true, decide_eq_true_eq] at h; omega
    | false => rw [h1] at h; simp only [cond_false, Bool.and_eq_true] at h; exact ports_le h.2
theorem flat_bound {α β : Type} (f : α → List β) (k : Nat) : ∀ (xs : List α), (∀ x ∈ xs, (f x).length ≤ k) → (xs.flatMap f).length ≤ k * xs.length
  | [], _ => by simp
  | x :: xs, h => by
    rw [List.flatMap_cons, List.length_append, List.length_cons, Nat.mul_add]
    have h1 := h x (by simp)
    have h2 := flat_bound f k xs fun y hy => h y (by simp [hy])
    omega
theorem words_bound {m : NMem} {n : Int} (h : m.1.all (fun c => cellS c n) = true) (hl : m.1.length ≤ 1500) : (wordsN m).length ≤ 6001 := by
  have h1 := flat_bound (fun c : NAgent => c.2.2.2.2) 4 m.1 fun c hc => cell_words (all_at h hc)
  have h2 : (wordsN m).length = (m.1.flatMap fun c => c.2.2.2.2).length + 1 := rfl
  omega
theorem okWith : callOk Tryz.prog 84 = true := by kernel_rfl
set_option maxRecDepth 100000 in
set_option maxHeartbeats 4000000 in
theorem with21 (m : NMem) (held rs : List NWord) (hl : m.1.length ≤ 1048576) (hc : ∀ c ∈ m.1, c.2.2.2.2.length ≤ 1048576) (hh : held.length ≤ 1048576) (hr : rs.length ≤ 16777216) : QCall Tryz.prog 84 [.rp uMem m, .rsl uPort held, .rsl uPort rs] (.bool (memS m held rs)) := by
  refine QCall.intro (nt := 202) ti_ok mixed okWith Tryz.func84 rfl rfl rfl rfl rfl ?_
  refine Or.inl (Exists.intro _ (And.intro (inQ _ _ _) ?_))
  have hcond0 : (bif !inB (m.1.length : Nat) 1 1500 then true else decide (((m.1.length : Nat) : Int) < ((rs.length : Nat) : Int))) = !(inB m.1.length 1 1500 && decide (rs.length ≤ m.1.length)) := by
    have e : decide (((m.1.length : Nat) : Int) < ((rs.length : Nat) : Int)) = !decide (rs.length ≤ m.1.length) := by rw [← decide_not]; exact decide_eq_decide.2 (by omega)
    rw [e]; cases inB (m.1.length : Nat) 1 1500 <;> rfl
  refine And.intro (fun q1 => ?_) (fun q1 => ?_)
  · have a1 : (inB m.1.length 1 1500 && decide (rs.length ≤ m.1.length)) = false := Eq.mp (Bool.not_eq_true' _) (hcond0.symm.trans q1)
    have e : memS m held rs = false := by unfold memS; rw [a1]; rfl
    rw [e]; exact rfl
  have a1 : (inB m.1.length 1 1500 && decide (rs.length ≤ m.1.length)) = true := Eq.mp (Bool.not_eq_false' _) (hcond0.symm.trans q1)
  have hn : m.1.length ≤ 1500 ∧ rs.length ≤ m.1.length := by simp only [inB, Bool.and_eq_true, decide_eq_true_eq] at a1; omega
  -- the cells
  refine lp Nat (fun i => [(9, .int .i64 (i : Nat)), (8, .sl 20000)]) (fun i => [.row 20000 2 1 (.int .i64) (List.replicate i 0) []]) (fun i => m.1.length - i) (fun i => i ≤ m.1.length ∧ (m.1.take i).all (fun c => cellS c m.1.length) = true) 0 ⟨Nat.zero_le _, rfl⟩ ?_ ?_
  · exact hd [(20000, 32)] rfl (And.intro (And.intro rfl rfl) (And.intro rfl trivial)) ⟨⟨rfl, List.nil_prefix⟩, trivial⟩
  rintro i ⟨hi, ha⟩
  refine And.intro (fun q2 => ?_) (fun q2 => ?_)
  · have hlt : i < m.1.length := lt_of q2
    refine And.intro (show 0 ≤ ((i : Nat) : Int) ∧ ((i : Nat) : Int) < (m.1.length : Nat) by omega) ?_
    refine Or.inl (Exists.intro _ (And.intro (cell21 (agAt m.1 (i : Nat)) _ (hc _ (agAt_mem hlt)) ⟨by omega, by omega⟩) ?_))
    refine And.intro (fun q3 => ?_) (fun q3 => ?_)
    · have q4 : cellS (agAt m.1 (i : Nat)) m.1.length = false := Eq.mp (Bool.not_eq_true' _) q3
      have b1 : m.1.all (fun c => cellS c m.1.length) = false := all_f _ (dflt uAgent) m.1 hlt (by rw [← agAt_getD]; exact q4)
      have e : memS m held rs = false := by unfold memS; rw [b1]; simp
      rw [e]; exact rfl
    have q4 : cellS (agAt m.1 (i : Nat)) m.1.length = true := Eq.mp (Bool.not_eq_false' _) q3
    refine And.intro (show (List.replicate i (0 : Int)).length + 1 ≤ 1073741824 by rw [List.length_replicate]; omega) ?_
    refine lp_next (i + 1) ⟨hlt, ?_⟩ ?_ ?_
    · rw [all_take _ (dflt uAgent) m.1 hlt, ha, ← agAt_getD, q4]; rfl
    · refine hd [(20000, 53)] rfl (And.intro (And.intro (wrapS (by omega)) rfl) (And.intro rfl trivial)) ⟨⟨?_, List.nil_prefix⟩, trivial⟩
      exact (List.replicate_succ' (n := i) (a := (0 : Int))).symm
    · show m.1.length - (i + 1) < m.1.length - i
      omega
  have hge : m.1.length ≤ i := ge_of q2
  have hie : i = m.1.length := by omega
  subst hie
  rw [List.take_length] at ha
  have hwb := words_bound ha hn.1
  refine Or.inr (Exists.intro _ (Exists.intro _ (And.intro (words21 m hl (by omega)) ?_)))
  refine And.intro (show (wordsN m).length + held.length ≤ 1073741824 by omega) ?_
  -- the words
  generalize hW : wordsN m ++ held = ws
  have hwl : ws.length ≤ 1054577 := by rw [← hW, List.length_append]; omega
  refine lp Nat (fun i => [(11, .int .i64 (i : Nat)), (8, .sl 20000), (10, .sl 20001)]) (fun i => [.row 20000 2 1 (.int .i64) (usesW (List.replicate m.1.length 0) (ws.take i)) [], .row 20001 34 2 uPort ws []]) (fun i => ws.length - i) (fun i => i ≤ ws.length ∧ (ws.take i).all (wordB m.1) = true) 0 ⟨Nat.zero_le _, rfl⟩ ?_ ?_
  · exact hd [(20000, 20000), (20001, 57)] rfl (And.intro (And.intro rfl rfl) (And.intro rfl (And.intro rfl trivial))) ⟨⟨rfl, List.nil_prefix⟩, ⟨hW, List.nil_prefix⟩, trivial⟩
  rintro i ⟨hi, hb⟩
  refine And.intro (fun q3 => ?_) (fun q3 => ?_)
  · have hlt : i < ws.length := lt_of q3
    have hii : 0 ≤ ((i : Nat) : Int) ∧ ((i : Nat) : Int) < (ws.length : Nat) := by omega
    refine And.intro hii ?_
    refine Or.inl (Exists.intro _ (And.intro (word21 m (ws.getD i (0, 0)) hl) ?_))
    refine And.intro (fun q4 => ?_) (fun q4 => ?_)
    · have q5 : wordB m.1 (ws.getD i (0, 0)) = false := Eq.mp (Bool.not_eq_true' _) q4
      have b1 : ws.all (wordB m.1) = false := all_f _ (0, 0) ws hlt q5
      have e : memS m held rs = false := by unfold memS; rw [hW, b1]; simp
      rw [e]; exact rfl
    have q5 : wordB m.1 (ws.getD i (0, 0)) = true := Eq.mp (Bool.not_eq_false' _) q4
    have hin := word_in q5
    have hul : (usesW (List.replicate m.1.length 0) (ws.take i)).length = m.1.length := by rw [usesW_len, List.length_replicate]
    have hin' : 0 ≤ (ws.getD i (0, 0)).2 ∧ (ws.getD i (0, 0)).2 < ((usesW (List.replicate m.1.length 0) (ws.take i)).length : Nat) := by rw [hul]; exact hin
    refine And.intro hii ?_
    refine And.intro hin' ?_
    refine And.intro hin' ?_
    refine lp_next (i + 1) ⟨hlt, ?_⟩ ?_ ?_
    · rw [all_take _ (0, 0) ws hlt, hb, q5]; rfl
    · refine hd [(20000, 20000), (20001, 20001)] rfl (And.intro (And.intro (wrapS (by omega)) rfl) (And.intro rfl (And.intro rfl trivial))) ⟨⟨?_, List.nil_prefix⟩, ⟨rfl, List.nil_prefix⟩, trivial⟩
      show _ = usesW (List.replicate m.1.length 0) (ws.take (i + 1))
      rw [usesW_take _ ws hlt]; rfl
    · show ws.length - (i + 1) < ws.length - i
      omega
  have hge2 : ws.length ≤ i := ge_of q3
  have hie2 : i = ws.length := by omega
  subst hie2
  rw [List.take_length] at hb
  have hul : (usesW (List.replicate m.1.length 0) ws).length = m.1.length := by rw [usesW_len, List.length_replicate]
  -- the redexes
  generalize hU : usesW (List.replicate m.1.length 0) ws = us1 at hul
  refine lp Nat (fun i => [(12, .int .i64 (i : Nat)), (8, .sl 20000)]) (fun i => [.row 20000 2 1 (.int .i64) (usesR us1 (rs.take i)) []]) (fun i => rs.length - i) (fun i => i ≤ rs.length ∧ (rs.take i).all (redexB m.1) = true) 0 ⟨Nat.zero_le _, rfl⟩ ?_ ?_
  · refine hd [(20000, 20000)] rfl (And.intro (And.intro rfl rfl) (And.intro rfl trivial)) ⟨⟨?_, List.nil_prefix⟩, trivial⟩
    rw [List.take_length]; exact hU
  rintro i ⟨hi, hc3⟩
  refine And.intro (fun q3 => ?_) (fun q3 => ?_)
  · have hlt : i < rs.length := lt_of q3
    have hii : 0 ≤ ((i : Nat) : Int) ∧ ((i : Nat) : Int) < (rs.length : Nat) := by omega
    refine And.intro hii ?_
    have hAB : ∀ p : NWord, (bif !inB p.2 1 (IntKind.i64.wrap ((m.1.length : Int) - 1)) then true else !inB p.1 0 (IntKind.i64.wrap (p.2 - 1))) = !(inB p.2 1 ((m.1.length : Int) - 1) && inB p.1 0 (p.2 - 1)) := fun p => by
      rw [wrapPred hl]
      cases h : inB p.2 1 ((m.1.length : Int) - 1) with
      | false => rfl
      | true =>
        have hw2 : IntKind.i64.wrap (p.2 - 1) = p.2 - 1 := by
          simp only [inB, Bool.and_eq_true, decide_eq_true_eq] at h
          exact IntWalk.i64_in _ (by omega)
        rw [hw2]; cases inB p.1 0 (p.2 - 1) <;> rfl
    have hABt : ∀ p : NWord, (!(bif !inB p.2 1 (IntKind.i64.wrap ((m.1.length : Int) - 1)) then true else !inB p.1 0 (IntKind.i64.wrap (p.2 - 1)))) = true → (0 ≤ p.1 ∧ p.1 < (m.1.length : Nat)) ∧ (0 ≤ p.2 ∧ p.2 < (m.1.length : Nat)) := fun p h => by
      rw [hAB p, Bool.not_not] at h
      simp only [inB, Bool.and_eq_true, decide_eq_true_eq] at h
      omega
    have hcond : ∀ p : NWord, (bif (bif (bif !inB p.2 1 (IntKind.i64.wrap ((m.1.length : Int) - 1)) then true else !inB p.1 0 (IntKind.i64.wrap (p.2 - 1))) then true else !isAgB (agAt m.1 p.1).1) then true else !isAgB (agAt m.1 p.2).1) = !redexB m.1 p := fun p => by
      rw [hAB p]
      unfold redexB
      cases (inB p.2 1 ((m.1.length : Int) - 1) && inB p.1 0 (p.2 - 1)) <;> cases isAgB (agAt m.1 p.1).1 <;> cases isAgB (agAt m.1 p.2).1 <;> rfl
    refine Or.inl (Exists.intro _ (And.intro (inQ _ _ _) ?_))
    refine Or.inl (Exists.intro _ (And.intro (fun _ => inQ _ _ _) ?_))
    refine And.intro (fun g1 => (hABt _ g1).1) ?_
    refine Or.inl (Exists.intro _ (And.intro (fun _ => isAgQ _) ?_))
    refine And.intro (fun g1 => (hABt (rs.getD i (0, 0)) (by
      have g2 : (!(bif (bif !inB (rs.getD i (0, 0)).2 1 (IntKind.i64.wrap ((m.1.length : Int) - 1)) then true else !inB (rs.getD i (0, 0)).1 0 (IntKind.i64.wrap ((rs.getD i (0, 0)).2 - 1))) then true else !isAgB (agAt m.1 (rs.getD i (0, 0)).1).1)) = true := g1
      cases h : (bif !inB (rs.getD i (0, 0)).2 1 (IntKind.i64.wrap ((m.1.length : Int) - 1)) then true else !inB (rs.getD i (0, 0)).1 0 (IntKind.i64.wrap ((rs.getD i (0, 0)).2 - 1))) with
      | false => rfl
      | true => rw [h] at g2; cases g2)).2) ?_
    refine Or.inl (Exists.intro _ (And.intro (fun _ => isAgQ _) ?_))
    refine And.intro (by kernel_rfl) ?_
    refine And.intro (fun q4 => ?_) (fun q4 => ?_)
    · have q5 : redexB m.1 (rs.getD i (0, 0)) = false := Eq.mp (Bool.not_eq_true' _) ((hcond _).symm.trans q4)
      have b1 : rs.all (redexB m.1) = false := all_f _ (0, 0) rs hlt q5
      have e : memS m held rs = false := by unfold memS; rw [b1]; simp
      rw [e]; exact rfl
    have q5 : redexB m.1 (rs.getD i (0, 0)) = true := Eq.mp (Bool.not_eq_false' _) ((hcond _).symm.trans q4)
    have hin : (0 ≤ (rs.getD i (0, 0)).1 ∧ (rs.getD i (0, 0)).1 < (m.1.length : Nat)) ∧ (0 ≤ (rs.getD i (0, 0)).2 ∧ (rs.getD i (0, 0)).2 < (m.1.length : Nat)) := by
      unfold redexB at q5
      simp only [inB, Bool.and_eq_true, decide_eq_true_eq] at q5
      omega
    have hur : (usesR us1 (rs.take i)).length = m.1.length := by rw [usesR_len, hul]
    have hur2 : (bumpN (usesR us1 (rs.take i)) (rs.getD i (0, 0)).1).length = m.1.length := by rw [bumpN_len, hur]
    have k1 : 0 ≤ (rs.getD i (0, 0)).1 ∧ (rs.getD i (0, 0)).1 < ((usesR us1 (rs.take i)).length : Nat) := by rw [hur]; exact hin.1
    have k2 : 0 ≤ (rs.getD i (0, 0)).2 ∧ (rs.getD i (0, 0)).2 < ((bumpN (usesR us1 (rs.take i)) (rs.getD i (0, 0)).1).length : Nat) := by rw [hur2]; exact hin.2
    refine And.intro k1 ?_
    refine And.intro k1 ?_
    refine And.intro k2 ?_
    refine And.intro k2 ?_
    refine lp_next (i + 1) ⟨hlt, ?_⟩ ?_ ?_
    · rw [all_take _ (0, 0) rs hlt, hc3, q5]; rfl
    · refine hd [(20000, 20000)] rfl (And.intro (And.intro (wrapS (by omega)) rfl) (And.intro rfl trivial)) ⟨⟨?_, List.nil_prefix⟩, trivial⟩
      show _ = usesR us1 (rs.take (i + 1))
      rw [usesR_take _ rs hlt]; rfl
    · show rs.length - (i + 1) < rs.length - i
      omega
  have hge3 : rs.length ≤ i := ge_of q3
  have hie3 : i = rs.length := by omega
  subst hie3
  rw [List.take_length] at hc3
  have hur : (usesR us1 rs).length = m.1.length := by rw [usesR_len, hul]
  have huses : usesN m.1 (wordsN m ++ held) rs = usesR us1 rs := by unfold usesN; rw [hW, hU]
  -- the uses
  generalize hU2 : usesR us1 rs = us2 at hur huses
  have hval : ∀ c ∈ m.1, ∀ x ∈ c.2.2.2.2, wordB m.1 x = true := fun c hc x hx => all_at hb (by
    rw [← hW]
    refine List.mem_append.2 (.inl (List.mem_cons_of_mem _ ?_))
    exact List.mem_flatMap.2 ⟨c, hc, hx⟩)
  refine lp Nat (fun i => [(14, .int .i64 (i : Nat)), (8, .sl 20000)]) (fun i => [.row 20000 2 1 (.int .i64) us2 []]) (fun i => m.1.length - i) (fun i => i ≤ m.1.length ∧ allTo i (occS m.1 us2) = true) 0 ⟨Nat.zero_le _, rfl⟩ ?_ ?_
  · refine hd [(20000, 20000)] rfl (And.intro (And.intro rfl rfl) (And.intro rfl trivial)) ⟨⟨?_, List.nil_prefix⟩, trivial⟩
    rw [List.take_length]; exact hU2
  rintro i ⟨hi, ho⟩
  refine And.intro (fun q4 => ?_) (fun q4 => ?_)
  · have hlt : i < m.1.length := lt_of q4
    have hii : 0 ≤ ((i : Nat) : Int) ∧ ((i : Nat) : Int) < (m.1.length : Nat) := by omega
    have hiu : 0 ≤ ((i : Nat) : Int) ∧ ((i : Nat) : Int) < (us2.length : Nat) := by rw [hur]; exact hii
    refine And.intro hii ?_
    refine Or.inl (Exists.intro _ (And.intro (isAgQ _) ?_))
    refine And.intro (fun _ => hiu) ?_
    refine And.intro (fun _ => hiu) ?_
    refine And.intro (by kernel_rfl) ?_
    have hw4 := cell_words (all_at ha (agAt_mem hlt))
    have hwr : IntKind.i64.wrap (2 - ((agAt m.1 (i : Nat)).2.2.2.2.length : Int)) = 2 - ((agAt m.1 (i : Nat)).2.2.2.2.length : Int) := IntWalk.i64_in _ (by omega)
    have hcond : (bif (bif isAgB (agAt m.1 (i : Nat)).1 then us2.getD i 0 != 1 else false) then true else (bif (agAt m.1 (i : Nat)).1 == 13 then us2.getD i 0 != IntKind.i64.wrap (2 - ((agAt m.1 (i : Nat)).2.2.2.2.length : Int)) else false)) = ((isAgB (agAt m.1 (i : Nat)).1 && us2.getD i 0 != 1) || ((agAt m.1 (i : Nat)).1 == 13 && us2.getD i 0 != 2 - ((agAt m.1 (i : Nat)).2.2.2.2.length : Int))) := by
      rw [hwr]
      cases isAgB (agAt m.1 (i : Nat)).1 <;> cases us2.getD i 0 != 1 <;> cases (agAt m.1 (i : Nat)).1 == 13 <;> rfl
    refine And.intro (fun q5 => ?_) (fun q5 => ?_)
    · have q6 := hcond.symm.trans q5
      have e1 : occS m.1 us2 i = false := by
        unfold occS
        rw [Bool.or_eq_true] at q6
        rcases q6 with h | h
        · rw [h]; rfl
        · rw [Bool.and_eq_true, bne, Bool.not_eq_true'] at h
          rw [h.1, h.2]; simp
      have e : memS m held rs = false := by unfold memS; rw [huses, allTo_f hlt e1]; simp
      rw [e]; exact rfl
    have q6 := hcond.symm.trans q5
    rw [Bool.or_eq_false_iff] at q6
    refine And.intro (fun q7 => ?_) (fun q7 => ?_)
    · have q8 : ((agAt m.1 (i : Nat)).1 == 13) = true := q7
      have hv13 : wordB m.1 (2, (i : Int)) = true := by unfold wordB; simp only [q8]; simp [inB]; omega
      have e1 : occS m.1 us2 i = (resN m.1 (m.1.length + 1) (2, (i : Int))).2 := by
        unfold occS
        have h2 := q6.2
        rw [q8, Bool.true_and, bne, Bool.not_eq_false'] at h2
        rw [q6.1, q8, h2]; simp
      refine Or.inl (Exists.intro _ (And.intro (res21 m (2, (i : Int)) hl hval hv13) ?_))
      refine And.intro (fun q9 => ?_) (fun q9 => ?_)
      · have e2 : occS m.1 us2 i = false := by rw [e1]; exact Eq.mp (Bool.not_eq_true' _) q9
        have e : memS m held rs = false := by unfold memS; rw [huses, allTo_f hlt e2]; simp
        rw [e]; exact rfl
      have e2 : occS m.1 us2 i = true := by rw [e1]; exact Eq.mp (Bool.not_eq_false' _) q9
      refine lp_next (i + 1) ⟨hlt, by rw [allTo_succ', ho, e2]; rfl⟩ ?_ ?_
      · exact hd [(20000, 20000)] rfl (And.intro (And.intro (wrapS (by omega)) rfl) (And.intro rfl trivial)) ⟨⟨rfl, List.nil_prefix⟩, trivial⟩
      · show m.1.length - (i + 1) < m.1.length - i
        omega
    · have q8 : ((agAt m.1 (i : Nat)).1 == 13) = false := q7
      have e2 : occS m.1 us2 i = true := by unfold occS; rw [q6.1, q8]; rfl
      refine lp_next (i + 1) ⟨hlt, by rw [allTo_succ', ho, e2]; rfl⟩ ?_ ?_
      · exact hd [(20000, 20000)] rfl (And.intro (And.intro (wrapS (by omega)) rfl) (And.intro rfl trivial)) ⟨⟨rfl, List.nil_prefix⟩, trivial⟩
      · show m.1.length - (i + 1) < m.1.length - i
        omega
  have hge4 : m.1.length ≤ i := ge_of q4
  have hie4 : i = m.1.length := by omega
  subst hie4
  refine Or.inl (Exists.intro _ (And.intro (chain21 m hl) ?_))
  have e : memS m held rs = chainN m.1 (freeN m.1) m.2.1 := by unfold memS; rw [a1, ha, hW, hb, hc3, ← hW, huses, ho]; simp
  rw [e]; exact rfl
end Go.Proofs.YthciaodffkbljaaGreat

/- The program's memories: words, uses, chains, what is valid. -/
set_option linter.unusedSimpArgs false
set_option linter.unusedVariables false
namespace Go.Proofs.YthciaodffkbljaaGreat
open Go Go.RowKit Go.Proofs Go.Tr
theorem okWordsI : callOk Tryz.prog 95 = true := by kernel_rfl
set_option maxRecDepth 100000 in
theorem wordsI (m : NMem) (hl : m.1.length ≤ 1048576) (hb : (wordsN m).length ≤ 1048576) : FCall Tryz.prog 95 [.rp uMem m] [] (.sl 10000) [.row 10000 34 2 uPort (wordsN m) []] := by
  refine FCall.intro (nt := 26) ti_ok mixed okWordsI Tryz.func95 rfl rfl rfl rfl rfl rfl ?_
  refine lp Nat (fun i => [(16, .int .i64 (i : Nat)), (3, .sl 20000)]) (fun i => [.row 20000 34 2 uPort (m.2.2.1 :: (m.1.take i).flatMap fun c => c.2.2.2.2) []]) (fun i => m.1.length - i) (fun i => i ≤ m.1.length) 0 (Nat.zero_le _) ?_ ?_
  · exact hd [(20000, 10)] rfl (And.intro (And.intro rfl rfl) (And.intro rfl trivial)) ⟨⟨rfl, List.nil_prefix⟩, trivial⟩
  intro i hi
  refine And.intro (fun q1 => ?_) (fun q1 => ?_)
  · have hlt : i < m.1.length := lt_of q1
    have e := flat_take (fun c : NAgent => c.2.2.2.2) (dflt uAgent) m.1 hlt
    have hle := flat_le (fun c : NAgent => c.2.2.2.2) m.1 (i + 1)
    rw [e, List.length_append] at hle
    refine And.intro (show 0 ≤ ((i : Nat) : Int) ∧ ((i : Nat) : Int) < (m.1.length : Nat) by omega) ?_
    refine And.intro ?_ ?_
    · show (m.2.2.1 :: (m.1.take i).flatMap fun c => c.2.2.2.2).length + (m.1.getD i (dflt uAgent)).2.2.2.2.length ≤ 1073741824
      have : (wordsN m).length = (m.1.flatMap fun c => c.2.2.2.2).length + 1 := rfl
      rw [List.length_cons]; omega
    refine lp_next (i + 1) hlt ?_ ?_
    · refine hd [(20000, 23)] rfl (And.intro (And.intro (wrapS (by omega)) rfl) (And.intro rfl trivial)) ⟨⟨?_, List.nil_prefix⟩, trivial⟩
      show _ = m.2.2.1 :: (m.1.take (i + 1)).flatMap fun c => c.2.2.2.2
      rw [e]; rfl
    · show m.1.length - (i + 1) < m.1.length - i
      omega
  · have hge : m.1.length ≤ i := ge_of q1
    have hie : i = m.1.length := by omega
    subst hie
    refine fin [(10000, 20000)] (And.intro rfl ?_)
    refine ⟨⟨?_, List.nil_prefix⟩, trivial⟩
    show (m.2.2.1 :: (m.1.take m.1.length).flatMap fun c => c.2.2.2.2) = wordsN m
    rw [List.take_length]; rfl
theorem okOcc : callOk Tryz.prog 101 = true := by kernel_rfl
set_option maxRecDepth 100000 in
set_option maxHeartbeats 4000000 in
theorem occurI (m : NMem) (held : List NWord) (hl : m.1.length ≤ 1500) (hh : held.length ≤ 1048576) (hwl : (wordsN m).length ≤ 6001) (hrl : m.2.2.2.length ≤ 1048576) (hb : (wordsN m ++ held).all (wordB m.1) = true) (hc3 : m.2.2.2.all (redexB m.1) = true) : QCall Tryz.prog 101 [.rp uMem m, .rsl uPort held] (.bool (allTo m.1.length (occI m.1 (usesN m.1 (wordsN m ++ held) m.2.2.2)))) := by
  refine QCall.intro (nt := 89) ti_ok mixed okOcc Tryz.func101 rfl rfl rfl rfl rfl ?_
  refine And.intro ⟨by omega, Int.le_refl _, by omega⟩ ?_
  refine Or.inr (Exists.intro _ (Exists.intro _ (And.intro (wordsI m (by omega) (by omega)) ?_)))
  refine And.intro (show (wordsN m).length + held.length ≤ 1073741824 by omega) ?_
  generalize hW : wordsN m ++ held = ws at *
  have hwl : ws.length ≤ 1054577 := by rw [← hW, List.length_append]; omega
  refine lp Nat (fun i => [(24, .int .i64 (i : Nat)), (5, .sl 20000), (22, .sl 20001)]) (fun i => [.row 20000 3 1 (.int .i64) (usesW (List.replicate m.1.length 0) (ws.take i)) [], .row 20001 34 2 uPort ws []]) (fun i => ws.length - i) (fun i => i ≤ ws.length) 0 (Nat.zero_le _) ?_ ?_
  · refine hd [(20000, 18), (20001, 22)] rfl (And.intro (And.intro rfl rfl) (And.intro rfl (And.intro rfl trivial))) ⟨⟨?_, List.nil_prefix⟩, ⟨hW, List.nil_prefix⟩, trivial⟩
    rfl
  intro i hi
  refine And.intro (fun q3 => ?_) (fun q3 => ?_)
  · have hlt : i < ws.length := by rw [← hW]; exact lt_of q3
    have hii : 0 ≤ ((i : Nat) : Int) ∧ ((i : Nat) : Int) < (ws.length : Nat) := by omega
    have hwm : ws.getD i (0, 0) ∈ ws := by rw [List.getD_eq_getElem?_getD, List.getElem?_eq_getElem hlt]; exact List.getElem_mem hlt
    have hin := word_in (all_at hb hwm)
    have hul : (usesW (List.replicate m.1.length 0) (ws.take i)).length = m.1.length := by rw [usesW_len, List.length_replicate]
    have hin' : 0 ≤ (ws.getD i (0, 0)).2 ∧ (ws.getD i (0, 0)).2 < ((usesW (List.replicate m.1.length 0) (ws.take i)).length : Nat) := by rw [hul]; exact hin
    refine And.intro hii ?_
    refine And.intro hin' ?_
    refine And.intro hin' ?_
    refine lp_next (i + 1) hlt ?_ ?_
    · refine hd [(20000, 20000), (20001, 20001)] rfl (And.intro (And.intro (wrapS (by omega)) rfl) (And.intro rfl (And.intro rfl trivial))) ⟨⟨?_, List.nil_prefix⟩, ⟨rfl, List.nil_prefix⟩, trivial⟩
      show _ = usesW (List.replicate m.1.length 0) (ws.take (i + 1))
      rw [usesW_take _ ws hlt]; rfl
    · show ws.length - (i + 1) < ws.length - i
      omega
  have hge2 : ws.length ≤ i := by rw [← hW]; exact ge_of q3
  have hie2 : i = ws.length := by omega
  subst hie2
  have hul : (usesW (List.replicate m.1.length 0) ws).length = m.1.length := by rw [usesW_len, List.length_replicate]
  generalize hU : usesW (List.replicate m.1.length 0) ws = us1 at hul
  generalize hrs : m.2.2.2 = rs at *
  refine lp Nat (fun i => [(41, .int .i64 (i : Nat)), (5, .sl 20000)]) (fun i => [.row 20000 3 1 (.int .i64) (usesR us1 (rs.take i)) []]) (fun i => rs.length - i) (fun i => i ≤ rs.length) 0 (Nat.zero_le _) ?_ ?_
  · refine hd [(20000, 20000)] rfl (And.intro (And.intro rfl rfl) (And.intro rfl trivial)) ⟨⟨?_, List.nil_prefix⟩, trivial⟩
    rw [List.take_length]; exact hU
  intro i hi
  refine And.intro (fun q3 => ?_) (fun q3 => ?_)
  · have hlt : i < rs.length := by subst hrs; exact lt_of q3
    have hii : 0 ≤ ((i : Nat) : Int) ∧ ((i : Nat) : Int) < (m.2.2.2.length : Nat) := by rw [hrs]; omega
    have hpm : rs.getD i (0, 0) ∈ rs := by rw [List.getD_eq_getElem?_getD, List.getElem?_eq_getElem hlt]; exact List.getElem_mem hlt
    have q5 := all_at hc3 hpm
    have hin : (0 ≤ (rs.getD i (0, 0)).1 ∧ (rs.getD i (0, 0)).1 < (m.1.length : Nat)) ∧ (0 ≤ (rs.getD i (0, 0)).2 ∧ (rs.getD i (0, 0)).2 < (m.1.length : Nat)) := by
      unfold redexB at q5
      simp only [inB, Bool.and_eq_true, decide_eq_true_eq] at q5
      omega
    have hur : (usesR us1 (rs.take i)).length = m.1.length := by rw [usesR_len, hul]
    have hur2 : (bumpN (usesR us1 (rs.take i)) (rs.getD i (0, 0)).1).length = m.1.length := by rw [bumpN_len, hur]
    have k1 : 0 ≤ (rs.getD i (0, 0)).1 ∧ (rs.getD i (0, 0)).1 < ((usesR us1 (rs.take i)).length : Nat) := by rw [hur]; exact hin.1
    have k2 : 0 ≤ (rs.getD i (0, 0)).2 ∧ (rs.getD i (0, 0)).2 < ((bumpN (usesR us1 (rs.take i)) (rs.getD i (0, 0)).1).length : Nat) := by rw [hur2]; exact hin.2
    subst hrs
    refine And.intro hii ?_
    refine And.intro k1 ?_
    refine And.intro k1 ?_
    refine And.intro k2 ?_
    refine And.intro k2 ?_
    refine lp_next (i + 1) hlt ?_ ?_
    · refine hd [(20000, 20000)] rfl (And.intro (And.intro (wrapS (by omega)) rfl) (And.intro rfl trivial)) ⟨⟨?_, List.nil_prefix⟩, trivial⟩
      show _ = usesR us1 (m.2.2.2.take (i + 1))
      rw [usesR_take _ m.2.2.2 hlt]; rfl
    · show m.2.2.2.length - (i + 1) < m.2.2.2.length - i
      omega
  have hge3 : rs.length ≤ i := by subst hrs; exact ge_of q3
  have hie3 : i = rs.length := by omega
  subst hie3
  have hur : (usesR us1 rs).length = m.1.length := by rw [usesR_len, hul]
  have huses : usesN m.1 ws rs = usesR us1 rs := by unfold usesN; rw [hU]
  rw [huses]
  generalize hU2 : usesR us1 rs = us2 at hur
  refine lp Nat (fun i => [(65, .int .i64 (i : Nat)), (5, .sl 20000)]) (fun i => [.row 20000 3 1 (.int .i64) us2 []]) (fun i => m.1.length - i) (fun i => i ≤ m.1.length ∧ allTo i (occI m.1 us2) = true) 0 ⟨Nat.zero_le _, rfl⟩ ?_ ?_
  · refine hd [(20000, 20000)] rfl (And.intro (And.intro rfl rfl) (And.intro rfl trivial)) ⟨⟨?_, List.nil_prefix⟩, trivial⟩
    rw [List.take_length]; exact hU2
  rintro i ⟨hi, ho⟩
  refine And.intro (fun q4 => ?_) (fun q4 => ?_)
  · have hlt : i < m.1.length := lt_of q4
    have hii : 0 ≤ ((i : Nat) : Int) ∧ ((i : Nat) : Int) < (m.1.length : Nat) := by omega
    have hiu : 0 ≤ ((i : Nat) : Int) ∧ ((i : Nat) : Int) < (us2.length : Nat) := by rw [hur]; exact hii
    have next : ∀ w : Int, wantI (agAt m.1 (i : Nat)) = w → occI m.1 us2 i = !(us2.getD i 0 != w) := fun w hw => by unfold occI; rw [hw, bne, Bool.not_not]
    refine And.intro hii ?_
    refine Or.inl (Exists.intro _ (And.intro (isFreeI _) ?_))
    have hend : ∀ w : Int, wantI (agAt m.1 (i : Nat)) = w → (us2.getD i 0 != w) = true → allTo m.1.length (occI m.1 us2) = false := fun w hw q => allTo_f hlt (by rw [next w hw, q]; rfl)
    have hgo : ∀ w : Int, wantI (agAt m.1 (i : Nat)) = w → (us2.getD i 0 != w) = false → allTo (i + 1) (occI m.1 us2) = true := fun w hw q => by rw [allTo_succ', ho, next w hw, q]; rfl
    have hms : m.1.length - (i + 1) < m.1.length - i := by omega
    refine And.intro (fun q5 => ?_) (fun q5 => ?_)
    · have hw : wantI (agAt m.1 (i : Nat)) = 0 := by unfold wantI; rw [show ((agAt m.1 (i : Nat)).1 == 0) = true from q5]; rfl
      refine And.intro hiu ?_
      refine And.intro (fun q6 => ?_) (fun q6 => ?_)
      · rw [hend 0 hw q6]; exact rfl
      · exact lp_next (i + 1) ⟨hlt, hgo 0 hw q6⟩ (hd [(20000, 20000)] rfl (And.intro (And.intro (wrapS (by omega)) rfl) (And.intro rfl trivial)) ⟨⟨rfl, List.nil_prefix⟩, trivial⟩) hms
    refine Or.inl (Exists.intro _ (And.intro (isVarI _) ?_))
    refine And.intro (fun q6 => ?_) (fun q6 => ?_)
    · have hw : wantI (agAt m.1 (i : Nat)) = 2 := by
        have q7 : (bif (agAt m.1 (i : Nat)).1 == 13 then (((agAt m.1 (i : Nat)).2.2.2.2.length : Nat) : Int) == 0 else false) = true := q6
        rw [nat_beq0] at q7
        unfold wantI
        rw [show ((agAt m.1 (i : Nat)).1 == 0) = false from q5]
        cases h : (agAt m.1 (i : Nat)).1 == 13 with
        | false => rw [h] at q7; cases q7
        | true => rw [h] at q7; rw [show ((agAt m.1 (i : Nat)).2.2.2.2.length == 0) = true from q7]; rfl
      refine And.intro hiu ?_
      refine And.intro (fun q7 => ?_) (fun q7 => ?_)
      · rw [hend 2 hw q7]; exact rfl
      · exact lp_next (i + 1) ⟨hlt, hgo 2 hw q7⟩ (hd [(20000, 20000)] rfl (And.intro (And.intro (wrapS (by omega)) rfl) (And.intro rfl trivial)) ⟨⟨rfl, List.nil_prefix⟩, trivial⟩) hms
    · have hw : wantI (agAt m.1 (i : Nat)) = 1 := by
        have q7 : (bif (agAt m.1 (i : Nat)).1 == 13 then (((agAt m.1 (i : Nat)).2.2.2.2.length : Nat) : Int) == 0 else false) = false := q6
        rw [nat_beq0] at q7
        unfold wantI
        rw [show ((agAt m.1 (i : Nat)).1 == 0) = false from q5]
        cases h : (agAt m.1 (i : Nat)).1 == 13 with
        | false => rfl
        | true => rw [h] at q7; rw [show ((agAt m.1 (i : Nat)).2.2.2.2.length == 0) = false from q7]; rfl
      refine And.intro hiu ?_
      refine And.intro (fun q7 => ?_) (fun q7 => ?_)
      · rw [hend 1 hw q7]; exact rfl
      · exact lp_next (i + 1) ⟨hlt, hgo 1 hw q7⟩ (hd [(20000, 20000)] rfl (And.intro (And.intro (wrapS (by omega)) rfl) (And.intro rfl trivial)) ⟨⟨rfl, List.nil_prefix⟩, trivial⟩) hms
  have hge4 : m.1.length ≤ i := ge_of q4
  have hie4 : i = m.1.length := by omega
  subst hie4
  rw [ho]; exact rfl
end Go.Proofs.YthciaodffkbljaaGreat

/- The program's memories: chains, resolved words, what is valid. -/
set_option linter.unusedSimpArgs false
set_option linter.unusedVariables false
namespace Go.Proofs.YthciaodffkbljaaGreat
open Go Go.RowKit Go.Proofs Go.Tr
theorem okFreeI : callOk Tryz.prog 102 = true := by kernel_rfl
set_option maxRecDepth 100000 in
theorem freeI (m : NMem) (hl : m.1.length ≤ 1048576) : QCall Tryz.prog 102 [.rp uMem m] (.bool (chainN m.1 (freeN m.1) m.2.1)) := by
  refine QCall.intro (nt := 55) ti_ok mixed okFreeI Tryz.func102 rfl rfl rfl rfl rfl ?_
  refine lp Nat (fun i => [(12, .int .i64 (i : Nat)), (3, .int .i64 (freeN (m.1.take i) : Nat))]) (fun _ => []) (fun i => m.1.length - i) (fun i => i ≤ m.1.length) 0 (Nat.zero_le _) ?_ ?_
  · exact hd [] rfl (And.intro (And.intro rfl rfl) (And.intro (And.intro rfl rfl) trivial)) trivial
  intro i hi
  refine And.intro (fun q1 => ?_) (fun q1 => ?_)
  · have hlt : i < m.1.length := lt_of q1
    have hf := freeN_le m.1 i
    refine And.intro (show 0 ≤ ((i : Nat) : Int) ∧ ((i : Nat) : Int) < (m.1.length : Nat) by omega) ?_
    refine Or.inl (Exists.intro _ (And.intro (isFreeI _) ?_))
    refine Or.inl (Exists.intro _ (And.intro (truthI _) ?_))
    refine lp_next (i + 1) hlt ?_ ?_
    · refine hd [] rfl (And.intro (And.intro (wrapS (by omega)) rfl) (And.intro (And.intro ?_ rfl) trivial)) trivial
      show IntKind.i64.wrap ((freeN (m.1.take i) : Nat) + (bif (agAt m.1 (i : Nat)).1 == 0 then 1 else 0)) = ((freeN (m.1.take (i + 1)) : Nat) : Int)
      rw [freeN_take m.1 hlt, IntWalk.i64_in _ (by cases (agAt m.1 (i : Nat)).1 == 0 <;> simp only [cond_true, cond_false] <;> omega)]
      cases (agAt m.1 (i : Nat)).1 == 0 <;> simp
    · show m.1.length - (i + 1) < m.1.length - i
      omega
  have hge : m.1.length ≤ i := ge_of q1
  have hie : i = m.1.length := by omega
  subst hie
  have hn : freeN (m.1.take m.1.length) = freeN m.1 := by rw [List.take_length]
  have hf := freeN_le m.1 m.1.length
  rw [hn] at hf
  refine lp (Nat × Int) (fun s => [(27, .int .i64 (s.1 : Nat)), (6, .int .i64 s.2)]) (fun _ => []) (fun s => freeN m.1 - s.1) (fun s => s.1 ≤ freeN m.1 ∧ chainN m.1 (freeN m.1) m.2.1 = chainN m.1 (freeN m.1 - s.1) s.2) (0, m.2.1) ⟨Nat.zero_le _, rfl⟩ ?_ ?_
  · exact hd [] rfl (And.intro (And.intro rfl rfl) (And.intro (And.intro rfl rfl) trivial)) trivial
  rintro ⟨j, a⟩ ⟨hj, he⟩
  refine And.intro (fun q2 => ?_) (fun q2 => ?_)
  · have hlt : j < freeN m.1 := by have q3 := lt_of (k := j) (n := freeN (m.1.take m.1.length)) q2; rwa [hn] at q3
    have ek : freeN m.1 - j = (freeN m.1 - (j + 1)) + 1 := by omega
    rw [ek] at he
    refine Or.inl (Exists.intro _ (And.intro (hasI m a) ?_))
    refine And.intro (fun q2 => ?_) ?_
    · have q3 : inB a 0 ((m.1.length : Int) - 1) = true := Eq.mp (Bool.not_eq_false' _) (Eq.mp (Bool.not_eq_true' _) q2)
      simp only [inB, Bool.and_eq_true, decide_eq_true_eq] at q3
      show 0 ≤ a ∧ a < (m.1.length : Nat)
      omega
    refine Or.inl (Exists.intro _ (And.intro (fun _ => isFreeI _) ?_))
    have hcond : (bif !inB a 0 ((m.1.length : Int) - 1) then true else !((agAt m.1 a).1 == 0)) = !(inB a 0 ((m.1.length : Int) - 1) && (agAt m.1 a).1 == 0) := by cases inB a 0 ((m.1.length : Int) - 1) <;> rfl
    refine And.intro (fun q2 => ?_) (fun q2 => ?_)
    · have q3 : (inB a 0 ((m.1.length : Int) - 1) && (agAt m.1 a).1 == 0) = false := Eq.mp (Bool.not_eq_true' _) (hcond.symm.trans q2)
      have e : chainN m.1 (freeN m.1) m.2.1 = false := by refine he.trans ?_; show chainN m.1 ((freeN m.1 - (j + 1)) + 1) a = false; unfold chainN; rw [q3]; rfl
      rw [e]; exact rfl
    · have q3 : (inB a 0 ((m.1.length : Int) - 1) && (agAt m.1 a).1 == 0) = true := Eq.mp (Bool.not_eq_false' _) (hcond.symm.trans q2)
      have e : chainN m.1 (freeN m.1) m.2.1 = chainN m.1 (freeN m.1 - (j + 1)) (agAt m.1 a).2.2.1 := by
        refine he.trans ?_
        show chainN m.1 ((freeN m.1 - (j + 1)) + 1) a = _
        conv => lhs; unfold chainN
        rw [q3]; rfl
      have q4 : 0 ≤ a ∧ a < (m.1.length : Nat) := by simp only [inB, Bool.and_eq_true, decide_eq_true_eq] at q3; omega
      refine And.intro q4 ?_
      refine lp_next (j + 1, (agAt m.1 a).2.2.1) ⟨hlt, e⟩ ?_ ?_
      · exact hd [] rfl (And.intro (And.intro (wrapS (by omega)) rfl) (And.intro (And.intro rfl rfl) trivial)) trivial
      · show freeN m.1 - (j + 1) < freeN m.1 - j
        omega
  · have hge : j = freeN m.1 := by
      have q3 := ge_of (k := j) (n := freeN (m.1.take m.1.length)) q2
      rw [hn] at q3
      have hj' : j ≤ freeN m.1 := hj
      omega
    subst hge
    have e : chainN m.1 (freeN m.1) m.2.1 = (a == -1) := by refine he.trans ?_; show chainN m.1 (freeN m.1 - freeN m.1) a = _; rw [Nat.sub_self]; rfl
    rw [e]; exact rfl
theorem okResI : callOk Tryz.prog 104 = true := by kernel_rfl
theorem tag_of {xs : List NAgent} {w : NWord} (h : wordB xs w = true) : (w.1 == 1) = (w.1 != 2) := by
  unfold wordB at h
  simp only [Bool.and_eq_true, Bool.or_eq_true, beq_iff_eq] at h
  rcases h.2 with h1 | h1
  · rw [h1.1]; rfl
  · rw [h1.1]; rfl
set_option maxRecDepth 100000 in
theorem resI (m : NMem) (w : NWord) (hl : m.1.length ≤ 1048576) (hv : ∀ c ∈ m.1, ∀ x ∈ c.2.2.2.2, wordB m.1 x = true) (hw : wordB m.1 w = true) : QCall Tryz.prog 104 [.rp uMem m, vP w] (.tup [vP (bif (resN m.1 (m.1.length + 1) w).2 then (resN m.1 (m.1.length + 1) w).1 else (0, 0)), .bool (resN m.1 (m.1.length + 1) w).2]) := by
  refine QCall.intro (nt := 44) ti_ok mixed okResI Tryz.func104 rfl rfl rfl rfl rfl ?_
  have hw1 : IntKind.i64.wrap ((m.1.length : Int) + 1) = ((m.1.length + 1 : Nat) : Int) := wrapS (by omega)
  refine lp (Nat × NWord) (fun s => [(12, .int .i64 (s.1 : Nat))]) (fun s => [.cel 3 34 [.int .i64 s.2.1, .int .i64 s.2.2], .cel 4 34 [.int .i64 0, .int .i64 0]]) (fun s => m.1.length + 1 - s.1) (fun s => s.1 ≤ m.1.length + 1 ∧ wordB m.1 s.2 = true ∧ resN m.1 (m.1.length + 1) w = resN m.1 (m.1.length + 1 - s.1) s.2) (0, w) ⟨Nat.zero_le _, hw, rfl⟩ ?_ ?_
  · exact hd [] rfl (And.intro (And.intro rfl rfl) trivial) ⟨trivial, ⟨⟨rfl, rfl⟩, ⟨rfl, rfl⟩, trivial⟩, trivial, ⟨⟨rfl, rfl⟩, ⟨rfl, rfl⟩, trivial⟩, trivial⟩
  rintro ⟨j, x⟩ ⟨hj, hx, he⟩
  have q0 : ∀ b, decide (((j : Nat) : Int) < IntKind.i64.wrap ((m.1.length : Int) + 1)) = b → decide (((j : Nat) : Int) < ((m.1.length + 1 : Nat) : Int)) = b := fun b h => by rw [hw1] at h; exact h
  refine And.intro (fun q1 => ?_) (fun q1 => ?_)
  · have hlt : j ≤ m.1.length := Nat.lt_succ_iff.1 (lt_of (q0 _ q1))
    have hin := word_in hx
    refine And.intro (fun _ => hin) ?_
    refine And.intro (by kernel_rfl) ?_
    have ek : m.1.length + 1 - j = (m.1.length - j) + 1 := by omega
    have hee : resN m.1 (m.1.length + 1) w = resN m.1 ((m.1.length - j) + 1) x := by rw [← ek]; exact he
    have hcond : (bif x.1 == 1 then true else (((agAt m.1 x.2).2.2.2.2.length : Nat) : Int) == 0) = ((x.1 != 2) || (agAt m.1 x.2).2.2.2.2.length == 0) := by rw [nat_beq0, tag_of hx]; cases x.1 != 2 <;> rfl
    refine And.intro (fun q2 => ?_) (fun q2 => ?_)
    · have q3 : ((x.1 != 2) || (agAt m.1 x.2).2.2.2.2.length == 0) = true := by rw [← hcond]; exact q2
      have e : resN m.1 (m.1.length + 1) w = (x, true) := by rw [hee]; unfold resN; rw [q3]; rfl
      rw [e]; exact rfl
    · have q3 : ((x.1 != 2) || (agAt m.1 x.2).2.2.2.2.length == 0) = false := by rw [← hcond]; exact q2
      have q4 : 0 < (agAt m.1 x.2).2.2.2.2.length := by rw [Bool.or_eq_false_iff, beq_eq_false_iff_ne] at q3; omega
      have e : resN m.1 (m.1.length + 1) w = resN m.1 (m.1.length - j) ((agAt m.1 x.2).2.2.2.2.getD 0 (0, 0)) := by
        rw [hee]
        conv => lhs; unfold resN
        rw [q3]; rfl
      refine And.intro hin ?_
      refine And.intro (show (0 : Int) ≤ 0 ∧ (0 : Int) < ((agAt m.1 x.2).2.2.2.2.length : Nat) by omega) ?_
      refine And.intro (by kernel_rfl) ?_
      refine lp_next (j + 1, (agAt m.1 x.2).2.2.2.2.getD 0 (0, 0)) ⟨by show j + 1 ≤ _; omega, ?_, ?_⟩ ?_ ?_
      · refine agAt_all (p := fun c => ∀ x ∈ c.2.2.2.2, wordB m.1 x = true) hv hin.1 hin.2 _ ?_
        rw [List.getD_eq_getElem?_getD, List.getElem?_eq_getElem q4]; exact List.getElem_mem q4
      · rw [e, show m.1.length + 1 - (j + 1) = m.1.length - j by omega]
      · exact hd [] rfl (And.intro (And.intro (wrapS (by omega)) rfl) trivial) ⟨trivial, ⟨⟨rfl, rfl⟩, ⟨rfl, rfl⟩, trivial⟩, trivial, ⟨⟨rfl, rfl⟩, ⟨rfl, rfl⟩, trivial⟩, trivial⟩
      · show m.1.length + 1 - (j + 1) < m.1.length + 1 - j
        omega
  · have hge : m.1.length + 1 ≤ j := ge_of (q0 _ q1)
    have hj' : j ≤ m.1.length + 1 := hj
    have hje : j = m.1.length + 1 := by omega
    subst hje
    have e : resN m.1 (m.1.length + 1) w = (x, false) := by refine he.trans ?_; show resN m.1 (m.1.length + 1 - (m.1.length + 1)) x = _; rw [Nat.sub_self]; rfl
    rw [e]; exact rfl
theorem cellI_words {c : NAgent} (h : cellI c = true) : c.2.2.2.2.length ≤ 4 := by
  unfold cellI at h
  cases hA : isAgB c.1 with
  | true => rw [hA] at h; exact ports_le h
  | false =>
    rw [hA] at h
    cases h1 : c.1 == 13 with
    | true => rw [h1] at h; simp only [cond_true, cond_false, Bool.and_eq_true, decide_eq_true_eq] at h; omega
    | false => rw [h1] at h; simp only [cond_false, Bool.and_eq_true, beq_iff_eq] at h; omega
theorem any_not {α : Type} (f : α → Bool) (l : List α) : (l.any fun x => !f x) = !l.all f := by rw [List.all_eq_not_any_not, Bool.not_not]
theorem okWithI : callOk Tryz.prog 43 = true := by kernel_rfl
set_option maxRecDepth 100000 in
set_option maxHeartbeats 4000000 in
theorem withI (m : NMem) (held : List NWord) (hl : m.1.length ≤ 1048576) (hc : ∀ c ∈ m.1, c.2.2.2.2.length ≤ 1048576) (hh : held.length ≤ 1048576) (hr : m.2.2.2.length ≤ 16777216) : QCall Tryz.prog 43 [.rp uMem m, .rsl uPort held] (.bool (memI m held)) := by
  refine QCall.intro (nt := 88) ti_ok mixed okWithI Tryz.func43 rfl rfl rfl rfl rfl ?_
  refine And.intro (by kernel_rfl) ?_
  have hcond0 : (bif (bif decide (((m.1.length : Nat) : Int) < 1) then true else decide ((1500 : Int) < (m.1.length : Nat))) then true else decide (((m.1.length : Nat) : Int) < ((m.2.2.2.length : Nat) : Int))) = !(inB m.1.length 1 1500 && decide (m.2.2.2.length ≤ m.1.length)) := by
    have e : decide (((m.1.length : Nat) : Int) < ((m.2.2.2.length : Nat) : Int)) = !decide (m.2.2.2.length ≤ m.1.length) := by rw [← decide_not]; exact decide_eq_decide.2 (by omega)
    unfold inB
    rw [e, show decide (((m.1.length : Nat) : Int) < 1) = !decide ((1 : Int) ≤ (m.1.length : Nat)) by rw [← decide_not]; exact decide_eq_decide.2 (by omega), show decide ((1500 : Int) < (m.1.length : Nat)) = !decide (((m.1.length : Nat) : Int) ≤ 1500) by rw [← decide_not]; exact decide_eq_decide.2 (by omega)]
    cases decide ((1 : Int) ≤ (m.1.length : Nat)) <;> cases decide (((m.1.length : Nat) : Int) ≤ 1500) <;> rfl
  refine And.intro (fun q1 => ?_) (fun q1 => ?_)
  · have a1 := Eq.mp (Bool.not_eq_true' _) (hcond0.symm.trans q1)
    have e : memI m held = false := by unfold memI; rw [a1]; rfl
    rw [e]; exact rfl
  have a1 := Eq.mp (Bool.not_eq_false' _) (hcond0.symm.trans q1)
  have hn : m.1.length ≤ 1500 ∧ m.2.2.2.length ≤ m.1.length := by simp only [inB, Bool.and_eq_true, decide_eq_true_eq] at a1; omega
  refine Or.inl (Exists.intro _ (And.intro (conCell m.1 _ (fun c => !cellI c) hl fun i hi => valid1 _ (hc _ (by rw [List.getD_eq_getElem?_getD, List.getElem?_eq_getElem hi]; exact List.getElem_mem hi))) ?_))
  rw [any_not]
  cases hC : m.1.all cellI with
  | false =>
    have e : memI m held = false := by unfold memI; rw [hC]; simp
    rw [e]
    refine Or.inr (And.intro (fun g => by cases g) (fun g => ?_))
    refine Exists.intro (.rsl uPort []) ?_
    refine And.intro (fun g => by cases g) (fun g => ?_)
    refine Or.inr (And.intro (fun g => by cases g) (fun g => ?_))
    refine Exists.intro (.bool false) ?_
    refine Or.inr (And.intro (fun g => by cases g) (fun g => ?_))
    refine Exists.intro (.bool false) ?_
    refine And.intro (fun q2 => ?_) (fun q2 => by cases q2)
    exact rfl
  | true =>
  have hwb : (wordsN m).length ≤ 6001 := by
    have h1 := flat_bound (fun c : NAgent => c.2.2.2.2) 4 m.1 fun c hc => cellI_words (all_at hC hc)
    have h2 : (wordsN m).length = (m.1.flatMap fun c => c.2.2.2.2).length + 1 := rfl
    omega
  refine Or.inr (And.intro (fun g => ?_) (fun g => by cases g))
  refine Exists.intro _ (Exists.intro _ (And.intro (wordsI m hl (by omega)) ?_))
  refine And.intro (fun g => ?_) (fun g => by cases g)
  refine And.intro (show (wordsN m).length + held.length ≤ 1073741824 by omega) ?_
  refine Or.inr (And.intro (fun g => ?_) (fun g => by cases g))
  refine Exists.intro _ (Exists.intro _ (And.intro (conWord m (wordsN m ++ held) _ (fun w => !wordB m.1 w) (by rw [List.length_append]; omega) fun i _ => valid2 m _) ?_))
  rw [any_not]
  cases hW : (wordsN m ++ held).all (wordB m.1) with
  | false =>
    have e : memI m held = false := by unfold memI; rw [hW]; simp
    rw [e]
    refine Or.inr (And.intro (fun g => by cases g) (fun g => ?_))
    refine Exists.intro (.bool false) ?_
    refine And.intro (fun q2 => ?_) (fun q2 => by cases q2)
    exact rfl
  | true =>
  refine Or.inr (And.intro (fun g => ?_) (fun g => by cases g))
  refine Exists.intro _ (Exists.intro _ (And.intro (conPair m m.2.2.2 _ (fun w => !redexB m.1 w) (by omega) fun i _ => valid3 m _) ?_))
  rw [any_not]
  cases hR : m.2.2.2.all (redexB m.1) with
  | false =>
    have e : memI m held = false := by unfold memI; rw [hR]; simp
    rw [e]
    refine And.intro (fun q2 => ?_) (fun q2 => by cases q2)
    exact rfl
  | true =>
  refine And.intro (fun q2 => by cases q2) (fun q2 => ?_)
  refine Or.inl (Exists.intro _ (And.intro (occurI m held hn.1 hh hwb (by omega) hW hR) ?_))
  refine Or.inl (Exists.intro _ (And.intro (fun _ => freeI m hl) ?_))
  have hcond2 : ∀ a b : Bool, (bif !a then true else !b) = !(a && b) := fun a b => by cases a <;> rfl
  refine And.intro (fun q3 => ?_) (fun q3 => ?_)
  · have a2 := Eq.mp (Bool.not_eq_true' _) ((hcond2 _ _).symm.trans q3)
    have e : memI m held = false := by unfold memI; rw [← Bool.and_assoc (allTo _ _), a2]; simp
    rw [e]; exact rfl
  have a2 := Eq.mp (Bool.not_eq_false' _) ((hcond2 _ _).symm.trans q3)
  have hval : ∀ c ∈ m.1, ∀ x ∈ c.2.2.2.2, wordB m.1 x = true := fun c hc x hx => all_at hW (List.mem_append.2 (.inl (List.mem_cons_of_mem _ (List.mem_flatMap.2 ⟨c, hc, hx⟩))))
  have hmem : memI m held = allTo m.1.length fun i => !((agAt m.1 i).1 == 13) || (resN m.1 (m.1.length + 1) (2, i)).2 := by
    unfold memI; rw [a1, hC, hW, hR, ← Bool.and_assoc (allTo _ _), a2]; simp
  refine lp Nat (fun i => [(71, .int .i64 (i : Nat))]) (fun _ => [.cel 2 132 [.rp uMem m]]) (fun i => m.1.length - i) (fun i => i ≤ m.1.length ∧ allTo i (fun i => !((agAt m.1 i).1 == 13) || (resN m.1 (m.1.length + 1) (2, i)).2) = true) 0 ⟨Nat.zero_le _, rfl⟩ ?_ ?_
  · exact hd [] rfl (And.intro (And.intro rfl rfl) trivial) ⟨trivial, ⟨rfl, trivial⟩, trivial⟩
  rintro i ⟨hi, ho⟩
  refine And.intro (fun q4 => ?_) (fun q4 => ?_)
  · have hlt : i < m.1.length := lt_of q4
    have hms : m.1.length - (i + 1) < m.1.length - i := by omega
    refine And.intro (show 0 ≤ ((i : Nat) : Int) ∧ ((i : Nat) : Int) < (m.1.length : Nat) by omega) ?_
    refine Or.inl (Exists.intro _ (And.intro (isVarI _) ?_))
    refine And.intro (fun q5 => ?_) (fun q5 => ?_)
    · have q8 : ((agAt m.1 (i : Nat)).1 == 13) = true := q5
      have hv13 : wordB m.1 (2, (i : Int)) = true := by unfold wordB; simp only [q8]; simp [inB]; omega
      refine Or.inl (Exists.intro _ (And.intro (resI m (2, (i : Int)) hl hval hv13) ?_))
      refine And.intro (fun q6 => ?_) (fun q6 => ?_)
      · have q7 : (resN m.1 (m.1.length + 1) (2, (i : Int))).2 = false := Eq.mp (Bool.not_eq_true' _) q6
        have e : memI m held = false := by rw [hmem]; exact allTo_f hlt (by rw [q8, q7]; rfl)
        rw [e]; exact rfl
      · have q7 : (resN m.1 (m.1.length + 1) (2, (i : Int))).2 = true := Eq.mp (Bool.not_eq_false' _) q6
        exact lp_next (i + 1) ⟨hlt, by rw [allTo_succ', ho, q7, Bool.or_true]; rfl⟩ (hd [] rfl (And.intro (And.intro (wrapS (by omega)) rfl) trivial) ⟨trivial, ⟨rfl, trivial⟩, trivial⟩) hms
    · have q8 : ((agAt m.1 (i : Nat)).1 == 13) = false := q5
      exact lp_next (i + 1) ⟨hlt, by rw [allTo_succ', ho, q8]; rfl⟩ (hd [] rfl (And.intro (And.intro (wrapS (by omega)) rfl) trivial) ⟨trivial, ⟨rfl, trivial⟩, trivial⟩) hms
  · have hge : m.1.length ≤ i := ge_of q4
    have hie : i = m.1.length := by omega
    subst hie
    rw [hmem, ho]; exact rfl
end Go.Proofs.YthciaodffkbljaaGreat

/- The reference's pools: what is valid, who is busy, counts. -/
set_option linter.unusedSimpArgs false
set_option linter.unusedVariables false
namespace Go.Proofs.YthciaodffkbljaaGreat
open Go Go.RowKit Go.Proofs Go.Tr
theorem wAt_mem {ws : List NWorker} {i : Nat} (h : i < ws.length) : wAt ws i ∈ ws := by
  unfold wAt; rw [List.getD_eq_getElem?_getD, List.getElem?_eq_getElem h]; exact List.getElem_mem h
theorem held_bound {ws : List NWorker} {n : Int} (h : ws.all (workerB n) = true) : (heldN ws).length ≤ 3000 * ws.length := by
  refine flat_bound _ 3000 ws fun w hw => ?_
  have h1 := all_at h hw
  unfold workerB at h1
  simp only [Bool.and_eq_true, decide_eq_true_eq] at h1
  have h2 := flat_bound (fun l : NWord × NWord => [l.1, l.2]) 2 w.2.2.2.1 fun x _ => Nat.le_refl 2
  omega
theorem reds_bound {ws : List NWorker} (h : ∀ w ∈ ws, w.2.2.1.length ≤ 1048576) : (redsN ws).length ≤ 1048576 * ws.length := flat_bound _ _ ws h
theorem okOk24 : callOk Tryz.prog 36 = true := by kernel_rfl
theorem cntP_le (ws : List NWorker) (i : Nat) : (ws.take i).countP activeB ≤ ws.length := by
  refine Nat.le_trans List.countP_le_length ?_
  rw [List.length_take]; omega
theorem workerB_cond (n : Int) (w : NWorker) : (!(bif (bif (bif !inB w.1 1 4 then true else !inB w.2.1 0 (n - 1)) then true else !countsB w.2.2.2.2) then true else decide (((1500 : Nat) : Int) < (w.2.2.2.1.length : Nat))) && !(bif w.1 != 1 then (bif decide (((0 : Nat) : Int) < (w.2.2.1.length : Nat)) then true else decide (((0 : Nat) : Int) < (w.2.2.2.1.length : Nat))) else false)) = workerB n w := by
  have e0 : ∀ a b : Nat, decide (((a : Nat) : Int) < (b : Nat)) = !decide (b ≤ a) := fun a b => by rw [← decide_not]; exact decide_eq_decide.2 (by omega)
  have e1 : ∀ a : Nat, decide (a ≤ 0) = (a == 0) := fun a => by rw [Bool.eq_iff_iff]; simp
  unfold workerB
  rw [e0 1500, e0 0, e0 0, e1, e1, bne]
  cases inB w.1 1 4 <;> cases inB w.2.1 0 (n - 1) <;> cases countsB w.2.2.2.2 <;> cases decide (w.2.2.2.1.length ≤ 1500) <;> cases w.1 == 1 <;> cases w.2.2.1.length == 0 <;> cases w.2.2.2.1.length == 0 <;> rfl
structure PoolSm (p : NPool) : Prop where
  cells : p.1.1.length ≤ 1048576
  words : ∀ c ∈ p.1.1, c.2.2.2.2.length ≤ 1048576
  mreds : p.1.2.2.2.length ≤ 1048576
  workers : p.2.1.length ≤ 1048576
  reds : ∀ w ∈ p.2.1, w.2.2.1.length ≤ 1048576
  links : ∀ w ∈ p.2.1, w.2.2.2.1.length ≤ 1048576
  counts : ∀ w ∈ p.2.1, w.2.2.2.2.length ≤ 1048576
set_option maxRecDepth 100000 in
set_option maxHeartbeats 4000000 in
theorem ok24 (p : NPool) (hs : PoolSm p) : QCall Tryz.prog 36 [.rp uPool p] (.bool (poolS p)) := by
  refine QCall.intro (nt := 112) ti_ok mixed okOk24 Tryz.func36 rfl rfl rfl rfl rfl ?_
  refine Or.inl (Exists.intro _ (And.intro (inQ _ _ _) ?_))
  have hwl := hs.workers
  have hcond0 : (bif !inB (p.2.1.length : Nat) 1 4 then true else decide (((0 : Nat) : Int) < ((p.1.2.2.2.length : Nat) : Int))) = !(inB p.2.1.length 1 4 && p.1.2.2.2.length == 0) := by
    have e : decide (((0 : Nat) : Int) < ((p.1.2.2.2.length : Nat) : Int)) = !(p.1.2.2.2.length == 0) := by rw [Bool.eq_iff_iff]; simp only [decide_eq_true_eq, Bool.not_eq_true', beq_eq_false_iff_ne]; omega
    rw [e]; cases inB (p.2.1.length : Nat) 1 4 <;> rfl
  refine And.intro (fun q1 => ?_) (fun q1 => ?_)
  · have a1 : (inB p.2.1.length 1 4 && p.1.2.2.2.length == 0) = false := Eq.mp (Bool.not_eq_true' _) (hcond0.symm.trans q1)
    have e : poolS p = false := by unfold poolS poolPre; rw [a1]; rfl
    rw [e]; exact rfl
  have a1 : (inB p.2.1.length 1 4 && p.1.2.2.2.length == 0) = true := Eq.mp (Bool.not_eq_false' _) (hcond0.symm.trans q1)
  have hn : p.2.1.length ≤ 4 := by simp only [inB, Bool.and_eq_true, decide_eq_true_eq] at a1; omega
  refine lp Nat (fun i => [(5, .int .i64 (i : Nat)), (4, .int .i64 ((p.2.1.take i).countP activeB : Nat))]) (fun _ => []) (fun i => p.2.1.length - i) (fun i => i ≤ p.2.1.length ∧ (p.2.1.take i).all (workerB p.2.1.length) = true) 0 ⟨Nat.zero_le _, rfl⟩ ?_ ?_
  · exact hd [] rfl (And.intro (And.intro rfl rfl) (And.intro (And.intro rfl rfl) trivial)) trivial
  rintro i ⟨hi, ha⟩
  refine And.intro (fun q2 => ?_) (fun q2 => ?_)
  · have hlt : i < p.2.1.length := lt_of q2
    have hm := wAt_mem hlt
    have hC := workerB_cond p.2.1.length (wAt p.2.1 i)
    refine And.intro (show 0 ≤ ((i : Nat) : Int) ∧ ((i : Nat) : Int) < (p.2.1.length : Nat) by omega) ?_
    refine Or.inl (Exists.intro _ (And.intro (inQ _ _ _) ?_))
    refine Or.inl (Exists.intro _ (And.intro (fun _ => inQ _ _ _) ?_))
    refine Or.inl (Exists.intro _ (And.intro (fun _ => countsS _ (hs.counts _ hm)) ?_))
    rw [← wrapPred hwl] at hC
    have bad : workerB p.2.1.length (wAt p.2.1 i) = false → poolS p = false := fun h => by
      have b1 : p.2.1.all (workerB p.2.1.length) = false := all_f _ (dflt uWorker) p.2.1 hlt h
      unfold poolS poolPre; rw [b1]; simp
    refine And.intro (fun q3 => ?_) (fun q3 => ?_)
    · have e : poolS p = false := bad (by
        rw [← hC]
        refine Eq.trans (congrArg (fun b => !b && _) q3) rfl)
      rw [e]; exact rfl
    refine And.intro (fun q4 => ?_) (fun q4 => ?_)
    · have e : poolS p = false := bad (by
        rw [← hC]
        refine Eq.trans (congrArg (fun b => _ && !b) q4) (Bool.and_false _))
      rw [e]; exact rfl
    have ok : workerB p.2.1.length (wAt p.2.1 i) = true := by
      rw [← hC]
      exact Eq.trans (congrArg (fun b => !b && _) q3) (Eq.trans (congrArg (fun b => true && !b) q4) rfl)
    have hcl := cntP_le p.2.1 i
    have hct := countP_take activeB (dflt uWorker) p.2.1 hlt
    refine Or.inl (Exists.intro _ (And.intro (activeS _) ?_))
    refine And.intro (fun q5 => ?_) (fun q5 => ?_)
    · refine lp_next (i + 1) ⟨hlt, by rw [all_take _ (dflt uWorker) p.2.1 hlt, ha]; exact ok⟩ ?_ ?_
      · refine hd [] rfl (And.intro (And.intro (wrapS (by omega)) rfl) (And.intro (And.intro ?_ rfl) trivial)) trivial
        rw [hct, show activeB (p.2.1.getD i (dflt uWorker)) = true from q5]
        exact wrapS (by omega)
      · show p.2.1.length - (i + 1) < p.2.1.length - i
        omega
    · refine lp_next (i + 1) ⟨hlt, by rw [all_take _ (dflt uWorker) p.2.1 hlt, ha]; exact ok⟩ ?_ ?_
      · refine hd [] rfl (And.intro (And.intro (wrapS (by omega)) rfl) (And.intro (And.intro ?_ rfl) trivial)) trivial
        rw [hct, show activeB (p.2.1.getD i (dflt uWorker)) = false from q5]; rfl
      · show p.2.1.length - (i + 1) < p.2.1.length - i
        omega
  have hge : p.2.1.length ≤ i := ge_of q2
  have hie : i = p.2.1.length := by omega
  subst hie
  rw [List.take_length] at ha
  have hhb := held_bound ha
  have hrb := reds_bound hs.reds
  have htk : (p.2.1.take p.2.1.length).countP activeB = p.2.1.countP activeB := by rw [List.take_length]
  have hpre : poolPre p = (((p.2.1.countP activeB : Nat) : Int) == p.2.2) := by unfold poolPre; rw [a1, ha]; rfl
  refine Or.inr (And.intro (fun g1 => ?_) (fun g1 => ?_))
  · refine Exists.intro _ (Exists.intro _ (And.intro (held24 p hwl (by omega)) ?_))
    refine Or.inr (And.intro (fun g2 => ?_) (fun g2 => by rw [show _ = true from g1] at g2; cases g2))
    refine Exists.intro _ (Exists.intro _ (And.intro (reds24 p hwl (by omega)) ?_))
    refine Or.inr (And.intro (fun g3 => ?_) (fun g3 => by rw [show _ = true from g1] at g3; cases g3))
    refine Exists.intro _ (Exists.intro _ (And.intro (FCall.of_q ti_ok [132, 91, 35] okWith (with21 p.1 (heldN p.2.1) (redsN p.2.1) hs.cells hs.words (by omega) (by omega)) rfl) ?_))
    refine And.intro (by kernel_rfl) ?_
    have e : poolS p = memS p.1 (heldN p.2.1) (redsN p.2.1) := by unfold poolS; rw [hpre, ← htk, show _ = true from g1]; rfl
    rw [e]
    exact Eq.trans (congrArg (fun b => bif b then memS p.1 (heldN p.2.1) (redsN p.2.1) else false) g1) rfl
  · refine Exists.intro (.bool false) ?_
    refine Or.inr (And.intro (fun g2 => by rw [show _ = false from g1] at g2; cases g2) (fun g2 => ?_))
    refine Exists.intro (.bool false) ?_
    refine Or.inr (And.intro (fun g2 => by rw [show _ = false from g1] at g2; cases g2) (fun g2 => ?_))
    refine Exists.intro (.bool false) ?_
    refine And.intro (by kernel_rfl) ?_
    have e : poolS p = false := by unfold poolS; rw [hpre, ← htk, show _ = false from g1]; rfl
    rw [e]
    exact Eq.trans (congrArg (fun b => bif b then false else false) g1) rfl
abbrev vPool (p : NPool) : SV := .agg [.rsl uAgent p.1.1, .int .i64 p.1.2.1, .int .i64 p.1.2.2.1.1, .int .i64 p.1.2.2.1.2, .rsl uPort p.1.2.2.2, .rsl uWorker p.2.1, .int .i64 p.2.2]
end Go.Proofs.YthciaodffkbljaaGreat

/- The program's pools: what is valid, who is done, sums. -/
set_option linter.unusedSimpArgs false
set_option linter.unusedVariables false
namespace Go.Proofs.YthciaodffkbljaaGreat
open Go Go.RowKit Go.Proofs Go.Tr
theorem okRedsI : callOk Tryz.prog 42 = true := by kernel_rfl
set_option maxRecDepth 100000 in
theorem redsI (p : NPool) (hl : p.2.1.length ≤ 1048576) (hb : (redsN p.2.1).length ≤ 16777216) : FCall Tryz.prog 42 [.rp uPool p] [] (.sl 10000) [.row 10000 147 2 uPort (redsN p.2.1) []] := by
  refine FCall.intro (nt := 21) ti_ok mixed okRedsI Tryz.func42 rfl rfl rfl rfl rfl rfl ?_
  refine lp Nat (fun i => [(11, .int .i64 (i : Nat)), (3, .sl 20000)]) (fun i => [.row 20000 147 2 uPort (redsN (p.2.1.take i)) []]) (fun i => p.2.1.length - i) (fun i => i ≤ p.2.1.length) 0 (Nat.zero_le _) ?_ ?_
  · exact hdm [⟨3, 30000, 147, 2, uPort⟩] [(20000, 30000)] rfl (And.intro (And.intro (And.intro rfl rfl) (And.intro rfl trivial)) ⟨⟨rfl, List.nil_prefix⟩, trivial⟩)
  intro i hi
  refine And.intro (fun q1 => ?_) (fun q1 => ?_)
  · have hlt : i < p.2.1.length := lt_of q1
    have e : redsN (p.2.1.take (i + 1)) = redsN (p.2.1.take i) ++ (wAt p.2.1 i).2.2.1 := flat_take (fun w : NWorker => w.2.2.1) (dflt uWorker) p.2.1 hlt
    have hle : (redsN (p.2.1.take (i + 1))).length ≤ (redsN p.2.1).length := flat_le (fun w : NWorker => w.2.2.1) p.2.1 (i + 1)
    rw [e, List.length_append] at hle
    refine And.intro (show 0 ≤ ((i : Nat) : Int) ∧ ((i : Nat) : Int) < (p.2.1.length : Nat) by omega) ?_
    refine And.intro (show (redsN (p.2.1.take i)).length + (wAt p.2.1 i).2.2.1.length ≤ 1073741824 by omega) ?_
    refine lp_next (i + 1) hlt ?_ ?_
    · refine hd [(20000, 18)] rfl (And.intro (And.intro (wrapS (by omega)) rfl) (And.intro rfl trivial)) ⟨⟨?_, List.nil_prefix⟩, trivial⟩
      show _ = redsN (p.2.1.take (i + 1))
      rw [e]; rfl
    · show p.2.1.length - (i + 1) < p.2.1.length - i
      omega
  · have hge : p.2.1.length ≤ i := ge_of q1
    have hie : i = p.2.1.length := by omega
    subst hie
    refine fin [(10000, 20000)] (And.intro rfl ?_)
    refine ⟨⟨?_, List.nil_prefix⟩, trivial⟩
    show redsN (p.2.1.take p.2.1.length) = redsN p.2.1
    rw [List.take_length]
theorem okLinkW : callOk Tryz.prog 44 = true := by kernel_rfl
set_option maxRecDepth 100000 in
theorem heldI (p : NPool) (hl : p.2.1.length ≤ 1048576) (hb : (heldN p.2.1).length ≤ 1048576) : FCall Tryz.prog 44 [.rp uPool p] [] (.sl 10000) [.row 10000 34 2 uPort (heldN p.2.1) []] := by
  refine FCall.intro (nt := 34) ti_ok mixed okLinkW Tryz.func44 rfl rfl rfl rfl rfl rfl ?_
  refine lp Nat (fun i => [(13, .int .i64 (i : Nat)), (3, .sl 20000)]) (fun i => [.row 20000 34 2 uPort (heldN (p.2.1.take i)) []]) (fun i => p.2.1.length - i) (fun i => i ≤ p.2.1.length) 0 (Nat.zero_le _) ?_ ?_
  · exact hdm [⟨3, 30000, 34, 2, uPort⟩] [(20000, 30000)] rfl (And.intro (And.intro (And.intro rfl rfl) (And.intro rfl trivial)) ⟨⟨rfl, List.nil_prefix⟩, trivial⟩)
  intro i hi
  refine And.intro (fun q1 => ?_) (fun q1 => ?_)
  · have hlt : i < p.2.1.length := lt_of q1
    have hii : 0 ≤ ((i : Nat) : Int) ∧ ((i : Nat) : Int) < (p.2.1.length : Nat) := by omega
    have e : heldN (p.2.1.take (i + 1)) = heldN (p.2.1.take i) ++ (wAt p.2.1 i).2.2.2.1.flatMap fun l : NWord × NWord => [l.1, l.2] := flat_take (fun w : NWorker => w.2.2.2.1.flatMap fun l : NWord × NWord => [l.1, l.2]) (dflt uWorker) p.2.1 hlt
    have hle : (heldN (p.2.1.take (i + 1))).length ≤ (heldN p.2.1).length := flat_le (fun w : NWorker => w.2.2.2.1.flatMap fun l : NWord × NWord => [l.1, l.2]) p.2.1 (i + 1)
    have hfl : ((wAt p.2.1 i).2.2.2.1.flatMap fun l : NWord × NWord => [l.1, l.2]).length = 2 * (wAt p.2.1 i).2.2.2.1.length := by
      induction (wAt p.2.1 i).2.2.2.1 with
      | nil => rfl
      | cons x l ih => rw [List.flatMap_cons, List.length_append, ih]; simp only [List.length_cons, List.length_nil]; omega
    rw [e, List.length_append] at hle
    refine And.intro hii ?_
    refine lp Nat (fun k => [(20, .int .i64 (k : Nat)), (3, .sl 21000)]) (fun k => [.cel 5 85 [.int .i64 (wAt p.2.1 i).1, .int .i64 (wAt p.2.1 i).2.1, .rsl uPort (wAt p.2.1 i).2.2.1, .rsl uLink (wAt p.2.1 i).2.2.2.1, .rsl (.int .i64) (wAt p.2.1 i).2.2.2.2], .row 21000 34 2 uPort (heldN (p.2.1.take i) ++ ((wAt p.2.1 i).2.2.2.1.take k).flatMap fun l : NWord × NWord => [l.1, l.2]) []]) (fun k => (wAt p.2.1 i).2.2.2.1.length - k) (fun k => k ≤ (wAt p.2.1 i).2.2.2.1.length) 0 (Nat.zero_le _) ?_ ?_
    · exact hd [(21000, 20000)] rfl (And.intro (And.intro rfl rfl) (And.intro rfl trivial)) ⟨trivial, ⟨⟨rfl, rfl⟩, ⟨rfl, rfl⟩, rfl, rfl, rfl, trivial⟩, ⟨(List.append_nil _).symm, List.nil_prefix⟩, trivial⟩
    intro k hk
    refine And.intro (fun q2 => ?_) (fun q2 => ?_)
    · have hkt : k < (wAt p.2.1 i).2.2.2.1.length := lt_of q2
      have hkk : 0 ≤ ((k : Nat) : Int) ∧ ((k : Nat) : Int) < ((wAt p.2.1 i).2.2.2.1.length : Nat) := by omega
      have e2 := flat_take (fun l : NWord × NWord => [l.1, l.2]) ((0, 0), (0, 0)) (wAt p.2.1 i).2.2.2.1 hkt
      have hle2 := flat_le (fun l : NWord × NWord => [l.1, l.2]) (wAt p.2.1 i).2.2.2.1 (k + 1)
      rw [e2, List.length_append] at hle2
      refine And.intro hkk ?_
      refine And.intro ?_ ?_
      · show (heldN (p.2.1.take i) ++ ((wAt p.2.1 i).2.2.2.1.take k).flatMap fun l : NWord × NWord => [l.1, l.2]).length + 2 ≤ 1073741824
        have h3 : ([((wAt p.2.1 i).2.2.2.1.getD k ((0, 0), (0, 0))).1, ((wAt p.2.1 i).2.2.2.1.getD k ((0, 0), (0, 0))).2] : List NWord).length = 2 := rfl
        rw [List.length_append]; omega
      refine lp_next (k + 1) hkt ?_ ?_
      · refine hd [(21000, 30)] rfl (And.intro (And.intro (wrapS (by omega)) rfl) (And.intro rfl trivial)) ⟨trivial, ⟨⟨rfl, rfl⟩, ⟨rfl, rfl⟩, rfl, rfl, rfl, trivial⟩, ⟨?_, List.nil_prefix⟩, trivial⟩
        show (heldN (p.2.1.take i) ++ ((wAt p.2.1 i).2.2.2.1.take k).flatMap fun l : NWord × NWord => [l.1, l.2]) ++ _ = heldN (p.2.1.take i) ++ ((wAt p.2.1 i).2.2.2.1.take (k + 1)).flatMap fun l : NWord × NWord => [l.1, l.2]
        rw [e2, List.append_assoc]; rfl
      · show (wAt p.2.1 i).2.2.2.1.length - (k + 1) < (wAt p.2.1 i).2.2.2.1.length - k
        omega
    · have hge : (wAt p.2.1 i).2.2.2.1.length ≤ k := ge_of q2
      have hke : k = (wAt p.2.1 i).2.2.2.1.length := by omega
      subst hke
      refine lp_next (i + 1) hlt ?_ ?_
      · refine hd [(20000, 21000)] rfl (And.intro (And.intro (wrapS (by omega)) rfl) (And.intro rfl trivial)) ⟨⟨?_, List.nil_prefix⟩, trivial⟩
        show heldN (p.2.1.take i) ++ ((wAt p.2.1 i).2.2.2.1.take (wAt p.2.1 i).2.2.2.1.length).flatMap _ = heldN (p.2.1.take (i + 1))
        rw [e, List.take_length]
      · show p.2.1.length - (i + 1) < p.2.1.length - i
        omega
  · have hge : p.2.1.length ≤ i := ge_of q1
    have hie : i = p.2.1.length := by omega
    subst hie
    refine fin [(10000, 20000)] (And.intro rfl ?_)
    refine ⟨⟨?_, List.nil_prefix⟩, trivial⟩
    show heldN (p.2.1.take p.2.1.length) = heldN p.2.1
    rw [List.take_length]
theorem okVPI : callOk Tryz.prog 10 = true := by kernel_rfl
set_option maxRecDepth 100000 in
set_option maxHeartbeats 4000000 in
theorem validPoolI (p : NPool) (hs : PoolSm p) : QCall Tryz.prog 10 [vPool p] (.bool (poolI p)) := by
  refine QCall.intro (nt := 55) ti_ok mixed okVPI Tryz.func10 rfl rfl rfl rfl rfl ?_
  have hwl := hs.workers
  have hcond0 : (bif (bif decide (((p.2.1.length : Nat) : Int) < 1) then true else decide ((4 : Int) < (p.2.1.length : Nat))) then true else decide ((0 : Int) < ((p.1.2.2.2.length : Nat) : Int))) = !(inB p.2.1.length 1 4 && p.1.2.2.2.length == 0) := by
    have e : decide ((0 : Int) < ((p.1.2.2.2.length : Nat) : Int)) = !(p.1.2.2.2.length == 0) := by rw [Bool.eq_iff_iff]; simp only [decide_eq_true_eq, Bool.not_eq_true', beq_eq_false_iff_ne]; omega
    unfold inB
    rw [e, show decide (((p.2.1.length : Nat) : Int) < 1) = !decide ((1 : Int) ≤ (p.2.1.length : Nat)) by rw [← decide_not]; exact decide_eq_decide.2 (by omega), show decide ((4 : Int) < (p.2.1.length : Nat)) = !decide (((p.2.1.length : Nat) : Int) ≤ 4) by rw [← decide_not]; exact decide_eq_decide.2 (by omega)]
    cases decide ((1 : Int) ≤ (p.2.1.length : Nat)) <;> cases decide (((p.2.1.length : Nat) : Int) ≤ 4) <;> rfl
  refine And.intro (fun q1 => ?_) (fun q1 => ?_)
  · have a1 := Eq.mp (Bool.not_eq_true' _) (hcond0.symm.trans q1)
    have e : poolI p = false := by unfold poolI poolPre; rw [a1]; rfl
    rw [e]; exact rfl
  have a1 := Eq.mp (Bool.not_eq_false' _) (hcond0.symm.trans q1)
  have hn : p.2.1.length ≤ 4 := by simp only [inB, Bool.and_eq_true, decide_eq_true_eq] at a1; omega
  refine lp Nat (fun i => [(27, .int .i64 (i : Nat)), (3, .int .i64 ((p.2.1.take i).countP activeB : Nat))]) (fun _ => [.cel 1 40 [.rsl uAgent p.1.1, .int .i64 p.1.2.1, .int .i64 p.1.2.2.1.1, .int .i64 p.1.2.2.1.2, .rsl uPort p.1.2.2.2, .rsl uWorker p.2.1, .int .i64 p.2.2]]) (fun i => p.2.1.length - i) (fun i => i ≤ p.2.1.length ∧ (p.2.1.take i).all (workerB p.2.1.length) = true) 0 ⟨Nat.zero_le _, rfl⟩ ?_ ?_
  · exact hd [] rfl (And.intro (And.intro rfl rfl) (And.intro (And.intro rfl rfl) trivial)) ⟨trivial, ⟨rfl, ⟨rfl, rfl⟩, ⟨rfl, rfl⟩, ⟨rfl, rfl⟩, rfl, rfl, ⟨rfl, rfl⟩, trivial⟩, trivial⟩
  rintro i ⟨hi, ha⟩
  refine And.intro (fun q2 => ?_) (fun q2 => ?_)
  · have hlt : i < p.2.1.length := lt_of q2
    have hm := wAt_mem hlt
    refine And.intro (show 0 ≤ ((i : Nat) : Int) ∧ ((i : Nat) : Int) < (p.2.1.length : Nat) by omega) ?_
    refine Or.inl (Exists.intro _ (And.intro (workerI (wAt p.2.1 i) p.2.1.length (hs.counts _ hm)) ?_))
    refine And.intro (fun q3 => ?_) (fun q3 => ?_)
    · have q4 : workerB p.2.1.length (wAt p.2.1 i) = false := Eq.mp (Bool.not_eq_true' _) q3
      have b1 : p.2.1.all (workerB p.2.1.length) = false := all_f _ (dflt uWorker) p.2.1 hlt q4
      have e : poolI p = false := by unfold poolI poolPre; rw [b1]; simp
      rw [e]; exact rfl
    have ok : workerB p.2.1.length (wAt p.2.1 i) = true := Eq.mp (Bool.not_eq_false' _) q3
    refine Or.inl (Exists.intro _ (And.intro (activeI _) ?_))
    refine Or.inl (Exists.intro _ (And.intro (truthI _) ?_))
    have hcl := cntP_le p.2.1 i
    have hct := countP_take activeB (dflt uWorker) p.2.1 hlt
    refine lp_next (i + 1) ⟨hlt, by rw [all_take _ (dflt uWorker) p.2.1 hlt, ha]; exact ok⟩ ?_ ?_
    · refine hd [] rfl (And.intro (And.intro (wrapS (by omega)) rfl) (And.intro (And.intro ?_ rfl) trivial)) ⟨trivial, ⟨rfl, ⟨rfl, rfl⟩, ⟨rfl, rfl⟩, ⟨rfl, rfl⟩, rfl, rfl, ⟨rfl, rfl⟩, trivial⟩, trivial⟩
      show IntKind.i64.wrap (((p.2.1.take i).countP activeB : Nat) + (bif activeB (p.2.1.getD i (dflt uWorker)) then 1 else 0)) = _
      rw [hct, IntWalk.i64_in _ (by cases activeB (p.2.1.getD i (dflt uWorker)) <;> simp only [cond_true, cond_false] <;> omega)]
      cases activeB (p.2.1.getD i (dflt uWorker)) <;> simp
    · show p.2.1.length - (i + 1) < p.2.1.length - i
      omega
  have hge : p.2.1.length ≤ i := ge_of q2
  have hie : i = p.2.1.length := by omega
  subst hie
  rw [List.take_length] at ha
  have hhb := held_bound ha
  have hrb := reds_bound hs.reds
  have htk : (p.2.1.take p.2.1.length).countP activeB = p.2.1.countP activeB := by rw [List.take_length]
  have hpre : poolPre p = (((p.2.1.countP activeB : Nat) : Int) == p.2.2) := by unfold poolPre; rw [a1, ha]; rfl
  refine Or.inr (Exists.intro _ (Exists.intro _ (And.intro (FCall.of_f (r2 := .sl 10001) (ts2 := [.row 10001 147 2 uPort (redsN p.2.1) []]) ti_ok [80] okRedsI (redsI p hwl (by omega)) rfl rfl rfl) ?_)))
  refine Or.inr (And.intro (fun g1 => ?_) (fun g1 => ?_))
  · refine Exists.intro _ (Exists.intro _ (And.intro (FCall.of_f (r2 := .sl 10001) (ts2 := [.row 10001 34 2 uPort (heldN p.2.1) []]) ti_ok [80] okLinkW (heldI p hwl (by omega)) rfl rfl rfl) ?_))
    refine Or.inr (And.intro (fun g2 => ?_) (fun g2 => by rw [show _ = true from g1] at g2; cases g2))
    refine Exists.intro _ (Exists.intro _ (And.intro (FCall.of_q ti_ok [132, 91] okWithI (withI (p.1.1, p.1.2.1, p.1.2.2.1, redsN p.2.1) (heldN p.2.1) hs.cells hs.words (by omega) (show (redsN p.2.1).length ≤ 16777216 by omega)) rfl) ?_))
    have e : poolI p = memI (p.1.1, p.1.2.1, p.1.2.2.1, redsN p.2.1) (heldN p.2.1) := by unfold poolI; rw [hpre, ← htk, show _ = true from g1]; rfl
    rw [e]
    exact Eq.trans (congrArg (fun b => bif b then memI (p.1.1, p.1.2.1, p.1.2.2.1, redsN p.2.1) (heldN p.2.1) else false) g1) rfl
  · refine Exists.intro (.bool false) ?_
    refine Or.inr (And.intro (fun g2 => by rw [show _ = false from g1] at g2; cases g2) (fun g2 => ?_))
    refine Exists.intro (.bool false) ?_
    have e : poolI p = false := by unfold poolI; rw [hpre, ← htk, show _ = false from g1]; rfl
    rw [e]
    exact Eq.trans (congrArg (fun b => bif b then false else false) g1) rfl
end Go.Proofs.YthciaodffkbljaaGreat

/- Pools as structures and as pairs; the contracts for the laws. -/
set_option linter.unusedSimpArgs false
set_option linter.unusedVariables false
namespace Go.Proofs.YthciaodffkbljaaGreat
open Go Go.RowKit Go.Proofs Go.Tr
def nW (x : GWord) : NWord := (x.tag, x.at_)
def nP (x : GPair) : NWord := (x.a, x.b)
def nC (x : GCell) : NAgent := (x.kind, x.level, x.value, x.data, x.words.map nW)
def nL (x : GLink) : NWord × NWord := (nW x.a, nW x.b)
def nK (x : GWorker) : NWorker := (x.phase, x.victim, x.redexes.map nP, x.links.map nL, x.counts)
def nM (x : GMemory) : NMem := (x.cells.map nC, x.free, nW x.root, x.redexes.map nP)
def nPool (x : GPool) : NPool := (nM x.memory, x.workers.map nK, x.active)
theorem flat_map {α : Type} {f : α → List D} {u : U} {g : α → El u} (h : ∀ x, enc u (g x) = f x) : ∀ l : List α, List.flatMap (enc u) (l.map g) = l.flatMap f
  | [] => rfl
  | x :: l => by
    rw [List.flatMap_cons, ← h x, ← flat_map h l]; rfl
theorem encW (x : GWord) : enc uPort (nW x) = x.enc := rfl
theorem encP (x : GPair) : enc uPort (nP x) = x.enc := rfl
theorem encL (x : GLink) : enc uLink (nL x) = x.enc := rfl
theorem encC (x : GCell) : enc uAgent (nC x) = x.enc := by
  show [_] ++ ([_] ++ ([_] ++ ([D.sl _ _] ++ [D.sl _ _]))) = [_, _, _, D.sl _ _, D.sl _ _]
  simp only [List.cons_append, List.nil_append, nC]
  rw [← flat_map (u := uPort) (g := nW) encW x.words, ← enc_ints]
  rw [List.length_map]
theorem encK (x : GWorker) : enc uWorker (nK x) = x.enc := by
  show [_] ++ ([_] ++ ([D.sl _ _] ++ ([D.sl _ _] ++ [D.sl _ _]))) = [_, _, D.sl _ _, D.sl _ _, D.sl _ _]
  simp only [List.cons_append, List.nil_append, nK]
  rw [← flat_map (u := uPort) (g := nP) encP x.redexes, ← flat_map (u := uLink) (g := nL) encL x.links, ← enc_ints]
  rw [List.length_map, List.length_map]
theorem encPool (x : GPool) : enc uPool (nPool x) = x.enc := by
  show ([D.sl _ _] ++ ([_] ++ (([_] ++ [_]) ++ [D.sl _ _]))) ++ ([D.sl _ _] ++ [_]) = [D.sl _ _, _, _, _, D.sl _ _, D.sl _ _, _]
  simp only [List.cons_append, List.nil_append, nPool, nM, nW]
  rw [← flat_map (u := uAgent) (g := nC) encC x.memory.cells, ← flat_map (u := uPort) (g := nP) encP x.memory.redexes, ← flat_map (u := uWorker) (g := nK) encK x.workers]
  rw [List.length_map, List.length_map, List.length_map]
theorem pool_sm {x : GPool} (h : x.small) : PoolSm (nPool x) := by
  obtain ⟨⟨⟨h1, h2⟩, _, h3, _⟩, h4, h5⟩ := h
  refine ⟨?_, ?_, ?_, ?_, ?_, ?_, ?_⟩
  · show (x.memory.cells.map nC).length ≤ _; rw [List.length_map]; exact h1
  · intro c hc
    obtain ⟨y, hy, rfl⟩ := List.mem_map.1 hc
    show (y.words.map nW).length ≤ _; rw [List.length_map]; exact (h2 y hy).2.1
  · show (x.memory.redexes.map nP).length ≤ _; rw [List.length_map]; exact h3
  · show (x.workers.map nK).length ≤ _; rw [List.length_map]; exact h4
  · intro c hc
    obtain ⟨y, hy, rfl⟩ := List.mem_map.1 hc
    show (y.redexes.map nP).length ≤ _; rw [List.length_map]; exact (h5 y hy).1.1
  · intro c hc
    obtain ⟨y, hy, rfl⟩ := List.mem_map.1 hc
    show (y.links.map nL).length ≤ _; rw [List.length_map]; exact (h5 y hy).2.1.1
  · intro c hc
    obtain ⟨y, hy, rfl⟩ := List.mem_map.1 hc
    exact (h5 y hy).2.2
end Go.Proofs.YthciaodffkbljaaGreat

/- The counts of pools, on both sides. -/
set_option linter.unusedSimpArgs false
set_option linter.unusedVariables false
namespace Go.Proofs.YthciaodffkbljaaGreat
open Go Go.RowKit Go.Proofs Go.Tr
/-- The first k of the counts are added. -/
def addTo (l c : List Int) (k : Nat) : List Int := (List.range 7).map fun j => if j < k then IntKind.i64.wrap (l.getD j 0 + c.getD j 0) else l.getD j 0
theorem addTo_len (l c : List Int) (k : Nat) : (addTo l c k).length = 7 := by simp [addTo]
theorem addTo_at (l c : List Int) (k j : Nat) (h : j < 7) : (addTo l c k).getD j 0 = if j < k then IntKind.i64.wrap (l.getD j 0 + c.getD j 0) else l.getD j 0 := by
  unfold addTo
  rw [List.getD_eq_getElem?_getD, List.getElem?_map, List.getElem?_range h]; rfl
theorem addTo_set (l c : List Int) (k : Nat) (h : k < 7) : (addTo l c k).set k (IntKind.i64.wrap ((addTo l c k).getD k 0 + c.getD k 0)) = addTo l c (k + 1) := by
  refine List.ext_getElem (by simp [addTo_len]) fun j h1 h2 => ?_
  have hj : j < 7 := by simpa [addTo_len] using h1
  have e1 := addTo_at l c k j hj
  have e2 := addTo_at l c (k + 1) j hj
  rw [List.getD_eq_getElem?_getD, List.getElem?_eq_getElem (by rw [addTo_len]; exact hj), Option.getD_some] at e1 e2
  rw [List.getElem_set, e2]
  by_cases hk : k = j
  · subst hk
    rw [if_pos rfl, addTo_at l c k k h, if_neg (by omega), if_pos (by omega)]
  · rw [if_neg hk, e1]
    by_cases h3 : j < k
    · rw [if_pos h3, if_pos (by omega)]
    · rw [if_neg h3, if_neg (by omega)]
theorem addTo_zero (l c : List Int) (h : l.length = 7) : addTo l c 0 = l := by
  refine List.ext_getElem (by simp [addTo_len, h]) fun j h1 h2 => ?_
  have hj : j < 7 := by simpa [addTo_len] using h1
  have e1 := addTo_at l c 0 j hj
  rw [List.getD_eq_getElem?_getD, List.getElem?_eq_getElem (by rw [addTo_len]; exact hj), Option.getD_some, if_neg (by omega)] at e1
  rw [e1, List.getD_eq_getElem?_getD, List.getElem?_eq_getElem (by omega)]; rfl
def sumsTo (ws : List NWorker) : Nat → List Int
  | 0 => List.replicate 7 0
  | n + 1 => addTo (sumsTo ws n) (wAt ws n).2.2.2.2 7
theorem sumsTo_len (ws : List NWorker) : ∀ n, (sumsTo ws n).length = 7
  | 0 => by simp [sumsTo]
  | n + 1 => addTo_len _ _ _
theorem counts_len {ws : List NWorker} {n : Int} (h : ws.all (workerB n) = true) {i : Nat} (hi : i < ws.length) : (wAt ws i).2.2.2.2.length = 7 := by
  have := all_at h (wAt_mem hi)
  unfold workerB countsB at this
  simp only [Bool.and_eq_true, beq_iff_eq] at this
  exact this.1.1.2.2
theorem okCntS : callOk Tryz.prog 74 = true := by kernel_rfl
set_option maxRecDepth 100000 in
theorem sumsS (p : NPool) (hl : p.2.1.length ≤ 1048576) (hc : ∀ i, i < p.2.1.length → (wAt p.2.1 i).2.2.2.2.length = 7) : FCall Tryz.prog 74 [.rp uPool p] [] (.sl 10000) [.row 10000 2 1 (.int .i64) (sumsTo p.2.1 p.2.1.length) []] := by
  refine FCall.intro (nt := 40) ti_ok mixed okCntS Tryz.func74 rfl rfl rfl rfl rfl rfl ?_
  refine lp Nat (fun i => [(4, .int .i64 (i : Nat)), (3, .sl 20000)]) (fun i => [.row 20000 2 1 (.int .i64) (sumsTo p.2.1 i) []]) (fun i => p.2.1.length - i) (fun i => i ≤ p.2.1.length) 0 (Nat.zero_le _) ?_ ?_
  · exact hd [(20000, 6)] rfl (And.intro (And.intro rfl rfl) (And.intro rfl trivial)) ⟨⟨rfl, List.nil_prefix⟩, trivial⟩
  intro i hi
  refine And.intro (fun q1 => ?_) (fun q1 => ?_)
  · have hlt : i < p.2.1.length := lt_of q1
    have hii : 0 ≤ ((i : Nat) : Int) ∧ ((i : Nat) : Int) < (p.2.1.length : Nat) := by omega
    have h7 := hc i hlt
    refine lp Nat (fun k => [(5, .int .i64 (k : Nat)), (3, .sl 21000)]) (fun k => [.row 21000 2 1 (.int .i64) (addTo (sumsTo p.2.1 i) (wAt p.2.1 i).2.2.2.2 k) []]) (fun k => 7 - k) (fun k => k ≤ 7) 0 (Nat.zero_le _) ?_ ?_
    · exact hd [(21000, 20000)] rfl (And.intro (And.intro rfl rfl) (And.intro rfl trivial)) ⟨⟨(addTo_zero _ _ (sumsTo_len _ _)).symm, List.nil_prefix⟩, trivial⟩
    intro k hk
    have e7 := addTo_len (sumsTo p.2.1 i) (wAt p.2.1 i).2.2.2.2 k
    refine And.intro (fun q2 => ?_) (fun q2 => ?_)
    · have hkt : k < 7 := by have q3 := lt_of (k := k) (n := (addTo (sumsTo p.2.1 i) (wAt p.2.1 i).2.2.2.2 k).length) q2; rwa [e7] at q3
      have hk1 : 0 ≤ ((k : Nat) : Int) ∧ ((k : Nat) : Int) < ((addTo (sumsTo p.2.1 i) (wAt p.2.1 i).2.2.2.2 k).length : Nat) := by rw [e7]; omega
      have hk2 : 0 ≤ ((k : Nat) : Int) ∧ ((k : Nat) : Int) < ((wAt p.2.1 i).2.2.2.2.length : Nat) := by rw [h7]; omega
      refine And.intro hk1 ?_
      refine And.intro hii ?_
      refine And.intro hk2 ?_
      refine And.intro hk1 ?_
      refine And.intro (by kernel_rfl) ?_
      refine lp_next (k + 1) hkt ?_ ?_
      · refine hd [(21000, 21000)] rfl (And.intro (And.intro (wrapS (by omega)) rfl) (And.intro rfl trivial)) ⟨⟨?_, List.nil_prefix⟩, trivial⟩
        exact addTo_set _ _ k hkt
      · show 7 - (k + 1) < 7 - k
        omega
    · have hge : k = 7 := by have q3 := ge_of (k := k) (n := (addTo (sumsTo p.2.1 i) (wAt p.2.1 i).2.2.2.2 k).length) q2; rw [e7] at q3; have hk' : k ≤ 7 := hk; omega
      subst hge
      refine lp_next (i + 1) hlt ?_ ?_
      · exact hd [(20000, 21000)] rfl (And.intro (And.intro (wrapS (by omega)) rfl) (And.intro rfl trivial)) ⟨⟨rfl, List.nil_prefix⟩, trivial⟩
      · show p.2.1.length - (i + 1) < p.2.1.length - i
        omega
  · have hge : p.2.1.length ≤ i := ge_of q1
    have hie : i = p.2.1.length := by omega
    subst hie
    refine fin [(10000, 20000)] (And.intro rfl ?_)
    exact ⟨⟨rfl, List.nil_prefix⟩, trivial⟩
theorem okSumI : callOk Tryz.prog 76 = true := by kernel_rfl
set_option maxRecDepth 100000 in
theorem sumsI (p : NPool) (hl : p.2.1.length ≤ 1048576) (hc : ∀ i, i < p.2.1.length → (wAt p.2.1 i).2.2.2.2.length = 7) : FCall Tryz.prog 76 [.rp uPool p] [] (.sl 10000) [.row 10000 2 1 (.int .i64) (sumsTo p.2.1 p.2.1.length) []] := by
  refine FCall.intro (nt := 36) ti_ok mixed okSumI Tryz.func76 rfl rfl rfl rfl rfl rfl ?_
  refine And.intro ⟨by decide, by decide, by decide⟩ ?_
  refine lp Nat (fun i => [(14, .int .i64 (i : Nat)), (3, .sl 20000)]) (fun i => [.row 20000 2 1 (.int .i64) (sumsTo p.2.1 i) []]) (fun i => p.2.1.length - i) (fun i => i ≤ p.2.1.length) 0 (Nat.zero_le _) ?_ ?_
  · exact hd [(20000, 8)] rfl (And.intro (And.intro rfl rfl) (And.intro rfl trivial)) ⟨⟨rfl, List.nil_prefix⟩, trivial⟩
  intro i hi
  refine And.intro (fun q1 => ?_) (fun q1 => ?_)
  · have hlt : i < p.2.1.length := lt_of q1
    have hii : 0 ≤ ((i : Nat) : Int) ∧ ((i : Nat) : Int) < (p.2.1.length : Nat) := by omega
    have h7 := hc i hlt
    refine And.intro hii ?_
    refine lp Nat (fun k => [(21, .int .i64 (k : Nat)), (3, .sl 21000)]) (fun k => [.cel 5 85 [.int .i64 (wAt p.2.1 i).1, .int .i64 (wAt p.2.1 i).2.1, .rsl uPort (wAt p.2.1 i).2.2.1, .rsl uLink (wAt p.2.1 i).2.2.2.1, .rsl (.int .i64) (wAt p.2.1 i).2.2.2.2], .row 21000 2 1 (.int .i64) (addTo (sumsTo p.2.1 i) (wAt p.2.1 i).2.2.2.2 k) []]) (fun k => 7 - k) (fun k => k ≤ 7) 0 (Nat.zero_le _) ?_ ?_
    · exact hd [(21000, 20000)] rfl (And.intro (And.intro rfl rfl) (And.intro rfl trivial)) ⟨trivial, ⟨⟨rfl, rfl⟩, ⟨rfl, rfl⟩, rfl, rfl, rfl, trivial⟩, ⟨(addTo_zero _ _ (sumsTo_len _ _)).symm, List.nil_prefix⟩, trivial⟩
    intro k hk
    have e7 := addTo_len (sumsTo p.2.1 i) (wAt p.2.1 i).2.2.2.2 k
    refine And.intro (fun q2 => ?_) (fun q2 => ?_)
    · have hkt : k < 7 := by have q3 := lt_of (k := k) (n := (wAt p.2.1 i).2.2.2.2.length) q2; rwa [h7] at q3
      have hk1 : 0 ≤ ((k : Nat) : Int) ∧ ((k : Nat) : Int) < ((addTo (sumsTo p.2.1 i) (wAt p.2.1 i).2.2.2.2 k).length : Nat) := by rw [e7]; omega
      have hk2 : 0 ≤ ((k : Nat) : Int) ∧ ((k : Nat) : Int) < ((wAt p.2.1 i).2.2.2.2.length : Nat) := by rw [h7]; omega
      refine And.intro hk2 ?_
      refine And.intro hk1 ?_
      refine And.intro hk1 ?_
      refine lp_next (k + 1) hkt ?_ ?_
      · refine hd [(21000, 21000)] rfl (And.intro (And.intro (wrapS (by omega)) rfl) (And.intro rfl trivial)) ⟨trivial, ⟨⟨rfl, rfl⟩, ⟨rfl, rfl⟩, rfl, rfl, rfl, trivial⟩, ⟨?_, List.nil_prefix⟩, trivial⟩
        exact addTo_set _ _ k hkt
      · show 7 - (k + 1) < 7 - k
        omega
    · have hge : k = 7 := by have q3 := ge_of (k := k) (n := (wAt p.2.1 i).2.2.2.2.length) q2; rw [h7] at q3; have hk' : k ≤ 7 := hk; omega
      subst hge
      refine lp_next (i + 1) hlt ?_ ?_
      · exact hd [(20000, 21000)] rfl (And.intro (And.intro (wrapS (by omega)) rfl) (And.intro rfl trivial)) ⟨⟨rfl, List.nil_prefix⟩, trivial⟩
      · show p.2.1.length - (i + 1) < p.2.1.length - i
        omega
  · have hge : p.2.1.length ≤ i := ge_of q1
    have hie : i = p.2.1.length := by omega
    subst hie
    refine fin [(10000, 20000)] (And.intro rfl ?_)
    exact ⟨⟨rfl, List.nil_prefix⟩, trivial⟩
def poolCountsN (p : NPool) : List Int × Int := bif poolS p then (bif countsB (sumsTo p.2.1 p.2.1.length) then (sumsTo p.2.1 p.2.1.length, 0) else ([], 2)) else ([], 1)
theorem poolS_counts {p : NPool} (h : poolS p = true) {i : Nat} (hi : i < p.2.1.length) : (wAt p.2.1 i).2.2.2.2.length = 7 := by
  unfold poolS poolPre at h
  simp only [Bool.and_eq_true] at h
  exact counts_len h.1.1.2 hi
theorem okPCS : callOk Tryz.prog 30 = true := by kernel_rfl
set_option maxRecDepth 100000 in
theorem poolCountsSQ (p : NPool) (hs : PoolSm p) : FCall Tryz.prog 30 [vPool p] [] (.tup [.sl 10000, .int .i64 (poolCountsN p).2]) [.row 10000 2 1 (.int .i64) (poolCountsN p).1 []] := by
  refine FCall.intro (nt := 12) ti_ok mixed okPCS Tryz.func30 rfl rfl rfl rfl rfl rfl ?_
  refine Or.inr (Exists.intro _ (Exists.intro _ (And.intro (FCall.of_q ti_ok [80] okOk24 (ok24 p hs) rfl) ?_)))
  refine And.intro (fun q1 => ?_) (fun q1 => ?_)
  · have a1 : poolS p = false := Eq.mp (Bool.not_eq_true' _) q1
    have e : poolCountsN p = ([], 1) := by unfold poolCountsN; rw [a1]; rfl
    rw [e]
    exact finm [⟨2, 30000, 2, 1, .int .i64⟩] [(10000, 30000)] (And.intro rfl ⟨⟨rfl, List.nil_prefix⟩, trivial⟩)
  have a1 : poolS p = true := Eq.mp (Bool.not_eq_false' _) q1
  refine Or.inr (Exists.intro _ (Exists.intro _ (And.intro (FCall.of_f (r2 := .sl 10001) (ts2 := [.row 10001 2 1 (.int .i64) (sumsTo p.2.1 p.2.1.length) []]) ti_ok [80] okCntS (sumsS p hs.workers fun i hi => poolS_counts a1 hi) rfl rfl rfl) ?_)))
  refine Or.inr (Exists.intro _ (Exists.intro _ (And.intro (FCall.of_q ti_ok [48] okCountsS (countsS (sumsTo p.2.1 p.2.1.length) (by rw [sumsTo_len]; decide)) rfl) ?_)))
  refine And.intro (fun q2 => ?_) (fun q2 => ?_)
  · have a2 : countsB (sumsTo p.2.1 p.2.1.length) = false := Eq.mp (Bool.not_eq_true' _) q2
    have e : poolCountsN p = ([], 2) := by unfold poolCountsN; rw [a1, a2]; rfl
    rw [e]
    exact finm [⟨2, 30000, 2, 1, .int .i64⟩] [(10000, 30000)] (And.intro rfl ⟨⟨rfl, List.nil_prefix⟩, trivial⟩)
  · have a2 : countsB (sumsTo p.2.1 p.2.1.length) = true := Eq.mp (Bool.not_eq_false' _) q2
    have e : poolCountsN p = (sumsTo p.2.1 p.2.1.length, 0) := by unfold poolCountsN; rw [a1, a2]; rfl
    rw [e]
    exact fin [(10000, 7)] (And.intro rfl ⟨⟨rfl, List.nil_prefix⟩, trivial⟩)
theorem okPCI : callOk Tryz.prog 31 = true := by kernel_rfl
set_option maxRecDepth 100000 in
theorem poolCountsIQ (p : NPool) (hs : PoolSm p) : FCall Tryz.prog 31 [vPool p] [] (.tup [.sl 10000, .int .i64 (poolCountsN p).2]) [.row 10000 2 1 (.int .i64) (poolCountsN p).1 []] := by
  refine FCall.intro (nt := 13) ti_ok mixed okPCI Tryz.func31 rfl rfl rfl rfl rfl rfl ?_
  refine Or.inl (Exists.intro _ (And.intro (validPoolI p hs) ?_))
  rw [← pool_eq]
  refine And.intro (fun q1 => ?_) (fun q1 => ?_)
  · have a1 : poolS p = false := Eq.mp (Bool.not_eq_true' _) q1
    have e : poolCountsN p = ([], 1) := by unfold poolCountsN; rw [a1]; rfl
    rw [e]
    exact finm [⟨2, 30000, 2, 1, .int .i64⟩] [(10000, 30000)] (And.intro rfl ⟨⟨rfl, List.nil_prefix⟩, trivial⟩)
  have a1 : poolS p = true := Eq.mp (Bool.not_eq_false' _) q1
  refine Or.inr (Exists.intro _ (Exists.intro _ (And.intro (FCall.of_f (r2 := .sl 10001) (ts2 := [.row 10001 2 1 (.int .i64) (sumsTo p.2.1 p.2.1.length) []]) ti_ok [80] okSumI (sumsI p hs.workers fun i hi => poolS_counts a1 hi) rfl rfl rfl) ?_)))
  refine Or.inr (Exists.intro _ (Exists.intro _ (And.intro (FCall.of_q ti_ok [48] okVCt (countsI (sumsTo p.2.1 p.2.1.length) (by rw [sumsTo_len]; decide)) rfl) ?_)))
  refine And.intro (fun q2 => ?_) (fun q2 => ?_)
  · have a2 : countsB (sumsTo p.2.1 p.2.1.length) = false := Eq.mp (Bool.not_eq_true' _) q2
    have e : poolCountsN p = ([], 2) := by unfold poolCountsN; rw [a1, a2]; rfl
    rw [e]
    exact finm [⟨2, 30000, 2, 1, .int .i64⟩] [(10000, 30000)] (And.intro rfl ⟨⟨rfl, List.nil_prefix⟩, trivial⟩)
  · have a2 : countsB (sumsTo p.2.1 p.2.1.length) = true := Eq.mp (Bool.not_eq_false' _) q2
    have e : poolCountsN p = (sumsTo p.2.1 p.2.1.length, 0) := by unfold poolCountsN; rw [a1, a2]; rfl
    rw [e]
    exact fin [(10000, 8)] (And.intro rfl ⟨⟨rfl, List.nil_prefix⟩, trivial⟩)
end Go.Proofs.YthciaodffkbljaaGreat

/- The contracts of pools' counts for the law. -/
set_option linter.unusedSimpArgs false
set_option linter.unusedVariables false
namespace Go.Tr
open Go Go.RowKit
universe u
theorem encs_len {u : U} : ∀ xs : List (El u), (List.flatMap (enc u) xs).length = xs.length * u.size
  | [] => by simp
  | x :: xs => by rw [List.flatMap_cons, List.length_append, enc_len, encs_len xs, List.length_cons, Nat.add_mul]; omega
/-- One row that a call leaves as its own. -/
theorem Inv.row1 {cx : Cx} {β : Nat → Value} {w : World} {g : Nat} {t : TypeId} {s : Nat} {u : U} {xs : List (El u)} {us : List Value} (h : Inv cx.w0 [] w [Tok.res cx β (.row g t s u xs us)]) :
    ∃ A c q, β g = .slice A (List.length (α := El u) xs) c ∧ T1 w (.sl (List.length (α := El u) xs) (List.flatMap (enc u) xs)) q (.slice A (List.length (α := El u) xs) c) ∧ Own cx.w0.heap.size w q := by
  obtain ⟨G, ⟨F, G', rfl, ⟨hs, bs, raw, rfl, hg, _⟩, rfl, _⟩, h3⟩ := h.sep
  obtain ⟨A, c, q, h1, h2, h4, h5⟩ := hg.resF (by subst hs; exact encs_len xs)
  exact ⟨A, c, q, h1, h2, h4.1, fun b hb => ⟨(h3 b (by simpa using h5 b hb)).elim (fun h => by simp at h) id, (h4.2 b hb).2⟩⟩
end Go.Tr
namespace Go.Proofs.YthciaodffkbljaaGreat
open Go Go.RowKit Go.Proofs Go.Tr
def poolCounts (x : GPool) : List Int × Int := poolCountsN (nPool x)
theorem counts_of {f : Nat} {x : GPool} {p0 : List Nat} {u0 : List Value} {r0 : List Int} {r1 : Int} (hR : (r0, r1) = poolCounts x) (w : World) (h0 : TN w x.enc p0 u0) (hf : FCall Tryz.prog f [vPool (nPool x)] [] (.tup [.sl 10000, .int .i64 (poolCountsN (nPool x)).2]) [.row 10000 2 1 (.int .i64) (poolCountsN (nPool x)).1 []]) :
    Calls Tryz.prog f #[.agg u0.toArray] w fun e w' => ∃ (B0 : Option Addr) (d0 : Nat) (q0 : List Nat), e = .returned (.tuple #[.slice B0 r0.length d0, .int .i64 r1]) ∧ Ext w w' ∧ T1 w' (.sl r0.length (r0.flatMap intE)) q0 (.slice B0 r0.length d0) ∧ Own w.heap.size w' (q0) := by
  have e : poolCountsN (nPool x) = (r0, r1) := hR.symm
  rw [e] at hf
  refine (hf.2 ⟨w, []⟩ (fun _ => undef) w [] [.agg u0.toArray] (Inv.start0 w) ?_).mono ?_
  · unfold Dens
    refine ⟨_, _, rfl, ?_, by unfold Dens; rfl⟩
    unfold Den
    refine ⟨u0, rfl, svOf_ok uPool (nPool x) (RoN.of (bs := p0) ?_)⟩
    rw [encPool]; exact h0
  rintro e' w' ⟨v, β', rfl, _, hd, hI⟩
  have hI' : Inv (Cx.mk w []).w0 [] w' [Tok.res ⟨w, []⟩ β' (.row 10000 2 1 (.int .i64) r0 [])] := by simpa using hI
  obtain ⟨A, c, q, k1, k2, k3⟩ := hI'.row1
  unfold Den at hd
  obtain ⟨vs, rfl, hd⟩ := hd
  unfold Dens at hd
  obtain ⟨v1, vs1, rfl, hd1, hd⟩ := hd
  unfold Dens at hd
  obtain ⟨v2, vs2, rfl, hd2, hd⟩ := hd
  unfold Dens at hd
  subst hd
  unfold Den at hd1 hd2
  obtain ⟨rfl, _⟩ := hd1
  subst hd2
  refine ⟨A, c, q, ?_, hI.to_ext, ?_, k3⟩
  · rw [k1]
  · rw [← enc_ints]; exact k2
theorem poolCountsS_any (a0 : GPool) {p0 : List Nat} {u0 : List Value} (r0 : (List Int)) (r1 : Int) (hR : (r0, r1) = poolCounts a0) (w : World) (h0 : TN w a0.enc p0 u0) (hs : a0.small) : Calls Tryz.prog 30 #[.agg u0.toArray] w fun e w' => ∃ (B0 : Option Addr) (d0 : Nat) (q0 : List Nat), e = .returned (.tuple #[.slice B0 r0.length d0, .int .i64 r1]) ∧ Ext w w' ∧ T1 w' (.sl r0.length (r0.flatMap intE)) q0 (.slice B0 r0.length d0) :=
  (counts_of hR w h0 (poolCountsSQ _ (pool_sm hs))).mono fun _ _ ⟨B, d, q, h1, h2, h3, _⟩ => ⟨B, d, q, h1, h2, h3⟩
theorem poolCountsI_any (a0 : GPool) {p0 : List Nat} {u0 : List Value} (r0 : (List Int)) (r1 : Int) (hR : (r0, r1) = poolCounts a0) (w : World) (h0 : TN w a0.enc p0 u0) (hs : a0.small) : Calls Tryz.prog 31 #[.agg u0.toArray] w fun e w' => ∃ (B0 : Option Addr) (d0 : Nat) (q0 : List Nat), e = .returned (.tuple #[.slice B0 r0.length d0, .int .i64 r1]) ∧ Ext w w' ∧ T1 w' (.sl r0.length (r0.flatMap intE)) q0 (.slice B0 r0.length d0) ∧ Own w.heap.size w' (q0) :=
  counts_of hR w h0 (poolCountsIQ _ (pool_sm hs))
theorem poolCounts_small (a0 : GPool) (r0 : List Int) (r1 : Int) (h : (r0, r1) = poolCounts a0) (_ : a0.small) : cN (r0.flatMap intE) ≤ 1099511627776 := by
  rw [cN_ints]
  unfold poolCounts poolCountsN at h
  have : r0.length ≤ 7 := by
    cases hp : poolS (nPool a0) with
    | false => rw [hp] at h; rw [(Prod.mk.inj h).1]; decide
    | true =>
      rw [hp] at h
      cases hc : countsB (sumsTo (nPool a0).2.1 (nPool a0).2.1.length) with
      | false => rw [hc] at h; rw [(Prod.mk.inj h).1]; decide
      | true => rw [hc] at h; rw [(Prod.mk.inj h).1]; exact Nat.le_of_eq (sumsTo_len _ _)
  omega
end Go.Proofs.YthciaodffkbljaaGreat
