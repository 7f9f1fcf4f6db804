/- Core terms: Normalize of both sides. -/
import Derived.Test.YtieemijapiiiiaaGreatPm
import Derived.Test.YtieemijapiiiiaaGreatOb
set_option linter.unusedSimpArgs false
set_option linter.unusedVariables false
namespace Go.Tr
open Go Go.RowKit
/-- One contraction of this kind more. -/
def bump (l : List Int) (k : Int) : List Int := l.set (k - 1).toNat (elt (0 : Int) l (k - 1) + 1)
/-- Steps until none is left. -/
def normR : Nat → Bok → Cor → List Int → Cor × List Int × Int
  | 0, b, c, l => bif (stepR b c).2 == 0 then (c, l, 0) else (zeroC, [], 12)
  | n + 1, b, c, l => bif (stepR b c).2 == 0 then (c, l, 0) else bif okC (stepR b c).1 then normR n b (stepR b c).1 (bump l (stepR b c).2) else (zeroC, [], 4)
/-- What Normalize gives. -/
def resNorm (b : Bok) (c : Cor) (n : Int) : Cor × List Int × Int :=
  bif stOk b c then bif inC n 0 2000 then normR n.toNat b c [0, 0, 0, 0] else (zeroC, [], 2) else (zeroC, [], 1)
/-- Four counts, none above so many. -/
structure Cnt4 (l : List Int) (m : Nat) : Prop where
  len : l.length = 4
  lo : ∀ x ∈ l, 0 ≤ x ∧ x ≤ (m : Nat)
theorem Cnt4.zero : Cnt4 [0, 0, 0, 0] 0 := ⟨rfl, by simp⟩
theorem Cnt4.bump {l : List Int} {m : Nat} (h : Cnt4 l m) {k : Int} (hk : k = 1 ∨ k = 2 ∨ k = 3 ∨ k = 4) : Cnt4 (bump l k) (m + 1) := by
  have hl := h.len
  obtain ⟨j, hj, hj4⟩ : ∃ j : Nat, k - 1 = (j : Nat) ∧ j < 4 := ⟨(k - 1).toNat, by omega, by omega⟩
  refine ⟨by unfold Tr.bump; rw [List.length_set, hl], fun x hx => ?_⟩
  unfold Tr.bump at hx
  rcases List.mem_or_eq_of_mem_set hx with hx | rfl
  · have := h.lo x hx; omega
  · rw [hj]
    have hj' : j < l.length := by omega
    have := h.lo _ (List.getElem_mem hj')
    have e : (elt (0 : Int) l ((j : Nat) : Int)) = l[j] := eltN hj'
    omega
theorem Cnt4.at {l : List Int} {m : Nat} (h : Cnt4 l m) {k : Int} (hk : k = 1 ∨ k = 2 ∨ k = 3 ∨ k = 4) : 0 ≤ elt (0 : Int) l (k - 1) ∧ elt (0 : Int) l (k - 1) ≤ (m : Nat) := by
  have hl := h.len
  obtain ⟨j, hj, hj4⟩ : ∃ j : Nat, k - 1 = (j : Nat) ∧ j < 4 := ⟨(k - 1).toNat, by omega, by omega⟩
  have hj' : j < l.length := by omega
  have := h.lo _ (List.getElem_mem hj')
  have e : (elt (0 : Int) l ((j : Nat) : Int)) = l[j] := eltN hj'
  rw [hj, e]
  exact this
theorem norm_cnt : ∀ (n : Nat) (b : Bok) (c : Cor) (l : List Int), stOk b c = true → (okC (normR n b c l).1 = true ∨ (normR n b c l).1 = zeroC) ∧ ((normR n b c l).2.1 = [] ∨ l.length = (normR n b c l).2.1.length)
  | 0, b, c, l, h => by
    rw [normR]
    cases (stepR b c).2 == 0 with
    | true => exact ⟨Or.inl (stOk_term h).1, Or.inr rfl⟩
    | false => exact ⟨Or.inr rfl, Or.inl rfl⟩
  | n + 1, b, c, l, h => by
    rw [normR]
    cases hz : (stepR b c).2 == 0 with
    | true => exact ⟨Or.inl (stOk_term h).1, Or.inr rfl⟩
    | false =>
      cases ho : okC (stepR b c).1 with
      | false => exact ⟨Or.inr rfl, Or.inl rfl⟩
      | true =>
        have h2 : stOk b (stepR b c).1 = true := by
          rcases st_rel h with ⟨h1, _⟩ | ⟨t, k, h1, _, ⟨_, _, h3⟩ | ⟨h3, _⟩⟩
          · rw [h1] at hz; cases hz
          · rw [h1]; exact h3
          · rw [h1, h3] at ho; cases ho
        have := norm_cnt n b _ (bump l (stepR b c).2) h2
        unfold bump at this ⊢
        rw [List.length_set] at this
        exact this
theorem inC_neg (n : Int) : inC n 0 2000 = !(bif decide (n < 0) then true else decide ((2000 : Int) < n)) := by
  unfold inC
  by_cases h : n < 0
  · rw [decide_eq_true h, decide_eq_false (by omega : ¬ (0 : Int) ≤ n)]; rfl
  · rw [decide_eq_false h, decide_eq_true (by omega : (0 : Int) ≤ n)]
    show decide (n ≤ 2000) = !decide (2000 < n)
    by_cases h2 : n ≤ 2000
    · rw [decide_eq_true h2, decide_eq_false (by omega : ¬ (2000 : Int) < n)]; rfl
    · rw [decide_eq_false h2, decide_eq_true (by omega : (2000 : Int) < n)]; rfl
/-- Between two steps: what is left of the budget, the term, the counts. -/
structure NInv (b : Bok) (R : Cor × List Int × Int) (m : Nat) (s : Nat × Cor × List Int) : Prop where
  ok : stOk b s.2.1 = true
  le : s.1 ≤ m
  cnt : Cnt4 s.2.2 (m - s.1)
  eq : normR s.1 b s.2.1 s.2.2 = R
theorem norm_code : ∀ (n : Nat) (b : Bok) (c : Cor) (l : List Int), (normR n b c l).2.2 = 0 ∨ ((normR n b c l).1 = zeroC ∧ (normR n b c l).2.1 = [] ∧ (normR n b c l).2.2 ≠ 0)
  | 0, b, c, l => by
    rw [normR]
    cases (stepR b c).2 == 0 with
    | true => exact Or.inl rfl
    | false => exact Or.inr ⟨rfl, rfl, fun q => by cases q⟩
  | n + 1, b, c, l => by
    rw [normR]
    cases (stepR b c).2 == 0 with
    | true => exact Or.inl rfl
    | false =>
      cases okC (stepR b c).1 with
      | false => exact Or.inr ⟨rfl, rfl, fun q => by cases q⟩
      | true => exact norm_code n b _ _
theorem NInv.done {b : Bok} {R : Cor × List Int × Int} {m : Nat} {s : Nat × Cor × List Int} (h : NInv b R m s) (h1 : stepR b s.2.1 = (s.2.1, 0)) : R = (s.2.1, s.2.2, 0) := by
  have := h.eq
  obtain ⟨n, c, l⟩ := s
  cases n with
  | zero => rw [normR, h1] at this; exact this.symm
  | succ n => rw [normR, h1] at this; exact this.symm
theorem NInv.spent {b : Bok} {R : Cor × List Int × Int} {m : Nat} {c : Cor} {l : List Int} (h : NInv b R m (0, c, l)) {t : Cor} {k : Int} (h1 : stepR b c = (t, k)) (hk : k = 1 ∨ k = 2 ∨ k = 3 ∨ k = 4) : R = (zeroC, [], 12) := by
  have := h.eq
  rw [normR, h1] at this
  have hk0 : (k == 0) = false := by rw [beq_eq_false_iff_ne]; omega
  rw [show ((t, k) : Cor × Int).2 = k from rfl, hk0] at this
  exact this.symm
theorem NInv.full {b : Bok} {R : Cor × List Int × Int} {m n : Nat} {c : Cor} {l : List Int} (h : NInv b R m (n + 1, c, l)) {t : Cor} {k : Int} (h1 : stepR b c = (t, k)) (hk : k = 1 ∨ k = 2 ∨ k = 3 ∨ k = 4) (ho : okC t = false) : R = (zeroC, [], 4) := by
  have := h.eq
  rw [normR, h1] at this
  have hk0 : (k == 0) = false := by rw [beq_eq_false_iff_ne]; omega
  rw [show ((t, k) : Cor × Int).2 = k from rfl, show ((t, k) : Cor × Int).1 = t from rfl, hk0, ho] at this
  exact this.symm
theorem NInv.next {b : Bok} {R : Cor × List Int × Int} {m n : Nat} {c : Cor} {l : List Int} (h : NInv b R m (n + 1, c, l)) {t : Cor} {k : Int} (h1 : stepR b c = (t, k)) (hk : k = 1 ∨ k = 2 ∨ k = 3 ∨ k = 4) (ho : okC t = true) (hs : stOk b t = true) : NInv b R m (n, t, bump l k) := by
  have := h.eq
  rw [normR, h1] at this
  have hk0 : (k == 0) = false := by rw [beq_eq_false_iff_ne]; omega
  rw [show ((t, k) : Cor × Int).2 = k from rfl, show ((t, k) : Cor × Int).1 = t from rfl, hk0, ho] at this
  have hle : n + 1 ≤ m := h.le
  have hc := h.cnt.bump hk
  have e : m - (n + 1) + 1 = m - n := by omega
  rw [show ((n + 1, c, l) : Nat × Cor × List Int).1 = n + 1 from rfl, e] at hc
  exact ⟨hs, by show n ≤ m; omega, hc, this⟩
end Go.Tr
namespace Go.Proofs.YtieemijapiiiiaaGreat
open Go Go.RowKit Go.Proofs Go.Tr
/-- A term of the call's own, four counts of its own, a code. -/
def NRes (f : Nat) (args : List SV) (R : Cor × List Int × Int) : Prop :=
  ((R.1 = zeroC ∧ R.2.1 = []) ∧ (FCall Tryz.prog f args [] (.tup [.agg zRaw, .raw (.slice none 0 0), .int .i64 R.2.2]) [] ∨ FCall Tryz.prog f args [] (.tup [.agg zRaw, .sl 10000, .int .i64 R.2.2]) [.row 10000 2 1 (.int .i64) [] []])) ∨
    FCall Tryz.prog f args [] (.tup [.agg (cOwn R.1), .sl 10002, .int .i64 R.2.2]) (tCop R.1 ++ [.row 10002 2 1 (.int .i64) R.2.1 []])
theorem okNoC : callOk Tryz.prog 17 = true := by kernel_rfl
set_option maxHeartbeats 1000000 in
set_option maxRecDepth 100000 in
theorem noCI (b : Bok) (c : Cor) (n : Int) (hb : ∀ d ∈ b, sizT d ≤ 2000000) (hc : sizT c ≤ 2000000) : NRes 17 [.agg [.rsl uCor b], .agg (cSV c), .int .i64 n] (resNorm b c n) := by
  cases hst : stOk b c with
  | false =>
    rw [show resNorm b c n = (zeroC, [], 1) by unfold resNorm; rw [hst]; rfl]
    refine Or.inl ⟨⟨rfl, rfl⟩, Or.inl (FCallG.f ?_ rfl)⟩
    refine FCallG.intro (nt := 56) ti_ok mixed okNoC Tryz.func17 rfl rfl rfl rfl rfl rfl ?_
    refine Or.inl (Exists.intro _ (And.intro (msQ b c hb hc) ?_))
    refine And.intro (fun _ => ?_) (fun q => by rw [hst] at q; cases q)
    refine fin [] (And.intro rfl ?_)
    exact trivial
  | true =>
    obtain ⟨hbk, hlen⟩ := stOk_book hst
    have hbk2 := stOk_defs hst
    cases hin : inC n 0 2000 with
    | false =>
      rw [show resNorm b c n = (zeroC, [], 2) by unfold resNorm; rw [hst, hin]; rfl]
      refine Or.inl ⟨⟨rfl, rfl⟩, Or.inl (FCallG.f ?_ rfl)⟩
      refine FCallG.intro (nt := 56) ti_ok mixed okNoC Tryz.func17 rfl rfl rfl rfl rfl rfl ?_
      refine Or.inl (Exists.intro _ (And.intro (msQ b c hb hc) ?_))
      refine And.intro (fun q => by rw [hst] at q; cases q) (fun _ => ?_)
      refine And.intro (fun _ => ?_) (fun q => ?_)
      · refine fin [] (And.intro rfl ?_)
        exact trivial
      · exfalso
        have q' : (bif decide (n < 0) then true else decide ((2000 : Int) < n)) = false := q
        rw [inC_neg, q'] at hin
        cases hin
    | true =>
      have hn0 : 0 ≤ n ∧ n ≤ 2000 := inC_iff.1 hin
      obtain ⟨m, rfl⟩ : ∃ m : Nat, n = (m : Nat) := ⟨n.toNat, by omega⟩
      rw [show resNorm b c (m : Nat) = normR m b c [0, 0, 0, 0] by unfold resNorm; rw [hst, hin]; rfl]
      have hno : ∀ {N : Prop}, (bif decide (((m : Nat) : Int) < 0) then true else decide ((2000 : Int) < ((m : Nat) : Int))) = true → N := fun q => by
        have := inC_neg ((m : Nat) : Int)
        rw [hin, q] at this
        cases this
      have hcode := norm_code m b c [0, 0, 0, 0]
      obtain ⟨R, hR⟩ : ∃ R, R = normR m b c [0, 0, 0, 0] := ⟨_, rfl⟩
      rcases hcode with hcode | ⟨hz1, hz2, hcode⟩
      · rw [show normR m b c [0, 0, 0, 0] = R from hR.symm] at hcode ⊢
        refine Or.inr (FCallG.f ?_ rfl)
        refine FCallG.intro (nt := 56) ti_ok mixed okNoC Tryz.func17 rfl rfl rfl rfl rfl rfl ?_
        refine Or.inl (Exists.intro _ (And.intro (msQ b c hb hc) ?_))
        refine And.intro (fun q => by rw [hst] at q; cases q) (fun _ => ?_)
        refine And.intro (fun q => hno q) (fun _ => ?_)
        refine And.intro (by omega) ?_
        refine lp (Nat × Cor × List Int) (fun s => [(2, .int .i64 (s.1 : Nat)), (9, .sl 24)]) (fun s => [.row 24 2 1 (.int .i64) s.2.2 [], .cel 6 32 zRaw, .cel 4 32 (cSV s.2.1), .cel 3 36 [.rsl uCor b]]) (fun s => s.1) (NInv b R m) (m, c, [0, 0, 0, 0]) ⟨hst, Nat.le_refl _, by show Cnt4 _ (m - m); rw [Nat.sub_self]; exact Cnt4.zero, hR.symm⟩ ?_ ?_
        · exact Go.Tr.hd [] rfl (And.intro ⟨rfl, rfl⟩ (And.intro rfl trivial)) ⟨⟨rfl, List.nil_prefix⟩, trivial, ⟨⟨rfl, rfl⟩, ⟨rfl, rfl⟩, rfl, rfl, trivial⟩, trivial, ⟨⟨rfl, rfl⟩, ⟨rfl, rfl⟩, rfl, rfl, trivial⟩, trivial, ⟨rfl, trivial⟩, trivial⟩
        rintro ⟨j, d, l⟩ hI
        obtain ⟨hod, hp⟩ := stOk_term hI.ok
        have hsd : sizT d ≤ 400 := (okC_iff.1 hod).2.2
        have hsg := stepG b d hp.g hsd hp.nm
        have hjm : j ≤ m := hI.le
        rcases st_rel hI.ok with ⟨h1, _⟩ | ⟨t, k, h1, hk, h2⟩
        · have hd := hI.done h1
          have h1 : stepR b d = (d, 0) := h1
          rw [h1] at hsg
          rw [hd]
          refine Or.inr (Or.inr (Exists.intro _ (Exists.intro _ (And.intro hsg ?_))))
          refine And.intro (fun _ => ?_) (fun q => by cases q)
          refine Or.inr (Or.inl (Exists.intro _ (Exists.intro _ (And.intro (copyF d hp.g) ?_))))
          refine fin [(10000, 35), (10001, 1000035), (10002, 24)] (And.intro rfl ?_)
          exact ⟨⟨rfl, List.nil_prefix⟩, ⟨rfl, List.nil_prefix⟩, ⟨rfl, List.nil_prefix⟩, trivial⟩
        · have h1 : stepR b d = (t, k) := h1
          have hT : Go.Tr.stepT b d = some (t, k) := by
            unfold stepR at h1
            cases h : Go.Tr.stepT b d with
            | none => rw [h] at h1; have h1 : (d, (0 : Int)) = (t, k) := h1; injection h1 with _ h1; omega
            | some r => rw [h] at h1; exact congrArg some h1
          rw [h1] at hsg
          have hk0 : (k == 0) = false := by rw [beq_eq_false_iff_ne]; omega
          have hv : QCall _ _ _ _ := validQ t (by have := step_siz hbk2 d hod hp hT; omega)
          cases j with
          | zero =>
            have hd := hI.spent h1 hk
            rw [hd] at hcode; cases hcode
          | succ j =>
            have hj0 : (((j + 1 : Nat) : Int) == 0) = false := by rw [beq_eq_false_iff_ne]; omega
            rcases h2 with ⟨h2, _, h3⟩ | ⟨h2, _⟩
            · have hn := hI.next h1 hk h2 h3
              have hc4 : 0 ≤ elt (0 : Int) l (k - 1) ∧ elt (0 : Int) l (k - 1) ≤ ((m - (j + 1) : Nat) : Int) := hI.cnt.at hk
              have hlen : l.length = 4 := hI.cnt.len
              refine Or.inr (Or.inr (Exists.intro _ (Exists.intro _ (And.intro hsg ?_))))
              refine And.intro (fun q => by rw [hk0] at q; cases q) (fun _ => ?_)
              refine And.intro (fun q => by have q : (((j + 1 : Nat) : Int) == 0) = true := q; rw [hj0] at q; cases q) (fun _ => ?_)
              refine Or.inl (Exists.intro _ (And.intro hv ?_))
              refine And.intro (fun q => by rw [h2] at q; cases q) (fun _ => ?_)
              conv => whnf
              have hw : IntKind.i64.wrap ((t, k).2 - 1) = k - 1 := IntWalk.i64_in _ (by show _ ≤ k - 1 ∧ k - 1 ≤ _; omega)
              refine And.intro (by rw [hw]; show 0 ≤ k - 1 ∧ k - 1 < (l.length : Nat); omega) ?_
              conv => whnf
              refine And.intro (by rw [hw]; show 0 ≤ k - 1 ∧ k - 1 < (l.length : Nat); omega) ?_
              refine lp_next (j, t, bump l k) hn ?_ (Nat.lt_succ_self j)
              have hj1 : IntKind.i64.wrap (((j + 1 : Nat) : Int) - 1) = (j : Nat) := by rw [IntWalk.i64_in _ (by omega)]; omega
              have hbp : l.set (IntKind.i64.wrap (k - 1)).toNat (IntKind.i64.wrap (elt (0 : Int) l (IntKind.i64.wrap (k - 1)) + 1)) = bump l k := by
                rw [show IntKind.i64.wrap (k - 1) = k - 1 from hw, IntWalk.i64_in _ (by omega)]; rfl
              exact Go.Tr.hd [] rfl (And.intro ⟨hj1, rfl⟩ (And.intro rfl trivial)) ⟨⟨hbp, List.nil_prefix⟩, trivial, ⟨⟨rfl, rfl⟩, ⟨rfl, rfl⟩, rfl, rfl, trivial⟩, trivial, ⟨⟨rfl, rfl⟩, ⟨rfl, rfl⟩, rfl, rfl, trivial⟩, trivial, ⟨rfl, trivial⟩, trivial⟩
            · have hd := hI.full h1 hk h2
              rw [hd] at hcode; cases hcode
      · refine Or.inl ⟨⟨hz1, hz2⟩, Or.inl (FCallG.f ?_ rfl)⟩
        rw [show normR m b c [0, 0, 0, 0] = R from hR.symm] at hcode ⊢
        refine FCallG.intro (nt := 56) ti_ok mixed okNoC Tryz.func17 rfl rfl rfl rfl rfl rfl ?_
        refine Or.inl (Exists.intro _ (And.intro (msQ b c hb hc) ?_))
        refine And.intro (fun q => by rw [hst] at q; cases q) (fun _ => ?_)
        refine And.intro (fun q => hno q) (fun _ => ?_)
        refine And.intro (by omega) ?_
        refine lp (Nat × Cor × List Int) (fun s => [(2, .int .i64 (s.1 : Nat)), (9, .sl 24)]) (fun s => [.row 24 2 1 (.int .i64) s.2.2 [], .cel 6 32 zRaw, .cel 4 32 (cSV s.2.1), .cel 3 36 [.rsl uCor b]]) (fun s => s.1) (NInv b R m) (m, c, [0, 0, 0, 0]) ⟨hst, Nat.le_refl _, by show Cnt4 _ (m - m); rw [Nat.sub_self]; exact Cnt4.zero, hR.symm⟩ ?_ ?_
        · exact Go.Tr.hd [] rfl (And.intro ⟨rfl, rfl⟩ (And.intro rfl trivial)) ⟨⟨rfl, List.nil_prefix⟩, trivial, ⟨⟨rfl, rfl⟩, ⟨rfl, rfl⟩, rfl, rfl, trivial⟩, trivial, ⟨⟨rfl, rfl⟩, ⟨rfl, rfl⟩, rfl, rfl, trivial⟩, trivial, ⟨rfl, trivial⟩, trivial⟩
        rintro ⟨j, d, l⟩ hI
        obtain ⟨hod, hp⟩ := stOk_term hI.ok
        have hsd : sizT d ≤ 400 := (okC_iff.1 hod).2.2
        have hsg := stepG b d hp.g hsd hp.nm
        have hjm : j ≤ m := hI.le
        rcases st_rel hI.ok with ⟨h1, _⟩ | ⟨t, k, h1, hk, h2⟩
        · have hd := hI.done h1
          have h1 : stepR b d = (d, 0) := h1
          rw [h1] at hsg
          exact absurd (by rw [hd]) hcode
        · have h1 : stepR b d = (t, k) := h1
          have hT : Go.Tr.stepT b d = some (t, k) := by
            unfold stepR at h1
            cases h : Go.Tr.stepT b d with
            | none => rw [h] at h1; have h1 : (d, (0 : Int)) = (t, k) := h1; injection h1 with _ h1; omega
            | some r => rw [h] at h1; exact congrArg some h1
          rw [h1] at hsg
          have hk0 : (k == 0) = false := by rw [beq_eq_false_iff_ne]; omega
          have hv : QCall _ _ _ _ := validQ t (by have := step_siz hbk2 d hod hp hT; omega)
          cases j with
          | zero =>
            have hd := hI.spent h1 hk
            rw [hd]
            refine Or.inr (Or.inr (Exists.intro _ (Exists.intro _ (And.intro hsg ?_))))
            refine And.intro (fun q => by rw [hk0] at q; cases q) (fun _ => ?_)
            refine And.intro (fun _ => ?_) (fun q => by cases q)
            refine fin [] (And.intro rfl ?_)
            exact trivial
          | succ j =>
            have hj0 : (((j + 1 : Nat) : Int) == 0) = false := by rw [beq_eq_false_iff_ne]; omega
            rcases h2 with ⟨h2, _, h3⟩ | ⟨h2, _⟩
            · have hn := hI.next h1 hk h2 h3
              have hc4 : 0 ≤ elt (0 : Int) l (k - 1) ∧ elt (0 : Int) l (k - 1) ≤ ((m - (j + 1) : Nat) : Int) := hI.cnt.at hk
              have hlen : l.length = 4 := hI.cnt.len
              refine Or.inr (Or.inr (Exists.intro _ (Exists.intro _ (And.intro hsg ?_))))
              refine And.intro (fun q => by rw [hk0] at q; cases q) (fun _ => ?_)
              refine And.intro (fun q => by have q : (((j + 1 : Nat) : Int) == 0) = true := q; rw [hj0] at q; cases q) (fun _ => ?_)
              refine Or.inl (Exists.intro _ (And.intro hv ?_))
              refine And.intro (fun q => by rw [h2] at q; cases q) (fun _ => ?_)
              conv => whnf
              have hw : IntKind.i64.wrap ((t, k).2 - 1) = k - 1 := IntWalk.i64_in _ (by show _ ≤ k - 1 ∧ k - 1 ≤ _; omega)
              refine And.intro (by rw [hw]; show 0 ≤ k - 1 ∧ k - 1 < (l.length : Nat); omega) ?_
              conv => whnf
              refine And.intro (by rw [hw]; show 0 ≤ k - 1 ∧ k - 1 < (l.length : Nat); omega) ?_
              refine lp_next (j, t, bump l k) hn ?_ (Nat.lt_succ_self j)
              have hj1 : IntKind.i64.wrap (((j + 1 : Nat) : Int) - 1) = (j : Nat) := by rw [IntWalk.i64_in _ (by omega)]; omega
              have hbp : l.set (IntKind.i64.wrap (k - 1)).toNat (IntKind.i64.wrap (elt (0 : Int) l (IntKind.i64.wrap (k - 1)) + 1)) = bump l k := by
                rw [show IntKind.i64.wrap (k - 1) = k - 1 from hw, IntWalk.i64_in _ (by omega)]; rfl
              exact Go.Tr.hd [] rfl (And.intro ⟨hj1, rfl⟩ (And.intro rfl trivial)) ⟨⟨hbp, List.nil_prefix⟩, trivial, ⟨⟨rfl, rfl⟩, ⟨rfl, rfl⟩, rfl, rfl, trivial⟩, trivial, ⟨⟨rfl, rfl⟩, ⟨rfl, rfl⟩, rfl, rfl, trivial⟩, trivial, ⟨rfl, trivial⟩, trivial⟩
            · have hd := hI.full h1 hk h2
              rw [hd]
              refine Or.inr (Or.inr (Exists.intro _ (Exists.intro _ (And.intro hsg ?_))))
              refine And.intro (fun q => by rw [hk0] at q; cases q) (fun _ => ?_)
              refine And.intro (fun q => by have q : (((j + 1 : Nat) : Int) == 0) = true := q; rw [hj0] at q; cases q) (fun _ => ?_)
              refine Or.inl (Exists.intro _ (And.intro hv ?_))
              refine And.intro (fun _ => ?_) (fun q => by rw [h2] at q; cases q)
              refine fin [] (And.intro rfl ?_)
              exact trivial
end Go.Proofs.YtieemijapiiiiaaGreat
