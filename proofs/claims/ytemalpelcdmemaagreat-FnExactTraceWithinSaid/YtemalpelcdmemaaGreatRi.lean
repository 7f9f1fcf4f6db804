
/- Data of the program as structures, and how they lie in memory. No program in it. Printed by gen_fam.py. -/
import Derived.Test.YtemalpelcdmemaaGreatSc
import Derived.Test.YtemalpelcdmemaaGreatNy
import Derived.Test.YtemalpelcdmemaaGreatVV
import Derived.Test.YtemalpelcdmemaaGreatRa
import Derived.Test.YtemalpelcdmemaaGreatRg
set_option linter.unusedSimpArgs false
set_option linter.unusedVariables false
namespace Go.Tr
open Go Go.RowKit
structure GEvent where
 a : Int
 b : Int
 class_ : Int
 first_ : Int
 count : Int
def GEvent.enc (x : GEvent) : List D := [.v (.int .i64 x.a), .v (.int .i64 x.b), .v (.int .i64 x.class_), .v (.int .i64 x.first_), .v (.int .i64 x.count)]
theorem GEvent.enc_len (x : GEvent) : x.enc.length = 5 := rfl
theorem GEvent.us {w : World} {x : GEvent} {bs us} (h0 : TN w x.enc bs us) : us = [.int .i64 x.a, .int .i64 x.b, .int .i64 x.class_, .int .i64 x.first_, .int .i64 x.count] ∧ bs = [] := by
 unfold GEvent.enc at h0; obtain ⟨u0, rfl, h1⟩ := TN.v_cons h0; obtain ⟨u1, rfl, h2⟩ := TN.v_cons h1; obtain ⟨u2, rfl, h3⟩ := TN.v_cons h2; obtain ⟨u3, rfl, h4⟩ := TN.v_cons h3; obtain ⟨u4, rfl, h5⟩ := TN.v_cons h4; obtain ⟨rfl, rfl⟩ := TN.end_ h5; exact ⟨rfl, rfl⟩
theorem GEvent.mk_ {w : World} {x : GEvent}  : TN w x.enc ([]) [.int .i64 x.a, .int .i64 x.b, .int .i64 x.class_, .int .i64 x.first_, .int .i64 x.count] := by
 have h := (show TN w [.v (.int .i64 x.a), .v (.int .i64 x.b), .v (.int .i64 x.class_), .v (.int .i64 x.first_), .v (.int .i64 x.count)] _ _ from TN.v_mk rfl (TN.v_mk rfl (TN.v_mk rfl (TN.v_mk rfl (TN.v_mk rfl (TN.done))))))
 try simp only [List.append_nil] at h
 unfold GEvent.enc
 first | exact h | simpa only [List.append_assoc] using h
theorem GEvent.get_ {w : World} {xs : List GEvent} {bs : List Nat} {A : Option Addr} {n n' c : Nat} (h : T1 w (.sl n (xs.flatMap GEvent.enc)) bs (.slice A n' c)) (hm : xs.length = n) {k : Nat} (hk : k < n) :
  ∃ (b off : Nat) (x : GEvent) , A = some ⟨b, off, none⟩ ∧ b < w.heap.size ∧ Hid (xs[k]? = some x) ∧ w.cell? ⟨b, off + k * 5, none⟩ = some (.int .i64 x.a) ∧ w.cell? ⟨b, off + k * 5 + 1, none⟩ = some (.int .i64 x.b) ∧ w.cell? ⟨b, off + k * 5 + 2, none⟩ = some (.int .i64 x.class_) ∧ w.cell? ⟨b, off + k * 5 + 3, none⟩ = some (.int .i64 x.first_) ∧ w.cell? ⟨b, off + k * 5 + 4, none⟩ = some (.int .i64 x.count) := by
 obtain ⟨_, b, off, p1, p2, p3, us, hA, _, hb, hc, ht⟩ := T1.at_ GEvent.enc_len h hm hk; obtain ⟨rfl, _⟩ := GEvent.us ht; exact ⟨b, off, xs[k], hA, hb, List.getElem?_eq_getElem (hm ▸ hk), hc 0 _ rfl, hc 1 _ rfl, hc 2 _ rfl, hc 3 _ rfl, hc 4 _ rfl⟩
theorem GEvent.ext_ {x y : GEvent} (h0 : x.a = y.a) (h1 : x.b = y.b) (h2 : x.class_ = y.class_) (h3 : x.first_ = y.first_) (h4 : x.count = y.count) : x = y := by
 cases x; cases y; simp_all
def GEvent.wt (_x : GEvent) : Nat := 0
def GEvent.small (_x : GEvent) : Prop := True
def nNet (x : GNet) : List NAgent := x.agents.map nA
theorem gN_nNet (x : GNet) : gN (nNet x) = x := by
 unfold gN nNet; rw [List.map_map]
 have : x.agents.map (gA ∘ nA) = x.agents := by
  conv => rhs; rw [← List.map_id x.agents]
  exact List.map_congr_left fun a _ => gA_nA a
 rw [this]
theorem nNet_enc (x : GNet) : x.enc = enc uNet (nNet x) := by rw [← gN_enc, gN_nNet]
def nEv (e : GEvent) : NEvent := (e.a, e.b, e.class_, e.first_, e.count)
theorem nEv_enc (e : GEvent) : e.enc = enc uEvent (nEv e) := rfl
theorem nNets_enc (xs : List GNet) : xs.flatMap GNet.enc = List.flatMap (enc uNet) (xs.map nNet) := by
 induction xs with
 | nil => rfl
 | cons x l ih => rw [List.map_cons, List.flatMap_cons, List.flatMap_cons, ih, nNet_enc]
theorem nEvs_enc (xs : List GEvent) : xs.flatMap GEvent.enc = List.flatMap (enc uEvent) (xs.map nEv) := by
 induction xs with
 | nil => rfl
 | cons x l ih => rw [List.map_cons, List.flatMap_cons, List.flatMap_cons, ih, nEv_enc]
section
variable {cx : Cx} {β : Nat → Value} {w : World}
theorem den_nets {x : List GNet} {A : Option Addr} {c : Nat} {p : List Nat} (h : T1 w (.sl x.length (x.flatMap GNet.enc)) p (.slice A x.length c)) : Den ⟨w, []⟩ β (.rsl uNet (x.map nNet)) (.slice A x.length c) := by
 unfold Den; have e : (List.length (α := El uNet) (x.map nNet)) = x.length := List.length_map _; rw [e, ← nNets_enc]; exact ⟨p, h, fun b hb => by simp⟩
theorem den_evs {x : List GEvent} {A : Option Addr} {c : Nat} {p : List Nat} (h : T1 w (.sl x.length (x.flatMap GEvent.enc)) p (.slice A x.length c)) : Den ⟨w, []⟩ β (.rsl uEvent (x.map nEv)) (.slice A x.length c) := by
 unfold Den; have e : (List.length (α := El uEvent) (x.map nEv)) = x.length := List.length_map _; rw [e, ← nEvs_enc]; exact ⟨p, h, fun b hb => by simp⟩
theorem den_net {x : GNet} {p : List Nat} {u : List Value} (h : TN w x.enc p u) : Den ⟨w, []⟩ β (.agg [.rsl uAgent (nNet x)]) (.agg u.toArray) := by
 unfold Den; refine ⟨u, rfl, svOf_ok uNet (nNet x) (RoN.of (bs := p) ?_)⟩; rw [← nNet_enc]; exact h
theorem dens_cons {s : SV} {v : Value} {l : List SV} {vs : List Value} (h : Den cx β s v) (k : Dens cx β l vs) : Dens cx β (s :: l) (v :: vs) := by
 unfold Dens; exact ⟨v, vs, rfl, h, k⟩
theorem dens_nil : Dens cx β [] [] := by unfold Dens; rfl
theorem tup_bi {r : Bool} {c : Int} {v : Value} (h : Den cx β (.tup [.bool r, .int .i64 c]) v) : v = .tuple #[.bool r, .int .i64 c] := by
 unfold Den at h; obtain ⟨vs, rfl, h⟩ := h; unfold Dens at h; obtain ⟨v1, vs1, rfl, h1, h⟩ := h; unfold Dens at h; obtain ⟨v2, vs2, rfl, h2, h⟩ := h; unfold Dens at h; subst h; unfold Den at h1 h2; subst h1 h2; rfl
theorem FCall.plain {P : Program} {f : Nat} {args : List SV} {r : SV} {v : Value} {vs : List Value} {w : World} (h : FCall P f args [] r []) (hd : ∀ β, Dens ⟨w, []⟩ β args vs) (hv : ∀ β v', Den ⟨w, []⟩ β r v' → v' = v) : Calls P f vs.toArray w fun e w' => e = .returned v ∧ Ext w w' := by
 refine (h.2 ⟨w, []⟩ (fun _ => undef) w [] vs (Inv.start0 w) (hd _)).mono ?_; rintro e w' ⟨v', β', rfl, _, h1, h2⟩; exact ⟨by rw [hv _ _ h1], h2.to_ext⟩
end
end Go.Tr
namespace Go.Proofs.YtemalpelcdmemaaGreat
open Go Go.RowKit Go.Proofs Go.Tr
noncomputable def traceWithin (x0 : List GNet) (x1 : GNet) (x2 x3 : List GEvent) : Bool × Int :=
 (Classical.choose (tw_both (x0.map nNet) (nNet x1) (x2.map nEv) (x3.map nEv)), Classical.choose (Classical.choose_spec (tw_both (x0.map nNet) (nNet x1) (x2.map nEv) (x3.map nEv))))
theorem traceWithin_spec (x0 : List GNet) (x1 : GNet) (x2 x3 : List GEvent) (r0 : Bool) (r1 : Int) (h : (r0, r1) = traceWithin x0 x1 x2 x3) :
  FCall Tryz.prog 22 [.rsl uNet (x0.map nNet), .agg [.rsl uAgent (nNet x1)], .rsl uEvent (x2.map nEv), .rsl uEvent (x3.map nEv)] [] (.tup [.bool r0, .int .i64 r1]) [] ∧
  FCall Tryz.prog 18 [.rsl uNet (x0.map nNet), .agg [.rsl uAgent (nNet x1)], .rsl uEvent (x2.map nEv), .rsl uEvent (x3.map nEv)] [] (.tup [.bool r0, .int .i64 r1]) [] := by
 have k := Classical.choose_spec (Classical.choose_spec (tw_both (x0.map nNet) (nNet x1) (x2.map nEv) (x3.map nEv))); have h1 : r0 = Classical.choose (tw_both (x0.map nNet) (nNet x1) (x2.map nEv) (x3.map nEv)) := congrArg Prod.fst h; have h2 : r1 = Classical.choose (Classical.choose_spec (tw_both (x0.map nNet) (nNet x1) (x2.map nEv) (x3.map nEv))) := congrArg Prod.snd h; subst h1 h2; exact k
section
variable (a0 : List GNet) {A0 : Option Addr} {c0 : Nat} {p0 : List Nat} (a1 : GNet) {p1 : List Nat} {u1 : List Value} (a2 : List GEvent) {A2 : Option Addr} {c2 : Nat} {p2 : List Nat} (a3 : List GEvent) {A3 : Option Addr} {c3 : Nat} {p3 : List Nat} (r0 : Bool) (r1 : Int)
theorem traceWithinS_any (hR : (r0, r1) = traceWithin a0 a1 a2 a3) (w : World) (h0 : T1 w (.sl a0.length (a0.flatMap GNet.enc)) p0 (.slice A0 a0.length c0)) (h1 : TN w a1.enc p1 u1) (h2 : T1 w (.sl a2.length (a2.flatMap GEvent.enc)) p2 (.slice A2 a2.length c2)) (h3 : T1 w (.sl a3.length (a3.flatMap GEvent.enc)) p3 (.slice A3 a3.length c3)) :
  Calls Tryz.prog 18 #[.slice A0 a0.length c0, .agg u1.toArray, .slice A2 a2.length c2, .slice A3 a3.length c3] w fun e w' => e = .returned (.tuple #[.bool r0, .int .i64 r1]) ∧ Ext w w' :=
 FCall.plain (vs := [.slice A0 a0.length c0, .agg u1.toArray, .slice A2 a2.length c2, .slice A3 a3.length c3]) (traceWithin_spec a0 a1 a2 a3 r0 r1 hR).2 (fun _ => dens_cons (den_nets h0) (dens_cons (den_net h1) (dens_cons (den_evs h2) (dens_cons (den_evs h3) dens_nil)))) fun _ _ h => tup_bi h
theorem traceWithinI_any (hR : (r0, r1) = traceWithin a0 a1 a2 a3) (w : World) (h0 : T1 w (.sl a0.length (a0.flatMap GNet.enc)) p0 (.slice A0 a0.length c0)) (h1 : TN w a1.enc p1 u1) (h2 : T1 w (.sl a2.length (a2.flatMap GEvent.enc)) p2 (.slice A2 a2.length c2)) (h3 : T1 w (.sl a3.length (a3.flatMap GEvent.enc)) p3 (.slice A3 a3.length c3)) :
  Calls Tryz.prog 22 #[.slice A0 a0.length c0, .agg u1.toArray, .slice A2 a2.length c2, .slice A3 a3.length c3] w fun e w' => e = .returned (.tuple #[.bool r0, .int .i64 r1]) ∧ Ext w w' :=
 FCall.plain (vs := [.slice A0 a0.length c0, .agg u1.toArray, .slice A2 a2.length c2, .slice A3 a3.length c3]) (traceWithin_spec a0 a1 a2 a3 r0 r1 hR).1 (fun _ => dens_cons (den_nets h0) (dens_cons (den_net h1) (dens_cons (den_evs h2) (dens_cons (den_evs h3) dens_nil)))) fun _ _ h => tup_bi h
end
end Go.Proofs.YtemalpelcdmemaaGreat
