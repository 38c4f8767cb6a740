/- The program's RunSaga returns what the reference's returns, for all arguments: no condition beyond the statement's own. -/
import Derived.Test.YtdefhkboeagkbaaSg2
import Derived.Test.YtdefhkboeagkbaaRx2
import Derived.Test.YtdefhkboeagkbaaRows
import Derived.WalkKit
import Derived.ProofKit
import Derived.OpenShut
import Derived.ShutString
import Derived.ChangeOld
import Derived.Below
import Derived.SizedLaws
import Derived.Carry
import Derived.WideShapes
set_option linter.unusedVariables false
set_option linter.unusedSimpArgs false
set_option linter.unusedSectionVars false
section
open Go Go.Rx Go.Proofs
set_option maxHeartbeats 1000000
namespace Go.Rx
theorem szSg_ok {n m : Nat} (hn : n ≤ 9223372036854775807) (hm : m ≤ 9223372036854775807) (h : ¬ szSg n m 1048576 < 0) : n + m ≤ 1048576 := by
  unfold szSg szF at h
  rw [wr_id (by omega)] at h
  split at h
  · omega
  · split at h
    · rename_i h1; simp at h
    · rename_i h1 h2
      rw [wr_id (by omega)] at h
      omega

theorem J.sg {C : Ctx} {σ : Sym} {U : Hp} {st : List Rx.Item} (k : Nat) {v dn un : Value} {s : Sg} (hk : σ.M k = .own (fun L => ∃ va' vm', v = .agg #[va', vm', dn, un] ∧ sgOwn va' vm' s L))
    (h : ∀ A c B d, v = .agg #[.slice A s.acc.length c, .slice B s.mv.length d, dn, un] → J C st { σ with M := upd σ.M k (.own (sgOwn (.slice A s.acc.length c) (.slice B s.mv.length d) s)) } U) : J C st σ U := by
  refine J.own' (α := Σ' x : Option Addr × Nat × Option Addr × Nat, v = .agg #[.slice x.1 s.acc.length x.2.1, .slice x.2.2.1 s.mv.length x.2.2.2, dn, un]) (p' := fun x => sgOwn (.slice x.1.1 s.acc.length x.1.2.1) (.slice x.1.2.2.1 s.mv.length x.1.2.2.2) s) k hk
    (fun h ⟨a, b, e, h1⟩ => let ⟨x, e1, e2⟩ := sgOwn_slice h1; ⟨⟨x, by rw [e, e1, e2]⟩, e1 ▸ e2 ▸ h1⟩) ?_
  rintro ⟨⟨A2, c2, B2, d2⟩, e⟩
  exact h A2 c2 B2 d2 e
theorem J.sg2 {C : Ctx} {σ : Sym} {U : Hp} {st : List Rx.Item} (k : Nat) {v dn un ok : Value} {s : Sg} (hk : σ.M k = .own (fun L => ∃ va' vm', v = .tuple #[.agg #[va', vm', dn, un], ok] ∧ sgOwn va' vm' s L))
    (h : ∀ A c B d, v = .tuple #[.agg #[.slice A s.acc.length c, .slice B s.mv.length d, dn, un], ok] → J C st { σ with M := upd σ.M k (.own (sgOwn (.slice A s.acc.length c) (.slice B s.mv.length d) s)) } U) : J C st σ U := by
  refine J.own' (α := Σ' x : Option Addr × Nat × Option Addr × Nat, v = .tuple #[.agg #[.slice x.1 s.acc.length x.2.1, .slice x.2.2.1 s.mv.length x.2.2.2, dn, un], ok]) (p' := fun x => sgOwn (.slice x.1.1 s.acc.length x.1.2.1) (.slice x.1.2.2.1 s.mv.length x.1.2.2.2) s) k hk
    (fun h ⟨a, b, e, h1⟩ => let ⟨x, e1, e2⟩ := sgOwn_slice h1; ⟨⟨x, by rw [e, e1, e2]⟩, e1 ▸ e2 ▸ h1⟩) ?_
  rintro ⟨⟨A2, c2, B2, d2⟩, e⟩
  exact h A2 c2 B2 d2 e

theorem specStep_len (s : Sg) : (specStep s).1.acc.length ≤ s.acc.length ∧ (specStep s).1.mv.length ≤ s.mv.length := by
  have := step_len s
  unfold specStep
  split
  · split
    · exact ⟨by show s.step.1.acc.length ≤ _; omega, by show s.step.1.mv.length ≤ _; rw [this.2]; omega⟩
    · simp [Sg.zero]
  · simp [Sg.zero]

theorem law_ok (va vm : Value) (s : Sg) (U : Hp) (ha : Rd rInt U va s.acc) (hm : Rd rMv U vm s.mv) (hb : s.acc.length ≤ 9223372036854775807) (hb2 : s.mv.length ≤ 9223372036854775807) :
    PCall Try.prog 4 #[.agg #[va, vm, .int .i64 s.done, .bool s.und]] U fun r _ => r = .bool true := by
  obtain ⟨B, c, rfl, hc, hB⟩ := hm
  obtain ⟨A, ca, rfl, hca, hA⟩ := ha
  refine OCall.of (args := [.agg #[.slice A s.acc.length ca, .slice B s.mv.length c, .int .i64 s.done, .bool s.und]]) E_ok mix Try.func4 (by kernel_rfl) rfl Try.ntmps4 (Nat.le_of_ble_eq_true rfl) fun F w0 => ?_
  refine J.to 13 [] 96 [(1, .bp 1 0), (2, .v (.bool false)), (3, .v (.int .i64 1048576)), (14, .v (.agg (Array.mk [.slice A (List.length (Sg.acc s)) ca, .slice B (List.length (Sg.mv s)) c, .int .i64 (Sg.done s), .bool (Sg.und s)]))), (15, .v (.int .i64 1048576))] [(2, .some false)] [(1, .box 46 [.slice A (List.length (Sg.acc s)) ca, .slice B (List.length (Sg.mv s)) c, .int .i64 (Sg.done s), .bool (Sg.und s)])] [] (by kernel_rfl) ?_
  refine J.one (Op1.call rfl rfl rfl rfl rfl rfl rfl rfl (szSaga_ok _ _ _ _ _ _ _ _ _ _) fun v U1 hx1 hv => ?_); subst hv
  refine J.to 8 [] 96 [(1, .bp 1 0), (2, .v (.bool false)), (18, .v (.bool (Decidable.decide (szSg (List.length (Sg.acc s)) (List.length (Sg.mv s)) 1048576 < 0))))] [(2, .some false)] [(1, .box 46 [.slice A (List.length (Sg.acc s)) ca, .slice B (List.length (Sg.mv s)) c, .int .i64 (Sg.done s), .bool (Sg.und s)])] [] (by kernel_rfl) ?_
  refine J.br rfl rfl (fun h => ?_) (fun h => ?_)
  · refine J.to 5 [true] 96 [(1, .bp 1 0), (2, .v (.bool true))] [(2, .some true)] [(1, .box 46 [.slice A (List.length (Sg.acc s)) ca, .slice B (List.length (Sg.mv s)) c, .int .i64 (Sg.done s), .bool (Sg.und s)])] [] (by kernel_rfl) ?_
    exact J.ret ⟨_, rfl, .inl rfl⟩
  have hsz := szSg_ok hb hb2 (of_decide_eq_false h)
  have hl1 : s.acc.length < 2^40 := by omega
  have hl2 : s.mv.length < 2^40 := by omega
  have ra : ∀ U', Ext U U' → Rd rInt U' (.slice A s.acc.length ca) s.acc := fun U' h => ⟨A, ca, rfl, hca, hA.mono h⟩
  have rm : ∀ U', Ext U U' → Rd rMv U' (.slice B s.mv.length c) s.mv := fun U' h => ⟨B, c, rfl, hc, hB.mono h⟩
  refine J.to 5 [false] 96 [(1, .bp 1 0), (2, .v (.bool false)), (20, .v (.agg (Array.mk [.slice A (List.length (Sg.acc s)) ca, .slice B (List.length (Sg.mv s)) c, .int .i64 (Sg.done s), .bool (Sg.und s)])))] [(2, .some false)] [(1, .box 46 [.slice A (List.length (Sg.acc s)) ca, .slice B (List.length (Sg.mv s)) c, .int .i64 (Sg.done s), .bool (Sg.und s)])] [] (by kernel_rfl) ?_
  refine J.one (Op1.ocall rfl rfl rfl rfl rfl rfl rfl (toSaga_ok _ _ s U1 (ra _ hx1) (rm _ hx1) hl1 hl2) fun v U2 hx2 => ?_)
  refine J.sg 21 rfl fun A1 c1 B1 d1 e => ?_
  subst e
  refine J.pub (k := 21) rfl fun U3 L3 hx3 hl3 hp3 => ?_
  obtain ⟨ra1, rm1⟩ := sgOwn_rd hp3 hl3
  refine J.to 0 [] 96 [(1, .bp 1 0), (2, .v (.bool false)), (21, .v (.agg (Array.mk [.slice A1 (List.length (Sg.acc s)) c1, .slice B1 (List.length (Sg.mv s)) d1, .int .i64 (Sg.done s), .bool (Sg.und s)])))] [(2, .some false)] [(1, .box 46 [.slice A (List.length (Sg.acc s)) ca, .slice B (List.length (Sg.mv s)) c, .int .i64 (Sg.done s), .bool (Sg.und s)])] [] (by kernel_rfl) ?_
  refine J.one (Op1.call rfl rfl rfl rfl rfl rfl rfl rfl (specStep_ok _ _ s U3 ra1 rm1 hl1 hl2) fun v U4 hx4 ⟨va4, vm4, hv, ra4, rm4⟩ => ?_); subst hv
  obtain ⟨A4, c4, rfl, hc4, hA4⟩ := ra4
  obtain ⟨B4, d4, rfl, hd4, hB4⟩ := rm4
  have htl := specStep_len s
  generalize ht : specStep s = t at *
  refine J.to 10 [] 96 [(1, .bp 1 0), (2, .v (.bool false)), (4, .bp 4 0), (5, .v (.bool (Prod.snd t))), (25, .v (.agg (Array.mk [.slice A (List.length (Sg.acc s)) ca, .slice B (List.length (Sg.mv s)) c, .int .i64 (Sg.done s), .bool (Sg.und s)])))] [(2, .some false)] [(1, .box 46 [.slice A (List.length (Sg.acc s)) ca, .slice B (List.length (Sg.mv s)) c, .int .i64 (Sg.done s), .bool (Sg.und s)]), (4, .box 28 [.slice A4 (List.length (Sg.acc (Prod.fst t))) c4, .slice B4 (List.length (Sg.mv (Prod.fst t))) d4, .int .i64 (Sg.done (Prod.fst t)), .bool (Sg.und (Prod.fst t))])] [] (by kernel_rfl) ?_

  refine J.one (Op1.ocall rfl rfl rfl rfl rfl rfl rfl (toSaga_ok _ _ s U4 (ra _ (hx1.trans (hx2.trans (hx3.trans hx4)))) (rm _ (hx1.trans (hx2.trans (hx3.trans hx4)))) hl1 hl2) fun v U5 hx5 => ?_)
  refine J.sg 26 rfl fun A5 c5 B5 d5 e => ?_
  subst e
  have hU5 : Ext U U5 := hx1.trans (hx2.trans (hx3.trans (hx4.trans hx5)))
  refine J.to 6 [] 96 [(1, .bp 1 0), (2, .v (.bool false)), (4, .bp 4 0), (5, .v (.bool (Prod.snd t))), (6, .bp 6 0), (28, .v (.agg (Array.mk [.slice A5 (List.length (Sg.acc s)) c5, .slice B5 (List.length (Sg.mv s)) d5, .int .i64 (Sg.done s), .bool (Sg.und s)])))] [(2, .some false)] [(1, .box 46 [.slice A (List.length (Sg.acc s)) ca, .slice B (List.length (Sg.mv s)) c, .int .i64 (Sg.done s), .bool (Sg.und s)]), (4, .box 28 [.slice A4 (List.length (Sg.acc (Prod.fst t))) c4, .slice B4 (List.length (Sg.mv (Prod.fst t))) d4, .int .i64 (Sg.done (Prod.fst t)), .bool (Sg.und (Prod.fst t))]), (26, .own (sgOwn (.slice A5 (List.length (Sg.acc s)) c5) (.slice B5 (List.length (Sg.mv s)) d5) s)), (6, .box 28 [.slice A5 (List.length (Sg.acc s)) c5, .slice B5 (List.length (Sg.mv s)) d5, .int .i64 (Sg.done s), .bool (Sg.und s)])] [] (by kernel_rfl) ?_

  refine J.lend 26 rfl fun L0 hL0 hd0 => ?_
  obtain ⟨ra5, rm5⟩ := sgOwn_rd hL0 (Hp.un_r hd0)
  refine J.one (Op1.ocall rfl rfl rfl rfl rfl rfl rfl (implStep_ok _ _ s _ ra5 rm5 hl1 hl2) fun v U6 hx6 => ?_)
  rw [implStep_eq, ht]
  refine J.sg2 29 rfl fun A6 c6 B6 d6 e => ?_
  subst e
  refine J.to 12 [] 96 [(1, .bp 1 0), (2, .v (.bool false)), (4, .bp 4 0), (5, .v (.bool (Prod.snd t))), (6, .bp 6 0), (7, .bp 7 0), (8, .v (.bool (Prod.snd t))), (32, .v (.agg (Array.mk [.slice A6 (List.length (Sg.acc (Prod.fst t))) c6, .slice B6 (List.length (Sg.mv (Prod.fst t))) d6, .int .i64 (Sg.done (Prod.fst t)), .bool (Sg.und (Prod.fst t))]))), (33, .v (.agg (Array.mk [.slice A4 (List.length (Sg.acc (Prod.fst t))) c4, .slice B4 (List.length (Sg.mv (Prod.fst t))) d4, .int .i64 (Sg.done (Prod.fst t)), .bool (Sg.und (Prod.fst t))])))] [(2, .some false)] [(1, .box 46 [.slice A (List.length (Sg.acc s)) ca, .slice B (List.length (Sg.mv s)) c, .int .i64 (Sg.done s), .bool (Sg.und s)]), (4, .box 28 [.slice A4 (List.length (Sg.acc (Prod.fst t))) c4, .slice B4 (List.length (Sg.mv (Prod.fst t))) d4, .int .i64 (Sg.done (Prod.fst t)), .bool (Sg.und (Prod.fst t))]), (6, .box 28 [.slice A5 (List.length (Sg.acc s)) c5, .slice B5 (List.length (Sg.mv s)) d5, .int .i64 (Sg.done s), .bool (Sg.und s)]), (29, .own (sgOwn (.slice A6 (List.length (Sg.acc (Prod.fst t))) c6) (.slice B6 (List.length (Sg.mv (Prod.fst t))) d6) (Prod.fst t))), (7, .box 28 [.slice A6 (List.length (Sg.acc (Prod.fst t))) c6, .slice B6 (List.length (Sg.mv (Prod.fst t))) d6, .int .i64 (Sg.done (Prod.fst t)), .bool (Sg.und (Prod.fst t))])] [] (by kernel_rfl) ?_

  refine J.lend 29 rfl fun L1 hL1 hd1 => ?_
  obtain ⟨ra6, rm6⟩ := sgOwn_rd hL1 (Hp.un_r hd1)
  refine J.to 0 [] 96 [(1, .bp 1 0), (2, .v (.bool false)), (4, .bp 4 0), (5, .v (.bool (Prod.snd t))), (6, .bp 6 0), (7, .bp 7 0), (8, .v (.bool (Prod.snd t))), (32, .v (.agg (Array.mk [.slice A6 (List.length (Sg.acc (Prod.fst t))) c6, .slice B6 (List.length (Sg.mv (Prod.fst t))) d6, .int .i64 (Sg.done (Prod.fst t)), .bool (Sg.und (Prod.fst t))]))), (33, .v (.agg (Array.mk [.slice A4 (List.length (Sg.acc (Prod.fst t))) c4, .slice B4 (List.length (Sg.mv (Prod.fst t))) d4, .int .i64 (Sg.done (Prod.fst t)), .bool (Sg.und (Prod.fst t))])))] [(2, .some false)] [(1, .box 46 [.slice A (List.length (Sg.acc s)) ca, .slice B (List.length (Sg.mv s)) c, .int .i64 (Sg.done s), .bool (Sg.und s)]), (4, .box 28 [.slice A4 (List.length (Sg.acc (Prod.fst t))) c4, .slice B4 (List.length (Sg.mv (Prod.fst t))) d4, .int .i64 (Sg.done (Prod.fst t)), .bool (Sg.und (Prod.fst t))]), (6, .box 28 [.slice A5 (List.length (Sg.acc s)) c5, .slice B5 (List.length (Sg.mv s)) d5, .int .i64 (Sg.done s), .bool (Sg.und s)]), (7, .box 28 [.slice A6 (List.length (Sg.acc (Prod.fst t))) c6, .slice B6 (List.length (Sg.mv (Prod.fst t))) d6, .int .i64 (Sg.done (Prod.fst t)), .bool (Sg.und (Prod.fst t))])] [] (by kernel_rfl) ?_
  refine J.one (Op1.call rfl rfl rfl rfl rfl rfl rfl rfl (eqSaga_ok _ _ _ _ t.1 t.1 _ ra6 rm6 ⟨A4, c4, rfl, hc4, hA4.mono (hx5.trans (Hp.un_l.trans (hx6.trans Hp.un_l)))⟩ ⟨B4, d4, rfl, hd4, hB4.mono (hx5.trans (Hp.un_l.trans (hx6.trans Hp.un_l)))⟩ (by omega) (by omega)) fun v U7 hx7 hv => ?_)
  rw [decide_eq_true rfl] at hv; subst hv
  refine J.to 7 [] 96 [(1, .bp 1 0), (2, .v (.bool false)), (4, .bp 4 0), (5, .v (.bool (Prod.snd t))), (6, .bp 6 0), (7, .bp 7 0), (8, .v (.bool (Prod.snd t))), (40, .v (.bool !Prod.snd t == Prod.snd t))] [(2, .some false)] [(1, .box 46 [.slice A (List.length (Sg.acc s)) ca, .slice B (List.length (Sg.mv s)) c, .int .i64 (Sg.done s), .bool (Sg.und s)]), (4, .box 28 [.slice A4 (List.length (Sg.acc (Prod.fst t))) c4, .slice B4 (List.length (Sg.mv (Prod.fst t))) d4, .int .i64 (Sg.done (Prod.fst t)), .bool (Sg.und (Prod.fst t))]), (6, .box 28 [.slice A5 (List.length (Sg.acc s)) c5, .slice B5 (List.length (Sg.mv s)) d5, .int .i64 (Sg.done s), .bool (Sg.und s)]), (7, .box 28 [.slice A6 (List.length (Sg.acc (Prod.fst t))) c6, .slice B6 (List.length (Sg.mv (Prod.fst t))) d6, .int .i64 (Sg.done (Prod.fst t)), .bool (Sg.und (Prod.fst t))])] [] (by kernel_rfl) ?_
  refine J.br rfl rfl (fun h => by simp at h) (fun _ => ?_)
  have hU6 : Ext U5 U7 := Hp.un_l.trans (hx6.trans (Hp.un_l.trans hx7))
  refine J.to 4 [false] 96 [(1, .bp 1 0), (2, .v (.bool false)), (4, .bp 4 0), (5, .v (.bool (Prod.snd t))), (6, .bp 6 0), (7, .bp 7 0), (8, .v (.bool (Prod.snd t)))] [(2, .some false)] [(1, .box 46 [.slice A (List.length (Sg.acc s)) ca, .slice B (List.length (Sg.mv s)) c, .int .i64 (Sg.done s), .bool (Sg.und s)]), (4, .box 28 [.slice A4 (List.length (Sg.acc (Prod.fst t))) c4, .slice B4 (List.length (Sg.mv (Prod.fst t))) d4, .int .i64 (Sg.done (Prod.fst t)), .bool (Sg.und (Prod.fst t))]), (6, .box 28 [.slice A5 (List.length (Sg.acc s)) c5, .slice B5 (List.length (Sg.mv s)) d5, .int .i64 (Sg.done s), .bool (Sg.und s)]), (7, .box 28 [.slice A6 (List.length (Sg.acc (Prod.fst t))) c6, .slice B6 (List.length (Sg.mv (Prod.fst t))) d6, .int .i64 (Sg.done (Prod.fst t)), .bool (Sg.und (Prod.fst t))])] [] (by kernel_rfl) ?_
  refine J.any [1, 6] [] [] trivial fun ρ1 _ => ?_
  refine J.takeTo true [0, 1] 3 96 [(1, .bp 1 0), (2, .v (.bool false)), (4, .bp 4 0), (5, .v (.bool (Prod.snd t))), (6, .bp 6 0), (7, .bp 7 0), (8, .v (.bool (Prod.snd t))), (41, .v (.agg (Array.mk [.slice A5 (List.length (Sg.acc s)) c5, .slice B5 (List.length (Sg.mv s)) d5, .int .i64 (Sg.done s), .bool (Sg.und s)]))), (42, .v (.agg (Array.mk [.slice A (List.length (Sg.acc s)) ca, .slice B (List.length (Sg.mv s)) c, .int .i64 (Sg.done s), .bool (Sg.und s)])))] [(2, .some false)] [(1, .box 46 [.slice A (List.length (Sg.acc s)) ca, .slice B (List.length (Sg.mv s)) c, .int .i64 (Sg.done s), .bool (Sg.und s)]), (4, .box 28 [.slice A4 (List.length (Sg.acc (Prod.fst t))) c4, .slice B4 (List.length (Sg.mv (Prod.fst t))) d4, .int .i64 (Sg.done (Prod.fst t)), .bool (Sg.und (Prod.fst t))]), (6, .box 28 [.slice A5 (List.length (Sg.acc s)) c5, .slice B5 (List.length (Sg.mv s)) d5, .int .i64 (Sg.done s), .bool (Sg.und s)]), (7, .box 28 [.slice A6 (List.length (Sg.acc (Prod.fst t))) c6, .slice B6 (List.length (Sg.mv (Prod.fst t))) d6, .int .i64 (Sg.done (Prod.fst t)), .bool (Sg.und (Prod.fst t))])] [(1, .some (ρ1 1)), (4, .some (ρ1 4)), (6, .some (ρ1 6)), (7, .some (ρ1 7))] (by first | exact Ext.refl _ | assumption | exact Ext.trans (by assumption) (by assumption) | exact Ext.trans (by assumption) (Ext.trans (by assumption) (by assumption))) (fun h => rfl) ⟨⟨rfl, rfl⟩, ⟨⟨rfl, rfl⟩, trivial⟩⟩ rfl (by kernel_rfl) ?_
  refine J.aone (i := 2) (by kernel_rfl) (Op1.ocall rfl rfl rfl rfl rfl rfl rfl (toSaga_ok _ _ s U7 (ra _ (hU5.trans hU6)) (rm _ (hU5.trans hU6)) hl1 hl2) fun v U8 hx8 => ⟨fun _ => ⟨hx8, ⟨rfl, rfl⟩, ⟨rfl, rfl⟩, trivial⟩, ?_⟩)
  refine J.sg 43 rfl fun A8 c8 B8 d8 e => ?_
  subst e
  refine J.pub (k := 43) rfl fun U9 L9 hx9 hl9 hp9 => ?_
  obtain ⟨ra9, rm9⟩ := sgOwn_rd hp9 hl9
  refine J.to 0 [] 96 [(1, .bp 1 0), (2, .v (.bool false)), (4, .bp 4 0), (5, .v (.bool (Prod.snd t))), (6, .bp 6 0), (7, .bp 7 0), (8, .v (.bool (Prod.snd t))), (41, .v (.agg (Array.mk [.slice A5 (List.length (Sg.acc s)) c5, .slice B5 (List.length (Sg.mv s)) d5, .int .i64 (Sg.done s), .bool (Sg.und s)]))), (42, .v (.agg (Array.mk [.slice A (List.length (Sg.acc s)) ca, .slice B (List.length (Sg.mv s)) c, .int .i64 (Sg.done s), .bool (Sg.und s)]))), (43, .v (.agg (Array.mk [.slice A8 (List.length (Sg.acc s)) c8, .slice B8 (List.length (Sg.mv s)) d8, .int .i64 (Sg.done s), .bool (Sg.und s)])))] [(2, .some false)] [(1, .box 46 [.slice A (List.length (Sg.acc s)) ca, .slice B (List.length (Sg.mv s)) c, .int .i64 (Sg.done s), .bool (Sg.und s)]), (4, .box 28 [.slice A4 (List.length (Sg.acc (Prod.fst t))) c4, .slice B4 (List.length (Sg.mv (Prod.fst t))) d4, .int .i64 (Sg.done (Prod.fst t)), .bool (Sg.und (Prod.fst t))]), (6, .box 28 [.slice A5 (List.length (Sg.acc s)) c5, .slice B5 (List.length (Sg.mv s)) d5, .int .i64 (Sg.done s), .bool (Sg.und s)]), (7, .box 28 [.slice A6 (List.length (Sg.acc (Prod.fst t))) c6, .slice B6 (List.length (Sg.mv (Prod.fst t))) d6, .int .i64 (Sg.done (Prod.fst t)), .bool (Sg.und (Prod.fst t))])] [(1, .some (ρ1 1)), (4, .some (ρ1 4)), (6, .some (ρ1 6)), (7, .some (ρ1 7))] (by kernel_rfl) ?_
  have hU7 : Ext (Hp.un U5 L0) U9 := hx6.trans (Hp.un_l.trans (hx7.trans (hx8.trans hx9)))
  refine J.aone (i := 3) (by kernel_rfl) (Op1.call rfl rfl rfl rfl rfl rfl rfl rfl (eqSaga_ok _ _ _ _ s s U9 (ra5.mono hU7) (rm5.mono hU7) ra9 rm9 hl1 hl2) fun v U10 hx10 hv => ⟨fun _ => ⟨hx8.trans (hx9.trans hx10), ⟨rfl, rfl⟩, ⟨rfl, rfl⟩, trivial⟩, ?_⟩)
  rw [decide_eq_true rfl] at hv; subst hv
  refine J.to 0 [] 96 [(1, .bp 1 0), (2, .v (.bool false)), (4, .bp 4 0), (5, .v (.bool (Prod.snd t))), (6, .bp 6 0), (7, .bp 7 0), (8, .v (.bool (Prod.snd t))), (41, .v (.agg (Array.mk [.slice A5 (List.length (Sg.acc s)) c5, .slice B5 (List.length (Sg.mv s)) d5, .int .i64 (Sg.done s), .bool (Sg.und s)]))), (42, .v (.agg (Array.mk [.slice A (List.length (Sg.acc s)) ca, .slice B (List.length (Sg.mv s)) c, .int .i64 (Sg.done s), .bool (Sg.und s)]))), (43, .v (.agg (Array.mk [.slice A8 (List.length (Sg.acc s)) c8, .slice B8 (List.length (Sg.mv s)) d8, .int .i64 (Sg.done s), .bool (Sg.und s)]))), (44, .v (.bool true))] [(2, .some false)] [(1, .box 46 [.slice A (List.length (Sg.acc s)) ca, .slice B (List.length (Sg.mv s)) c, .int .i64 (Sg.done s), .bool (Sg.und s)]), (4, .box 28 [.slice A4 (List.length (Sg.acc (Prod.fst t))) c4, .slice B4 (List.length (Sg.mv (Prod.fst t))) d4, .int .i64 (Sg.done (Prod.fst t)), .bool (Sg.und (Prod.fst t))]), (6, .box 28 [.slice A5 (List.length (Sg.acc s)) c5, .slice B5 (List.length (Sg.mv s)) d5, .int .i64 (Sg.done s), .bool (Sg.und s)]), (7, .box 28 [.slice A6 (List.length (Sg.acc (Prod.fst t))) c6, .slice B6 (List.length (Sg.mv (Prod.fst t))) d6, .int .i64 (Sg.done (Prod.fst t)), .bool (Sg.und (Prod.fst t))])] [(1, .some (ρ1 1)), (4, .some (ρ1 4)), (6, .some (ρ1 6)), (7, .some (ρ1 7))] (by kernel_rfl) ?_
  refine J.takeTo false [4] 0 96 [(1, .bp 1 0), (2, .v (.bool false)), (4, .bp 4 0), (5, .v (.bool (Prod.snd t))), (6, .bp 6 0), (7, .bp 7 0), (8, .v (.bool (Prod.snd t))), (41, .v (.agg (Array.mk [.slice A5 (List.length (Sg.acc s)) c5, .slice B5 (List.length (Sg.mv s)) d5, .int .i64 (Sg.done s), .bool (Sg.und s)]))), (42, .v (.agg (Array.mk [.slice A (List.length (Sg.acc s)) ca, .slice B (List.length (Sg.mv s)) c, .int .i64 (Sg.done s), .bool (Sg.und s)]))), (43, .v (.agg (Array.mk [.slice A8 (List.length (Sg.acc s)) c8, .slice B8 (List.length (Sg.mv s)) d8, .int .i64 (Sg.done s), .bool (Sg.und s)]))), (44, .v (.bool true)), (45, .v (.bool false))] [(2, .some false), (45, .some false)] [(1, .box 46 [.slice A (List.length (Sg.acc s)) ca, .slice B (List.length (Sg.mv s)) c, .int .i64 (Sg.done s), .bool (Sg.und s)]), (4, .box 28 [.slice A4 (List.length (Sg.acc (Prod.fst t))) c4, .slice B4 (List.length (Sg.mv (Prod.fst t))) d4, .int .i64 (Sg.done (Prod.fst t)), .bool (Sg.und (Prod.fst t))]), (6, .box 28 [.slice A5 (List.length (Sg.acc s)) c5, .slice B5 (List.length (Sg.mv s)) d5, .int .i64 (Sg.done s), .bool (Sg.und s)]), (7, .box 28 [.slice A6 (List.length (Sg.acc (Prod.fst t))) c6, .slice B6 (List.length (Sg.mv (Prod.fst t))) d6, .int .i64 (Sg.done (Prod.fst t)), .bool (Sg.und (Prod.fst t))])] [(1, .some (ρ1 1)), (4, .some (ρ1 4)), (6, .some (ρ1 6)), (7, .some (ρ1 7))] (by first | exact Ext.refl _ | assumption | exact Ext.trans (by assumption) (by assumption) | exact Ext.trans (by assumption) (Ext.trans (by assumption) (by assumption))) (fun h => by cases h) ⟨⟨rfl, rfl⟩, ⟨⟨rfl, rfl⟩, trivial⟩⟩ rfl (by kernel_rfl) ?_
  refine J.adone' (by kernel_rfl) ?_
  refine J.unlend 29 (V := U6) rfl hL1 (hx7.trans (hx8.trans (hx9.trans hx10))) hd1 (hU5.trans (Hp.un_l.trans hx6)) fun hxa => ?_
  refine J.unlend 26 (V := U5) rfl hL0 (hx6.trans hxa) hd0 hU5 fun hxb => ?_
  generalize Hp.less (Hp.less U10 L1) L0 = U11 at hxb
  refine J.to 10 [false] 96 [(1, .bp 1 0), (2, .v (.bool false)), (4, .bp 4 0), (5, .v (.bool (Prod.snd t))), (7, .bp 7 0), (8, .v (.bool (Prod.snd t))), (9, .v (.int .i64 1)), (46, .v (.agg (Array.mk [.slice A5 (List.length (Sg.acc s)) c5, .slice B5 (List.length (Sg.mv s)) d5, .int .i64 (Sg.done s), .bool (Sg.und s)]))), (47, .v (.int .i64 1))] [(2, .some false)] [(1, .box 46 [.slice A (List.length (Sg.acc s)) ca, .slice B (List.length (Sg.mv s)) c, .int .i64 (Sg.done s), .bool (Sg.und s)]), (4, .box 28 [.slice A4 (List.length (Sg.acc (Prod.fst t))) c4, .slice B4 (List.length (Sg.mv (Prod.fst t))) d4, .int .i64 (Sg.done (Prod.fst t)), .bool (Sg.und (Prod.fst t))]), (6, .box 28 [.slice A5 (List.length (Sg.acc s)) c5, .slice B5 (List.length (Sg.mv s)) d5, .int .i64 (Sg.done s), .bool (Sg.und s)]), (7, .box 28 [.slice A6 (List.length (Sg.acc (Prod.fst t))) c6, .slice B6 (List.length (Sg.mv (Prod.fst t))) d6, .int .i64 (Sg.done (Prod.fst t)), .bool (Sg.und (Prod.fst t))]), (26, .own (sgOwn (.slice A5 (List.length (Sg.acc s)) c5) (.slice B5 (List.length (Sg.mv s)) d5) s)), (29, .own (sgOwn (.slice A6 (List.length (Sg.acc (Prod.fst t))) c6) (.slice B6 (List.length (Sg.mv (Prod.fst t))) d6) (Prod.fst t)))] [(1, .some (ρ1 1)), (4, .some (ρ1 4)), (6, .some (ρ1 6)), (7, .some (ρ1 7))] (by kernel_rfl) ?_
  refine J.one (Op1.bcall [(14, 26)] (args := [.v _, .v _]) (ML := [(14, .own (sgOwn (.slice A5 s.acc.length c5) (.slice B5 s.mv.length d5) s))]) rfl rfl rfl rfl rfl rfl rfl rfl rfl rfl (fun p hp => by simp at hp; subst hp; rfl) (fun p hp => by simp at hp; subst hp; rfl)
    (markSaga_ok _ _ s 1 U11 hl1 hl2 (by omega)) fun v U12 ML hx12 ⟨hv, hML⟩ => ?_)
  subst hv; subst hML
  refine J.to 10 [] 96 [(1, .bp 1 0), (2, .v (.bool false)), (4, .bp 4 0), (5, .v (.bool (Prod.snd t))), (7, .bp 7 0), (8, .v (.bool (Prod.snd t))), (51, .v (.bool (Decidable.decide (1 + (↑(List.length (Sg.acc s)) : Int) + 3 * (↑(List.length (Sg.mv s)) : Int) < 0)))), (52, .v (.agg (Array.mk [.slice A6 (List.length (Sg.acc (Prod.fst t))) c6, .slice B6 (List.length (Sg.mv (Prod.fst t))) d6, .int .i64 (Sg.done (Prod.fst t)), .bool (Sg.und (Prod.fst t))]))), (53, .v (.agg (Array.mk [.slice A4 (List.length (Sg.acc (Prod.fst t))) c4, .slice B4 (List.length (Sg.mv (Prod.fst t))) d4, .int .i64 (Sg.done (Prod.fst t)), .bool (Sg.und (Prod.fst t))])))] [(2, .some false), (51, .some false)] [(1, .box 46 [.slice A (List.length (Sg.acc s)) ca, .slice B (List.length (Sg.mv s)) c, .int .i64 (Sg.done s), .bool (Sg.und s)]), (4, .box 28 [.slice A4 (List.length (Sg.acc (Prod.fst t))) c4, .slice B4 (List.length (Sg.mv (Prod.fst t))) d4, .int .i64 (Sg.done (Prod.fst t)), .bool (Sg.und (Prod.fst t))]), (6, .box 28 [.slice A5 (List.length (Sg.acc s)) c5, .slice B5 (List.length (Sg.mv s)) d5, .int .i64 (Sg.done s), .bool (Sg.und s)]), (7, .box 28 [.slice A6 (List.length (Sg.acc (Prod.fst t))) c6, .slice B6 (List.length (Sg.mv (Prod.fst t))) d6, .int .i64 (Sg.done (Prod.fst t)), .bool (Sg.und (Prod.fst t))]), (26, .own (sgOwn (.slice A5 (List.length (Sg.acc s)) c5) (.slice B5 (List.length (Sg.mv s)) d5) (Sg.marked s 1))), (29, .own (sgOwn (.slice A6 (List.length (Sg.acc (Prod.fst t))) c6) (.slice B6 (List.length (Sg.mv (Prod.fst t))) d6) (Prod.fst t)))] [(1, .some (ρ1 1)), (4, .some (ρ1 4)), (6, .some (ρ1 6)), (7, .some (ρ1 7))] (by kernel_rfl) ?_
  refine J.br rfl rfl (fun h => by simp at h; omega) (fun _ => ?_)
  refine J.to 0 [] 96 [(1, .bp 1 0), (2, .v (.bool false)), (4, .bp 4 0), (5, .v (.bool (Prod.snd t))), (7, .bp 7 0), (8, .v (.bool (Prod.snd t))), (51, .v (.bool false)), (52, .v (.agg (Array.mk [.slice A6 (List.length (Sg.acc (Prod.fst t))) c6, .slice B6 (List.length (Sg.mv (Prod.fst t))) d6, .int .i64 (Sg.done (Prod.fst t)), .bool (Sg.und (Prod.fst t))]))), (53, .v (.agg (Array.mk [.slice A4 (List.length (Sg.acc (Prod.fst t))) c4, .slice B4 (List.length (Sg.mv (Prod.fst t))) d4, .int .i64 (Sg.done (Prod.fst t)), .bool (Sg.und (Prod.fst t))])))] [(2, .some false), (51, .some false)] [(1, .box 46 [.slice A (List.length (Sg.acc s)) ca, .slice B (List.length (Sg.mv s)) c, .int .i64 (Sg.done s), .bool (Sg.und s)]), (4, .box 28 [.slice A4 (List.length (Sg.acc (Prod.fst t))) c4, .slice B4 (List.length (Sg.mv (Prod.fst t))) d4, .int .i64 (Sg.done (Prod.fst t)), .bool (Sg.und (Prod.fst t))]), (6, .box 28 [.slice A5 (List.length (Sg.acc s)) c5, .slice B5 (List.length (Sg.mv s)) d5, .int .i64 (Sg.done s), .bool (Sg.und s)]), (7, .box 28 [.slice A6 (List.length (Sg.acc (Prod.fst t))) c6, .slice B6 (List.length (Sg.mv (Prod.fst t))) d6, .int .i64 (Sg.done (Prod.fst t)), .bool (Sg.und (Prod.fst t))]), (26, .own (sgOwn (.slice A5 (List.length (Sg.acc s)) c5) (.slice B5 (List.length (Sg.mv s)) d5) (Sg.marked s 1))), (29, .own (sgOwn (.slice A6 (List.length (Sg.acc (Prod.fst t))) c6) (.slice B6 (List.length (Sg.mv (Prod.fst t))) d6) (Prod.fst t)))] [(1, .some (ρ1 1)), (4, .some (ρ1 4)), (6, .some (ρ1 6)), (7, .some (ρ1 7))] (by kernel_rfl) ?_

  refine J.lend 29 rfl fun L2 hL2 hd2 => ?_
  obtain ⟨ra7, rm7⟩ := sgOwn_rd hL2 (Hp.un_r hd2)
  have hU12 : Ext U4 U12 := hx5.trans (hxb.trans hx12)
  refine J.one (Op1.call rfl rfl rfl rfl rfl rfl rfl rfl (eqSaga_ok _ _ _ _ t.1 t.1 _ ra7 rm7 ⟨A4, c4, rfl, hc4, hA4.mono (hU12.trans Hp.un_l)⟩ ⟨B4, d4, rfl, hd4, hB4.mono (hU12.trans Hp.un_l)⟩ (by omega) (by omega)) fun v U13 hx13 hv => ?_)
  rw [decide_eq_true rfl] at hv; subst hv
  refine J.to 8 [] 96 [(1, .bp 1 0), (2, .v (.bool false)), (4, .bp 4 0), (5, .v (.bool (Prod.snd t))), (7, .bp 7 0), (61, .v (.bool !Prod.snd t == Prod.snd t))] [(2, .some false)] [(1, .box 46 [.slice A (List.length (Sg.acc s)) ca, .slice B (List.length (Sg.mv s)) c, .int .i64 (Sg.done s), .bool (Sg.und s)]), (4, .box 28 [.slice A4 (List.length (Sg.acc (Prod.fst t))) c4, .slice B4 (List.length (Sg.mv (Prod.fst t))) d4, .int .i64 (Sg.done (Prod.fst t)), .bool (Sg.und (Prod.fst t))]), (6, .box 28 [.slice A5 (List.length (Sg.acc s)) c5, .slice B5 (List.length (Sg.mv s)) d5, .int .i64 (Sg.done s), .bool (Sg.und s)]), (7, .box 28 [.slice A6 (List.length (Sg.acc (Prod.fst t))) c6, .slice B6 (List.length (Sg.mv (Prod.fst t))) d6, .int .i64 (Sg.done (Prod.fst t)), .bool (Sg.und (Prod.fst t))]), (26, .own (sgOwn (.slice A5 (List.length (Sg.acc s)) c5) (.slice B5 (List.length (Sg.mv s)) d5) (Sg.marked s 1)))] [(1, .some (ρ1 1)), (4, .some (ρ1 4)), (6, .some (ρ1 6)), (7, .some (ρ1 7))] (by kernel_rfl) ?_
  refine J.br rfl rfl (fun h => by simp at h) (fun _ => ?_)
  refine J.to 10 [false] 96 [(1, .bp 1 0), (2, .v (.bool false)), (4, .bp 4 0), (5, .v (.bool (Prod.snd t))), (7, .bp 7 0), (10, .v (.int .i64 1)), (62, .v (.agg (Array.mk [.slice A6 (List.length (Sg.acc (Prod.fst t))) c6, .slice B6 (List.length (Sg.mv (Prod.fst t))) d6, .int .i64 (Sg.done (Prod.fst t)), .bool (Sg.und (Prod.fst t))]))), (63, .v (.int .i64 1))] [(2, .some false)] [(1, .box 46 [.slice A (List.length (Sg.acc s)) ca, .slice B (List.length (Sg.mv s)) c, .int .i64 (Sg.done s), .bool (Sg.und s)]), (4, .box 28 [.slice A4 (List.length (Sg.acc (Prod.fst t))) c4, .slice B4 (List.length (Sg.mv (Prod.fst t))) d4, .int .i64 (Sg.done (Prod.fst t)), .bool (Sg.und (Prod.fst t))]), (6, .box 28 [.slice A5 (List.length (Sg.acc s)) c5, .slice B5 (List.length (Sg.mv s)) d5, .int .i64 (Sg.done s), .bool (Sg.und s)]), (7, .box 28 [.slice A6 (List.length (Sg.acc (Prod.fst t))) c6, .slice B6 (List.length (Sg.mv (Prod.fst t))) d6, .int .i64 (Sg.done (Prod.fst t)), .bool (Sg.und (Prod.fst t))]), (26, .own (sgOwn (.slice A5 (List.length (Sg.acc s)) c5) (.slice B5 (List.length (Sg.mv s)) d5) (Sg.marked s 1)))] [(1, .some (ρ1 1)), (4, .some (ρ1 4)), (6, .some (ρ1 6)), (7, .some (ρ1 7))] (by kernel_rfl) ?_
  refine J.unlend 29 (V := U12) rfl hL2 hx13 hd2 (hU5.trans (hxb.trans hx12)) fun hxc => ?_
  generalize Hp.less U13 L2 = U14 at hxc
  refine J.to 0 [] 96 [(1, .bp 1 0), (2, .v (.bool false)), (4, .bp 4 0), (5, .v (.bool (Prod.snd t))), (7, .bp 7 0), (10, .v (.int .i64 1)), (62, .v (.agg (Array.mk [.slice A6 (List.length (Sg.acc (Prod.fst t))) c6, .slice B6 (List.length (Sg.mv (Prod.fst t))) d6, .int .i64 (Sg.done (Prod.fst t)), .bool (Sg.und (Prod.fst t))]))), (63, .v (.int .i64 1))] [(2, .some false)] [(1, .box 46 [.slice A (List.length (Sg.acc s)) ca, .slice B (List.length (Sg.mv s)) c, .int .i64 (Sg.done s), .bool (Sg.und s)]), (4, .box 28 [.slice A4 (List.length (Sg.acc (Prod.fst t))) c4, .slice B4 (List.length (Sg.mv (Prod.fst t))) d4, .int .i64 (Sg.done (Prod.fst t)), .bool (Sg.und (Prod.fst t))]), (6, .box 28 [.slice A5 (List.length (Sg.acc s)) c5, .slice B5 (List.length (Sg.mv s)) d5, .int .i64 (Sg.done s), .bool (Sg.und s)]), (7, .box 28 [.slice A6 (List.length (Sg.acc (Prod.fst t))) c6, .slice B6 (List.length (Sg.mv (Prod.fst t))) d6, .int .i64 (Sg.done (Prod.fst t)), .bool (Sg.und (Prod.fst t))]), (26, .own (sgOwn (.slice A5 (List.length (Sg.acc s)) c5) (.slice B5 (List.length (Sg.mv s)) d5) (Sg.marked s 1))), (29, .own (sgOwn (.slice A6 (List.length (Sg.acc (Prod.fst t))) c6) (.slice B6 (List.length (Sg.mv (Prod.fst t))) d6) (Prod.fst t)))] [(1, .some (ρ1 1)), (4, .some (ρ1 4)), (6, .some (ρ1 6)), (7, .some (ρ1 7))] (by kernel_rfl) ?_
  refine J.one (Op1.bcall [(14, 29)] (args := [.v _, .v _]) (ML := [(14, .own (sgOwn (.slice A6 t.1.acc.length c6) (.slice B6 t.1.mv.length d6) t.1))]) rfl rfl rfl rfl rfl rfl rfl rfl rfl rfl (fun p hp => by simp at hp; subst hp; rfl) (fun p hp => by simp at hp; subst hp; rfl)
    (markSaga_ok _ _ t.1 1 U14 (by omega) (by omega) (by omega)) fun v U15 ML hx15 ⟨hv, hML⟩ => ?_)
  subst hv; subst hML
  refine J.to 10 [] 96 [(1, .bp 1 0), (2, .v (.bool false)), (4, .bp 4 0), (5, .v (.bool (Prod.snd t))), (7, .bp 7 0), (10, .v (.int .i64 (1 + (↑(List.length (Sg.acc (Prod.fst t))) : Int) + 3 * (↑(List.length (Sg.mv (Prod.fst t))) : Int)))), (11, .v (.int .i64 1)), (65, .v (.agg (Array.mk [.slice A6 (List.length (Sg.acc (Prod.fst t))) c6, .slice B6 (List.length (Sg.mv (Prod.fst t))) d6, .int .i64 (Sg.done (Prod.fst t)), .bool (Sg.und (Prod.fst t))]))), (66, .v (.int .i64 1))] [(2, .some false)] [(1, .box 46 [.slice A (List.length (Sg.acc s)) ca, .slice B (List.length (Sg.mv s)) c, .int .i64 (Sg.done s), .bool (Sg.und s)]), (4, .box 28 [.slice A4 (List.length (Sg.acc (Prod.fst t))) c4, .slice B4 (List.length (Sg.mv (Prod.fst t))) d4, .int .i64 (Sg.done (Prod.fst t)), .bool (Sg.und (Prod.fst t))]), (6, .box 28 [.slice A5 (List.length (Sg.acc s)) c5, .slice B5 (List.length (Sg.mv s)) d5, .int .i64 (Sg.done s), .bool (Sg.und s)]), (7, .box 28 [.slice A6 (List.length (Sg.acc (Prod.fst t))) c6, .slice B6 (List.length (Sg.mv (Prod.fst t))) d6, .int .i64 (Sg.done (Prod.fst t)), .bool (Sg.und (Prod.fst t))]), (26, .own (sgOwn (.slice A5 (List.length (Sg.acc s)) c5) (.slice B5 (List.length (Sg.mv s)) d5) (Sg.marked s 1))), (29, .own (sgOwn (.slice A6 (List.length (Sg.acc (Prod.fst t))) c6) (.slice B6 (List.length (Sg.mv (Prod.fst t))) d6) (Sg.marked (Prod.fst t) 1)))] [(1, .some (ρ1 1)), (4, .some (ρ1 4)), (6, .some (ρ1 6)), (7, .some (ρ1 7))] (by kernel_rfl) ?_
  refine J.lend 29 rfl fun L3 hL3 hd3 => ?_
  obtain ⟨ra8, rm8⟩ := sgOwn_rd hL3 (Hp.un_r hd3)
  have hmm : t.1.marked 1 = (t.1.marked 1).marked 1 := by simp [Sg.marked, intMarks_len, mvMarks_len]
  have hml : (t.1.marked 1).acc.length = t.1.acc.length ∧ (t.1.marked 1).mv.length = t.1.mv.length := by simp [Sg.marked, intMarks_len, mvMarks_len]
  refine J.to 0 [] 96 [(1, .bp 1 0), (2, .v (.bool false)), (4, .bp 4 0), (5, .v (.bool (Prod.snd t))), (7, .bp 7 0), (10, .v (.int .i64 (1 + (↑(List.length (Sg.acc (Prod.fst t))) : Int) + 3 * (↑(List.length (Sg.mv (Prod.fst t))) : Int)))), (11, .v (.int .i64 1)), (65, .v (.agg (Array.mk [.slice A6 (List.length (Sg.acc (Prod.fst t))) c6, .slice B6 (List.length (Sg.mv (Prod.fst t))) d6, .int .i64 (Sg.done (Prod.fst t)), .bool (Sg.und (Prod.fst t))]))), (66, .v (.int .i64 1))] [(2, .some false)] [(1, .box 46 [.slice A (List.length (Sg.acc s)) ca, .slice B (List.length (Sg.mv s)) c, .int .i64 (Sg.done s), .bool (Sg.und s)]), (4, .box 28 [.slice A4 (List.length (Sg.acc (Prod.fst t))) c4, .slice B4 (List.length (Sg.mv (Prod.fst t))) d4, .int .i64 (Sg.done (Prod.fst t)), .bool (Sg.und (Prod.fst t))]), (6, .box 28 [.slice A5 (List.length (Sg.acc s)) c5, .slice B5 (List.length (Sg.mv s)) d5, .int .i64 (Sg.done s), .bool (Sg.und s)]), (7, .box 28 [.slice A6 (List.length (Sg.acc (Prod.fst t))) c6, .slice B6 (List.length (Sg.mv (Prod.fst t))) d6, .int .i64 (Sg.done (Prod.fst t)), .bool (Sg.und (Prod.fst t))]), (26, .own (sgOwn (.slice A5 (List.length (Sg.acc s)) c5) (.slice B5 (List.length (Sg.mv s)) d5) (Sg.marked s 1)))] [(1, .some (ρ1 1)), (4, .some (ρ1 4)), (6, .some (ρ1 6)), (7, .some (ρ1 7))] (by kernel_rfl) ?_
  refine J.one (Op1.call rfl rfl rfl rfl rfl rfl rfl rfl (heldSaga_ok _ _ (t.1.marked 1) 1 _ ra8 rm8 (by omega) (by omega) (by omega)) fun v U16 hx16 hv => ?_)
  rw [if_pos hmm, hml.1, hml.2] at hv
  subst hv
  refine J.to 17 [false] 96 [(1, .bp 1 0), (2, .v (.bool false)), (4, .bp 4 0), (5, .v (.bool (Prod.snd t))), (7, .bp 7 0), (10, .v (.int .i64 (1 + (↑(List.length (Sg.acc (Prod.fst t))) : Int) + 3 * (↑(List.length (Sg.mv (Prod.fst t))) : Int)))), (11, .v (.int .i64 (1 + (↑(List.length (Sg.acc (Prod.fst t))) : Int) + 3 * (↑(List.length (Sg.mv (Prod.fst t))) : Int)))), (72, .v (.bool (1 + (↑(List.length (Sg.acc (Prod.fst t))) : Int) + 3 * (↑(List.length (Sg.mv (Prod.fst t))) : Int) != 1 + (↑(List.length (Sg.acc (Prod.fst t))) : Int) + 3 * (↑(List.length (Sg.mv (Prod.fst t))) : Int))))] [(2, .some false)] [(1, .box 46 [.slice A (List.length (Sg.acc s)) ca, .slice B (List.length (Sg.mv s)) c, .int .i64 (Sg.done s), .bool (Sg.und s)]), (4, .box 28 [.slice A4 (List.length (Sg.acc (Prod.fst t))) c4, .slice B4 (List.length (Sg.mv (Prod.fst t))) d4, .int .i64 (Sg.done (Prod.fst t)), .bool (Sg.und (Prod.fst t))]), (6, .box 28 [.slice A5 (List.length (Sg.acc s)) c5, .slice B5 (List.length (Sg.mv s)) d5, .int .i64 (Sg.done s), .bool (Sg.und s)]), (7, .box 28 [.slice A6 (List.length (Sg.acc (Prod.fst t))) c6, .slice B6 (List.length (Sg.mv (Prod.fst t))) d6, .int .i64 (Sg.done (Prod.fst t)), .bool (Sg.und (Prod.fst t))]), (26, .own (sgOwn (.slice A5 (List.length (Sg.acc s)) c5) (.slice B5 (List.length (Sg.mv s)) d5) (Sg.marked s 1)))] [(1, .some (ρ1 1)), (4, .some (ρ1 4)), (6, .some (ρ1 6)), (7, .some (ρ1 7))] (by kernel_rfl) ?_
  refine J.br rfl rfl (fun h => by first | (simp at h; done) | (simp at h; omega)) (fun _ => ?_)
  refine J.to 5 [false] 96 [(2, .v (.bool false)), (4, .bp 4 0), (5, .v (.bool (Prod.snd t))), (7, .bp 7 0), (10, .v (.int .i64 (1 + (↑(List.length (Sg.acc (Prod.fst t))) : Int) + 3 * (↑(List.length (Sg.mv (Prod.fst t))) : Int)))), (11, .v (.int .i64 (1 + (↑(List.length (Sg.acc (Prod.fst t))) : Int) + 3 * (↑(List.length (Sg.mv (Prod.fst t))) : Int)))), (74, .v (.agg (Array.mk [.slice A (List.length (Sg.acc s)) ca, .slice B (List.length (Sg.mv s)) c, .int .i64 (Sg.done s), .bool (Sg.und s)])))] [(2, .some false)] [(1, .box 46 [.slice A (List.length (Sg.acc s)) ca, .slice B (List.length (Sg.mv s)) c, .int .i64 (Sg.done s), .bool (Sg.und s)]), (4, .box 28 [.slice A4 (List.length (Sg.acc (Prod.fst t))) c4, .slice B4 (List.length (Sg.mv (Prod.fst t))) d4, .int .i64 (Sg.done (Prod.fst t)), .bool (Sg.und (Prod.fst t))]), (6, .box 28 [.slice A5 (List.length (Sg.acc s)) c5, .slice B5 (List.length (Sg.mv s)) d5, .int .i64 (Sg.done s), .bool (Sg.und s)]), (7, .box 28 [.slice A6 (List.length (Sg.acc (Prod.fst t))) c6, .slice B6 (List.length (Sg.mv (Prod.fst t))) d6, .int .i64 (Sg.done (Prod.fst t)), .bool (Sg.und (Prod.fst t))]), (26, .own (sgOwn (.slice A5 (List.length (Sg.acc s)) c5) (.slice B5 (List.length (Sg.mv s)) d5) (Sg.marked s 1)))] [(1, .some (ρ1 1)), (4, .some (ρ1 4)), (6, .some (ρ1 6)), (7, .some (ρ1 7))] (by kernel_rfl) ?_

  have hU15 : Ext U5 U15 := hxb.trans (hx12.trans (hxc.trans hx15))
  have hU16 : Ext U5 U16 := hU15.trans (Hp.un_l.trans hx16)
  refine J.one (Op1.ocall rfl rfl rfl rfl rfl rfl rfl (toSaga_ok _ _ s U16 (ra _ (hU5.trans hU16)) (rm _ (hU5.trans hU16)) hl1 hl2) fun v U17 hx17 => ?_)
  refine J.sg 75 rfl fun A7 c7 B7 d7 e => ?_
  subst e
  refine J.pub (k := 75) rfl fun U18 L18 hx18 hl18 hp18 => ?_
  obtain ⟨ra9, rm9⟩ := sgOwn_rd hp18 hl18
  refine J.to 0 [] 96 [(2, .v (.bool false)), (4, .bp 4 0), (5, .v (.bool (Prod.snd t))), (7, .bp 7 0), (10, .v (.int .i64 (1 + (↑(List.length (Sg.acc (Prod.fst t))) : Int) + 3 * (↑(List.length (Sg.mv (Prod.fst t))) : Int)))), (11, .v (.int .i64 (1 + (↑(List.length (Sg.acc (Prod.fst t))) : Int) + 3 * (↑(List.length (Sg.mv (Prod.fst t))) : Int)))), (75, .v (.agg (Array.mk [.slice A7 (List.length (Sg.acc s)) c7, .slice B7 (List.length (Sg.mv s)) d7, .int .i64 (Sg.done s), .bool (Sg.und s)])))] [(2, .some false)] [(1, .box 46 [.slice A (List.length (Sg.acc s)) ca, .slice B (List.length (Sg.mv s)) c, .int .i64 (Sg.done s), .bool (Sg.und s)]), (4, .box 28 [.slice A4 (List.length (Sg.acc (Prod.fst t))) c4, .slice B4 (List.length (Sg.mv (Prod.fst t))) d4, .int .i64 (Sg.done (Prod.fst t)), .bool (Sg.und (Prod.fst t))]), (6, .box 28 [.slice A5 (List.length (Sg.acc s)) c5, .slice B5 (List.length (Sg.mv s)) d5, .int .i64 (Sg.done s), .bool (Sg.und s)]), (7, .box 28 [.slice A6 (List.length (Sg.acc (Prod.fst t))) c6, .slice B6 (List.length (Sg.mv (Prod.fst t))) d6, .int .i64 (Sg.done (Prod.fst t)), .bool (Sg.und (Prod.fst t))]), (26, .own (sgOwn (.slice A5 (List.length (Sg.acc s)) c5) (.slice B5 (List.length (Sg.mv s)) d5) (Sg.marked s 1)))] [(1, .some (ρ1 1)), (4, .some (ρ1 4)), (6, .some (ρ1 6)), (7, .some (ρ1 7))] (by kernel_rfl) ?_
  refine J.one (Op1.ocall rfl rfl rfl rfl rfl rfl rfl (implStep_ok _ _ s _ ra9 rm9 hl1 hl2) fun v U19 hx19 => ?_)
  rw [implStep_eq, ht]
  refine J.sg2 76 rfl fun A8 c8 B8 d8 e => ?_
  subst e
  refine J.pub (k := 76) rfl fun U20 L20 hx20 hl20 hp20 => ?_
  obtain ⟨ra10, rm10⟩ := sgOwn_rd hp20 hl20
  refine J.to 12 [] 96 [(2, .v (.bool false)), (4, .bp 4 0), (5, .v (.bool (Prod.snd t))), (7, .bp 7 0), (10, .v (.int .i64 (1 + (↑(List.length (Sg.acc (Prod.fst t))) : Int) + 3 * (↑(List.length (Sg.mv (Prod.fst t))) : Int)))), (11, .v (.int .i64 (1 + (↑(List.length (Sg.acc (Prod.fst t))) : Int) + 3 * (↑(List.length (Sg.mv (Prod.fst t))) : Int)))), (13, .v (.bool (Prod.snd t))), (79, .v (.agg (Array.mk [.slice A8 (List.length (Sg.acc (Prod.fst t))) c8, .slice B8 (List.length (Sg.mv (Prod.fst t))) d8, .int .i64 (Sg.done (Prod.fst t)), .bool (Sg.und (Prod.fst t))]))), (80, .v (.agg (Array.mk [.slice A4 (List.length (Sg.acc (Prod.fst t))) c4, .slice B4 (List.length (Sg.mv (Prod.fst t))) d4, .int .i64 (Sg.done (Prod.fst t)), .bool (Sg.und (Prod.fst t))])))] [(2, .some false)] [(1, .box 46 [.slice A (List.length (Sg.acc s)) ca, .slice B (List.length (Sg.mv s)) c, .int .i64 (Sg.done s), .bool (Sg.und s)]), (4, .box 28 [.slice A4 (List.length (Sg.acc (Prod.fst t))) c4, .slice B4 (List.length (Sg.mv (Prod.fst t))) d4, .int .i64 (Sg.done (Prod.fst t)), .bool (Sg.und (Prod.fst t))]), (6, .box 28 [.slice A5 (List.length (Sg.acc s)) c5, .slice B5 (List.length (Sg.mv s)) d5, .int .i64 (Sg.done s), .bool (Sg.und s)]), (7, .box 28 [.slice A6 (List.length (Sg.acc (Prod.fst t))) c6, .slice B6 (List.length (Sg.mv (Prod.fst t))) d6, .int .i64 (Sg.done (Prod.fst t)), .bool (Sg.und (Prod.fst t))]), (26, .own (sgOwn (.slice A5 (List.length (Sg.acc s)) c5) (.slice B5 (List.length (Sg.mv s)) d5) (Sg.marked s 1)))] [(1, .some (ρ1 1)), (4, .some (ρ1 4)), (6, .some (ρ1 6)), (7, .some (ρ1 7))] (by kernel_rfl) ?_
  have hU20 : Ext U5 U20 := hU16.trans (hx17.trans (hx18.trans (hx19.trans hx20)))
  refine J.one (Op1.call rfl rfl rfl rfl rfl rfl rfl rfl (eqSaga_ok _ _ _ _ t.1 t.1 _ ra10 rm10 ⟨A4, c4, rfl, hc4, hA4.mono (hx5.trans hU20)⟩ ⟨B4, d4, rfl, hd4, hB4.mono (hx5.trans hU20)⟩ (by omega) (by omega)) fun v U21 hx21 hv => ?_)
  rw [decide_eq_true rfl] at hv; subst hv
  refine J.to 7 [] 96 [(2, .v (.bool false)), (7, .bp 7 0), (10, .v (.int .i64 (1 + (↑(List.length (Sg.acc (Prod.fst t))) : Int) + 3 * (↑(List.length (Sg.mv (Prod.fst t))) : Int)))), (11, .v (.int .i64 (1 + (↑(List.length (Sg.acc (Prod.fst t))) : Int) + 3 * (↑(List.length (Sg.mv (Prod.fst t))) : Int)))), (87, .v (.bool !Prod.snd t == Prod.snd t))] [(2, .some false)] [(1, .box 46 [.slice A (List.length (Sg.acc s)) ca, .slice B (List.length (Sg.mv s)) c, .int .i64 (Sg.done s), .bool (Sg.und s)]), (4, .box 28 [.slice A4 (List.length (Sg.acc (Prod.fst t))) c4, .slice B4 (List.length (Sg.mv (Prod.fst t))) d4, .int .i64 (Sg.done (Prod.fst t)), .bool (Sg.und (Prod.fst t))]), (6, .box 28 [.slice A5 (List.length (Sg.acc s)) c5, .slice B5 (List.length (Sg.mv s)) d5, .int .i64 (Sg.done s), .bool (Sg.und s)]), (7, .box 28 [.slice A6 (List.length (Sg.acc (Prod.fst t))) c6, .slice B6 (List.length (Sg.mv (Prod.fst t))) d6, .int .i64 (Sg.done (Prod.fst t)), .bool (Sg.und (Prod.fst t))]), (26, .own (sgOwn (.slice A5 (List.length (Sg.acc s)) c5) (.slice B5 (List.length (Sg.mv s)) d5) (Sg.marked s 1)))] [(1, .some (ρ1 1)), (4, .some (ρ1 4)), (6, .some (ρ1 6)), (7, .some (ρ1 7))] (by kernel_rfl) ?_
  refine J.br rfl rfl (fun h => by simp at h) (fun _ => ?_)
  refine J.to 10 [false] 96 [(2, .v (.bool false)), (10, .v (.int .i64 (1 + (↑(List.length (Sg.acc (Prod.fst t))) : Int) + 3 * (↑(List.length (Sg.mv (Prod.fst t))) : Int)))), (11, .v (.int .i64 1)), (88, .v (.agg (Array.mk [.slice A6 (List.length (Sg.acc (Prod.fst t))) c6, .slice B6 (List.length (Sg.mv (Prod.fst t))) d6, .int .i64 (Sg.done (Prod.fst t)), .bool (Sg.und (Prod.fst t))]))), (89, .v (.int .i64 1))] [(2, .some false)] [(1, .box 46 [.slice A (List.length (Sg.acc s)) ca, .slice B (List.length (Sg.mv s)) c, .int .i64 (Sg.done s), .bool (Sg.und s)]), (4, .box 28 [.slice A4 (List.length (Sg.acc (Prod.fst t))) c4, .slice B4 (List.length (Sg.mv (Prod.fst t))) d4, .int .i64 (Sg.done (Prod.fst t)), .bool (Sg.und (Prod.fst t))]), (6, .box 28 [.slice A5 (List.length (Sg.acc s)) c5, .slice B5 (List.length (Sg.mv s)) d5, .int .i64 (Sg.done s), .bool (Sg.und s)]), (7, .box 28 [.slice A6 (List.length (Sg.acc (Prod.fst t))) c6, .slice B6 (List.length (Sg.mv (Prod.fst t))) d6, .int .i64 (Sg.done (Prod.fst t)), .bool (Sg.und (Prod.fst t))]), (26, .own (sgOwn (.slice A5 (List.length (Sg.acc s)) c5) (.slice B5 (List.length (Sg.mv s)) d5) (Sg.marked s 1)))] [(1, .some (ρ1 1)), (4, .some (ρ1 4)), (6, .some (ρ1 6)), (7, .some (ρ1 7))] (by kernel_rfl) ?_
  have hU21 : Ext (Hp.un U15 L3) U21 := hx16.trans (hx17.trans (hx18.trans (hx19.trans (hx20.trans hx21))))
  refine J.one (Op1.call rfl rfl rfl rfl rfl rfl rfl rfl (heldSaga_ok _ _ (t.1.marked 1) 1 _ (ra8.mono hU21) (rm8.mono hU21) (by omega) (by omega) (by omega)) fun v U22 hx22 hv => ?_)
  rw [if_pos hmm, hml.1, hml.2] at hv
  subst hv
  refine J.to 17 [false] 96 [(2, .v (.bool false)), (95, .v (.bool (1 + (↑(List.length (Sg.acc (Prod.fst t))) : Int) + 3 * (↑(List.length (Sg.mv (Prod.fst t))) : Int) != 1 + (↑(List.length (Sg.acc (Prod.fst t))) : Int) + 3 * (↑(List.length (Sg.mv (Prod.fst t))) : Int))))] [(2, .some false)] [(1, .box 46 [.slice A (List.length (Sg.acc s)) ca, .slice B (List.length (Sg.mv s)) c, .int .i64 (Sg.done s), .bool (Sg.und s)]), (4, .box 28 [.slice A4 (List.length (Sg.acc (Prod.fst t))) c4, .slice B4 (List.length (Sg.mv (Prod.fst t))) d4, .int .i64 (Sg.done (Prod.fst t)), .bool (Sg.und (Prod.fst t))]), (6, .box 28 [.slice A5 (List.length (Sg.acc s)) c5, .slice B5 (List.length (Sg.mv s)) d5, .int .i64 (Sg.done s), .bool (Sg.und s)]), (7, .box 28 [.slice A6 (List.length (Sg.acc (Prod.fst t))) c6, .slice B6 (List.length (Sg.mv (Prod.fst t))) d6, .int .i64 (Sg.done (Prod.fst t)), .bool (Sg.und (Prod.fst t))]), (26, .own (sgOwn (.slice A5 (List.length (Sg.acc s)) c5) (.slice B5 (List.length (Sg.mv s)) d5) (Sg.marked s 1)))] [(1, .some (ρ1 1)), (4, .some (ρ1 4)), (6, .some (ρ1 6)), (7, .some (ρ1 7))] (by kernel_rfl) ?_
  refine J.br rfl rfl (fun h => by first | (simp at h; done) | (simp at h; omega)) (fun _ => ?_)
  refine J.to 6 [false] 96 [(2, .v (.bool true))] [(2, .some true)] [(1, .box 46 [.slice A (List.length (Sg.acc s)) ca, .slice B (List.length (Sg.mv s)) c, .int .i64 (Sg.done s), .bool (Sg.und s)]), (4, .box 28 [.slice A4 (List.length (Sg.acc (Prod.fst t))) c4, .slice B4 (List.length (Sg.mv (Prod.fst t))) d4, .int .i64 (Sg.done (Prod.fst t)), .bool (Sg.und (Prod.fst t))]), (6, .box 28 [.slice A5 (List.length (Sg.acc s)) c5, .slice B5 (List.length (Sg.mv s)) d5, .int .i64 (Sg.done s), .bool (Sg.und s)]), (7, .box 28 [.slice A6 (List.length (Sg.acc (Prod.fst t))) c6, .slice B6 (List.length (Sg.mv (Prod.fst t))) d6, .int .i64 (Sg.done (Prod.fst t)), .bool (Sg.und (Prod.fst t))]), (26, .own (sgOwn (.slice A5 (List.length (Sg.acc s)) c5) (.slice B5 (List.length (Sg.mv s)) d5) (Sg.marked s 1)))] [(1, .some (ρ1 1)), (4, .some (ρ1 4)), (6, .some (ρ1 6)), (7, .some (ρ1 7))] (by kernel_rfl) ?_
  exact J.ret ⟨_, rfl, .inl rfl⟩
end Go.Rx
end

section
open Go Go.Rx Go.Proofs
namespace Go.Rx
def Sg.mu (s : Sg) : Nat := if s.und then s.done.toNat else s.mv.length + 1 + (s.mv.length - s.done.toNat)
def Sg.may (s : Sg) : Bool := !s.und && (s.done != s.mv.length)
def Sg.nxt (s : Sg) (b : Bool) : Option Sg := if b && s.may then some { s with und := true } else if s.step.2 then some s.step.1 else none
def runF : Nat → Int → Nat → Sg → Sg × Nat
  | 0, _, n, s => (s, n)
  | k + 1, fail, n, s => match s.nxt ((n : Int) == fail) with
    | some t => runF k fail (n + 1) t
    | none => (s, n)
theorem fail_good {s : Sg} (h : s.good = true) : ({ s with und := true } : Sg).good = true := h
theorem nxt_good {s t : Sg} {b : Bool} (h : s.good = true) (e : s.nxt b = some t) : t.good = true ∧ t.mu < s.mu := by
  obtain ⟨hf, -⟩ := good_parts h
  obtain ⟨-, -, h20, hd, -⟩ := form_parts hf
  unfold Sg.nxt at e
  cases hb : (b && s.may) with
  | true =>
    rw [hb] at e
    simp only [if_true, Option.some.injEq] at e
    subst e
    refine ⟨fail_good h, ?_⟩
    simp only [Bool.and_eq_true, Sg.may, Bool.not_eq_true'] at hb
    simp only [Sg.mu, hb.2.1, if_true, Bool.false_eq_true, if_false]
    omega
  | false =>
    rw [hb] at e
    simp only [Bool.false_eq_true, if_false] at e
    cases h2 : s.step.2 with
    | false => rw [h2] at e; simp at e
    | true =>
      rw [h2] at e
      simp only [if_true, Option.some.injEq] at e
      subst e
      refine ⟨step_good h h2, ?_⟩
      unfold Sg.step at h2 ⊢
      cases hu : s.und with
      | true =>
        simp only [hu, if_true] at h2 ⊢
        by_cases h0 : s.done = 0
        · rw [if_pos h0] at h2; cases h2
        · rw [if_neg h0]
          simp only [Sg.mu, hu, if_true]
          rw [wr_id (by omega)]
          omega
      | false =>
        simp only [hu, Bool.false_eq_true, if_false] at h2 ⊢
        by_cases h0 : s.done = s.mv.length
        · rw [if_pos h0] at h2; cases h2
        · rw [if_neg h0]
          split
          · simp only [Sg.mu, hu, Bool.false_eq_true, if_false]
            rw [wr_id (by omega)]
            omega
          · simp only [Sg.mu, hu, if_true, Bool.false_eq_true, if_false]
            omega
theorem mu_le {s : Sg} (h : s.good = true) : s.mu ≤ 2 * s.mv.length + 1 := by
  obtain ⟨hf, -⟩ := good_parts h
  obtain ⟨-, -, h20, hd, -⟩ := form_parts hf
  unfold Sg.mu
  split <;> omega
theorem runF_eq (fail : Int) : ∀ (k k' n : Nat) (s : Sg), s.good = true → s.mu < k → s.mu < k' → runF k fail n s = runF k' fail n s
  | 0, _, _, _, _, h, _ => by omega
  | _ + 1, 0, _, _, _, _, h => by omega
  | k + 1, k' + 1, n, s, h, h1, h2 => by
    simp only [runF]
    cases e : s.nxt ((n : Int) == fail) with
    | none => rfl
    | some t =>
      obtain ⟨g1, g2⟩ := nxt_good h e
      exact runF_eq fail k k' (n + 1) t g1 (by omega) (by omega)
theorem runF_some {fail : Int} {n : Nat} {s t : Sg} (h : s.good = true) (e : s.nxt ((n : Int) == fail) = some t) : runF (s.mu + 1) fail n s = runF (t.mu + 1) fail (n + 1) t := by
  obtain ⟨g1, g2⟩ := nxt_good h e
  rw [runF, e]
  exact runF_eq fail _ _ _ _ g1 (by omega) (by omega)
theorem runF_none {fail : Int} {n : Nat} {s : Sg} (e : s.nxt ((n : Int) == fail) = none) : runF (s.mu + 1) fail n s = (s, n) := by rw [runF, e]
def runS (s : Sg) (fail : Int) : Sg × Nat × Bool := if s.good then ((runF (s.mu + 1) fail 0 s).1, (runF (s.mu + 1) fail 0 s).2, true) else (Sg.zero, 0, false)
theorem nxt_len {s t : Sg} {b : Bool} (e : s.nxt b = some t) : t.acc.length = s.acc.length ∧ t.mv = s.mv := by
  unfold Sg.nxt at e
  split at e
  · simp only [Option.some.injEq] at e; subst e; exact ⟨rfl, rfl⟩
  · split at e
    · simp only [Option.some.injEq] at e; subst e; exact step_len s
    · cases e
theorem runF_len (fail : Int) : ∀ (k n : Nat) (s : Sg), (runF k fail n s).1.acc.length = s.acc.length ∧ (runF k fail n s).1.mv = s.mv
  | 0, _, _ => ⟨rfl, rfl⟩
  | k + 1, n, s => by
    simp only [runF]
    split
    · rename_i t e
      have h1 := runF_len fail k (n + 1) t
      have h2 := nxt_len e
      exact ⟨h1.1.trans h2.1, h1.2.trans h2.2⟩
    · exact ⟨rfl, rfl⟩
theorem runS_len (s : Sg) (fail : Int) : (runS s fail).1.acc.length ≤ s.acc.length ∧ (runS s fail).1.mv.length ≤ s.mv.length := by
  unfold runS
  split
  · have := runF_len fail (s.mu + 1) 0 s
    simp only [this.1, this.2]; omega
  · simp [Sg.zero]
end Go.Rx
end

section
open Go Go.Rx Go.Proofs
set_option maxHeartbeats 1000000
namespace Go.Rx
theorem failM_ok (va : Value) (B : Option Addr) (d m : Nat) (dn : Int) (u : Bool) (U : Hp) :
    BCall Try.prog 32 [.bp 22 0] [(22, .box 28 [va, .slice B m d, .int .i64 dn, .bool u])] U fun r U' ML => r = .bool (!u && (dn != m)) ∧ ML = [(22, .box 28 [va, .slice B m d, .int .i64 dn, .bool ((!u && (dn != m)) || u)])] := by
  refine BCall.of (args := [.bp 22 0]) E_ok mix Try.func32 (by kernel_rfl) rfl Try.ntmps32 (Nat.le_of_ble_eq_true rfl) rfl fun F w0 ρ => ?_
  refine J.to 6 [] 22 [(0, .bp 22 0), (2, .v (.bool false))] [(2, .some false)] [(22, .box 28 [va, .slice B m d, .int .i64 dn, .bool u])] [(22, .some (ρ 22))] (by kernel_rfl) ?_
  refine J.any [22] [] [(22, ρ 22)] ⟨rfl, trivial⟩ fun ρ1 ⟨hρ1, _⟩ => ?_
  refine J.takeTo true [0, 1, 2, 3, 4] 11 22 [(0, .bp 22 0), (2, .v (.bool false)), (3, .bp 22 0), (4, .bp 22 0), (5, .bp 22 3), (6, .v (.bool u)), (7, .v (.bool u))] [(2, .some false)] [(22, .box 28 [va, .slice B m d, .int .i64 dn, .bool u])] [(22, .some (ρ1 22))] (by first | exact Ext.refl _ | assumption | exact Ext.trans (by assumption) (by assumption) | exact Ext.trans (by assumption) (Ext.trans (by assumption) (by assumption))) (fun h => rfl) ⟨⟨rfl, rfl⟩, trivial⟩ rfl (by kernel_rfl) ?_
  refine J.brAt 7 rfl (fun h1 => ?_) (fun h1 => ?_)
  · refine J.takeTo true [5, 6, 7, 8, 9, 10, 11, 12, 13, 14, 15] 0 22 [(0, .bp 22 0), (2, .v (.bool false)), (3, .bp 22 0), (4, .bp 22 0), (5, .bp 22 3), (6, .v (.bool u)), (7, .v (.bool true)), (8, .v (.tuple (Array.mk []))), (9, .v (.tuple (Array.mk []))), (10, .v (.tuple (Array.mk []))), (11, .v (.tuple (Array.mk []))), (12, .v (.tuple (Array.mk []))), (13, .v (.tuple (Array.mk []))), (14, .v (.tuple (Array.mk []))), (15, .v (.tuple (Array.mk []))), (16, .v (.tuple (Array.mk []))), (17, .v (.tuple (Array.mk []))), (18, .v (.bool true))] [(2, .some false), (7, .some true), (18, .some true)] [(22, .box 28 [va, .slice B m d, .int .i64 dn, .bool u])] [(22, .some (ρ1 22))] (by first | exact Ext.refl _ | assumption | exact Ext.trans (by assumption) (by assumption) | exact Ext.trans (by assumption) (Ext.trans (by assumption) (by assumption))) (fun h => rfl) ⟨⟨rfl, rfl⟩, trivial⟩ rfl (by kernel_rfl) ?_
    refine J.adone' (by kernel_rfl) ?_
    refine J.to 5 [true] 22 [(0, .bp 22 0), (2, .v (.bool false))] [(2, .some false)] [(22, .box 28 [va, .slice B m d, .int .i64 dn, .bool u])] [(22, .some (ρ1 22))] (by kernel_rfl) ?_
    subst h1
    exact J.retB [(22, .box 28 [va, .slice B m d, .int .i64 dn, .bool true])] rfl ⟨⟨rfl, .inl (congrArg some hρ1)⟩, trivial⟩ ⟨rfl, rfl⟩
  · refine J.takeTo true [5, 6, 7, 8, 9, 10, 11, 12, 13, 14, 15] 0 22 [(0, .bp 22 0), (2, .v (.bool false)), (3, .bp 22 0), (4, .bp 22 0), (5, .bp 22 3), (6, .v (.bool u)), (7, .v (.bool false)), (8, .bp 22 0), (9, .bp 22 0), (10, .bp 22 2), (11, .v (.int .i64 dn)), (12, .bp 22 0), (13, .bp 22 0), (14, .bp 22 1), (15, .v (.slice B m d)), (16, .v (.int .i64 (↑m : Int))), (17, .v (.bool (dn == (↑m : Int)))), (18, .v (.bool (dn == (↑m : Int))))] [(2, .some false), (7, .some false)] [(22, .box 28 [va, .slice B m d, .int .i64 dn, .bool u])] [(22, .some (ρ1 22))] (by first | exact Ext.refl _ | assumption | exact Ext.trans (by assumption) (by assumption) | exact Ext.trans (by assumption) (Ext.trans (by assumption) (by assumption))) (fun h => rfl) ⟨⟨rfl, rfl⟩, trivial⟩ rfl (by kernel_rfl) ?_
    refine J.adone' (by kernel_rfl) ?_
    refine J.to 0 [] 22 [(0, .bp 22 0), (2, .v (.bool false)), (18, .v (.bool (dn == (↑m : Int))))] [(2, .some false)] [(22, .box 28 [va, .slice B m d, .int .i64 dn, .bool u])] [(22, .some (ρ1 22))] (by kernel_rfl) ?_
    subst h1
    refine J.br rfl rfl (fun h2 => ?_) (fun h2 => ?_)
    · refine J.to 5 [true] 22 [(0, .bp 22 0), (2, .v (.bool false))] [(2, .some false)] [(22, .box 28 [va, .slice B m d, .int .i64 dn, .bool false])] [(22, .some (ρ1 22))] (by kernel_rfl) ?_
      have e : (dn != (m : Int)) = false := by simpa using h2
      refine J.retB [(22, .box 28 [va, .slice B m d, .int .i64 dn, .bool false])] rfl ⟨⟨rfl, .inl (congrArg some hρ1)⟩, trivial⟩ ⟨?_, ?_⟩
      · rw [e]; rfl
      · rw [e]; rfl
    · refine J.to 13 [false] 22 [(2, .v (.bool true))] [(2, .some true)] [(22, .box 28 [va, .slice B m d, .int .i64 dn, .bool true])] [(22, .some (ρ1 22))] (by kernel_rfl) ?_
      have e : (dn != (m : Int)) = true := by simpa using h2
      refine J.retB [(22, .box 28 [va, .slice B m d, .int .i64 dn, .bool true])] rfl ⟨⟨rfl, .inl (congrArg some hρ1)⟩, trivial⟩ ⟨?_, ?_⟩
      · rw [e]; rfl
      · rw [e]; rfl

theorem run31_ok (A : Option Addr) (c : Nat) (B : Option Addr) (d : Nat) (s : Sg) (fail : Int) (U : Hp) (hg : s.good = true) :
    BCall Try.prog 31 [.bp 18 0, .bp 19 0, .bp 20 0] [(18, .box 28 [.slice A s.acc.length c, .slice B s.mv.length d, .int .i64 s.done, .bool s.und]), (19, .box 3 [.int .i64 0]), (20, .box 3 [.int .i64 fail]), (21, .own (sgOwn (.slice A s.acc.length c) (.slice B s.mv.length d) s))] U fun r U' ML =>
      ∃ va' vm' t n, (t, n) = runF (s.mu + 1) fail 0 s ∧ r = .bool true ∧ ML = [(18, .box 28 [va', vm', .int .i64 t.done, .bool t.und]), (19, .box 3 [.int .i64 (n : Nat)]), (20, .box 3 [.int .i64 fail]), (21, .own (sgOwn va' vm' t))] := by
  have hmu := mu_le hg
  have hml : s.mv.length ≤ 20 := (form_parts (good_parts hg).1).2.2.1
  refine BCall.of (args := [.bp 18 0, .bp 19 0, .bp 20 0]) E_ok mix Try.func31 (by kernel_rfl) rfl Try.ntmps31 (Nat.le_of_ble_eq_true rfl) rfl fun F w0 ρ => ?_
  refine J.to 6 [] 18 [(0, .bp 18 0), (1, .bp 19 0), (2, .bp 20 0), (4, .v (.bool false))] [(4, .some false)] [(18, .box 28 [.slice A (List.length (Sg.acc s)) c, .slice B (List.length (Sg.mv s)) d, .int .i64 (Sg.done s), .bool (Sg.und s)]), (19, .box 3 [.int .i64 0]), (20, .box 3 [.int .i64 fail]), (21, .own (sgOwn (.slice A (List.length (Sg.acc s)) c) (.slice B (List.length (Sg.mv s)) d) s))] [(18, .some (ρ 18)), (19, .some (ρ 19)), (20, .some (ρ 20)), (21, .some (ρ 21))] (by kernel_rfl) ?_
  refine J.loopK 18 [(18, some (ρ 18)), (19, some (ρ 19)), (20, some (ρ 20))] (fun x : Nat × Sg × (Option Addr × Nat) × (Option Addr × Nat) => [(0, .bp 18 0), (1, .bp 19 0), (2, .bp 20 0)])
    (fun x => [(18, .box 28 [.slice x.2.2.1.1 x.2.1.acc.length x.2.2.1.2, .slice x.2.2.2.1 x.2.1.mv.length x.2.2.2.2, .int .i64 x.2.1.done, .bool x.2.1.und]), (19, .box 3 [.int .i64 (x.1 : Nat)]), (20, .box 3 [.int .i64 fail]), (21, .own (sgOwn (.slice x.2.2.1.1 x.2.1.acc.length x.2.2.1.2) (.slice x.2.2.2.1 x.2.1.mv.length x.2.2.2.2) x.2.1))])
    (fun x U' => x.2.1.good = true ∧ x.1 + x.2.1.mu ≤ 41 ∧ runF (x.2.1.mu + 1) fail x.1 x.2.1 = runF (s.mu + 1) fail 0 s) (fun x => x.2.1.mu) (0, s, (A, c), (B, d)) ⟨hg, by simp only; omega, rfl⟩ (by kernel_rfl) ?_
  rintro ⟨n, t, ⟨A1, c1⟩, B1, d1⟩ U1 ⟨hg1, hn1, hr1⟩ hx1
  simp only at hg1 hn1 hr1
  have hf1 := (good_parts hg1).1
  refine J.to 7 [] 18 [(0, .bp 18 0), (1, .bp 19 0), (2, .bp 20 0), (7, .v (.bool ((↑n : Int) == fail))), (8, .v (.bool ((↑n : Int) == fail)))] [] [(18, .box 28 [.slice A1 (List.length (Sg.acc t)) c1, .slice B1 (List.length (Sg.mv t)) d1, .int .i64 (Sg.done t), .bool (Sg.und t)]), (19, .box 3 [.int .i64 (↑n : Int)]), (20, .box 3 [.int .i64 fail]), (21, .own (sgOwn (.slice A1 (List.length (Sg.acc t)) c1) (.slice B1 (List.length (Sg.mv t)) d1) t))] [(18, .some (ρ 18)), (19, .some (ρ 19)), (20, .some (ρ 20))] (by kernel_rfl) ?_
  refine J.br rfl rfl (fun h1 => ?_) (fun h1 => ?_)
  · refine J.to 1 [] 18 [(0, .bp 18 0), (1, .bp 19 0), (2, .bp 20 0), (7, .v (.bool ((↑n : Int) == fail))), (8, .v (.bool true)), (9, .bp 18 0)] [(8, .some true)] [(18, .box 28 [.slice A1 (List.length (Sg.acc t)) c1, .slice B1 (List.length (Sg.mv t)) d1, .int .i64 (Sg.done t), .bool (Sg.und t)]), (19, .box 3 [.int .i64 (↑n : Int)]), (20, .box 3 [.int .i64 fail]), (21, .own (sgOwn (.slice A1 (List.length (Sg.acc t)) c1) (.slice B1 (List.length (Sg.mv t)) d1) t))] [(18, .some (ρ 18)), (19, .some (ρ 19)), (20, .some (ρ 20))] (by kernel_rfl) ?_
    refine J.one (Op1.bcall [(22, 18)] (args := [.bp 22 0]) (ML := [(22, .box 28 [.slice A1 t.acc.length c1, .slice B1 t.mv.length d1, .int .i64 t.done, .bool t.und])]) rfl rfl rfl rfl rfl rfl rfl rfl rfl rfl (fun p hp => by simp at hp; subst hp; rfl) (fun p hp => by simp at hp; subst hp; rfl)
      (failM_ok _ B1 d1 t.mv.length t.done t.und U1) fun v U2 ML hx2 ⟨hv, hML⟩ => ?_)
    subst hv; subst hML
    refine J.to 2 [] 18 [(0, .bp 18 0), (1, .bp 19 0), (2, .bp 20 0), (7, .v (.bool ((↑n : Int) == fail))), (12, .v (.bool (!Sg.und t && Sg.done t != (↑(List.length (Sg.mv t)) : Int))))] [] [(18, .box 28 [.slice A1 (List.length (Sg.acc t)) c1, .slice B1 (List.length (Sg.mv t)) d1, .int .i64 (Sg.done t), .bool (!Sg.und t && Sg.done t != (↑(List.length (Sg.mv t)) : Int) || Sg.und t)]), (19, .box 3 [.int .i64 (↑n : Int)]), (20, .box 3 [.int .i64 fail]), (21, .own (sgOwn (.slice A1 (List.length (Sg.acc t)) c1) (.slice B1 (List.length (Sg.mv t)) d1) t))] [(18, .some (ρ 18)), (19, .some (ρ 19)), (20, .some (ρ 20))] (by kernel_rfl) ?_
    refine J.br rfl rfl (fun h2 => ?_) (fun h2 => ?_)
    · rw [h2]
      refine J.to 13 [true] 18 [(0, .bp 18 0), (1, .bp 19 0), (2, .bp 20 0)] [] [(18, .box 28 [.slice A1 (List.length (Sg.acc t)) c1, .slice B1 (List.length (Sg.mv t)) d1, .int .i64 (Sg.done t), .bool (true || Sg.und t)]), (20, .box 3 [.int .i64 fail]), (21, .own (sgOwn (.slice A1 (List.length (Sg.acc t)) c1) (.slice B1 (List.length (Sg.mv t)) d1) t)), (19, .box 3 [.int .i64 (IntKind.wrap .i64 ((↑n : Int) + 1))])] [(18, .some (ρ 18)), (19, .some (ρ 19)), (20, .some (ρ 20))] (by kernel_rfl) ?_
      rw [show IntKind.wrap .i64 ((n : Int) + 1) = ((n + 1 : Nat) : Int) from wr_id (by omega)]
      have e : t.nxt ((n : Int) == fail) = some { t with und := true } := by simp [Sg.nxt, h1, Sg.may, h2]
      have e2 := nxt_good hg1 e
      exact J.againK (n + 1, { t with und := true }, (A1, c1), (B1, d1)) (by kernel_rfl) ⟨e2.1, by have := e2.2; simp only; omega, (runF_some hg1 e).symm.trans hr1⟩ e2.2
    · rw [h2]
      refine J.to 1 [] 18 [(0, .bp 18 0), (1, .bp 19 0), (2, .bp 20 0), (7, .v (.bool ((↑n : Int) == fail))), (12, .v (.bool false)), (13, .bp 18 0)] [(12, .some false)] [(18, .box 28 [.slice A1 (List.length (Sg.acc t)) c1, .slice B1 (List.length (Sg.mv t)) d1, .int .i64 (Sg.done t), .bool (false || Sg.und t)]), (19, .box 3 [.int .i64 (↑n : Int)]), (20, .box 3 [.int .i64 fail]), (21, .own (sgOwn (.slice A1 (List.length (Sg.acc t)) c1) (.slice B1 (List.length (Sg.mv t)) d1) t))] [(18, .some (ρ 18)), (19, .some (ρ 19)), (20, .some (ρ 20))] (by kernel_rfl) ?_
      refine J.one (Op1.bcall [(104, 18), (105, 21)] (args := [.bp 104 0]) (ML := [(104, .box 28 [.slice A1 t.acc.length c1, .slice B1 t.mv.length d1, .int .i64 t.done, .bool t.und]), (105, .own (sgOwn (.slice A1 t.acc.length c1) (.slice B1 t.mv.length d1) t))]) rfl rfl rfl rfl rfl rfl rfl rfl rfl rfl (fun p hp => by simp at hp; rcases hp with rfl | rfl <;> rfl) (fun p hp => by simp at hp; rcases hp with rfl | rfl <;> rfl) (stepM_ok _ _ t U2 hf1) fun v U3 ML hx3 ⟨va3, vm3, hv, hML⟩ => ?_)
      subst hv; subst hML
      refine J.own' (α := ∃ x : Option Addr × Nat × Option Addr × Nat, va3 = .slice x.1 t.step.1.acc.length x.2.1 ∧ vm3 = .slice x.2.2.1 t.step.1.mv.length x.2.2.2) (p' := fun _ => sgOwn va3 vm3 t.step.1) 21 rfl (fun h h1 => ⟨sgOwn_slice h1, h1⟩) ?_
      rintro ⟨⟨A3, c3, B3, d3⟩, rfl, rfl⟩
      dsimp only
      refine J.to 2 [] 18 [(0, .bp 18 0), (1, .bp 19 0), (2, .bp 20 0), (15, .v (.bool (Prod.snd (Sg.step t))))] [] [(18, .box 28 [.slice A3 (List.length (Sg.acc (Prod.fst (Sg.step t)))) c3, .slice B3 (List.length (Sg.mv (Prod.fst (Sg.step t)))) d3, .int .i64 (Sg.done (Prod.fst (Sg.step t))), .bool (Sg.und (Prod.fst (Sg.step t)))]), (19, .box 3 [.int .i64 (↑n : Int)]), (20, .box 3 [.int .i64 fail]), (21, .own (sgOwn (.slice A3 (List.length (Sg.acc (Prod.fst (Sg.step t)))) c3) (.slice B3 (List.length (Sg.mv (Prod.fst (Sg.step t)))) d3) (Prod.fst (Sg.step t))))] [(18, .some (ρ 18)), (19, .some (ρ 19)), (20, .some (ρ 20))] (by kernel_rfl) ?_
      have hno : ((n : Int) == fail && t.may) = false := by simp [Sg.may, h1, h2]
      refine J.br rfl rfl (fun h3 => ?_) (fun h3 => ?_)
      · refine J.to 9 [true] 18 [(0, .bp 18 0), (1, .bp 19 0), (2, .bp 20 0)] [] [(18, .box 28 [.slice A3 (List.length (Sg.acc (Prod.fst (Sg.step t)))) c3, .slice B3 (List.length (Sg.mv (Prod.fst (Sg.step t)))) d3, .int .i64 (Sg.done (Prod.fst (Sg.step t))), .bool (Sg.und (Prod.fst (Sg.step t)))]), (20, .box 3 [.int .i64 fail]), (21, .own (sgOwn (.slice A3 (List.length (Sg.acc (Prod.fst (Sg.step t)))) c3) (.slice B3 (List.length (Sg.mv (Prod.fst (Sg.step t)))) d3) (Prod.fst (Sg.step t)))), (19, .box 3 [.int .i64 (IntKind.wrap .i64 ((↑n : Int) + 1))])] [(18, .some (ρ 18)), (19, .some (ρ 19)), (20, .some (ρ 20))] (by kernel_rfl) ?_
        rw [show IntKind.wrap .i64 ((n : Int) + 1) = ((n + 1 : Nat) : Int) from wr_id (by omega)]
        have e : t.nxt ((n : Int) == fail) = some t.step.1 := by simp [Sg.nxt, hno, h3]
        have e2 := nxt_good hg1 e
        exact J.againK (n + 1, t.step.1, (A3, c3), (B3, d3)) (by kernel_rfl) ⟨e2.1, by have := e2.2; simp only; omega, (runF_some hg1 e).symm.trans hr1⟩ e2.2
      · refine J.to 6 [false] 18 [(4, .v (.bool true))] [(4, .some true)] [(18, .box 28 [.slice A3 (List.length (Sg.acc (Prod.fst (Sg.step t)))) c3, .slice B3 (List.length (Sg.mv (Prod.fst (Sg.step t)))) d3, .int .i64 (Sg.done (Prod.fst (Sg.step t))), .bool (Sg.und (Prod.fst (Sg.step t)))]), (19, .box 3 [.int .i64 (↑n : Int)]), (20, .box 3 [.int .i64 fail]), (21, .own (sgOwn (.slice A3 (List.length (Sg.acc (Prod.fst (Sg.step t)))) c3) (.slice B3 (List.length (Sg.mv (Prod.fst (Sg.step t)))) d3) (Prod.fst (Sg.step t))))] [(18, .some (ρ 18)), (19, .some (ρ 19)), (20, .some (ρ 20))] (by kernel_rfl) ?_
        have e : t.nxt ((n : Int) == fail) = none := by simp [Sg.nxt, hno, h3]
        have e1 : t.step.1 = t := by
          have h3 : t.step.2 = false := h3
          unfold Sg.step at h3 ⊢
          repeat' split at h3
          all_goals first | (cases h3; done) | rfl | skip
          all_goals simp_all
        rw [runF_none e] at hr1
        refine J.retB [(18, .box 28 [.slice A3 t.step.1.acc.length c3, .slice B3 t.step.1.mv.length d3, .int .i64 t.step.1.done, .bool t.step.1.und]), (19, .box 3 [.int .i64 (n : Nat)]), (20, .box 3 [.int .i64 fail]), (21, .own (sgOwn (.slice A3 t.step.1.acc.length c3) (.slice B3 t.step.1.mv.length d3) t.step.1))] rfl
          ⟨⟨rfl, .inl rfl⟩, ⟨rfl, .inl rfl⟩, ⟨rfl, .inl rfl⟩, ⟨rfl, .inr ⟨_, rfl⟩⟩, trivial⟩ ⟨_, _, t.step.1, n, by rw [e1]; exact hr1, rfl, rfl⟩
  · refine J.to 5 [] 18 [(0, .bp 18 0), (1, .bp 19 0), (2, .bp 20 0), (7, .v (.bool ((↑n : Int) == fail))), (12, .v (.bool false)), (13, .bp 18 0)] [(12, .some false)] [(18, .box 28 [.slice A1 (List.length (Sg.acc t)) c1, .slice B1 (List.length (Sg.mv t)) d1, .int .i64 (Sg.done t), .bool (Sg.und t)]), (19, .box 3 [.int .i64 (↑n : Int)]), (20, .box 3 [.int .i64 fail]), (21, .own (sgOwn (.slice A1 (List.length (Sg.acc t)) c1) (.slice B1 (List.length (Sg.mv t)) d1) t))] [(18, .some (ρ 18)), (19, .some (ρ 19)), (20, .some (ρ 20))] (by kernel_rfl) ?_
    refine J.one (Op1.bcall [(104, 18), (105, 21)] (args := [.bp 104 0]) (ML := [(104, .box 28 [.slice A1 t.acc.length c1, .slice B1 t.mv.length d1, .int .i64 t.done, .bool t.und]), (105, .own (sgOwn (.slice A1 t.acc.length c1) (.slice B1 t.mv.length d1) t))]) rfl rfl rfl rfl rfl rfl rfl rfl rfl rfl (fun p hp => by simp at hp; rcases hp with rfl | rfl <;> rfl) (fun p hp => by simp at hp; rcases hp with rfl | rfl <;> rfl) (stepM_ok _ _ t U1 hf1) fun v U3 ML hx3 ⟨va3, vm3, hv, hML⟩ => ?_)
    subst hv; subst hML
    refine J.own' (α := ∃ x : Option Addr × Nat × Option Addr × Nat, va3 = .slice x.1 t.step.1.acc.length x.2.1 ∧ vm3 = .slice x.2.2.1 t.step.1.mv.length x.2.2.2) (p' := fun _ => sgOwn va3 vm3 t.step.1) 21 rfl (fun h h1 => ⟨sgOwn_slice h1, h1⟩) ?_
    rintro ⟨⟨A3, c3, B3, d3⟩, rfl, rfl⟩
    dsimp only
    refine J.to 2 [] 18 [(0, .bp 18 0), (1, .bp 19 0), (2, .bp 20 0), (15, .v (.bool (Prod.snd (Sg.step t))))] [] [(18, .box 28 [.slice A3 (List.length (Sg.acc (Prod.fst (Sg.step t)))) c3, .slice B3 (List.length (Sg.mv (Prod.fst (Sg.step t)))) d3, .int .i64 (Sg.done (Prod.fst (Sg.step t))), .bool (Sg.und (Prod.fst (Sg.step t)))]), (19, .box 3 [.int .i64 (↑n : Int)]), (20, .box 3 [.int .i64 fail]), (21, .own (sgOwn (.slice A3 (List.length (Sg.acc (Prod.fst (Sg.step t)))) c3) (.slice B3 (List.length (Sg.mv (Prod.fst (Sg.step t)))) d3) (Prod.fst (Sg.step t))))] [(18, .some (ρ 18)), (19, .some (ρ 19)), (20, .some (ρ 20))] (by kernel_rfl) ?_
    have hno : ((n : Int) == fail && t.may) = false := by simp [Sg.may, h1]
    refine J.br rfl rfl (fun h3 => ?_) (fun h3 => ?_)
    · refine J.to 9 [true] 18 [(0, .bp 18 0), (1, .bp 19 0), (2, .bp 20 0)] [] [(18, .box 28 [.slice A3 (List.length (Sg.acc (Prod.fst (Sg.step t)))) c3, .slice B3 (List.length (Sg.mv (Prod.fst (Sg.step t)))) d3, .int .i64 (Sg.done (Prod.fst (Sg.step t))), .bool (Sg.und (Prod.fst (Sg.step t)))]), (20, .box 3 [.int .i64 fail]), (21, .own (sgOwn (.slice A3 (List.length (Sg.acc (Prod.fst (Sg.step t)))) c3) (.slice B3 (List.length (Sg.mv (Prod.fst (Sg.step t)))) d3) (Prod.fst (Sg.step t)))), (19, .box 3 [.int .i64 (IntKind.wrap .i64 ((↑n : Int) + 1))])] [(18, .some (ρ 18)), (19, .some (ρ 19)), (20, .some (ρ 20))] (by kernel_rfl) ?_
      rw [show IntKind.wrap .i64 ((n : Int) + 1) = ((n + 1 : Nat) : Int) from wr_id (by omega)]
      have e : t.nxt ((n : Int) == fail) = some t.step.1 := by simp [Sg.nxt, hno, h3]
      have e2 := nxt_good hg1 e
      exact J.againK (n + 1, t.step.1, (A3, c3), (B3, d3)) (by kernel_rfl) ⟨e2.1, by have := e2.2; simp only; omega, (runF_some hg1 e).symm.trans hr1⟩ e2.2
    · refine J.to 6 [false] 18 [(4, .v (.bool true))] [(4, .some true)] [(18, .box 28 [.slice A3 (List.length (Sg.acc (Prod.fst (Sg.step t)))) c3, .slice B3 (List.length (Sg.mv (Prod.fst (Sg.step t)))) d3, .int .i64 (Sg.done (Prod.fst (Sg.step t))), .bool (Sg.und (Prod.fst (Sg.step t)))]), (19, .box 3 [.int .i64 (↑n : Int)]), (20, .box 3 [.int .i64 fail]), (21, .own (sgOwn (.slice A3 (List.length (Sg.acc (Prod.fst (Sg.step t)))) c3) (.slice B3 (List.length (Sg.mv (Prod.fst (Sg.step t)))) d3) (Prod.fst (Sg.step t))))] [(18, .some (ρ 18)), (19, .some (ρ 19)), (20, .some (ρ 20))] (by kernel_rfl) ?_
      have e : t.nxt ((n : Int) == fail) = none := by simp [Sg.nxt, hno, h3]
      have e1 : t.step.1 = t := by
        have h3 : t.step.2 = false := h3
        unfold Sg.step at h3 ⊢
        repeat' split at h3
        all_goals first | (cases h3; done) | rfl | skip
        all_goals simp_all
      rw [runF_none e] at hr1
      refine J.retB [(18, .box 28 [.slice A3 t.step.1.acc.length c3, .slice B3 t.step.1.mv.length d3, .int .i64 t.step.1.done, .bool t.step.1.und]), (19, .box 3 [.int .i64 (n : Nat)]), (20, .box 3 [.int .i64 fail]), (21, .own (sgOwn (.slice A3 t.step.1.acc.length c3) (.slice B3 t.step.1.mv.length d3) t.step.1))] rfl
        ⟨⟨rfl, .inl rfl⟩, ⟨rfl, .inl rfl⟩, ⟨rfl, .inl rfl⟩, ⟨rfl, .inr ⟨_, rfl⟩⟩, trivial⟩ ⟨_, _, t.step.1, n, by rw [e1]; exact hr1, rfl, rfl⟩

theorem changedRun_ok (va vm : Value) (s : Sg) (fail : Int) (U : Hp) (ha : Rd rInt U va s.acc) (hm : Rd rMv U vm s.mv) (hb : s.acc.length < 2^40) (hb2 : s.mv.length < 2^40) :
    BCall Try.prog 30 [.v (.agg #[va, vm, .int .i64 s.done, .bool s.und]), .clo 31 [18, 19]] [(18, .box 3 [.int .i64 0]), (19, .box 3 [.int .i64 fail])] U fun r U' ML => ∃ va' vm', r = .tuple #[.agg #[va', vm', .int .i64 (runS s fail).1.done, .bool (runS s fail).1.und], .bool (runS s fail).2.2] ∧
      ML = [(18, .box 3 [.int .i64 ((runS s fail).2.1 : Nat)]), (19, .box 3 [.int .i64 fail]), (20, .own (sgOwn va' vm' (runS s fail).1))] := by
  refine BCall.of (args := [.v (.agg #[va, vm, .int .i64 s.done, .bool s.und]), .clo 31 [18, 19]]) E_ok mix Try.func30 (by kernel_rfl) rfl Try.ntmps30 (Nat.le_of_ble_eq_true rfl) rfl fun F w0 ρ => ?_
  refine J.to 10 [] 18 [(1, .clo 31 [18, 19]), (2, .bp 2 0), (4, .bp 4 0), (5, .v (.bool false)), (7, .v (.agg (Array.mk [va, vm, .int .i64 (Sg.done s), .bool (Sg.und s)])))] [(5, .some false)] [(18, .box 3 [.int .i64 0]), (19, .box 3 [.int .i64 fail]), (2, .box 28 [va, vm, .int .i64 (Sg.done s), .bool (Sg.und s)]), (4, .box 28 [.slice .none 0 0, .slice .none 0 0, .int .i64 0, .bool false])] [(18, .some (ρ 18)), (19, .some (ρ 19))] (by kernel_rfl) ?_
  refine J.one (Op1.call rfl rfl rfl rfl rfl rfl rfl rfl (implGood_ok va vm s U ha hm hb hb2) fun v U1 hx1 hv => ?_); subst hv
  refine J.to 2 [] 18 [(1, .clo 31 [18, 19]), (2, .bp 2 0), (4, .bp 4 0), (5, .v (.bool false)), (9, .v (.bool !Sg.good s))] [(5, .some false)] [(2, .box 28 [va, vm, .int .i64 (Sg.done s), .bool (Sg.und s)]), (4, .box 28 [.slice .none 0 0, .slice .none 0 0, .int .i64 0, .bool false]), (18, .box 3 [.int .i64 0]), (19, .box 3 [.int .i64 fail])] [(18, .some (ρ 18)), (19, .some (ρ 19))] (by kernel_rfl) ?_
  refine J.br rfl rfl (fun h1 => ?_) (fun h1 => ?_)
  · refine J.to 7 [true] 18 [(1, .clo 31 [18, 19]), (2, .bp 2 0), (4, .bp 4 0), (5, .v (.bool false))] [(5, .some false)] [(2, .box 28 [va, vm, .int .i64 (Sg.done s), .bool (Sg.und s)]), (18, .box 3 [.int .i64 0]), (19, .box 3 [.int .i64 fail]), (4, .box 28 [.slice .none 0 0, .slice .none 0 0, .int .i64 0, .bool false])] [(18, .some (ρ 18)), (19, .some (ρ 19))] (by kernel_rfl) ?_
    have h1 : s.good = false := by simpa using h1
    have e : runS s fail = (Sg.zero, 0, false) := by simp [runS, h1]
    rw [e]
    refine J.give 20 (p := sgOwn (.slice none 0 0) (.slice none 0 0) Sg.zero) rfl zeroOwn ?_
    exact J.retB [(18, .box 3 [.int .i64 0]), (19, .box 3 [.int .i64 fail]), (20, .own (sgOwn (.slice none 0 0) (.slice none 0 0) Sg.zero))] rfl ⟨⟨rfl, .inl rfl⟩, ⟨rfl, .inl rfl⟩, ⟨rfl, .inr ⟨_, rfl⟩⟩, trivial⟩ ⟨_, _, rfl, rfl⟩
  have h1 : s.good = true := by simpa using h1
  refine J.to 5 [false] 18 [(1, .clo 31 [18, 19]), (4, .bp 4 0), (5, .v (.bool false)), (11, .v (.agg (Array.mk [va, vm, .int .i64 (Sg.done s), .bool (Sg.und s)])))] [(5, .some false)] [(2, .box 28 [va, vm, .int .i64 (Sg.done s), .bool (Sg.und s)]), (4, .box 28 [.slice .none 0 0, .slice .none 0 0, .int .i64 0, .bool false]), (18, .box 3 [.int .i64 0]), (19, .box 3 [.int .i64 fail])] [(18, .some (ρ 18)), (19, .some (ρ 19))] (by kernel_rfl) ?_
  refine J.one (Op1.ocall rfl rfl rfl rfl rfl rfl rfl (cloneSaga_ok va vm s U1 (ha.mono hx1) (hm.mono hx1) hb hb2) fun v U2 hx2 => ?_)
  refine J.sg 12 rfl fun A2 c2 B2 d2 e => ?_
  subst e
  refine J.to 7 [] 18 [(4, .bp 4 0), (5, .v (.bool false)), (6, .bp 6 0), (13, .clo 31 [18, 19])] [(5, .some false)] [(2, .box 28 [va, vm, .int .i64 (Sg.done s), .bool (Sg.und s)]), (4, .box 28 [.slice .none 0 0, .slice .none 0 0, .int .i64 0, .bool false]), (12, .own (sgOwn (.slice A2 (List.length (Sg.acc s)) c2) (.slice B2 (List.length (Sg.mv s)) d2) s)), (18, .box 3 [.int .i64 0]), (19, .box 3 [.int .i64 fail]), (6, .box 28 [.slice A2 (List.length (Sg.acc s)) c2, .slice B2 (List.length (Sg.mv s)) d2, .int .i64 (Sg.done s), .bool (Sg.und s)])] [(18, .some (ρ 18)), (19, .some (ρ 19))] (by kernel_rfl) ?_
  refine J.one (Op1.bcall [(18, 6), (19, 18), (20, 19), (21, 12)] (args := [.bp 18 0, .bp 19 0, .bp 20 0]) (ML := [(18, .box 28 [.slice A2 s.acc.length c2, .slice B2 s.mv.length d2, .int .i64 s.done, .bool s.und]), (19, .box 3 [.int .i64 0]), (20, .box 3 [.int .i64 fail]), (21, .own (sgOwn (.slice A2 s.acc.length c2) (.slice B2 s.mv.length d2) s))]) rfl rfl rfl rfl rfl rfl rfl rfl rfl rfl (fun p hp => by simp at hp; rcases hp with rfl | rfl | rfl | rfl <;> rfl) (fun p hp => by simp at hp; rcases hp with rfl | rfl | rfl | rfl <;> rfl)
    (run31_ok A2 c2 B2 d2 s fail U2 h1) fun v U3 ML hx3 ⟨va3, vm3, t, n, hr, hv, hML⟩ => ?_)
  subst hv; subst hML
  refine J.own' (α := ∃ x : Option Addr × Nat × Option Addr × Nat, va3 = .slice x.1 t.acc.length x.2.1 ∧ vm3 = .slice x.2.2.1 t.mv.length x.2.2.2) (p' := fun _ => sgOwn va3 vm3 t) 12 rfl (fun h h1 => ⟨sgOwn_slice h1, h1⟩) ?_
  rintro ⟨⟨A3, c3, B3, d3⟩, rfl, rfl⟩
  dsimp only
  refine J.to 10 [false] 18 [(4, .bp 4 0), (5, .v (.bool true))] [(5, .some true)] [(12, .own (sgOwn (.slice A3 (List.length (Sg.acc t)) c3) (.slice B3 (List.length (Sg.mv t)) d3) t)), (18, .box 3 [.int .i64 (↑n : Int)]), (19, .box 3 [.int .i64 fail]), (4, .box 28 [.slice A3 (List.length (Sg.acc t)) c3, .slice B3 (List.length (Sg.mv t)) d3, .int .i64 (Sg.done t), .bool (Sg.und t)])] [(18, .some (ρ 18)), (19, .some (ρ 19))] (by kernel_rfl) ?_
  have e : runS s fail = (t, n, true) := by simp only [runS, h1, if_true, ← hr]
  rw [e]
  refine J.own (k := 12) (k' := 20) (p' := sgOwn (.slice A3 t.acc.length c3) (.slice B3 t.mv.length d3) t) rfl (.inr rfl) (fun _ h => h) ?_
  exact J.retB [(18, .box 3 [.int .i64 (n : Nat)]), (19, .box 3 [.int .i64 fail]), (20, .own (sgOwn (.slice A3 t.acc.length c3) (.slice B3 t.mv.length d3) t))] rfl ⟨⟨rfl, .inl rfl⟩, ⟨rfl, .inl rfl⟩, ⟨rfl, .inr ⟨_, rfl⟩⟩, trivial⟩ ⟨_, _, rfl, rfl⟩

theorem implRun_ok (va vm : Value) (s : Sg) (fail : Int) (U : Hp) (ha : Rd rInt U va s.acc) (hm : Rd rMv U vm s.mv) (hb : s.acc.length < 2^40) (hb2 : s.mv.length < 2^40) :
    OCall Try.prog 10 #[.agg #[va, vm, .int .i64 s.done, .bool s.und], .int .i64 fail] U fun r U' L => ∃ va' vm', r = .tuple #[.agg #[va', vm', .int .i64 (runS s fail).1.done, .bool (runS s fail).1.und], .int .i64 ((runS s fail).2.1 : Nat), .bool (runS s fail).2.2] ∧ sgOwn va' vm' (runS s fail).1 L := by
  refine OCall.of (args := [.agg #[va, vm, .int .i64 s.done, .bool s.und], .int .i64 fail]) E_ok mix Try.func10 (by kernel_rfl) rfl Try.ntmps10 (Nat.le_of_ble_eq_true rfl) fun F w0 => ?_
  refine J.to 17 [] 21 [(4, .bp 4 0), (5, .v (.int .i64 0)), (6, .v (.bool false)), (7, .bp 7 0), (11, .v (.agg (Array.mk [va, vm, .int .i64 (Sg.done s), .bool (Sg.und s)]))), (12, .clo 31 [7, 3])] [(6, .some false)] [(2, .box 28 [va, vm, .int .i64 (Sg.done s), .bool (Sg.und s)]), (3, .box 3 [.int .i64 fail]), (4, .box 28 [.slice .none 0 0, .slice .none 0 0, .int .i64 0, .bool false]), (7, .box 3 [.int .i64 0])] [] (by kernel_rfl) ?_
  refine J.one (Op1.bcall [(18, 7), (19, 3), (20, 13)] (args := [.v _, .clo 31 [18, 19]]) (ML := [(18, .box 3 [.int .i64 0]), (19, .box 3 [.int .i64 fail])]) rfl rfl rfl rfl rfl rfl rfl rfl rfl rfl (fun p hp => by simp at hp; rcases hp with rfl | rfl | rfl <;> rfl) (fun p hp => by simp at hp; rcases hp with rfl | rfl <;> rfl)
    (changedRun_ok va vm s fail U ha hm hb hb2) fun v U1 ML hx1 ⟨va3, vm3, hv, hML⟩ => ?_)
  subst hv; subst hML
  have hnn : (runS s fail).2.2 = false → runS s fail = (Sg.zero, 0, false) := by
    unfold runS; split <;> simp
  generalize runS s fail = t at *
  obtain ⟨t, n, ok⟩ := t
  refine J.own' (α := ∃ x : Option Addr × Nat × Option Addr × Nat, va3 = .slice x.1 t.acc.length x.2.1 ∧ vm3 = .slice x.2.2.1 t.mv.length x.2.2.2) (p' := fun _ => sgOwn va3 vm3 t) 13 rfl (fun h h1 => ⟨sgOwn_slice h1, h1⟩) ?_
  rintro ⟨⟨A3, c3, B3, d3⟩, rfl, rfl⟩
  dsimp only
  refine J.to 13 [] 21 [(4, .bp 4 0), (5, .v (.int .i64 0)), (6, .v (.bool false)), (7, .bp 7 0), (8, .bp 8 0), (17, .v (.bool !ok))] [(6, .some false)] [(4, .box 28 [.slice .none 0 0, .slice .none 0 0, .int .i64 0, .bool false]), (7, .box 3 [.int .i64 (↑n : Int)]), (13, .own (sgOwn (.slice A3 (List.length (Sg.acc t)) c3) (.slice B3 (List.length (Sg.mv t)) d3) t)), (8, .box 28 [.slice A3 (List.length (Sg.acc t)) c3, .slice B3 (List.length (Sg.mv t)) d3, .int .i64 (Sg.done t), .bool (Sg.und t)])] [] (by kernel_rfl) ?_
  refine J.br rfl rfl (fun h1 => ?_) (fun h1 => ?_)
  · refine J.to 8 [true] 21 [(4, .bp 4 0), (7, .bp 7 0), (8, .bp 8 0), (5, .v (.int .i64 0)), (6, .v (.bool false))] [(6, .some false)] [(7, .box 3 [.int .i64 (↑n : Int)]), (8, .box 28 [.slice A3 (List.length (Sg.acc t)) c3, .slice B3 (List.length (Sg.mv t)) d3, .int .i64 (Sg.done t), .bool (Sg.und t)]), (13, .own (sgOwn (.slice A3 (List.length (Sg.acc t)) c3) (.slice B3 (List.length (Sg.mv t)) d3) t)), (4, .box 28 [.slice .none 0 0, .slice .none 0 0, .int .i64 0, .bool false])] [] (by kernel_rfl) ?_
    have h1 : ok = false := by simpa using h1
    have e := hnn h1
    simp only [Prod.mk.injEq] at e
    obtain ⟨rfl, rfl, rfl⟩ := e
    exact J.ret ⟨_, rfl, .inl ⟨_, _, rfl, zeroOwn⟩⟩
  · refine J.to 3 [false] 21 [(4, .bp 4 0), (5, .v (.int .i64 0)), (6, .v (.bool false)), (7, .bp 7 0), (8, .bp 8 0)] [(6, .some false)] [(4, .box 28 [.slice .none 0 0, .slice .none 0 0, .int .i64 0, .bool false]), (7, .box 3 [.int .i64 (↑n : Int)]), (8, .box 28 [.slice A3 (List.length (Sg.acc t)) c3, .slice B3 (List.length (Sg.mv t)) d3, .int .i64 (Sg.done t), .bool (Sg.und t)]), (13, .own (sgOwn (.slice A3 (List.length (Sg.acc t)) c3) (.slice B3 (List.length (Sg.mv t)) d3) t))] [] (by kernel_rfl) ?_
    have h1 : ok = true := by simpa using h1
    subst h1
    refine J.any [8, 7] [] [] trivial fun ρ1 _ => ?_
    refine J.takeTo true [0, 1] 3 21 [(4, .bp 4 0), (5, .v (.int .i64 0)), (6, .v (.bool false)), (7, .bp 7 0), (8, .bp 8 0), (19, .v (.agg (Array.mk [.slice A3 (List.length (Sg.acc t)) c3, .slice B3 (List.length (Sg.mv t)) d3, .int .i64 (Sg.done t), .bool (Sg.und t)]))), (20, .v (.int .i64 (↑n : Int)))] [(6, .some false)] [(4, .box 28 [.slice .none 0 0, .slice .none 0 0, .int .i64 0, .bool false]), (7, .box 3 [.int .i64 (↑n : Int)]), (8, .box 28 [.slice A3 (List.length (Sg.acc t)) c3, .slice B3 (List.length (Sg.mv t)) d3, .int .i64 (Sg.done t), .bool (Sg.und t)]), (13, .own (sgOwn (.slice A3 (List.length (Sg.acc t)) c3) (.slice B3 (List.length (Sg.mv t)) d3) t))] [(4, .some (ρ1 4)), (7, .some (ρ1 7)), (8, .some (ρ1 8)), (13, .some (ρ1 13))] (by first | exact Ext.refl _ | assumption | exact Ext.trans (by assumption) (by assumption) | exact Ext.trans (by assumption) (Ext.trans (by assumption) (by assumption))) (fun h => rfl) ⟨⟨rfl, rfl⟩, ⟨⟨rfl, rfl⟩, trivial⟩⟩ rfl (by kernel_rfl) ?_
    refine J.aone (i := 2) (by kernel_rfl) (Op1.step rfl rfl rfl ⟨fun _ => ⟨Ext.refl _, ⟨rfl, rfl⟩, ⟨rfl, rfl⟩, trivial⟩, ?_⟩)
    refine J.takeTo true [3, 4] 0 21 [(4, .bp 4 0), (7, .bp 7 0), (8, .bp 8 0), (19, .v (.agg (Array.mk [.slice A3 (List.length (Sg.acc t)) c3, .slice B3 (List.length (Sg.mv t)) d3, .int .i64 (Sg.done t), .bool (Sg.und t)]))), (20, .v (.int .i64 (↑n : Int))), (5, .v (.int .i64 (↑n : Int))), (6, .v (.bool true))] [(6, .some true)] [(4, .box 28 [.slice A3 (List.length (Sg.acc t)) c3, .slice B3 (List.length (Sg.mv t)) d3, .int .i64 (Sg.done t), .bool (Sg.und t)]), (7, .box 3 [.int .i64 (↑n : Int)]), (8, .box 28 [.slice A3 (List.length (Sg.acc t)) c3, .slice B3 (List.length (Sg.mv t)) d3, .int .i64 (Sg.done t), .bool (Sg.und t)]), (13, .own (sgOwn (.slice A3 (List.length (Sg.acc t)) c3) (.slice B3 (List.length (Sg.mv t)) d3) t))] [(4, .some (ρ1 4)), (7, .some (ρ1 7)), (8, .some (ρ1 8)), (13, .some (ρ1 13))] (by first | exact Ext.refl _ | assumption | exact Ext.trans (by assumption) (by assumption) | exact Ext.trans (by assumption) (Ext.trans (by assumption) (by assumption))) (fun h => rfl) ⟨⟨rfl, rfl⟩, ⟨⟨rfl, rfl⟩, trivial⟩⟩ rfl (by kernel_rfl) ?_
    refine J.adone' (by kernel_rfl) ?_
    refine J.to 0 [] 21 [(4, .bp 4 0), (5, .v (.int .i64 (↑n : Int))), (6, .v (.bool true))] [(6, .some true)] [(4, .box 28 [.slice A3 (List.length (Sg.acc t)) c3, .slice B3 (List.length (Sg.mv t)) d3, .int .i64 (Sg.done t), .bool (Sg.und t)]), (7, .box 3 [.int .i64 (↑n : Int)]), (8, .box 28 [.slice A3 (List.length (Sg.acc t)) c3, .slice B3 (List.length (Sg.mv t)) d3, .int .i64 (Sg.done t), .bool (Sg.und t)]), (13, .own (sgOwn (.slice A3 (List.length (Sg.acc t)) c3) (.slice B3 (List.length (Sg.mv t)) d3) t))] [(4, .some (ρ1 4)), (7, .some (ρ1 7)), (8, .some (ρ1 8)), (13, .some (ρ1 13))] (by kernel_rfl) ?_
    exact J.ret ⟨_, rfl, .inr ⟨13, _, rfl, fun L hL => ⟨.slice A3 t.acc.length c3, .slice B3 t.mv.length d3, rfl, hL⟩⟩⟩
end Go.Rx
end

section
open Go Go.Rx Go.Proofs
set_option maxHeartbeats 1000000
namespace Go.Rx
def failS (s : Sg) : Sg × Bool := if s.good && s.may then ({ s with und := true }, true) else (Sg.zero, false)
theorem specFail_ok (va vm : Value) (s : Sg) (U : Hp) (ha : Rd rInt U va s.acc) (hm : Rd rMv U vm s.mv) (hb : s.acc.length < 2^40) (hb2 : s.mv.length < 2^40) :
    PCall Try.prog 59 #[.agg #[va, vm, .int .i64 s.done, .bool s.und]] U fun r U' => ∃ va' vm', r = .tuple #[.agg #[va', vm', .int .i64 (failS s).1.done, .bool (failS s).1.und], .bool (failS s).2] ∧ Rd rInt U' va' (failS s).1.acc ∧ Rd rMv U' vm' (failS s).1.mv := by
  obtain ⟨B, c, rfl, hc, hB⟩ := hm
  obtain ⟨A, ca, rfl, hca, hA⟩ := ha
  refine OCall.of (args := [.agg #[.slice A s.acc.length ca, .slice B s.mv.length c, .int .i64 s.done, .bool s.und]]) E_ok mix Try.func59 (by kernel_rfl) rfl Try.ntmps59 (Nat.le_of_ble_eq_true rfl) fun F w0 => ?_
  have zero : ∀ U' : Hp, failS s = (Sg.zero, false) → ∃ va' vm', Value.tuple #[.agg #[.slice none 0 0, .slice none 0 0, .int .i64 0, .bool false], .bool false] = .tuple #[.agg #[va', vm', .int .i64 (failS s).1.done, .bool (failS s).1.und], .bool (failS s).2] ∧ Rd rInt U' va' (failS s).1.acc ∧ Rd rMv U' vm' (failS s).1.mv := by
    intro U' e
    rw [e]
    exact ⟨_, _, rfl, ⟨none, 0, rfl, Nat.le_refl _, .inl rfl⟩, ⟨none, 0, rfl, Nat.le_refl _, .inl rfl⟩⟩
  refine J.to 10 [] 24 [(1, .bp 1 0), (2, .bp 2 0), (3, .v (.bool false)), (4, .v (.agg (Array.mk [.slice A (List.length (Sg.acc s)) ca, .slice B (List.length (Sg.mv s)) c, .int .i64 (Sg.done s), .bool (Sg.und s)])))] [(3, .some false)] [(1, .box 28 [.slice A (List.length (Sg.acc s)) ca, .slice B (List.length (Sg.mv s)) c, .int .i64 (Sg.done s), .bool (Sg.und s)]), (2, .box 28 [.slice .none 0 0, .slice .none 0 0, .int .i64 0, .bool false])] [] (by kernel_rfl) ?_
  refine J.one (Op1.call rfl rfl rfl rfl rfl rfl rfl rfl (specGood_ok _ _ s U ⟨A, ca, rfl, hca, hA⟩ ⟨B, c, rfl, hc, hB⟩ hb hb2) fun v U1 hx1 hv => ?_); subst hv
  refine J.to 2 [] 24 [(1, .bp 1 0), (2, .bp 2 0), (3, .v (.bool false)), (7, .v (.bool !Sg.good s))] [(3, .some false)] [(1, .box 28 [.slice A (List.length (Sg.acc s)) ca, .slice B (List.length (Sg.mv s)) c, .int .i64 (Sg.done s), .bool (Sg.und s)]), (2, .box 28 [.slice .none 0 0, .slice .none 0 0, .int .i64 0, .bool false])] [] (by kernel_rfl) ?_
  refine J.br rfl rfl (fun h1 => ?_) (fun h1 => ?_)
  · refine J.to 19 [true] 24 [(1, .bp 1 0), (2, .bp 2 0), (3, .v (.bool false))] [(3, .some false)] [(1, .box 28 [.slice A (List.length (Sg.acc s)) ca, .slice B (List.length (Sg.mv s)) c, .int .i64 (Sg.done s), .bool (Sg.und s)]), (2, .box 28 [.slice .none 0 0, .slice .none 0 0, .int .i64 0, .bool false])] [] (by kernel_rfl) ?_
    have h1 : s.good = false := by simpa using h1
    exact J.ret ⟨_, rfl, .inl (zero _ (by simp [failS, h1]))⟩
  have h1 : s.good = true := by simpa using h1
  refine J.to 4 [] 24 [(1, .bp 1 0), (2, .bp 2 0), (3, .v (.bool false)), (7, .v (.bool false)), (11, .v (.bool (Sg.und s)))] [(3, .some false), (7, .some false)] [(1, .box 28 [.slice A (List.length (Sg.acc s)) ca, .slice B (List.length (Sg.mv s)) c, .int .i64 (Sg.done s), .bool (Sg.und s)]), (2, .box 28 [.slice .none 0 0, .slice .none 0 0, .int .i64 0, .bool false])] [] (by kernel_rfl) ?_
  refine J.br rfl rfl (fun h2 => ?_) (fun h2 => ?_)
  · refine J.to 15 [true] 24 [(1, .bp 1 0), (2, .bp 2 0), (3, .v (.bool false))] [(3, .some false)] [(1, .box 28 [.slice A (List.length (Sg.acc s)) ca, .slice B (List.length (Sg.mv s)) c, .int .i64 (Sg.done s), .bool (Sg.und s)]), (2, .box 28 [.slice .none 0 0, .slice .none 0 0, .int .i64 0, .bool false])] [] (by kernel_rfl) ?_
    exact J.ret ⟨_, rfl, .inl (zero _ (by simp [failS, Sg.may, h2]))⟩
  refine J.to 8 [] 24 [(1, .bp 1 0), (2, .bp 2 0), (3, .v (.bool false)), (18, .v (.bool (Sg.done s == (↑(List.length (Sg.mv s)) : Int))))] [(3, .some false)] [(1, .box 28 [.slice A (List.length (Sg.acc s)) ca, .slice B (List.length (Sg.mv s)) c, .int .i64 (Sg.done s), .bool (Sg.und s)]), (2, .box 28 [.slice .none 0 0, .slice .none 0 0, .int .i64 0, .bool false])] [] (by kernel_rfl) ?_
  refine J.br rfl rfl (fun h3 => ?_) (fun h3 => ?_)
  · refine J.to 7 [true] 24 [(1, .bp 1 0), (2, .bp 2 0), (3, .v (.bool false))] [(3, .some false)] [(1, .box 28 [.slice A (List.length (Sg.acc s)) ca, .slice B (List.length (Sg.mv s)) c, .int .i64 (Sg.done s), .bool (Sg.und s)]), (2, .box 28 [.slice .none 0 0, .slice .none 0 0, .int .i64 0, .bool false])] [] (by kernel_rfl) ?_
    have h3 : s.done = s.mv.length := by simpa using h3
    exact J.ret ⟨_, rfl, .inl (zero _ (by simp [failS, Sg.may, h3]))⟩
  have h3 : s.done ≠ s.mv.length := by simpa using h3
  refine J.to 5 [false] 24 [(1, .bp 1 0), (2, .bp 2 0), (3, .v (.bool false)), (20, .v (.agg (Array.mk [.slice A (List.length (Sg.acc s)) ca, .slice B (List.length (Sg.mv s)) c, .int .i64 (Sg.done s), .bool (Sg.und s)])))] [(3, .some false)] [(1, .box 28 [.slice A (List.length (Sg.acc s)) ca, .slice B (List.length (Sg.mv s)) c, .int .i64 (Sg.done s), .bool (Sg.und s)]), (2, .box 28 [.slice .none 0 0, .slice .none 0 0, .int .i64 0, .bool false])] [] (by kernel_rfl) ?_
  refine J.one (Op1.call rfl rfl rfl rfl rfl rfl rfl rfl (l9Own_ok _ _ s U1 ⟨A, ca, rfl, hca, hA.mono hx1⟩ ⟨B, c, rfl, hc, hB.mono hx1⟩ hb hb2) fun v U2 hx2 ⟨va2, vm2, hv, ha2, hm2⟩ => ?_); subst hv
  obtain ⟨A2, c2, rfl, hc2, hA2⟩ := ha2
  obtain ⟨B2, d2, rfl, hd2, hB2⟩ := hm2
  refine J.to 13 [] 24 [(2, .bp 2 0), (3, .v (.bool true))] [(3, .some true)] [(2, .box 28 [.slice A2 (List.length (Sg.acc s)) c2, .slice B2 (List.length (Sg.mv s)) d2, .int .i64 (Sg.done s), .bool true])] [] (by kernel_rfl) ?_
  have e : failS s = ({ s with und := true }, true) := by simp [failS, h1, Sg.may, h2, h3]
  refine J.ret ⟨_, rfl, .inl ⟨.slice A2 s.acc.length c2, .slice B2 s.mv.length d2, ?_, ?_, ?_⟩⟩
  · rw [e]; rfl
  · rw [e]; exact ⟨A2, c2, rfl, hc2, hA2⟩
  · rw [e]; exact ⟨B2, d2, rfl, hd2, hB2⟩

theorem specRun_ok (va vm : Value) (s : Sg) (fail : Int) (U : Hp) (ha : Rd rInt U va s.acc) (hm : Rd rMv U vm s.mv) (hb : s.acc.length < 2^40) (hb2 : s.mv.length < 2^40) :
    PCall Try.prog 25 #[.agg #[va, vm, .int .i64 s.done, .bool s.und], .int .i64 fail] U fun r U' => ∃ va' vm', r = .tuple #[.agg #[va', vm', .int .i64 (runS s fail).1.done, .bool (runS s fail).1.und], .int .i64 ((runS s fail).2.1 : Nat), .bool (runS s fail).2.2] ∧ Rd rInt U' va' (runS s fail).1.acc ∧ Rd rMv U' vm' (runS s fail).1.mv := by
  obtain ⟨B, c, rfl, hc, hB⟩ := hm
  obtain ⟨A, ca, rfl, hca, hA⟩ := ha
  refine OCall.of (args := [.agg #[.slice A s.acc.length ca, .slice B s.mv.length c, .int .i64 s.done, .bool s.und], .int .i64 fail]) E_ok mix Try.func25 (by kernel_rfl) rfl Try.ntmps25 (Nat.le_of_ble_eq_true rfl) fun F w0 => ?_
  refine J.to 11 [] 39 [(1, .v (.int .i64 fail)), (2, .bp 2 0), (4, .bp 4 0), (5, .v (.int .i64 0)), (6, .v (.bool false)), (10, .v (.agg (Array.mk [.slice A (List.length (Sg.acc s)) ca, .slice B (List.length (Sg.mv s)) c, .int .i64 (Sg.done s), .bool (Sg.und s)])))] [(6, .some false)] [(2, .box 28 [.slice A (List.length (Sg.acc s)) ca, .slice B (List.length (Sg.mv s)) c, .int .i64 (Sg.done s), .bool (Sg.und s)]), (4, .box 28 [.slice .none 0 0, .slice .none 0 0, .int .i64 0, .bool false])] [] (by kernel_rfl) ?_
  refine J.one (Op1.call rfl rfl rfl rfl rfl rfl rfl rfl (specGood_ok _ _ s U ⟨A, ca, rfl, hca, hA⟩ ⟨B, c, rfl, hc, hB⟩ hb hb2) fun v U1 hx1 hv => ?_); subst hv
  refine J.to 2 [] 39 [(1, .v (.int .i64 fail)), (2, .bp 2 0), (4, .bp 4 0), (5, .v (.int .i64 0)), (6, .v (.bool false)), (12, .v (.bool !Sg.good s))] [(6, .some false)] [(2, .box 28 [.slice A (List.length (Sg.acc s)) ca, .slice B (List.length (Sg.mv s)) c, .int .i64 (Sg.done s), .bool (Sg.und s)]), (4, .box 28 [.slice .none 0 0, .slice .none 0 0, .int .i64 0, .bool false])] [] (by kernel_rfl) ?_
  refine J.br rfl rfl (fun hg => ?_) (fun hg => ?_)
  · refine J.to 8 [true] 39 [(1, .v (.int .i64 fail)), (2, .bp 2 0), (4, .bp 4 0), (5, .v (.int .i64 0)), (6, .v (.bool false))] [(6, .some false)] [(2, .box 28 [.slice A (List.length (Sg.acc s)) ca, .slice B (List.length (Sg.mv s)) c, .int .i64 (Sg.done s), .bool (Sg.und s)]), (4, .box 28 [.slice .none 0 0, .slice .none 0 0, .int .i64 0, .bool false])] [] (by kernel_rfl) ?_
    have hg : s.good = false := by simpa using hg
    have e : runS s fail = (Sg.zero, 0, false) := by simp [runS, hg]
    rw [e]
    exact J.ret ⟨_, rfl, .inl ⟨_, _, rfl, ⟨none, 0, rfl, Nat.le_refl _, .inl rfl⟩, ⟨none, 0, rfl, Nat.le_refl _, .inl rfl⟩⟩⟩
  have hg : s.good = true := by simpa using hg
  have hmu := mu_le hg
  have hml : s.mv.length ≤ 20 := (form_parts (good_parts hg).1).2.2.1
  refine J.to 5 [false] 39 [(1, .v (.int .i64 fail)), (2, .bp 2 0), (4, .bp 4 0), (5, .v (.int .i64 0)), (6, .v (.bool false)), (14, .v (.agg (Array.mk [.slice A (List.length (Sg.acc s)) ca, .slice B (List.length (Sg.mv s)) c, .int .i64 (Sg.done s), .bool (Sg.und s)])))] [(6, .some false)] [(2, .box 28 [.slice A (List.length (Sg.acc s)) ca, .slice B (List.length (Sg.mv s)) c, .int .i64 (Sg.done s), .bool (Sg.und s)]), (4, .box 28 [.slice .none 0 0, .slice .none 0 0, .int .i64 0, .bool false])] [] (by kernel_rfl) ?_
  refine J.one (Op1.call rfl rfl rfl rfl rfl rfl rfl rfl (l9Own_ok _ _ s U1 ⟨A, ca, rfl, hca, hA.mono hx1⟩ ⟨B, c, rfl, hc, hB.mono hx1⟩ hb hb2) fun v U2 hx2 ⟨va2, vm2, hv, ha2, hm2⟩ => ?_); subst hv
  obtain ⟨A2, c2, rfl, hc2, hA2⟩ := ha2
  obtain ⟨B2, d2, rfl, hd2, hB2⟩ := hm2
  refine J.to 7 [] 39 [(1, .v (.int .i64 fail)), (2, .bp 2 0), (4, .bp 4 0), (5, .v (.int .i64 0)), (6, .v (.bool false)), (7, .v (.int .i64 0))] [(6, .some false)] [(4, .box 28 [.slice .none 0 0, .slice .none 0 0, .int .i64 0, .bool false]), (2, .box 28 [.slice A2 (List.length (Sg.acc s)) c2, .slice B2 (List.length (Sg.mv s)) d2, .int .i64 (Sg.done s), .bool (Sg.und s)])] [] (by kernel_rfl) ?_
  refine J.loopK 39 [] (fun x : Nat × Sg × (Option Addr × Nat) × (Option Addr × Nat) => [(1, .v (.int .i64 fail)), (2, .bp 2 0), (4, .bp 4 0), (5, .v (.int .i64 0)), (6, .v (.bool false)), (7, .v (.int .i64 (x.1 : Nat)))])
    (fun x => [(2, .box 28 [.slice x.2.2.1.1 x.2.1.acc.length x.2.2.1.2, .slice x.2.2.2.1 x.2.1.mv.length x.2.2.2.2, .int .i64 x.2.1.done, .bool x.2.1.und]), (4, .box 28 [.slice none 0 0, .slice none 0 0, .int .i64 0, .bool false])])
    (fun x U' => x.2.1.good = true ∧ x.1 + x.2.1.mu ≤ 41 ∧ runF (x.2.1.mu + 1) fail x.1 x.2.1 = runF (s.mu + 1) fail 0 s ∧ x.2.1.acc.length ≤ x.2.2.1.2 ∧ x.2.1.mv.length ≤ x.2.2.2.2 ∧ Arr rInt U' x.2.2.1.1 x.2.1.acc ∧ Arr rMv U' x.2.2.2.1 x.2.1.mv) (fun x => x.2.1.mu) (0, s, (A2, c2), (B2, d2)) ⟨hg, by simp only; omega, rfl, hc2, hd2, hA2, hB2⟩ (by kernel_rfl) ?_
  rintro ⟨n, t, ⟨A1, c1⟩, B1, d1⟩ U1 ⟨hg1, hn1, hr1, hc1, hd1, hA1, hB1⟩ hx1
  simp only at hg1 hn1 hr1 hc1 hd1 hA1 hB1
  have hf1 := (good_parts hg1).1
  obtain ⟨-, p1, p2, p3, -⟩ := form_parts hf1
  have hl1 : t.acc.length < 2^40 := by omega
  have hl2 : t.mv.length < 2^40 := by omega
  refine J.to 15 [] 39 [(1, .v (.int .i64 fail)), (2, .bp 2 0), (4, .bp 4 0), (5, .v (.int .i64 0)), (6, .v (.bool false)), (7, .v (.int .i64 (↑n : Int))), (8, .bp 8 0), (9, .v (.bool false)), (19, .v (.bool ((↑n : Int) == fail)))] [(9, .some false)] [(2, .box 28 [.slice A1 (List.length (Sg.acc t)) c1, .slice B1 (List.length (Sg.mv t)) d1, .int .i64 (Sg.done t), .bool (Sg.und t)]), (4, .box 28 [.slice .none 0 0, .slice .none 0 0, .int .i64 0, .bool false]), (8, .box 28 [.slice A1 (List.length (Sg.acc t)) c1, .slice B1 (List.length (Sg.mv t)) d1, .int .i64 (Sg.done t), .bool (Sg.und t)])] [] (by kernel_rfl) ?_
  refine J.br rfl rfl (fun h1 => ?_) (fun h1 => ?_)
  · refine J.to 3 [true] 39 [(1, .v (.int .i64 fail)), (2, .bp 2 0), (4, .bp 4 0), (5, .v (.int .i64 0)), (6, .v (.bool false)), (7, .v (.int .i64 (↑n : Int))), (8, .bp 8 0), (9, .v (.bool false)), (21, .v (.agg (Array.mk [.slice A1 (List.length (Sg.acc t)) c1, .slice B1 (List.length (Sg.mv t)) d1, .int .i64 (Sg.done t), .bool (Sg.und t)])))] [(9, .some false)] [(2, .box 28 [.slice A1 (List.length (Sg.acc t)) c1, .slice B1 (List.length (Sg.mv t)) d1, .int .i64 (Sg.done t), .bool (Sg.und t)]), (4, .box 28 [.slice .none 0 0, .slice .none 0 0, .int .i64 0, .bool false]), (8, .box 28 [.slice A1 (List.length (Sg.acc t)) c1, .slice B1 (List.length (Sg.mv t)) d1, .int .i64 (Sg.done t), .bool (Sg.und t)])] [] (by kernel_rfl) ?_
    refine J.one (Op1.call rfl rfl rfl rfl rfl rfl rfl rfl (specFail_ok _ _ t _ ⟨A1, c1, rfl, hc1, hA1⟩ ⟨B1, d1, rfl, hd1, hB1⟩ hl1 hl2) fun v U2 hx2 ⟨va2, vm2, hv, ha2, hm2⟩ => ?_); subst hv
    cases h2 : t.may with
    | true =>
      have ef : failS t = ({ t with und := true }, true) := by simp [failS, hg1, h2]
      rw [ef] at ha2 hm2 ⊢
      obtain ⟨A3, c3, rfl, hc3, hA3⟩ := ha2
      obtain ⟨B3, d3, rfl, hd3, hB3⟩ := hm2
      refine J.to 33 [false, false] 39 [(1, .v (.int .i64 fail)), (2, .bp 2 0), (4, .bp 4 0), (5, .v (.int .i64 0)), (6, .v (.bool false)), (7, .v (.int .i64 (IntKind.wrap .i64 ((↑n : Int) + 1))))] [] [(4, .box 28 [.slice .none 0 0, .slice .none 0 0, .int .i64 0, .bool false]), (2, .box 28 [.slice A3 (List.length (Sg.acc t)) c3, .slice B3 (List.length (Sg.mv t)) d3, .int .i64 (Sg.done t), .bool true])] [] (by kernel_rfl) ?_
      rw [show IntKind.wrap .i64 ((n : Int) + 1) = ((n + 1 : Nat) : Int) from wr_id (by omega)]
      have e : t.nxt ((n : Int) == fail) = some { t with und := true } := by simp [Sg.nxt, h1, h2]
      have e2 := nxt_good hg1 e
      exact J.againK (n + 1, { t with und := true }, (A3, c3), (B3, d3)) (by kernel_rfl) ⟨e2.1, by have := e2.2; simp only; omega, (runF_some hg1 e).symm.trans hr1, hc3, hd3, hA3, hB3⟩ e2.2
    | false =>
      have ef : failS t = (Sg.zero, false) := by simp [failS, h2]
      rw [ef] at ha2 hm2 ⊢
      obtain ⟨A3, c3, rfl, hc3, hA3⟩ := ha2
      obtain ⟨B3, d3, rfl, hd3, hB3⟩ := hm2
      refine J.to 15 [true] 39 [(1, .v (.int .i64 fail)), (2, .bp 2 0), (4, .bp 4 0), (5, .v (.int .i64 0)), (6, .v (.bool false)), (7, .v (.int .i64 (↑n : Int))), (8, .bp 8 0), (9, .v (.bool false)), (28, .v (.agg (Array.mk [.slice A1 (List.length (Sg.acc t)) c1, .slice B1 (List.length (Sg.mv t)) d1, .int .i64 (Sg.done t), .bool (Sg.und t)])))] [(9, .some false)] [(2, .box 28 [.slice A1 (List.length (Sg.acc t)) c1, .slice B1 (List.length (Sg.mv t)) d1, .int .i64 (Sg.done t), .bool (Sg.und t)]), (4, .box 28 [.slice .none 0 0, .slice .none 0 0, .int .i64 0, .bool false]), (8, .box 28 [.slice A3 0 c3, .slice B3 0 d3, .int .i64 (Sg.done Sg.zero), .bool false])] [] (by kernel_rfl) ?_
      refine J.one (Op1.call rfl rfl rfl rfl rfl rfl rfl rfl (specStep_ok _ _ t _ ⟨A1, c1, rfl, hc1, hA1.mono hx2⟩ ⟨B1, d1, rfl, hd1, hB1.mono hx2⟩ hl1 hl2) fun v U3 hx3 ⟨va3, vm3, hv, ha3, hm3⟩ => ?_); subst hv
      have es : specStep t = if t.step.2 then (t.step.1, true) else (Sg.zero, false) := by
        rw [← implStep_eq]; simp only [implStep, hg1, if_true]
      rw [es] at ha3 hm3 ⊢
      have hno : ((n : Int) == fail && t.may) = false := by simp [h2]
      cases h3 : t.step.2 with
      | true =>
        rw [h3] at ha3 hm3
        simp only [if_true] at ha3 hm3 ⊢
        obtain ⟨A3, c3, rfl, hc3, hA3⟩ := ha3
        obtain ⟨B3, d3, rfl, hd3, hB3⟩ := hm3
        refine J.to 25 [false] 39 [(1, .v (.int .i64 fail)), (2, .bp 2 0), (4, .bp 4 0), (5, .v (.int .i64 0)), (6, .v (.bool false)), (7, .v (.int .i64 (IntKind.wrap .i64 ((↑n : Int) + 1))))] [] [(4, .box 28 [.slice .none 0 0, .slice .none 0 0, .int .i64 0, .bool false]), (2, .box 28 [.slice A3 (List.length (Sg.acc (Prod.fst (Sg.step t)))) c3, .slice B3 (List.length (Sg.mv (Prod.fst (Sg.step t)))) d3, .int .i64 (Sg.done (Prod.fst (Sg.step t))), .bool (Sg.und (Prod.fst (Sg.step t)))])] [] (by kernel_rfl) ?_
        rw [show IntKind.wrap .i64 ((n : Int) + 1) = ((n + 1 : Nat) : Int) from wr_id (by omega)]
        have e : t.nxt ((n : Int) == fail) = some t.step.1 := by simp [Sg.nxt, hno, h3]
        have e2 := nxt_good hg1 e
        exact J.againK (n + 1, t.step.1, (A3, c3), (B3, d3)) (by kernel_rfl) ⟨e2.1, by have := e2.2; simp only; omega, (runF_some hg1 e).symm.trans hr1, hc3, hd3, hA3, hB3⟩ e2.2
      | false =>
        rw [h3] at ha3 hm3
        simp only [Bool.false_eq_true, if_false] at ha3 hm3 ⊢
        obtain ⟨A3, c3, rfl, hc3, hA3⟩ := ha3
        obtain ⟨B3, d3, rfl, hd3, hB3⟩ := hm3
        refine J.to 21 [true] 39 [(1, .v (.int .i64 fail)), (2, .bp 2 0), (4, .bp 4 0), (7, .v (.int .i64 (↑n : Int))), (8, .bp 8 0), (5, .v (.int .i64 (↑n : Int))), (6, .v (.bool true))] [(6, .some true)] [(2, .box 28 [.slice A1 (List.length (Sg.acc t)) c1, .slice B1 (List.length (Sg.mv t)) d1, .int .i64 (Sg.done t), .bool (Sg.und t)]), (8, .box 28 [.slice A3 0 c3, .slice B3 0 d3, .int .i64 (Sg.done Sg.zero), .bool false]), (4, .box 28 [.slice A1 (List.length (Sg.acc t)) c1, .slice B1 (List.length (Sg.mv t)) d1, .int .i64 (Sg.done t), .bool (Sg.und t)])] [] (by kernel_rfl) ?_
        have e : t.nxt ((n : Int) == fail) = none := by simp [Sg.nxt, hno, h3]
        rw [runF_none e] at hr1
        have er : runS s fail = (t, n, true) := by simp only [runS, hg, if_true, ← hr1]
        refine J.ret ⟨_, rfl, .inl ⟨.slice A1 t.acc.length c1, .slice B1 t.mv.length d1, ?_, ?_, ?_⟩⟩
        · rw [er]; rfl
        · rw [er]; exact ⟨A1, c1, rfl, hc1, hA1.mono (hx2.trans hx3)⟩
        · rw [er]; exact ⟨B1, d1, rfl, hd1, hB1.mono (hx2.trans hx3)⟩
  · refine J.to 11 [false, true] 39 [(1, .v (.int .i64 fail)), (2, .bp 2 0), (4, .bp 4 0), (5, .v (.int .i64 0)), (6, .v (.bool false)), (7, .v (.int .i64 (↑n : Int))), (8, .bp 8 0), (9, .v (.bool false)), (28, .v (.agg (Array.mk [.slice A1 (List.length (Sg.acc t)) c1, .slice B1 (List.length (Sg.mv t)) d1, .int .i64 (Sg.done t), .bool (Sg.und t)])))] [(9, .some false)] [(2, .box 28 [.slice A1 (List.length (Sg.acc t)) c1, .slice B1 (List.length (Sg.mv t)) d1, .int .i64 (Sg.done t), .bool (Sg.und t)]), (4, .box 28 [.slice .none 0 0, .slice .none 0 0, .int .i64 0, .bool false]), (8, .box 28 [.slice A1 (List.length (Sg.acc t)) c1, .slice B1 (List.length (Sg.mv t)) d1, .int .i64 (Sg.done t), .bool (Sg.und t)])] [] (by kernel_rfl) ?_
    refine J.one (Op1.call rfl rfl rfl rfl rfl rfl rfl rfl (specStep_ok _ _ t _ ⟨A1, c1, rfl, hc1, hA1⟩ ⟨B1, d1, rfl, hd1, hB1⟩ hl1 hl2) fun v U3 hx3 ⟨va3, vm3, hv, ha3, hm3⟩ => ?_); subst hv
    have es : specStep t = if t.step.2 then (t.step.1, true) else (Sg.zero, false) := by
      rw [← implStep_eq]; simp only [implStep, hg1, if_true]
    rw [es] at ha3 hm3 ⊢
    have hno : ((n : Int) == fail && t.may) = false := by simp [h1]
    cases h3 : t.step.2 with
    | true =>
      rw [h3] at ha3 hm3
      simp only [if_true] at ha3 hm3 ⊢
      obtain ⟨A3, c3, rfl, hc3, hA3⟩ := ha3
      obtain ⟨B3, d3, rfl, hd3, hB3⟩ := hm3
      refine J.to 25 [false] 39 [(1, .v (.int .i64 fail)), (2, .bp 2 0), (4, .bp 4 0), (5, .v (.int .i64 0)), (6, .v (.bool false)), (7, .v (.int .i64 (IntKind.wrap .i64 ((↑n : Int) + 1))))] [] [(4, .box 28 [.slice .none 0 0, .slice .none 0 0, .int .i64 0, .bool false]), (2, .box 28 [.slice A3 (List.length (Sg.acc (Prod.fst (Sg.step t)))) c3, .slice B3 (List.length (Sg.mv (Prod.fst (Sg.step t)))) d3, .int .i64 (Sg.done (Prod.fst (Sg.step t))), .bool (Sg.und (Prod.fst (Sg.step t)))])] [] (by kernel_rfl) ?_
      rw [show IntKind.wrap .i64 ((n : Int) + 1) = ((n + 1 : Nat) : Int) from wr_id (by omega)]
      have e : t.nxt ((n : Int) == fail) = some t.step.1 := by simp [Sg.nxt, hno, h3]
      have e2 := nxt_good hg1 e
      exact J.againK (n + 1, t.step.1, (A3, c3), (B3, d3)) (by kernel_rfl) ⟨e2.1, by have := e2.2; simp only; omega, (runF_some hg1 e).symm.trans hr1, hc3, hd3, hA3, hB3⟩ e2.2
    | false =>
      rw [h3] at ha3 hm3
      simp only [Bool.false_eq_true, if_false] at ha3 hm3 ⊢
      obtain ⟨A3, c3, rfl, hc3, hA3⟩ := ha3
      obtain ⟨B3, d3, rfl, hd3, hB3⟩ := hm3
      refine J.to 21 [true] 39 [(1, .v (.int .i64 fail)), (2, .bp 2 0), (4, .bp 4 0), (7, .v (.int .i64 (↑n : Int))), (8, .bp 8 0), (5, .v (.int .i64 (↑n : Int))), (6, .v (.bool true))] [(6, .some true)] [(2, .box 28 [.slice A1 (List.length (Sg.acc t)) c1, .slice B1 (List.length (Sg.mv t)) d1, .int .i64 (Sg.done t), .bool (Sg.und t)]), (8, .box 28 [.slice A3 0 c3, .slice B3 0 d3, .int .i64 (Sg.done Sg.zero), .bool false]), (4, .box 28 [.slice A1 (List.length (Sg.acc t)) c1, .slice B1 (List.length (Sg.mv t)) d1, .int .i64 (Sg.done t), .bool (Sg.und t)])] [] (by kernel_rfl) ?_
      have e : t.nxt ((n : Int) == fail) = none := by simp [Sg.nxt, hno, h3]
      rw [runF_none e] at hr1
      have er : runS s fail = (t, n, true) := by simp only [runS, hg, if_true, ← hr1]
      refine J.ret ⟨_, rfl, .inl ⟨.slice A1 t.acc.length c1, .slice B1 t.mv.length d1, ?_, ?_, ?_⟩⟩
      · rw [er]; rfl
      · rw [er]; exact ⟨A1, c1, rfl, hc1, hA1.mono hx3⟩
      · rw [er]; exact ⟨B1, d1, rfl, hd1, hB1.mono hx3⟩
end Go.Rx
end

section
open Go Go.Rx Go.Proofs
set_option maxHeartbeats 1000000
namespace Go.Rx
theorem J.sg3 {C : Ctx} {σ : Sym} {U : Hp} {st : List Rx.Item} (k : Nat) {v dn un n ok : Value} {s : Sg} (hk : σ.M k = .own (fun L => ∃ va' vm', v = .tuple #[.agg #[va', vm', dn, un], n, ok] ∧ sgOwn va' vm' s L))
    (h : ∀ A c B d, v = .tuple #[.agg #[.slice A s.acc.length c, .slice B s.mv.length d, dn, un], n, ok] → J C st { σ with M := upd σ.M k (.own (sgOwn (.slice A s.acc.length c) (.slice B s.mv.length d) s)) } U) : J C st σ U := by
  refine J.own' (α := Σ' x : Option Addr × Nat × Option Addr × Nat, v = .tuple #[.agg #[.slice x.1 s.acc.length x.2.1, .slice x.2.2.1 s.mv.length x.2.2.2, dn, un], n, ok]) (p' := fun x => sgOwn (.slice x.1.1 s.acc.length x.1.2.1) (.slice x.1.2.2.1 s.mv.length x.1.2.2.2) s) k hk
    (fun h ⟨a, b, e, h1⟩ => let ⟨x, e1, e2⟩ := sgOwn_slice h1; ⟨⟨x, by rw [e, e1, e2]⟩, e1 ▸ e2 ▸ h1⟩) ?_
  rintro ⟨⟨A2, c2, B2, d2⟩, e⟩
  exact h A2 c2 B2 d2 e

theorem lawRun_ok (va vm : Value) (s : Sg) (fl : Int) (U : Hp) (ha : Rd rInt U va s.acc) (hm : Rd rMv U vm s.mv) (hb : s.acc.length ≤ 9223372036854775807) (hb2 : s.mv.length ≤ 9223372036854775807) :
    PCall Try.prog 5 #[.agg #[va, vm, .int .i64 s.done, .bool s.und], .int .i64 fl] U fun r _ => r = .bool true := by
  obtain ⟨B, c, rfl, hc, hB⟩ := hm
  obtain ⟨A, ca, rfl, hca, hA⟩ := ha
  refine OCall.of (args := [.agg #[.slice A s.acc.length ca, .slice B s.mv.length c, .int .i64 s.done, .bool s.und], .int .i64 fl]) E_ok mix Try.func5 (by kernel_rfl) rfl Try.ntmps5 (Nat.le_of_ble_eq_true rfl) fun F w0 => ?_
  refine J.to 13 [] 122 [(1, .v (.int .i64 fl)), (2, .bp 2 0), (4, .v (.bool false)), (5, .v (.int .i64 1048576)), (19, .v (.agg (Array.mk [.slice A (List.length (Sg.acc s)) ca, .slice B (List.length (Sg.mv s)) c, .int .i64 (Sg.done s), .bool (Sg.und s)]))), (20, .v (.int .i64 1048576))] [(4, .some false)] [(2, .box 46 [.slice A (List.length (Sg.acc s)) ca, .slice B (List.length (Sg.mv s)) c, .int .i64 (Sg.done s), .bool (Sg.und s)])] [] (by kernel_rfl) ?_
  refine J.one (Op1.call rfl rfl rfl rfl rfl rfl rfl rfl (szSaga_ok _ _ _ _ _ _ _ _ _ _) fun v U1 hx1 hv => ?_); subst hv
  refine J.to 8 [] 122 [(1, .v (.int .i64 fl)), (2, .bp 2 0), (4, .v (.bool false)), (23, .v (.bool (Decidable.decide (szSg (List.length (Sg.acc s)) (List.length (Sg.mv s)) 1048576 < 0))))] [(4, .some false)] [(2, .box 46 [.slice A (List.length (Sg.acc s)) ca, .slice B (List.length (Sg.mv s)) c, .int .i64 (Sg.done s), .bool (Sg.und s)])] [] (by kernel_rfl) ?_
  refine J.br rfl rfl (fun h => ?_) (fun h => ?_)
  · refine J.to 5 [true] 122 [(1, .v (.int .i64 fl)), (2, .bp 2 0), (4, .v (.bool true))] [(4, .some true)] [(2, .box 46 [.slice A (List.length (Sg.acc s)) ca, .slice B (List.length (Sg.mv s)) c, .int .i64 (Sg.done s), .bool (Sg.und s)])] [] (by kernel_rfl) ?_
    exact J.ret ⟨_, rfl, .inl rfl⟩
  have hsz := szSg_ok hb hb2 (of_decide_eq_false h)
  have hl1 : s.acc.length < 2^40 := by omega
  have hl2 : s.mv.length < 2^40 := by omega
  have ra : ∀ U', Ext U U' → Rd rInt U' (.slice A s.acc.length ca) s.acc := fun U' h => ⟨A, ca, rfl, hca, hA.mono h⟩
  have rm : ∀ U', Ext U U' → Rd rMv U' (.slice B s.mv.length c) s.mv := fun U' h => ⟨B, c, rfl, hc, hB.mono h⟩
  refine J.to 5 [false] 122 [(1, .v (.int .i64 fl)), (2, .bp 2 0), (4, .v (.bool false)), (25, .v (.agg (Array.mk [.slice A (List.length (Sg.acc s)) ca, .slice B (List.length (Sg.mv s)) c, .int .i64 (Sg.done s), .bool (Sg.und s)])))] [(4, .some false)] [(2, .box 46 [.slice A (List.length (Sg.acc s)) ca, .slice B (List.length (Sg.mv s)) c, .int .i64 (Sg.done s), .bool (Sg.und s)])] [] (by kernel_rfl) ?_
  refine J.one (Op1.ocall rfl rfl rfl rfl rfl rfl rfl (toSaga_ok _ _ s U1 (ra _ hx1) (rm _ hx1) hl1 hl2) fun v U2 hx2 => ?_)
  refine J.sg 26 rfl fun A1 c1 B1 d1 e => ?_
  subst e
  refine J.pub (k := 26) rfl fun U3 L3 hx3 hl3 hp3 => ?_
  obtain ⟨ra1, rm1⟩ := sgOwn_rd hp3 hl3
  refine J.to 1 [] 122 [(1, .v (.int .i64 fl)), (2, .bp 2 0), (4, .v (.bool false)), (26, .v (.agg (Array.mk [.slice A1 (List.length (Sg.acc s)) c1, .slice B1 (List.length (Sg.mv s)) d1, .int .i64 (Sg.done s), .bool (Sg.und s)]))), (27, .v (.int .i64 fl))] [(4, .some false)] [(2, .box 46 [.slice A (List.length (Sg.acc s)) ca, .slice B (List.length (Sg.mv s)) c, .int .i64 (Sg.done s), .bool (Sg.und s)])] [] (by kernel_rfl) ?_
  refine J.one (Op1.call rfl rfl rfl rfl rfl rfl rfl rfl (specRun_ok _ _ s fl U3 ra1 rm1 hl1 hl2) fun v U4 hx4 ⟨va4, vm4, hv, ra4, rm4⟩ => ?_); subst hv
  obtain ⟨A4, c4, rfl, hc4, hA4⟩ := ra4
  obtain ⟨B4, d4, rfl, hd4, hB4⟩ := rm4
  have htl := runS_len s fl
  generalize ht : runS s fl = t at *
  refine J.to 12 [] 122 [(1, .v (.int .i64 fl)), (2, .bp 2 0), (4, .v (.bool false)), (6, .bp 6 0), (7, .v (.int .i64 (↑(Prod.fst (Prod.snd t)) : Int))), (8, .v (.bool (Prod.snd (Prod.snd t)))), (32, .v (.agg (Array.mk [.slice A (List.length (Sg.acc s)) ca, .slice B (List.length (Sg.mv s)) c, .int .i64 (Sg.done s), .bool (Sg.und s)])))] [(4, .some false)] [(2, .box 46 [.slice A (List.length (Sg.acc s)) ca, .slice B (List.length (Sg.mv s)) c, .int .i64 (Sg.done s), .bool (Sg.und s)]), (6, .box 28 [.slice A4 (List.length (Sg.acc (Prod.fst t))) c4, .slice B4 (List.length (Sg.mv (Prod.fst t))) d4, .int .i64 (Sg.done (Prod.fst t)), .bool (Sg.und (Prod.fst t))])] [] (by kernel_rfl) ?_

  refine J.one (Op1.ocall rfl rfl rfl rfl rfl rfl rfl (toSaga_ok _ _ s U4 (ra _ (hx1.trans (hx2.trans (hx3.trans hx4)))) (rm _ (hx1.trans (hx2.trans (hx3.trans hx4)))) hl1 hl2) fun v U5 hx5 => ?_)
  refine J.sg 33 rfl fun A5 c5 B5 d5 e => ?_
  subst e
  have hU5 : Ext U U5 := hx1.trans (hx2.trans (hx3.trans (hx4.trans hx5)))
  refine J.to 7 [] 122 [(1, .v (.int .i64 fl)), (2, .bp 2 0), (4, .v (.bool false)), (6, .bp 6 0), (7, .v (.int .i64 (↑(Prod.fst (Prod.snd t)) : Int))), (8, .v (.bool (Prod.snd (Prod.snd t)))), (9, .bp 9 0), (35, .v (.agg (Array.mk [.slice A5 (List.length (Sg.acc s)) c5, .slice B5 (List.length (Sg.mv s)) d5, .int .i64 (Sg.done s), .bool (Sg.und s)]))), (36, .v (.int .i64 fl))] [(4, .some false)] [(2, .box 46 [.slice A (List.length (Sg.acc s)) ca, .slice B (List.length (Sg.mv s)) c, .int .i64 (Sg.done s), .bool (Sg.und s)]), (6, .box 28 [.slice A4 (List.length (Sg.acc (Prod.fst t))) c4, .slice B4 (List.length (Sg.mv (Prod.fst t))) d4, .int .i64 (Sg.done (Prod.fst t)), .bool (Sg.und (Prod.fst t))]), (33, .own (sgOwn (.slice A5 (List.length (Sg.acc s)) c5) (.slice B5 (List.length (Sg.mv s)) d5) s)), (9, .box 28 [.slice A5 (List.length (Sg.acc s)) c5, .slice B5 (List.length (Sg.mv s)) d5, .int .i64 (Sg.done s), .bool (Sg.und s)])] [] (by kernel_rfl) ?_

  refine J.lend 33 rfl fun L0 hL0 hd0 => ?_
  obtain ⟨ra5, rm5⟩ := sgOwn_rd hL0 (Hp.un_r hd0)
  refine J.one (Op1.ocall rfl rfl rfl rfl rfl rfl rfl (implRun_ok _ _ s fl _ ra5 rm5 hl1 hl2) fun v U6 hx6 => ?_)
  rw [ht]
  refine J.sg3 37 rfl fun A6 c6 B6 d6 e => ?_
  subst e
  refine J.to 14 [] 122 [(1, .v (.int .i64 fl)), (2, .bp 2 0), (4, .v (.bool false)), (6, .bp 6 0), (7, .v (.int .i64 (↑(Prod.fst (Prod.snd t)) : Int))), (8, .v (.bool (Prod.snd (Prod.snd t)))), (9, .bp 9 0), (10, .bp 10 0), (11, .v (.int .i64 (↑(Prod.fst (Prod.snd t)) : Int))), (12, .v (.bool (Prod.snd (Prod.snd t)))), (41, .v (.agg (Array.mk [.slice A6 (List.length (Sg.acc (Prod.fst t))) c6, .slice B6 (List.length (Sg.mv (Prod.fst t))) d6, .int .i64 (Sg.done (Prod.fst t)), .bool (Sg.und (Prod.fst t))]))), (42, .v (.agg (Array.mk [.slice A4 (List.length (Sg.acc (Prod.fst t))) c4, .slice B4 (List.length (Sg.mv (Prod.fst t))) d4, .int .i64 (Sg.done (Prod.fst t)), .bool (Sg.und (Prod.fst t))])))] [(4, .some false)] [(2, .box 46 [.slice A (List.length (Sg.acc s)) ca, .slice B (List.length (Sg.mv s)) c, .int .i64 (Sg.done s), .bool (Sg.und s)]), (6, .box 28 [.slice A4 (List.length (Sg.acc (Prod.fst t))) c4, .slice B4 (List.length (Sg.mv (Prod.fst t))) d4, .int .i64 (Sg.done (Prod.fst t)), .bool (Sg.und (Prod.fst t))]), (9, .box 28 [.slice A5 (List.length (Sg.acc s)) c5, .slice B5 (List.length (Sg.mv s)) d5, .int .i64 (Sg.done s), .bool (Sg.und s)]), (37, .own (sgOwn (.slice A6 (List.length (Sg.acc (Prod.fst t))) c6) (.slice B6 (List.length (Sg.mv (Prod.fst t))) d6) (Prod.fst t))), (10, .box 28 [.slice A6 (List.length (Sg.acc (Prod.fst t))) c6, .slice B6 (List.length (Sg.mv (Prod.fst t))) d6, .int .i64 (Sg.done (Prod.fst t)), .bool (Sg.und (Prod.fst t))])] [] (by kernel_rfl) ?_

  refine J.lend 37 rfl fun L1 hL1 hd1 => ?_
  obtain ⟨ra6, rm6⟩ := sgOwn_rd hL1 (Hp.un_r hd1)
  refine J.to 0 [] 122 [(1, .v (.int .i64 fl)), (2, .bp 2 0), (4, .v (.bool false)), (6, .bp 6 0), (7, .v (.int .i64 (↑(Prod.fst (Prod.snd t)) : Int))), (8, .v (.bool (Prod.snd (Prod.snd t)))), (9, .bp 9 0), (10, .bp 10 0), (11, .v (.int .i64 (↑(Prod.fst (Prod.snd t)) : Int))), (12, .v (.bool (Prod.snd (Prod.snd t)))), (41, .v (.agg (Array.mk [.slice A6 (List.length (Sg.acc (Prod.fst t))) c6, .slice B6 (List.length (Sg.mv (Prod.fst t))) d6, .int .i64 (Sg.done (Prod.fst t)), .bool (Sg.und (Prod.fst t))]))), (42, .v (.agg (Array.mk [.slice A4 (List.length (Sg.acc (Prod.fst t))) c4, .slice B4 (List.length (Sg.mv (Prod.fst t))) d4, .int .i64 (Sg.done (Prod.fst t)), .bool (Sg.und (Prod.fst t))])))] [(4, .some false)] [(2, .box 46 [.slice A (List.length (Sg.acc s)) ca, .slice B (List.length (Sg.mv s)) c, .int .i64 (Sg.done s), .bool (Sg.und s)]), (6, .box 28 [.slice A4 (List.length (Sg.acc (Prod.fst t))) c4, .slice B4 (List.length (Sg.mv (Prod.fst t))) d4, .int .i64 (Sg.done (Prod.fst t)), .bool (Sg.und (Prod.fst t))]), (9, .box 28 [.slice A5 (List.length (Sg.acc s)) c5, .slice B5 (List.length (Sg.mv s)) d5, .int .i64 (Sg.done s), .bool (Sg.und s)]), (10, .box 28 [.slice A6 (List.length (Sg.acc (Prod.fst t))) c6, .slice B6 (List.length (Sg.mv (Prod.fst t))) d6, .int .i64 (Sg.done (Prod.fst t)), .bool (Sg.und (Prod.fst t))])] [] (by kernel_rfl) ?_
  refine J.one (Op1.call rfl rfl rfl rfl rfl rfl rfl rfl (eqSaga_ok _ _ _ _ t.1 t.1 _ ra6 rm6 ⟨A4, c4, rfl, hc4, hA4.mono (hx5.trans (Hp.un_l.trans (hx6.trans Hp.un_l)))⟩ ⟨B4, d4, rfl, hd4, hB4.mono (hx5.trans (Hp.un_l.trans (hx6.trans Hp.un_l)))⟩ (by omega) (by omega)) fun v U7 hx7 hv => ?_)
  rw [decide_eq_true rfl] at hv; subst hv
  refine J.to 7 [] 122 [(1, .v (.int .i64 fl)), (2, .bp 2 0), (4, .v (.bool false)), (6, .bp 6 0), (7, .v (.int .i64 (↑(Prod.fst (Prod.snd t)) : Int))), (8, .v (.bool (Prod.snd (Prod.snd t)))), (9, .bp 9 0), (10, .bp 10 0), (11, .v (.int .i64 (↑(Prod.fst (Prod.snd t)) : Int))), (12, .v (.bool (Prod.snd (Prod.snd t)))), (50, .v (.bool ((↑(Prod.fst (Prod.snd t)) : Int) != (↑(Prod.fst (Prod.snd t)) : Int))))] [(4, .some false)] [(2, .box 46 [.slice A (List.length (Sg.acc s)) ca, .slice B (List.length (Sg.mv s)) c, .int .i64 (Sg.done s), .bool (Sg.und s)]), (6, .box 28 [.slice A4 (List.length (Sg.acc (Prod.fst t))) c4, .slice B4 (List.length (Sg.mv (Prod.fst t))) d4, .int .i64 (Sg.done (Prod.fst t)), .bool (Sg.und (Prod.fst t))]), (9, .box 28 [.slice A5 (List.length (Sg.acc s)) c5, .slice B5 (List.length (Sg.mv s)) d5, .int .i64 (Sg.done s), .bool (Sg.und s)]), (10, .box 28 [.slice A6 (List.length (Sg.acc (Prod.fst t))) c6, .slice B6 (List.length (Sg.mv (Prod.fst t))) d6, .int .i64 (Sg.done (Prod.fst t)), .bool (Sg.und (Prod.fst t))])] [] (by kernel_rfl) ?_
  refine J.br rfl rfl (fun h => by simp at h) (fun _ => ?_)
  refine J.to 5 [] 122 [(1, .v (.int .i64 fl)), (2, .bp 2 0), (4, .v (.bool false)), (6, .bp 6 0), (7, .v (.int .i64 (↑(Prod.fst (Prod.snd t)) : Int))), (8, .v (.bool (Prod.snd (Prod.snd t)))), (9, .bp 9 0), (10, .bp 10 0), (11, .v (.int .i64 (↑(Prod.fst (Prod.snd t)) : Int))), (12, .v (.bool (Prod.snd (Prod.snd t)))), (54, .v (.bool !Prod.snd (Prod.snd t) == Prod.snd (Prod.snd t)))] [(4, .some false)] [(2, .box 46 [.slice A (List.length (Sg.acc s)) ca, .slice B (List.length (Sg.mv s)) c, .int .i64 (Sg.done s), .bool (Sg.und s)]), (6, .box 28 [.slice A4 (List.length (Sg.acc (Prod.fst t))) c4, .slice B4 (List.length (Sg.mv (Prod.fst t))) d4, .int .i64 (Sg.done (Prod.fst t)), .bool (Sg.und (Prod.fst t))]), (9, .box 28 [.slice A5 (List.length (Sg.acc s)) c5, .slice B5 (List.length (Sg.mv s)) d5, .int .i64 (Sg.done s), .bool (Sg.und s)]), (10, .box 28 [.slice A6 (List.length (Sg.acc (Prod.fst t))) c6, .slice B6 (List.length (Sg.mv (Prod.fst t))) d6, .int .i64 (Sg.done (Prod.fst t)), .bool (Sg.und (Prod.fst t))])] [] (by kernel_rfl) ?_
  refine J.br rfl rfl (fun h => by simp at h) (fun _ => ?_)
  have hU6 : Ext U5 U7 := Hp.un_l.trans (hx6.trans (Hp.un_l.trans hx7))
  refine J.to 4 [false] 122 [(1, .v (.int .i64 fl)), (2, .bp 2 0), (4, .v (.bool false)), (6, .bp 6 0), (7, .v (.int .i64 (↑(Prod.fst (Prod.snd t)) : Int))), (8, .v (.bool (Prod.snd (Prod.snd t)))), (9, .bp 9 0), (10, .bp 10 0), (11, .v (.int .i64 (↑(Prod.fst (Prod.snd t)) : Int))), (12, .v (.bool (Prod.snd (Prod.snd t))))] [(4, .some false)] [(2, .box 46 [.slice A (List.length (Sg.acc s)) ca, .slice B (List.length (Sg.mv s)) c, .int .i64 (Sg.done s), .bool (Sg.und s)]), (6, .box 28 [.slice A4 (List.length (Sg.acc (Prod.fst t))) c4, .slice B4 (List.length (Sg.mv (Prod.fst t))) d4, .int .i64 (Sg.done (Prod.fst t)), .bool (Sg.und (Prod.fst t))]), (9, .box 28 [.slice A5 (List.length (Sg.acc s)) c5, .slice B5 (List.length (Sg.mv s)) d5, .int .i64 (Sg.done s), .bool (Sg.und s)]), (10, .box 28 [.slice A6 (List.length (Sg.acc (Prod.fst t))) c6, .slice B6 (List.length (Sg.mv (Prod.fst t))) d6, .int .i64 (Sg.done (Prod.fst t)), .bool (Sg.und (Prod.fst t))])] [] (by kernel_rfl) ?_
  refine J.any [2, 9] [] [] trivial fun ρ1 _ => ?_
  refine J.takeTo true [0, 1] 3 122 [(1, .v (.int .i64 fl)), (2, .bp 2 0), (4, .v (.bool false)), (6, .bp 6 0), (7, .v (.int .i64 (↑(Prod.fst (Prod.snd t)) : Int))), (8, .v (.bool (Prod.snd (Prod.snd t)))), (9, .bp 9 0), (10, .bp 10 0), (11, .v (.int .i64 (↑(Prod.fst (Prod.snd t)) : Int))), (12, .v (.bool (Prod.snd (Prod.snd t)))), (55, .v (.agg (Array.mk [.slice A5 (List.length (Sg.acc s)) c5, .slice B5 (List.length (Sg.mv s)) d5, .int .i64 (Sg.done s), .bool (Sg.und s)]))), (56, .v (.agg (Array.mk [.slice A (List.length (Sg.acc s)) ca, .slice B (List.length (Sg.mv s)) c, .int .i64 (Sg.done s), .bool (Sg.und s)])))] [(4, .some false)] [(2, .box 46 [.slice A (List.length (Sg.acc s)) ca, .slice B (List.length (Sg.mv s)) c, .int .i64 (Sg.done s), .bool (Sg.und s)]), (6, .box 28 [.slice A4 (List.length (Sg.acc (Prod.fst t))) c4, .slice B4 (List.length (Sg.mv (Prod.fst t))) d4, .int .i64 (Sg.done (Prod.fst t)), .bool (Sg.und (Prod.fst t))]), (9, .box 28 [.slice A5 (List.length (Sg.acc s)) c5, .slice B5 (List.length (Sg.mv s)) d5, .int .i64 (Sg.done s), .bool (Sg.und s)]), (10, .box 28 [.slice A6 (List.length (Sg.acc (Prod.fst t))) c6, .slice B6 (List.length (Sg.mv (Prod.fst t))) d6, .int .i64 (Sg.done (Prod.fst t)), .bool (Sg.und (Prod.fst t))])] [(2, .some (ρ1 2)), (6, .some (ρ1 6)), (9, .some (ρ1 9)), (10, .some (ρ1 10))] (by first | exact Ext.refl _ | assumption | exact Ext.trans (by assumption) (by assumption) | exact Ext.trans (by assumption) (Ext.trans (by assumption) (by assumption))) (fun h => rfl) ⟨⟨rfl, rfl⟩, ⟨⟨rfl, rfl⟩, trivial⟩⟩ rfl (by kernel_rfl) ?_
  refine J.aone (i := 2) (by kernel_rfl) (Op1.ocall rfl rfl rfl rfl rfl rfl rfl (toSaga_ok _ _ s U7 (ra _ (hU5.trans hU6)) (rm _ (hU5.trans hU6)) hl1 hl2) fun v U8 hx8 => ⟨fun _ => ⟨hx8, ⟨rfl, rfl⟩, ⟨rfl, rfl⟩, trivial⟩, ?_⟩)
  refine J.sg 57 rfl fun A8 c8 B8 d8 e => ?_
  subst e
  refine J.pub (k := 57) rfl fun U9 L9 hx9 hl9 hp9 => ?_
  obtain ⟨ra9, rm9⟩ := sgOwn_rd hp9 hl9
  refine J.to 0 [] 122 [(1, .v (.int .i64 fl)), (2, .bp 2 0), (4, .v (.bool false)), (6, .bp 6 0), (7, .v (.int .i64 (↑(Prod.fst (Prod.snd t)) : Int))), (8, .v (.bool (Prod.snd (Prod.snd t)))), (9, .bp 9 0), (10, .bp 10 0), (11, .v (.int .i64 (↑(Prod.fst (Prod.snd t)) : Int))), (12, .v (.bool (Prod.snd (Prod.snd t)))), (55, .v (.agg (Array.mk [.slice A5 (List.length (Sg.acc s)) c5, .slice B5 (List.length (Sg.mv s)) d5, .int .i64 (Sg.done s), .bool (Sg.und s)]))), (56, .v (.agg (Array.mk [.slice A (List.length (Sg.acc s)) ca, .slice B (List.length (Sg.mv s)) c, .int .i64 (Sg.done s), .bool (Sg.und s)]))), (57, .v (.agg (Array.mk [.slice A8 (List.length (Sg.acc s)) c8, .slice B8 (List.length (Sg.mv s)) d8, .int .i64 (Sg.done s), .bool (Sg.und s)])))] [(4, .some false)] [(2, .box 46 [.slice A (List.length (Sg.acc s)) ca, .slice B (List.length (Sg.mv s)) c, .int .i64 (Sg.done s), .bool (Sg.und s)]), (6, .box 28 [.slice A4 (List.length (Sg.acc (Prod.fst t))) c4, .slice B4 (List.length (Sg.mv (Prod.fst t))) d4, .int .i64 (Sg.done (Prod.fst t)), .bool (Sg.und (Prod.fst t))]), (9, .box 28 [.slice A5 (List.length (Sg.acc s)) c5, .slice B5 (List.length (Sg.mv s)) d5, .int .i64 (Sg.done s), .bool (Sg.und s)]), (10, .box 28 [.slice A6 (List.length (Sg.acc (Prod.fst t))) c6, .slice B6 (List.length (Sg.mv (Prod.fst t))) d6, .int .i64 (Sg.done (Prod.fst t)), .bool (Sg.und (Prod.fst t))])] [(2, .some (ρ1 2)), (6, .some (ρ1 6)), (9, .some (ρ1 9)), (10, .some (ρ1 10))] (by kernel_rfl) ?_
  have hU7 : Ext (Hp.un U5 L0) U9 := hx6.trans (Hp.un_l.trans (hx7.trans (hx8.trans hx9)))
  refine J.aone (i := 3) (by kernel_rfl) (Op1.call rfl rfl rfl rfl rfl rfl rfl rfl (eqSaga_ok _ _ _ _ s s U9 (ra5.mono hU7) (rm5.mono hU7) ra9 rm9 hl1 hl2) fun v U10 hx10 hv => ⟨fun _ => ⟨hx8.trans (hx9.trans hx10), ⟨rfl, rfl⟩, ⟨rfl, rfl⟩, trivial⟩, ?_⟩)
  rw [decide_eq_true rfl] at hv; subst hv
  refine J.to 0 [] 122 [(1, .v (.int .i64 fl)), (2, .bp 2 0), (4, .v (.bool false)), (6, .bp 6 0), (7, .v (.int .i64 (↑(Prod.fst (Prod.snd t)) : Int))), (8, .v (.bool (Prod.snd (Prod.snd t)))), (9, .bp 9 0), (10, .bp 10 0), (11, .v (.int .i64 (↑(Prod.fst (Prod.snd t)) : Int))), (12, .v (.bool (Prod.snd (Prod.snd t)))), (55, .v (.agg (Array.mk [.slice A5 (List.length (Sg.acc s)) c5, .slice B5 (List.length (Sg.mv s)) d5, .int .i64 (Sg.done s), .bool (Sg.und s)]))), (56, .v (.agg (Array.mk [.slice A (List.length (Sg.acc s)) ca, .slice B (List.length (Sg.mv s)) c, .int .i64 (Sg.done s), .bool (Sg.und s)]))), (57, .v (.agg (Array.mk [.slice A8 (List.length (Sg.acc s)) c8, .slice B8 (List.length (Sg.mv s)) d8, .int .i64 (Sg.done s), .bool (Sg.und s)]))), (58, .v (.bool true))] [(4, .some false)] [(2, .box 46 [.slice A (List.length (Sg.acc s)) ca, .slice B (List.length (Sg.mv s)) c, .int .i64 (Sg.done s), .bool (Sg.und s)]), (6, .box 28 [.slice A4 (List.length (Sg.acc (Prod.fst t))) c4, .slice B4 (List.length (Sg.mv (Prod.fst t))) d4, .int .i64 (Sg.done (Prod.fst t)), .bool (Sg.und (Prod.fst t))]), (9, .box 28 [.slice A5 (List.length (Sg.acc s)) c5, .slice B5 (List.length (Sg.mv s)) d5, .int .i64 (Sg.done s), .bool (Sg.und s)]), (10, .box 28 [.slice A6 (List.length (Sg.acc (Prod.fst t))) c6, .slice B6 (List.length (Sg.mv (Prod.fst t))) d6, .int .i64 (Sg.done (Prod.fst t)), .bool (Sg.und (Prod.fst t))])] [(2, .some (ρ1 2)), (6, .some (ρ1 6)), (9, .some (ρ1 9)), (10, .some (ρ1 10))] (by kernel_rfl) ?_
  refine J.takeTo false [4] 0 122 [(1, .v (.int .i64 fl)), (2, .bp 2 0), (4, .v (.bool false)), (6, .bp 6 0), (7, .v (.int .i64 (↑(Prod.fst (Prod.snd t)) : Int))), (8, .v (.bool (Prod.snd (Prod.snd t)))), (9, .bp 9 0), (10, .bp 10 0), (11, .v (.int .i64 (↑(Prod.fst (Prod.snd t)) : Int))), (12, .v (.bool (Prod.snd (Prod.snd t)))), (55, .v (.agg (Array.mk [.slice A5 (List.length (Sg.acc s)) c5, .slice B5 (List.length (Sg.mv s)) d5, .int .i64 (Sg.done s), .bool (Sg.und s)]))), (56, .v (.agg (Array.mk [.slice A (List.length (Sg.acc s)) ca, .slice B (List.length (Sg.mv s)) c, .int .i64 (Sg.done s), .bool (Sg.und s)]))), (57, .v (.agg (Array.mk [.slice A8 (List.length (Sg.acc s)) c8, .slice B8 (List.length (Sg.mv s)) d8, .int .i64 (Sg.done s), .bool (Sg.und s)]))), (58, .v (.bool true)), (59, .v (.bool false))] [(4, .some false), (59, .some false)] [(2, .box 46 [.slice A (List.length (Sg.acc s)) ca, .slice B (List.length (Sg.mv s)) c, .int .i64 (Sg.done s), .bool (Sg.und s)]), (6, .box 28 [.slice A4 (List.length (Sg.acc (Prod.fst t))) c4, .slice B4 (List.length (Sg.mv (Prod.fst t))) d4, .int .i64 (Sg.done (Prod.fst t)), .bool (Sg.und (Prod.fst t))]), (9, .box 28 [.slice A5 (List.length (Sg.acc s)) c5, .slice B5 (List.length (Sg.mv s)) d5, .int .i64 (Sg.done s), .bool (Sg.und s)]), (10, .box 28 [.slice A6 (List.length (Sg.acc (Prod.fst t))) c6, .slice B6 (List.length (Sg.mv (Prod.fst t))) d6, .int .i64 (Sg.done (Prod.fst t)), .bool (Sg.und (Prod.fst t))])] [(2, .some (ρ1 2)), (6, .some (ρ1 6)), (9, .some (ρ1 9)), (10, .some (ρ1 10))] (by first | exact Ext.refl _ | assumption | exact Ext.trans (by assumption) (by assumption) | exact Ext.trans (by assumption) (Ext.trans (by assumption) (by assumption))) (fun h => by cases h) ⟨⟨rfl, rfl⟩, ⟨⟨rfl, rfl⟩, trivial⟩⟩ rfl (by kernel_rfl) ?_
  refine J.adone' (by kernel_rfl) ?_
  refine J.unlend 37 (V := U6) rfl hL1 (hx7.trans (hx8.trans (hx9.trans hx10))) hd1 (hU5.trans (Hp.un_l.trans hx6)) fun hxa => ?_
  refine J.unlend 33 (V := U5) rfl hL0 (hx6.trans hxa) hd0 hU5 fun hxb => ?_
  generalize Hp.less (Hp.less U10 L1) L0 = U11 at hxb
  refine J.to 10 [false] 122 [(1, .v (.int .i64 fl)), (2, .bp 2 0), (4, .v (.bool false)), (6, .bp 6 0), (7, .v (.int .i64 (↑(Prod.fst (Prod.snd t)) : Int))), (8, .v (.bool (Prod.snd (Prod.snd t)))), (9, .bp 9 0), (10, .bp 10 0), (11, .v (.int .i64 (↑(Prod.fst (Prod.snd t)) : Int))), (12, .v (.bool (Prod.snd (Prod.snd t)))), (13, .v (.int .i64 1)), (60, .v (.agg (Array.mk [.slice A5 (List.length (Sg.acc s)) c5, .slice B5 (List.length (Sg.mv s)) d5, .int .i64 (Sg.done s), .bool (Sg.und s)]))), (61, .v (.int .i64 1))] [(4, .some false)] [(2, .box 46 [.slice A (List.length (Sg.acc s)) ca, .slice B (List.length (Sg.mv s)) c, .int .i64 (Sg.done s), .bool (Sg.und s)]), (6, .box 28 [.slice A4 (List.length (Sg.acc (Prod.fst t))) c4, .slice B4 (List.length (Sg.mv (Prod.fst t))) d4, .int .i64 (Sg.done (Prod.fst t)), .bool (Sg.und (Prod.fst t))]), (9, .box 28 [.slice A5 (List.length (Sg.acc s)) c5, .slice B5 (List.length (Sg.mv s)) d5, .int .i64 (Sg.done s), .bool (Sg.und s)]), (10, .box 28 [.slice A6 (List.length (Sg.acc (Prod.fst t))) c6, .slice B6 (List.length (Sg.mv (Prod.fst t))) d6, .int .i64 (Sg.done (Prod.fst t)), .bool (Sg.und (Prod.fst t))]), (33, .own (sgOwn (.slice A5 (List.length (Sg.acc s)) c5) (.slice B5 (List.length (Sg.mv s)) d5) s)), (37, .own (sgOwn (.slice A6 (List.length (Sg.acc (Prod.fst t))) c6) (.slice B6 (List.length (Sg.mv (Prod.fst t))) d6) (Prod.fst t)))] [(2, .some (ρ1 2)), (6, .some (ρ1 6)), (9, .some (ρ1 9)), (10, .some (ρ1 10))] (by kernel_rfl) ?_
  refine J.one (Op1.bcall [(14, 33)] (args := [.v _, .v _]) (ML := [(14, .own (sgOwn (.slice A5 s.acc.length c5) (.slice B5 s.mv.length d5) s))]) rfl rfl rfl rfl rfl rfl rfl rfl rfl rfl (fun p hp => by simp at hp; subst hp; rfl) (fun p hp => by simp at hp; subst hp; rfl)
    (markSaga_ok _ _ s 1 U11 hl1 hl2 (by omega)) fun v U12 ML hx12 ⟨hv, hML⟩ => ?_)
  subst hv; subst hML
  refine J.to 10 [] 122 [(1, .v (.int .i64 fl)), (2, .bp 2 0), (4, .v (.bool false)), (6, .bp 6 0), (7, .v (.int .i64 (↑(Prod.fst (Prod.snd t)) : Int))), (8, .v (.bool (Prod.snd (Prod.snd t)))), (9, .bp 9 0), (10, .bp 10 0), (11, .v (.int .i64 (↑(Prod.fst (Prod.snd t)) : Int))), (12, .v (.bool (Prod.snd (Prod.snd t)))), (13, .v (.int .i64 (1 + (↑(List.length (Sg.acc s)) : Int) + 3 * (↑(List.length (Sg.mv s)) : Int)))), (65, .v (.bool (Decidable.decide (1 + (↑(List.length (Sg.acc s)) : Int) + 3 * (↑(List.length (Sg.mv s)) : Int) < 0)))), (66, .v (.agg (Array.mk [.slice A6 (List.length (Sg.acc (Prod.fst t))) c6, .slice B6 (List.length (Sg.mv (Prod.fst t))) d6, .int .i64 (Sg.done (Prod.fst t)), .bool (Sg.und (Prod.fst t))]))), (67, .v (.agg (Array.mk [.slice A4 (List.length (Sg.acc (Prod.fst t))) c4, .slice B4 (List.length (Sg.mv (Prod.fst t))) d4, .int .i64 (Sg.done (Prod.fst t)), .bool (Sg.und (Prod.fst t))])))] [(4, .some false), (65, .some false)] [(2, .box 46 [.slice A (List.length (Sg.acc s)) ca, .slice B (List.length (Sg.mv s)) c, .int .i64 (Sg.done s), .bool (Sg.und s)]), (6, .box 28 [.slice A4 (List.length (Sg.acc (Prod.fst t))) c4, .slice B4 (List.length (Sg.mv (Prod.fst t))) d4, .int .i64 (Sg.done (Prod.fst t)), .bool (Sg.und (Prod.fst t))]), (9, .box 28 [.slice A5 (List.length (Sg.acc s)) c5, .slice B5 (List.length (Sg.mv s)) d5, .int .i64 (Sg.done s), .bool (Sg.und s)]), (10, .box 28 [.slice A6 (List.length (Sg.acc (Prod.fst t))) c6, .slice B6 (List.length (Sg.mv (Prod.fst t))) d6, .int .i64 (Sg.done (Prod.fst t)), .bool (Sg.und (Prod.fst t))]), (33, .own (sgOwn (.slice A5 (List.length (Sg.acc s)) c5) (.slice B5 (List.length (Sg.mv s)) d5) (Sg.marked s 1))), (37, .own (sgOwn (.slice A6 (List.length (Sg.acc (Prod.fst t))) c6) (.slice B6 (List.length (Sg.mv (Prod.fst t))) d6) (Prod.fst t)))] [(2, .some (ρ1 2)), (6, .some (ρ1 6)), (9, .some (ρ1 9)), (10, .some (ρ1 10))] (by kernel_rfl) ?_
  refine J.br rfl rfl (fun h => by simp at h; omega) (fun _ => ?_)
  refine J.to 0 [] 122 [(1, .v (.int .i64 fl)), (2, .bp 2 0), (4, .v (.bool false)), (6, .bp 6 0), (7, .v (.int .i64 (↑(Prod.fst (Prod.snd t)) : Int))), (8, .v (.bool (Prod.snd (Prod.snd t)))), (9, .bp 9 0), (10, .bp 10 0), (11, .v (.int .i64 (↑(Prod.fst (Prod.snd t)) : Int))), (12, .v (.bool (Prod.snd (Prod.snd t)))), (13, .v (.int .i64 (1 + (↑(List.length (Sg.acc s)) : Int) + 3 * (↑(List.length (Sg.mv s)) : Int)))), (65, .v (.bool false)), (66, .v (.agg (Array.mk [.slice A6 (List.length (Sg.acc (Prod.fst t))) c6, .slice B6 (List.length (Sg.mv (Prod.fst t))) d6, .int .i64 (Sg.done (Prod.fst t)), .bool (Sg.und (Prod.fst t))]))), (67, .v (.agg (Array.mk [.slice A4 (List.length (Sg.acc (Prod.fst t))) c4, .slice B4 (List.length (Sg.mv (Prod.fst t))) d4, .int .i64 (Sg.done (Prod.fst t)), .bool (Sg.und (Prod.fst t))])))] [(4, .some false), (65, .some false)] [(2, .box 46 [.slice A (List.length (Sg.acc s)) ca, .slice B (List.length (Sg.mv s)) c, .int .i64 (Sg.done s), .bool (Sg.und s)]), (6, .box 28 [.slice A4 (List.length (Sg.acc (Prod.fst t))) c4, .slice B4 (List.length (Sg.mv (Prod.fst t))) d4, .int .i64 (Sg.done (Prod.fst t)), .bool (Sg.und (Prod.fst t))]), (9, .box 28 [.slice A5 (List.length (Sg.acc s)) c5, .slice B5 (List.length (Sg.mv s)) d5, .int .i64 (Sg.done s), .bool (Sg.und s)]), (10, .box 28 [.slice A6 (List.length (Sg.acc (Prod.fst t))) c6, .slice B6 (List.length (Sg.mv (Prod.fst t))) d6, .int .i64 (Sg.done (Prod.fst t)), .bool (Sg.und (Prod.fst t))]), (33, .own (sgOwn (.slice A5 (List.length (Sg.acc s)) c5) (.slice B5 (List.length (Sg.mv s)) d5) (Sg.marked s 1))), (37, .own (sgOwn (.slice A6 (List.length (Sg.acc (Prod.fst t))) c6) (.slice B6 (List.length (Sg.mv (Prod.fst t))) d6) (Prod.fst t)))] [(2, .some (ρ1 2)), (6, .some (ρ1 6)), (9, .some (ρ1 9)), (10, .some (ρ1 10))] (by kernel_rfl) ?_

  refine J.lend 37 rfl fun L2 hL2 hd2 => ?_
  obtain ⟨ra7, rm7⟩ := sgOwn_rd hL2 (Hp.un_r hd2)
  have hU12 : Ext U4 U12 := hx5.trans (hxb.trans hx12)
  refine J.one (Op1.call rfl rfl rfl rfl rfl rfl rfl rfl (eqSaga_ok _ _ _ _ t.1 t.1 _ ra7 rm7 ⟨A4, c4, rfl, hc4, hA4.mono (hU12.trans Hp.un_l)⟩ ⟨B4, d4, rfl, hd4, hB4.mono (hU12.trans Hp.un_l)⟩ (by omega) (by omega)) fun v U13 hx13 hv => ?_)
  rw [decide_eq_true rfl] at hv; subst hv
  refine J.to 8 [] 122 [(1, .v (.int .i64 fl)), (2, .bp 2 0), (4, .v (.bool false)), (6, .bp 6 0), (7, .v (.int .i64 (↑(Prod.fst (Prod.snd t)) : Int))), (8, .v (.bool (Prod.snd (Prod.snd t)))), (9, .bp 9 0), (10, .bp 10 0), (12, .v (.bool (Prod.snd (Prod.snd t)))), (13, .v (.int .i64 (1 + (↑(List.length (Sg.acc s)) : Int) + 3 * (↑(List.length (Sg.mv s)) : Int)))), (76, .v (.bool ((↑(Prod.fst (Prod.snd t)) : Int) != (↑(Prod.fst (Prod.snd t)) : Int))))] [(4, .some false)] [(2, .box 46 [.slice A (List.length (Sg.acc s)) ca, .slice B (List.length (Sg.mv s)) c, .int .i64 (Sg.done s), .bool (Sg.und s)]), (6, .box 28 [.slice A4 (List.length (Sg.acc (Prod.fst t))) c4, .slice B4 (List.length (Sg.mv (Prod.fst t))) d4, .int .i64 (Sg.done (Prod.fst t)), .bool (Sg.und (Prod.fst t))]), (9, .box 28 [.slice A5 (List.length (Sg.acc s)) c5, .slice B5 (List.length (Sg.mv s)) d5, .int .i64 (Sg.done s), .bool (Sg.und s)]), (10, .box 28 [.slice A6 (List.length (Sg.acc (Prod.fst t))) c6, .slice B6 (List.length (Sg.mv (Prod.fst t))) d6, .int .i64 (Sg.done (Prod.fst t)), .bool (Sg.und (Prod.fst t))]), (33, .own (sgOwn (.slice A5 (List.length (Sg.acc s)) c5) (.slice B5 (List.length (Sg.mv s)) d5) (Sg.marked s 1)))] [(2, .some (ρ1 2)), (6, .some (ρ1 6)), (9, .some (ρ1 9)), (10, .some (ρ1 10))] (by kernel_rfl) ?_
  refine J.br rfl rfl (fun h => by simp at h) (fun _ => ?_)
  refine J.to 5 [] 122 [(1, .v (.int .i64 fl)), (2, .bp 2 0), (4, .v (.bool false)), (6, .bp 6 0), (7, .v (.int .i64 (↑(Prod.fst (Prod.snd t)) : Int))), (8, .v (.bool (Prod.snd (Prod.snd t)))), (9, .bp 9 0), (10, .bp 10 0), (80, .v (.bool !Prod.snd (Prod.snd t) == Prod.snd (Prod.snd t)))] [(4, .some false)] [(2, .box 46 [.slice A (List.length (Sg.acc s)) ca, .slice B (List.length (Sg.mv s)) c, .int .i64 (Sg.done s), .bool (Sg.und s)]), (6, .box 28 [.slice A4 (List.length (Sg.acc (Prod.fst t))) c4, .slice B4 (List.length (Sg.mv (Prod.fst t))) d4, .int .i64 (Sg.done (Prod.fst t)), .bool (Sg.und (Prod.fst t))]), (9, .box 28 [.slice A5 (List.length (Sg.acc s)) c5, .slice B5 (List.length (Sg.mv s)) d5, .int .i64 (Sg.done s), .bool (Sg.und s)]), (10, .box 28 [.slice A6 (List.length (Sg.acc (Prod.fst t))) c6, .slice B6 (List.length (Sg.mv (Prod.fst t))) d6, .int .i64 (Sg.done (Prod.fst t)), .bool (Sg.und (Prod.fst t))]), (33, .own (sgOwn (.slice A5 (List.length (Sg.acc s)) c5) (.slice B5 (List.length (Sg.mv s)) d5) (Sg.marked s 1)))] [(2, .some (ρ1 2)), (6, .some (ρ1 6)), (9, .some (ρ1 9)), (10, .some (ρ1 10))] (by kernel_rfl) ?_
  refine J.br rfl rfl (fun h => by simp at h) (fun _ => ?_)
  refine J.to 10 [false] 122 [(1, .v (.int .i64 fl)), (2, .bp 2 0), (4, .v (.bool false)), (6, .bp 6 0), (7, .v (.int .i64 (↑(Prod.fst (Prod.snd t)) : Int))), (8, .v (.bool (Prod.snd (Prod.snd t)))), (9, .bp 9 0), (10, .bp 10 0), (14, .v (.int .i64 1)), (81, .v (.agg (Array.mk [.slice A6 (List.length (Sg.acc (Prod.fst t))) c6, .slice B6 (List.length (Sg.mv (Prod.fst t))) d6, .int .i64 (Sg.done (Prod.fst t)), .bool (Sg.und (Prod.fst t))]))), (82, .v (.int .i64 1))] [(4, .some false)] [(2, .box 46 [.slice A (List.length (Sg.acc s)) ca, .slice B (List.length (Sg.mv s)) c, .int .i64 (Sg.done s), .bool (Sg.und s)]), (6, .box 28 [.slice A4 (List.length (Sg.acc (Prod.fst t))) c4, .slice B4 (List.length (Sg.mv (Prod.fst t))) d4, .int .i64 (Sg.done (Prod.fst t)), .bool (Sg.und (Prod.fst t))]), (9, .box 28 [.slice A5 (List.length (Sg.acc s)) c5, .slice B5 (List.length (Sg.mv s)) d5, .int .i64 (Sg.done s), .bool (Sg.und s)]), (10, .box 28 [.slice A6 (List.length (Sg.acc (Prod.fst t))) c6, .slice B6 (List.length (Sg.mv (Prod.fst t))) d6, .int .i64 (Sg.done (Prod.fst t)), .bool (Sg.und (Prod.fst t))]), (33, .own (sgOwn (.slice A5 (List.length (Sg.acc s)) c5) (.slice B5 (List.length (Sg.mv s)) d5) (Sg.marked s 1)))] [(2, .some (ρ1 2)), (6, .some (ρ1 6)), (9, .some (ρ1 9)), (10, .some (ρ1 10))] (by kernel_rfl) ?_
  refine J.unlend 37 (V := U12) rfl hL2 hx13 hd2 (hU5.trans (hxb.trans hx12)) fun hxc => ?_
  generalize Hp.less U13 L2 = U14 at hxc
  refine J.to 0 [] 122 [(1, .v (.int .i64 fl)), (2, .bp 2 0), (4, .v (.bool false)), (6, .bp 6 0), (7, .v (.int .i64 (↑(Prod.fst (Prod.snd t)) : Int))), (8, .v (.bool (Prod.snd (Prod.snd t)))), (9, .bp 9 0), (10, .bp 10 0), (14, .v (.int .i64 1)), (81, .v (.agg (Array.mk [.slice A6 (List.length (Sg.acc (Prod.fst t))) c6, .slice B6 (List.length (Sg.mv (Prod.fst t))) d6, .int .i64 (Sg.done (Prod.fst t)), .bool (Sg.und (Prod.fst t))]))), (82, .v (.int .i64 1))] [(4, .some false)] [(2, .box 46 [.slice A (List.length (Sg.acc s)) ca, .slice B (List.length (Sg.mv s)) c, .int .i64 (Sg.done s), .bool (Sg.und s)]), (6, .box 28 [.slice A4 (List.length (Sg.acc (Prod.fst t))) c4, .slice B4 (List.length (Sg.mv (Prod.fst t))) d4, .int .i64 (Sg.done (Prod.fst t)), .bool (Sg.und (Prod.fst t))]), (9, .box 28 [.slice A5 (List.length (Sg.acc s)) c5, .slice B5 (List.length (Sg.mv s)) d5, .int .i64 (Sg.done s), .bool (Sg.und s)]), (10, .box 28 [.slice A6 (List.length (Sg.acc (Prod.fst t))) c6, .slice B6 (List.length (Sg.mv (Prod.fst t))) d6, .int .i64 (Sg.done (Prod.fst t)), .bool (Sg.und (Prod.fst t))]), (33, .own (sgOwn (.slice A5 (List.length (Sg.acc s)) c5) (.slice B5 (List.length (Sg.mv s)) d5) (Sg.marked s 1))), (37, .own (sgOwn (.slice A6 (List.length (Sg.acc (Prod.fst t))) c6) (.slice B6 (List.length (Sg.mv (Prod.fst t))) d6) (Prod.fst t)))] [(2, .some (ρ1 2)), (6, .some (ρ1 6)), (9, .some (ρ1 9)), (10, .some (ρ1 10))] (by kernel_rfl) ?_
  refine J.one (Op1.bcall [(14, 37)] (args := [.v _, .v _]) (ML := [(14, .own (sgOwn (.slice A6 t.1.acc.length c6) (.slice B6 t.1.mv.length d6) t.1))]) rfl rfl rfl rfl rfl rfl rfl rfl rfl rfl (fun p hp => by simp at hp; subst hp; rfl) (fun p hp => by simp at hp; subst hp; rfl)
    (markSaga_ok _ _ t.1 1 U14 (by omega) (by omega) (by omega)) fun v U15 ML hx15 ⟨hv, hML⟩ => ?_)
  subst hv; subst hML
  refine J.to 10 [] 122 [(1, .v (.int .i64 fl)), (2, .bp 2 0), (4, .v (.bool false)), (6, .bp 6 0), (7, .v (.int .i64 (↑(Prod.fst (Prod.snd t)) : Int))), (8, .v (.bool (Prod.snd (Prod.snd t)))), (9, .bp 9 0), (10, .bp 10 0), (14, .v (.int .i64 (1 + (↑(List.length (Sg.acc (Prod.fst t))) : Int) + 3 * (↑(List.length (Sg.mv (Prod.fst t))) : Int)))), (15, .v (.int .i64 1)), (84, .v (.agg (Array.mk [.slice A6 (List.length (Sg.acc (Prod.fst t))) c6, .slice B6 (List.length (Sg.mv (Prod.fst t))) d6, .int .i64 (Sg.done (Prod.fst t)), .bool (Sg.und (Prod.fst t))]))), (85, .v (.int .i64 1))] [(4, .some false)] [(2, .box 46 [.slice A (List.length (Sg.acc s)) ca, .slice B (List.length (Sg.mv s)) c, .int .i64 (Sg.done s), .bool (Sg.und s)]), (6, .box 28 [.slice A4 (List.length (Sg.acc (Prod.fst t))) c4, .slice B4 (List.length (Sg.mv (Prod.fst t))) d4, .int .i64 (Sg.done (Prod.fst t)), .bool (Sg.und (Prod.fst t))]), (9, .box 28 [.slice A5 (List.length (Sg.acc s)) c5, .slice B5 (List.length (Sg.mv s)) d5, .int .i64 (Sg.done s), .bool (Sg.und s)]), (10, .box 28 [.slice A6 (List.length (Sg.acc (Prod.fst t))) c6, .slice B6 (List.length (Sg.mv (Prod.fst t))) d6, .int .i64 (Sg.done (Prod.fst t)), .bool (Sg.und (Prod.fst t))]), (33, .own (sgOwn (.slice A5 (List.length (Sg.acc s)) c5) (.slice B5 (List.length (Sg.mv s)) d5) (Sg.marked s 1))), (37, .own (sgOwn (.slice A6 (List.length (Sg.acc (Prod.fst t))) c6) (.slice B6 (List.length (Sg.mv (Prod.fst t))) d6) (Sg.marked (Prod.fst t) 1)))] [(2, .some (ρ1 2)), (6, .some (ρ1 6)), (9, .some (ρ1 9)), (10, .some (ρ1 10))] (by kernel_rfl) ?_
  refine J.lend 37 rfl fun L3 hL3 hd3 => ?_
  obtain ⟨ra8, rm8⟩ := sgOwn_rd hL3 (Hp.un_r hd3)
  have hmm : t.1.marked 1 = (t.1.marked 1).marked 1 := by simp [Sg.marked, intMarks_len, mvMarks_len]
  have hml : (t.1.marked 1).acc.length = t.1.acc.length ∧ (t.1.marked 1).mv.length = t.1.mv.length := by simp [Sg.marked, intMarks_len, mvMarks_len]
  refine J.to 0 [] 122 [(1, .v (.int .i64 fl)), (2, .bp 2 0), (4, .v (.bool false)), (6, .bp 6 0), (7, .v (.int .i64 (↑(Prod.fst (Prod.snd t)) : Int))), (8, .v (.bool (Prod.snd (Prod.snd t)))), (9, .bp 9 0), (10, .bp 10 0), (14, .v (.int .i64 (1 + (↑(List.length (Sg.acc (Prod.fst t))) : Int) + 3 * (↑(List.length (Sg.mv (Prod.fst t))) : Int)))), (15, .v (.int .i64 1)), (84, .v (.agg (Array.mk [.slice A6 (List.length (Sg.acc (Prod.fst t))) c6, .slice B6 (List.length (Sg.mv (Prod.fst t))) d6, .int .i64 (Sg.done (Prod.fst t)), .bool (Sg.und (Prod.fst t))]))), (85, .v (.int .i64 1))] [(4, .some false)] [(2, .box 46 [.slice A (List.length (Sg.acc s)) ca, .slice B (List.length (Sg.mv s)) c, .int .i64 (Sg.done s), .bool (Sg.und s)]), (6, .box 28 [.slice A4 (List.length (Sg.acc (Prod.fst t))) c4, .slice B4 (List.length (Sg.mv (Prod.fst t))) d4, .int .i64 (Sg.done (Prod.fst t)), .bool (Sg.und (Prod.fst t))]), (9, .box 28 [.slice A5 (List.length (Sg.acc s)) c5, .slice B5 (List.length (Sg.mv s)) d5, .int .i64 (Sg.done s), .bool (Sg.und s)]), (10, .box 28 [.slice A6 (List.length (Sg.acc (Prod.fst t))) c6, .slice B6 (List.length (Sg.mv (Prod.fst t))) d6, .int .i64 (Sg.done (Prod.fst t)), .bool (Sg.und (Prod.fst t))]), (33, .own (sgOwn (.slice A5 (List.length (Sg.acc s)) c5) (.slice B5 (List.length (Sg.mv s)) d5) (Sg.marked s 1)))] [(2, .some (ρ1 2)), (6, .some (ρ1 6)), (9, .some (ρ1 9)), (10, .some (ρ1 10))] (by kernel_rfl) ?_
  refine J.one (Op1.call rfl rfl rfl rfl rfl rfl rfl rfl (heldSaga_ok _ _ (t.1.marked 1) 1 _ ra8 rm8 (by omega) (by omega) (by omega)) fun v U16 hx16 hv => ?_)
  rw [if_pos hmm, hml.1, hml.2] at hv
  subst hv
  refine J.to 17 [false] 122 [(1, .v (.int .i64 fl)), (2, .bp 2 0), (4, .v (.bool false)), (6, .bp 6 0), (7, .v (.int .i64 (↑(Prod.fst (Prod.snd t)) : Int))), (8, .v (.bool (Prod.snd (Prod.snd t)))), (9, .bp 9 0), (10, .bp 10 0), (14, .v (.int .i64 (1 + (↑(List.length (Sg.acc (Prod.fst t))) : Int) + 3 * (↑(List.length (Sg.mv (Prod.fst t))) : Int)))), (15, .v (.int .i64 (1 + (↑(List.length (Sg.acc (Prod.fst t))) : Int) + 3 * (↑(List.length (Sg.mv (Prod.fst t))) : Int)))), (91, .v (.bool (1 + (↑(List.length (Sg.acc (Prod.fst t))) : Int) + 3 * (↑(List.length (Sg.mv (Prod.fst t))) : Int) != 1 + (↑(List.length (Sg.acc (Prod.fst t))) : Int) + 3 * (↑(List.length (Sg.mv (Prod.fst t))) : Int))))] [(4, .some false)] [(2, .box 46 [.slice A (List.length (Sg.acc s)) ca, .slice B (List.length (Sg.mv s)) c, .int .i64 (Sg.done s), .bool (Sg.und s)]), (6, .box 28 [.slice A4 (List.length (Sg.acc (Prod.fst t))) c4, .slice B4 (List.length (Sg.mv (Prod.fst t))) d4, .int .i64 (Sg.done (Prod.fst t)), .bool (Sg.und (Prod.fst t))]), (9, .box 28 [.slice A5 (List.length (Sg.acc s)) c5, .slice B5 (List.length (Sg.mv s)) d5, .int .i64 (Sg.done s), .bool (Sg.und s)]), (10, .box 28 [.slice A6 (List.length (Sg.acc (Prod.fst t))) c6, .slice B6 (List.length (Sg.mv (Prod.fst t))) d6, .int .i64 (Sg.done (Prod.fst t)), .bool (Sg.und (Prod.fst t))]), (33, .own (sgOwn (.slice A5 (List.length (Sg.acc s)) c5) (.slice B5 (List.length (Sg.mv s)) d5) (Sg.marked s 1)))] [(2, .some (ρ1 2)), (6, .some (ρ1 6)), (9, .some (ρ1 9)), (10, .some (ρ1 10))] (by kernel_rfl) ?_
  refine J.br rfl rfl (fun h => by first | (simp at h; done) | (simp at h; omega)) (fun _ => ?_)
  refine J.to 5 [false] 122 [(1, .v (.int .i64 fl)), (4, .v (.bool false)), (6, .bp 6 0), (7, .v (.int .i64 (↑(Prod.fst (Prod.snd t)) : Int))), (8, .v (.bool (Prod.snd (Prod.snd t)))), (9, .bp 9 0), (10, .bp 10 0), (14, .v (.int .i64 (1 + (↑(List.length (Sg.acc (Prod.fst t))) : Int) + 3 * (↑(List.length (Sg.mv (Prod.fst t))) : Int)))), (15, .v (.int .i64 (1 + (↑(List.length (Sg.acc (Prod.fst t))) : Int) + 3 * (↑(List.length (Sg.mv (Prod.fst t))) : Int)))), (93, .v (.agg (Array.mk [.slice A (List.length (Sg.acc s)) ca, .slice B (List.length (Sg.mv s)) c, .int .i64 (Sg.done s), .bool (Sg.und s)])))] [(4, .some false)] [(2, .box 46 [.slice A (List.length (Sg.acc s)) ca, .slice B (List.length (Sg.mv s)) c, .int .i64 (Sg.done s), .bool (Sg.und s)]), (6, .box 28 [.slice A4 (List.length (Sg.acc (Prod.fst t))) c4, .slice B4 (List.length (Sg.mv (Prod.fst t))) d4, .int .i64 (Sg.done (Prod.fst t)), .bool (Sg.und (Prod.fst t))]), (9, .box 28 [.slice A5 (List.length (Sg.acc s)) c5, .slice B5 (List.length (Sg.mv s)) d5, .int .i64 (Sg.done s), .bool (Sg.und s)]), (10, .box 28 [.slice A6 (List.length (Sg.acc (Prod.fst t))) c6, .slice B6 (List.length (Sg.mv (Prod.fst t))) d6, .int .i64 (Sg.done (Prod.fst t)), .bool (Sg.und (Prod.fst t))]), (33, .own (sgOwn (.slice A5 (List.length (Sg.acc s)) c5) (.slice B5 (List.length (Sg.mv s)) d5) (Sg.marked s 1)))] [(2, .some (ρ1 2)), (6, .some (ρ1 6)), (9, .some (ρ1 9)), (10, .some (ρ1 10))] (by kernel_rfl) ?_

  have hU15 : Ext U5 U15 := hxb.trans (hx12.trans (hxc.trans hx15))
  have hU16 : Ext U5 U16 := hU15.trans (Hp.un_l.trans hx16)
  refine J.one (Op1.ocall rfl rfl rfl rfl rfl rfl rfl (toSaga_ok _ _ s U16 (ra _ (hU5.trans hU16)) (rm _ (hU5.trans hU16)) hl1 hl2) fun v U17 hx17 => ?_)
  refine J.sg 94 rfl fun A7 c7 B7 d7 e => ?_
  subst e
  refine J.pub (k := 94) rfl fun U18 L18 hx18 hl18 hp18 => ?_
  obtain ⟨ra9, rm9⟩ := sgOwn_rd hp18 hl18
  refine J.to 1 [] 122 [(4, .v (.bool false)), (6, .bp 6 0), (7, .v (.int .i64 (↑(Prod.fst (Prod.snd t)) : Int))), (8, .v (.bool (Prod.snd (Prod.snd t)))), (9, .bp 9 0), (10, .bp 10 0), (14, .v (.int .i64 (1 + (↑(List.length (Sg.acc (Prod.fst t))) : Int) + 3 * (↑(List.length (Sg.mv (Prod.fst t))) : Int)))), (15, .v (.int .i64 (1 + (↑(List.length (Sg.acc (Prod.fst t))) : Int) + 3 * (↑(List.length (Sg.mv (Prod.fst t))) : Int)))), (94, .v (.agg (Array.mk [.slice A7 (List.length (Sg.acc s)) c7, .slice B7 (List.length (Sg.mv s)) d7, .int .i64 (Sg.done s), .bool (Sg.und s)]))), (95, .v (.int .i64 fl))] [(4, .some false)] [(2, .box 46 [.slice A (List.length (Sg.acc s)) ca, .slice B (List.length (Sg.mv s)) c, .int .i64 (Sg.done s), .bool (Sg.und s)]), (6, .box 28 [.slice A4 (List.length (Sg.acc (Prod.fst t))) c4, .slice B4 (List.length (Sg.mv (Prod.fst t))) d4, .int .i64 (Sg.done (Prod.fst t)), .bool (Sg.und (Prod.fst t))]), (9, .box 28 [.slice A5 (List.length (Sg.acc s)) c5, .slice B5 (List.length (Sg.mv s)) d5, .int .i64 (Sg.done s), .bool (Sg.und s)]), (10, .box 28 [.slice A6 (List.length (Sg.acc (Prod.fst t))) c6, .slice B6 (List.length (Sg.mv (Prod.fst t))) d6, .int .i64 (Sg.done (Prod.fst t)), .bool (Sg.und (Prod.fst t))]), (33, .own (sgOwn (.slice A5 (List.length (Sg.acc s)) c5) (.slice B5 (List.length (Sg.mv s)) d5) (Sg.marked s 1)))] [(2, .some (ρ1 2)), (6, .some (ρ1 6)), (9, .some (ρ1 9)), (10, .some (ρ1 10))] (by kernel_rfl) ?_
  refine J.one (Op1.ocall rfl rfl rfl rfl rfl rfl rfl (implRun_ok _ _ s fl _ ra9 rm9 hl1 hl2) fun v U19 hx19 => ?_)
  rw [ht]
  refine J.sg3 96 rfl fun A8 c8 B8 d8 e => ?_
  subst e
  refine J.pub (k := 96) rfl fun U20 L20 hx20 hl20 hp20 => ?_
  obtain ⟨ra10, rm10⟩ := sgOwn_rd hp20 hl20
  refine J.to 14 [] 122 [(4, .v (.bool false)), (7, .v (.int .i64 (↑(Prod.fst (Prod.snd t)) : Int))), (8, .v (.bool (Prod.snd (Prod.snd t)))), (9, .bp 9 0), (10, .bp 10 0), (14, .v (.int .i64 (1 + (↑(List.length (Sg.acc (Prod.fst t))) : Int) + 3 * (↑(List.length (Sg.mv (Prod.fst t))) : Int)))), (15, .v (.int .i64 (1 + (↑(List.length (Sg.acc (Prod.fst t))) : Int) + 3 * (↑(List.length (Sg.mv (Prod.fst t))) : Int)))), (17, .v (.int .i64 (↑(Prod.fst (Prod.snd t)) : Int))), (18, .v (.bool (Prod.snd (Prod.snd t)))), (100, .v (.agg (Array.mk [.slice A8 (List.length (Sg.acc (Prod.fst t))) c8, .slice B8 (List.length (Sg.mv (Prod.fst t))) d8, .int .i64 (Sg.done (Prod.fst t)), .bool (Sg.und (Prod.fst t))]))), (101, .v (.agg (Array.mk [.slice A4 (List.length (Sg.acc (Prod.fst t))) c4, .slice B4 (List.length (Sg.mv (Prod.fst t))) d4, .int .i64 (Sg.done (Prod.fst t)), .bool (Sg.und (Prod.fst t))])))] [(4, .some false)] [(2, .box 46 [.slice A (List.length (Sg.acc s)) ca, .slice B (List.length (Sg.mv s)) c, .int .i64 (Sg.done s), .bool (Sg.und s)]), (6, .box 28 [.slice A4 (List.length (Sg.acc (Prod.fst t))) c4, .slice B4 (List.length (Sg.mv (Prod.fst t))) d4, .int .i64 (Sg.done (Prod.fst t)), .bool (Sg.und (Prod.fst t))]), (9, .box 28 [.slice A5 (List.length (Sg.acc s)) c5, .slice B5 (List.length (Sg.mv s)) d5, .int .i64 (Sg.done s), .bool (Sg.und s)]), (10, .box 28 [.slice A6 (List.length (Sg.acc (Prod.fst t))) c6, .slice B6 (List.length (Sg.mv (Prod.fst t))) d6, .int .i64 (Sg.done (Prod.fst t)), .bool (Sg.und (Prod.fst t))]), (33, .own (sgOwn (.slice A5 (List.length (Sg.acc s)) c5) (.slice B5 (List.length (Sg.mv s)) d5) (Sg.marked s 1)))] [(2, .some (ρ1 2)), (6, .some (ρ1 6)), (9, .some (ρ1 9)), (10, .some (ρ1 10))] (by kernel_rfl) ?_
  have hU20 : Ext U5 U20 := hU16.trans (hx17.trans (hx18.trans (hx19.trans hx20)))
  refine J.one (Op1.call rfl rfl rfl rfl rfl rfl rfl rfl (eqSaga_ok _ _ _ _ t.1 t.1 _ ra10 rm10 ⟨A4, c4, rfl, hc4, hA4.mono (hx5.trans hU20)⟩ ⟨B4, d4, rfl, hd4, hB4.mono (hx5.trans hU20)⟩ (by omega) (by omega)) fun v U21 hx21 hv => ?_)
  rw [decide_eq_true rfl] at hv; subst hv
  refine J.to 7 [] 122 [(4, .v (.bool false)), (8, .v (.bool (Prod.snd (Prod.snd t)))), (9, .bp 9 0), (10, .bp 10 0), (14, .v (.int .i64 (1 + (↑(List.length (Sg.acc (Prod.fst t))) : Int) + 3 * (↑(List.length (Sg.mv (Prod.fst t))) : Int)))), (15, .v (.int .i64 (1 + (↑(List.length (Sg.acc (Prod.fst t))) : Int) + 3 * (↑(List.length (Sg.mv (Prod.fst t))) : Int)))), (18, .v (.bool (Prod.snd (Prod.snd t)))), (109, .v (.bool ((↑(Prod.fst (Prod.snd t)) : Int) != (↑(Prod.fst (Prod.snd t)) : Int))))] [(4, .some false)] [(2, .box 46 [.slice A (List.length (Sg.acc s)) ca, .slice B (List.length (Sg.mv s)) c, .int .i64 (Sg.done s), .bool (Sg.und s)]), (6, .box 28 [.slice A4 (List.length (Sg.acc (Prod.fst t))) c4, .slice B4 (List.length (Sg.mv (Prod.fst t))) d4, .int .i64 (Sg.done (Prod.fst t)), .bool (Sg.und (Prod.fst t))]), (9, .box 28 [.slice A5 (List.length (Sg.acc s)) c5, .slice B5 (List.length (Sg.mv s)) d5, .int .i64 (Sg.done s), .bool (Sg.und s)]), (10, .box 28 [.slice A6 (List.length (Sg.acc (Prod.fst t))) c6, .slice B6 (List.length (Sg.mv (Prod.fst t))) d6, .int .i64 (Sg.done (Prod.fst t)), .bool (Sg.und (Prod.fst t))]), (33, .own (sgOwn (.slice A5 (List.length (Sg.acc s)) c5) (.slice B5 (List.length (Sg.mv s)) d5) (Sg.marked s 1)))] [(2, .some (ρ1 2)), (6, .some (ρ1 6)), (9, .some (ρ1 9)), (10, .some (ρ1 10))] (by kernel_rfl) ?_
  refine J.br rfl rfl (fun h => by simp at h) (fun _ => ?_)
  refine J.to 5 [] 122 [(4, .v (.bool false)), (10, .bp 10 0), (14, .v (.int .i64 (1 + (↑(List.length (Sg.acc (Prod.fst t))) : Int) + 3 * (↑(List.length (Sg.mv (Prod.fst t))) : Int)))), (15, .v (.int .i64 (1 + (↑(List.length (Sg.acc (Prod.fst t))) : Int) + 3 * (↑(List.length (Sg.mv (Prod.fst t))) : Int)))), (113, .v (.bool !Prod.snd (Prod.snd t) == Prod.snd (Prod.snd t)))] [(4, .some false)] [(2, .box 46 [.slice A (List.length (Sg.acc s)) ca, .slice B (List.length (Sg.mv s)) c, .int .i64 (Sg.done s), .bool (Sg.und s)]), (6, .box 28 [.slice A4 (List.length (Sg.acc (Prod.fst t))) c4, .slice B4 (List.length (Sg.mv (Prod.fst t))) d4, .int .i64 (Sg.done (Prod.fst t)), .bool (Sg.und (Prod.fst t))]), (9, .box 28 [.slice A5 (List.length (Sg.acc s)) c5, .slice B5 (List.length (Sg.mv s)) d5, .int .i64 (Sg.done s), .bool (Sg.und s)]), (10, .box 28 [.slice A6 (List.length (Sg.acc (Prod.fst t))) c6, .slice B6 (List.length (Sg.mv (Prod.fst t))) d6, .int .i64 (Sg.done (Prod.fst t)), .bool (Sg.und (Prod.fst t))]), (33, .own (sgOwn (.slice A5 (List.length (Sg.acc s)) c5) (.slice B5 (List.length (Sg.mv s)) d5) (Sg.marked s 1)))] [(2, .some (ρ1 2)), (6, .some (ρ1 6)), (9, .some (ρ1 9)), (10, .some (ρ1 10))] (by kernel_rfl) ?_
  refine J.br rfl rfl (fun h => by simp at h) (fun _ => ?_)
  refine J.to 10 [false] 122 [(4, .v (.bool false)), (14, .v (.int .i64 (1 + (↑(List.length (Sg.acc (Prod.fst t))) : Int) + 3 * (↑(List.length (Sg.mv (Prod.fst t))) : Int)))), (15, .v (.int .i64 1)), (114, .v (.agg (Array.mk [.slice A6 (List.length (Sg.acc (Prod.fst t))) c6, .slice B6 (List.length (Sg.mv (Prod.fst t))) d6, .int .i64 (Sg.done (Prod.fst t)), .bool (Sg.und (Prod.fst t))]))), (115, .v (.int .i64 1))] [(4, .some false)] [(2, .box 46 [.slice A (List.length (Sg.acc s)) ca, .slice B (List.length (Sg.mv s)) c, .int .i64 (Sg.done s), .bool (Sg.und s)]), (6, .box 28 [.slice A4 (List.length (Sg.acc (Prod.fst t))) c4, .slice B4 (List.length (Sg.mv (Prod.fst t))) d4, .int .i64 (Sg.done (Prod.fst t)), .bool (Sg.und (Prod.fst t))]), (9, .box 28 [.slice A5 (List.length (Sg.acc s)) c5, .slice B5 (List.length (Sg.mv s)) d5, .int .i64 (Sg.done s), .bool (Sg.und s)]), (10, .box 28 [.slice A6 (List.length (Sg.acc (Prod.fst t))) c6, .slice B6 (List.length (Sg.mv (Prod.fst t))) d6, .int .i64 (Sg.done (Prod.fst t)), .bool (Sg.und (Prod.fst t))]), (33, .own (sgOwn (.slice A5 (List.length (Sg.acc s)) c5) (.slice B5 (List.length (Sg.mv s)) d5) (Sg.marked s 1)))] [(2, .some (ρ1 2)), (6, .some (ρ1 6)), (9, .some (ρ1 9)), (10, .some (ρ1 10))] (by kernel_rfl) ?_
  have hU21 : Ext (Hp.un U15 L3) U21 := hx16.trans (hx17.trans (hx18.trans (hx19.trans (hx20.trans hx21))))
  refine J.one (Op1.call rfl rfl rfl rfl rfl rfl rfl rfl (heldSaga_ok _ _ (t.1.marked 1) 1 _ (ra8.mono hU21) (rm8.mono hU21) (by omega) (by omega) (by omega)) fun v U22 hx22 hv => ?_)
  rw [if_pos hmm, hml.1, hml.2] at hv
  subst hv
  refine J.to 17 [false] 122 [(4, .v (.bool false)), (121, .v (.bool (1 + (↑(List.length (Sg.acc (Prod.fst t))) : Int) + 3 * (↑(List.length (Sg.mv (Prod.fst t))) : Int) != 1 + (↑(List.length (Sg.acc (Prod.fst t))) : Int) + 3 * (↑(List.length (Sg.mv (Prod.fst t))) : Int))))] [(4, .some false)] [(2, .box 46 [.slice A (List.length (Sg.acc s)) ca, .slice B (List.length (Sg.mv s)) c, .int .i64 (Sg.done s), .bool (Sg.und s)]), (6, .box 28 [.slice A4 (List.length (Sg.acc (Prod.fst t))) c4, .slice B4 (List.length (Sg.mv (Prod.fst t))) d4, .int .i64 (Sg.done (Prod.fst t)), .bool (Sg.und (Prod.fst t))]), (9, .box 28 [.slice A5 (List.length (Sg.acc s)) c5, .slice B5 (List.length (Sg.mv s)) d5, .int .i64 (Sg.done s), .bool (Sg.und s)]), (10, .box 28 [.slice A6 (List.length (Sg.acc (Prod.fst t))) c6, .slice B6 (List.length (Sg.mv (Prod.fst t))) d6, .int .i64 (Sg.done (Prod.fst t)), .bool (Sg.und (Prod.fst t))]), (33, .own (sgOwn (.slice A5 (List.length (Sg.acc s)) c5) (.slice B5 (List.length (Sg.mv s)) d5) (Sg.marked s 1)))] [(2, .some (ρ1 2)), (6, .some (ρ1 6)), (9, .some (ρ1 9)), (10, .some (ρ1 10))] (by kernel_rfl) ?_
  refine J.br rfl rfl (fun h => by first | (simp at h; done) | (simp at h; omega)) (fun _ => ?_)
  refine J.to 6 [false] 122 [(4, .v (.bool true))] [(4, .some true)] [(2, .box 46 [.slice A (List.length (Sg.acc s)) ca, .slice B (List.length (Sg.mv s)) c, .int .i64 (Sg.done s), .bool (Sg.und s)]), (6, .box 28 [.slice A4 (List.length (Sg.acc (Prod.fst t))) c4, .slice B4 (List.length (Sg.mv (Prod.fst t))) d4, .int .i64 (Sg.done (Prod.fst t)), .bool (Sg.und (Prod.fst t))]), (9, .box 28 [.slice A5 (List.length (Sg.acc s)) c5, .slice B5 (List.length (Sg.mv s)) d5, .int .i64 (Sg.done s), .bool (Sg.und s)]), (10, .box 28 [.slice A6 (List.length (Sg.acc (Prod.fst t))) c6, .slice B6 (List.length (Sg.mv (Prod.fst t))) d6, .int .i64 (Sg.done (Prod.fst t)), .bool (Sg.und (Prod.fst t))]), (33, .own (sgOwn (.slice A5 (List.length (Sg.acc s)) c5) (.slice B5 (List.length (Sg.mv s)) d5) (Sg.marked s 1)))] [(2, .some (ρ1 2)), (6, .some (ρ1 6)), (9, .some (ρ1 9)), (10, .some (ρ1 10))] (by kernel_rfl) ?_
  exact J.ret ⟨_, rfl, .inl rfl⟩
end Go.Rx
end

section
open Go Go.Rx Go.Proofs
namespace Go.Rx
theorem datMv : Dat Try.prog 89 rMv (fun _ => True) :=
  (Dat.struct Try.underlying89 (by kernel_rfl) (DatF.cons rfl (Dat.int Try.underlying3 (by kernel_rfl)) (DatF.cons rfl (Dat.int Try.underlying3 (by kernel_rfl)) (DatF.cons rfl (Dat.int Try.underlying3 (by kernel_rfl)) DatF.nil)))).map
    (fun x => ⟨x.1, x.2.1, x.2.2.1⟩) rfl (fun U x cs h => by
      obtain ⟨a, _, rfl, rfl, b, _, rfl, rfl, c, _, rfl, rfl, rfl⟩ := h
      rfl) (fun _ _ => trivial)

def rSg : Rp Sg where
  sz := 4
  rel U s cs := ∃ va vm, cs = [va, vm, .int .i64 s.done, .bool s.und] ∧ Rd rInt U va s.acc ∧ Rd rMv U vm s.mv
  len h := by obtain ⟨va, vm, rfl, -⟩ := h; rfl
  mono hx h := let ⟨va, vm, e, h1, h2⟩ := h; ⟨va, vm, e, h1.mono hx, h2.mono hx⟩
theorem datSg : Dat Try.prog 46 rSg (fun s => s.acc.length ≤ 9223372036854775807 ∧ s.mv.length ≤ 9223372036854775807) :=
  (Dat.struct Try.underlying46 (by kernel_rfl) (DatF.cons rfl (Dat.slice Try.underlying23 (by kernel_rfl) (by decide) (Dat.int Try.underlying3 (by kernel_rfl))) (DatF.cons rfl (Dat.slice Try.underlying44 (by kernel_rfl) (by decide) datMv) (DatF.cons rfl (Dat.int Try.underlying3 (by kernel_rfl)) (DatF.cons rfl (Dat.bool Try.underlying4 (by kernel_rfl)) DatF.nil))))).map
    (fun x => ⟨x.1, x.2.1, x.2.2.1, x.2.2.2.1⟩) rfl (fun U x cs h => by
      obtain ⟨a, _, rfl, ⟨va, rfl, ha⟩, b, _, rfl, ⟨vm, rfl, hm⟩, c, _, rfl, rfl, d, _, rfl, rfl, rfl⟩ := h
      exact ⟨va, vm, rfl, ha, hm⟩) (fun x h => ⟨h.1.1, h.2.1.1⟩)
end Go.Rx
end

section
open Go Go.Rx Go.Proofs
namespace Go.Proofs.Ytdefhkboeagkbaa.fnExactRunSaga
open Go.ChangeShapes Go.WideShapes Go.ChangeAt Go.RowKit Go.Rx
theorem own : ownKnob Try.prog.godebug = none := by kernel_rfl
theorem laidOut : laidOutB Try.prog = true := by kernel_rfl
set_option maxRecDepth 100000 in
theorem lifted (os : Os) (started : os.Started) (H : Type) (enc : TypeId × Value → H) :
    ReturnsInHanded {} Try.checked os 5 .any (Rows.fnExactRunSagaSpec.pre6 enc Try.prog Try.f5 Rows.fnExactRunSagaRow.domain false) (Rows.fnExactRunSagaSpec.post enc Try.prog Try.f5 false true false false) := by
  refine returnsInHanded_of_change_sized (C := Try.checked) own started (by kernel_rfl) Try.func5
    (ChangeSpec.witness6 (enc := enc) (C := Try.checked) false ⟨#[], #[.agg #[.slice none 0 0, .slice none 0 0, .int .i64 0, .bool false], .int .i64 0], []⟩ 8 (by kernel_rfl) (by kernel_rfl) (by kernel_rfl) (by kernel_rfl)) ?_
  intro W base args ds gs before hval0 hW hcnd hsz0 _
  have hval : ∀ (j : Nat) t v, Try.f5.params[j]? = some t → args[j]? = some v → Value.okWide Try.prog W .any base t v := hval0
  have hW' := hW
  obtain ⟨p, q, hA0, hV, rfl, hfz, hnd⟩ := hW
  have hA : DataW.TrodAll enc Try.prog W 0 (fun _ => true) true Try.f5.params.toList args.toList ds p := hA0
  rw [Try.params5] at hA hval
  obtain ⟨v0, vs0, d0, ds0, p0, q0, hargs, rfl, rfl, h0, r0⟩ := trodAll_cons hA
  obtain ⟨v1, vs1, d1, ds1, p1, q1, rfl, rfl, rfl, h1, r1⟩ := trodAll_cons r0
  obtain ⟨rfl, rfl, rfl⟩ := trodAll_nil r1
  obtain rfl : args = #[v0, v1] := by cases args; simp_all
  obtain ⟨rfl, rfl⟩ := trodVars_none hV
  have k0 := h0
  have lt0 : ∀ x ∈ p0, x.block < W.heap.size := by obtain ⟨m, hm⟩ := k0; exact DataW.trod_lt m _ _ _ hm
  obtain ⟨cs, rfl, -⟩ := okWide_struct Try.underlying46 (hval 0 46 v0 rfl rfl)
  obtain ⟨a1, rfl, rfl, rfl, w1⟩ := open_int Try.underlying3 (hval 1 3 v1 rfl rfl) h1
  obtain ⟨fuel, hf⟩ := h0
  obtain ⟨s, ⟨va, vm, e, ha, hm⟩, hb1, hb2⟩ := datSg.out hf
  obtain rfl : cs = #[va, vm, .int .i64 s.done, .bool s.und] := by rw [← Array.toArray_toList (xs := cs)]; exact congrArg List.toArray e
  clear hA0 hval0 hsz0 hval hf
  refine ((lawRun_ok va vm s a1 (World.hp W) ha hm hb1 hb2).below).mono fun e W' ⟨v, U', he, hv, bel⟩ => ?_
  subst he; subst hv
  exact ⟨_, rfl, _, _, _, [], _, [], hW', trodAll_mk1 (shut_bool Try.underlying4 _), (trodAll_cons_mk (Below.trod laidOut (by kernel_rfl) (of_decide_eq_true (by kernel_rfl)) k0 bel lt0) (trodAll_cons_mk (shut_int Try.underlying3 w1) trodAll_mk0)), rfl, bel.frame _, fun h => by cases h⟩
theorem over : Rows.fnExactRunSagaRow.holds Try.pinned (OpenSpec.ofChange Rows.fnExactRunSagaSpec) :=
  OpenClaim.holds_of_wide 5 Try.f5 rfl rfl rfl rfl rfl rfl rfl ⟨rfl, rfl, rfl, rfl, rfl⟩ rfl rfl rfl rfl rfl (by kernel_rfl) Try.func5 (by kernel_rfl)
    (of_decide_eq_true (by kernel_rfl)) (by unfold Func.isWrapper; first | (rw [if_pos (by decide +kernel)]; kernel_rfl) | (rw [if_neg (by decide +kernel)]; exact ⟨rfl, rfl⟩))
    (fun os started H enc _ => lifted os started H enc)
theorem proved : Rows.FnExactRunSagaSaid := over
end Go.Proofs.Ytdefhkboeagkbaa.fnExactRunSaga
end
