/- What runs of sagas and drawn sagas compute, at whatever heap they read. -/
import Derived.Test.YtdefhkboeagkbaaSg2
import Derived.Test.YtdefhkboeagkbaaRx2
import Derived.Test.YtdefhkboeagkbaaSg1
set_option linter.unusedVariables false
set_option linter.unusedSimpArgs false
set_option linter.unusedSectionVars false
section
open Go Go.Rx Go.Proofs
set_option maxHeartbeats 1000000
namespace Go.Rx
theorem szSg_ok {n m : Nat} (hn : n ≤ 9223372036854775807) (hm : m ≤ 9223372036854775807) (h : ¬ szSg n m 1048576 < 0) : n + m ≤ 1048576 := by
  unfold szSg szF at h
  rw [wr_id (by omega)] at h
  split at h
  · omega
  · split at h
    · rename_i h1; simp at h
    · rename_i h1 h2
      rw [wr_id (by omega)] at h
      omega

theorem J.sg {C : Ctx} {σ : Sym} {U : Hp} {st : List Rx.Item} (k : Nat) {v dn un : Value} {s : Sg} (hk : σ.M k = .own (fun L => ∃ va' vm', v = .agg #[va', vm', dn, un] ∧ sgOwn va' vm' s L))
    (h : ∀ A c B d, v = .agg #[.slice A s.acc.length c, .slice B s.mv.length d, dn, un] → J C st { σ with M := upd σ.M k (.own (sgOwn (.slice A s.acc.length c) (.slice B s.mv.length d) s)) } U) : J C st σ U := by
  refine J.own' (α := Σ' x : Option Addr × Nat × Option Addr × Nat, v = .agg #[.slice x.1 s.acc.length x.2.1, .slice x.2.2.1 s.mv.length x.2.2.2, dn, un]) (p' := fun x => sgOwn (.slice x.1.1 s.acc.length x.1.2.1) (.slice x.1.2.2.1 s.mv.length x.1.2.2.2) s) k hk
    (fun h ⟨a, b, e, h1⟩ => let ⟨x, e1, e2⟩ := sgOwn_slice h1; ⟨⟨x, by rw [e, e1, e2]⟩, e1 ▸ e2 ▸ h1⟩) ?_
  rintro ⟨⟨A2, c2, B2, d2⟩, e⟩
  exact h A2 c2 B2 d2 e
theorem J.sg2 {C : Ctx} {σ : Sym} {U : Hp} {st : List Rx.Item} (k : Nat) {v dn un ok : Value} {s : Sg} (hk : σ.M k = .own (fun L => ∃ va' vm', v = .tuple #[.agg #[va', vm', dn, un], ok] ∧ sgOwn va' vm' s L))
    (h : ∀ A c B d, v = .tuple #[.agg #[.slice A s.acc.length c, .slice B s.mv.length d, dn, un], ok] → J C st { σ with M := upd σ.M k (.own (sgOwn (.slice A s.acc.length c) (.slice B s.mv.length d) s)) } U) : J C st σ U := by
  refine J.own' (α := Σ' x : Option Addr × Nat × Option Addr × Nat, v = .tuple #[.agg #[.slice x.1 s.acc.length x.2.1, .slice x.2.2.1 s.mv.length x.2.2.2, dn, un], ok]) (p' := fun x => sgOwn (.slice x.1.1 s.acc.length x.1.2.1) (.slice x.1.2.2.1 s.mv.length x.1.2.2.2) s) k hk
    (fun h ⟨a, b, e, h1⟩ => let ⟨x, e1, e2⟩ := sgOwn_slice h1; ⟨⟨x, by rw [e, e1, e2]⟩, e1 ▸ e2 ▸ h1⟩) ?_
  rintro ⟨⟨A2, c2, B2, d2⟩, e⟩
  exact h A2 c2 B2 d2 e

theorem specStep_len (s : Sg) : (specStep s).1.acc.length ≤ s.acc.length ∧ (specStep s).1.mv.length ≤ s.mv.length := by
  have := step_len s
  unfold specStep
  split
  · split
    · exact ⟨by show s.step.1.acc.length ≤ _; omega, by show s.step.1.mv.length ≤ _; rw [this.2]; omega⟩
    · simp [Sg.zero]
  · simp [Sg.zero]

theorem law_ok (va vm : Value) (s : Sg) (U : Hp) (ha : Rd rInt U va s.acc) (hm : Rd rMv U vm s.mv) (hb : s.acc.length ≤ 9223372036854775807) (hb2 : s.mv.length ≤ 9223372036854775807) :
    PCall Try.prog 4 #[.agg #[va, vm, .int .i64 s.done, .bool s.und]] U fun r _ => r = .bool true := by
  obtain ⟨B, c, rfl, hc, hB⟩ := hm
  obtain ⟨A, ca, rfl, hca, hA⟩ := ha
  refine OCall.of (args := [.agg #[.slice A s.acc.length ca, .slice B s.mv.length c, .int .i64 s.done, .bool s.und]]) E_ok mix Try.func4 (by kernel_rfl) rfl Try.ntmps4 (Nat.le_of_ble_eq_true rfl) fun F w0 => ?_
  refine J.to 13 [] 96 [(1, .bp 1 0), (2, .v (.bool false)), (3, .v (.int .i64 1048576)), (14, .v (.agg (Array.mk [.slice A (List.length (Sg.acc s)) ca, .slice B (List.length (Sg.mv s)) c, .int .i64 (Sg.done s), .bool (Sg.und s)]))), (15, .v (.int .i64 1048576))] [(2, .some false)] [(1, .box 46 [.slice A (List.length (Sg.acc s)) ca, .slice B (List.length (Sg.mv s)) c, .int .i64 (Sg.done s), .bool (Sg.und s)])] [] (by kernel_rfl) ?_
  refine J.one (Op1.call rfl rfl rfl rfl rfl rfl rfl rfl (szSaga_ok _ _ _ _ _ _ _ _ _ _) fun v U1 hx1 hv => ?_); subst hv
  refine J.to 8 [] 96 [(1, .bp 1 0), (2, .v (.bool false)), (18, .v (.bool (Decidable.decide (szSg (List.length (Sg.acc s)) (List.length (Sg.mv s)) 1048576 < 0))))] [(2, .some false)] [(1, .box 46 [.slice A (List.length (Sg.acc s)) ca, .slice B (List.length (Sg.mv s)) c, .int .i64 (Sg.done s), .bool (Sg.und s)])] [] (by kernel_rfl) ?_
  refine J.br rfl rfl (fun h => ?_) (fun h => ?_)
  · refine J.to 5 [true] 96 [(1, .bp 1 0), (2, .v (.bool true))] [(2, .some true)] [(1, .box 46 [.slice A (List.length (Sg.acc s)) ca, .slice B (List.length (Sg.mv s)) c, .int .i64 (Sg.done s), .bool (Sg.und s)])] [] (by kernel_rfl) ?_
    exact J.ret ⟨_, rfl, .inl rfl⟩
  have hsz := szSg_ok hb hb2 (of_decide_eq_false h)
  have hl1 : s.acc.length < 2^40 := by omega
  have hl2 : s.mv.length < 2^40 := by omega
  have ra : ∀ U', Ext U U' → Rd rInt U' (.slice A s.acc.length ca) s.acc := fun U' h => ⟨A, ca, rfl, hca, hA.mono h⟩
  have rm : ∀ U', Ext U U' → Rd rMv U' (.slice B s.mv.length c) s.mv := fun U' h => ⟨B, c, rfl, hc, hB.mono h⟩
  refine J.to 5 [false] 96 [(1, .bp 1 0), (2, .v (.bool false)), (20, .v (.agg (Array.mk [.slice A (List.length (Sg.acc s)) ca, .slice B (List.length (Sg.mv s)) c, .int .i64 (Sg.done s), .bool (Sg.und s)])))] [(2, .some false)] [(1, .box 46 [.slice A (List.length (Sg.acc s)) ca, .slice B (List.length (Sg.mv s)) c, .int .i64 (Sg.done s), .bool (Sg.und s)])] [] (by kernel_rfl) ?_
  refine J.one (Op1.ocall rfl rfl rfl rfl rfl rfl rfl (toSaga_ok _ _ s U1 (ra _ hx1) (rm _ hx1) hl1 hl2) fun v U2 hx2 => ?_)
  refine J.sg 21 rfl fun A1 c1 B1 d1 e => ?_
  subst e
  refine J.pub (k := 21) rfl fun U3 L3 hx3 hl3 hp3 => ?_
  obtain ⟨ra1, rm1⟩ := sgOwn_rd hp3 hl3
  refine J.to 0 [] 96 [(1, .bp 1 0), (2, .v (.bool false)), (21, .v (.agg (Array.mk [.slice A1 (List.length (Sg.acc s)) c1, .slice B1 (List.length (Sg.mv s)) d1, .int .i64 (Sg.done s), .bool (Sg.und s)])))] [(2, .some false)] [(1, .box 46 [.slice A (List.length (Sg.acc s)) ca, .slice B (List.length (Sg.mv s)) c, .int .i64 (Sg.done s), .bool (Sg.und s)])] [] (by kernel_rfl) ?_
  refine J.one (Op1.call rfl rfl rfl rfl rfl rfl rfl rfl (specStep_ok _ _ s U3 ra1 rm1 hl1 hl2) fun v U4 hx4 ⟨va4, vm4, hv, ra4, rm4⟩ => ?_); subst hv
  obtain ⟨A4, c4, rfl, hc4, hA4⟩ := ra4
  obtain ⟨B4, d4, rfl, hd4, hB4⟩ := rm4
  have htl := specStep_len s
  generalize ht : specStep s = t at *
  refine J.to 10 [] 96 [(1, .bp 1 0), (2, .v (.bool false)), (4, .bp 4 0), (5, .v (.bool (Prod.snd t))), (25, .v (.agg (Array.mk [.slice A (List.length (Sg.acc s)) ca, .slice B (List.length (Sg.mv s)) c, .int .i64 (Sg.done s), .bool (Sg.und s)])))] [(2, .some false)] [(1, .box 46 [.slice A (List.length (Sg.acc s)) ca, .slice B (List.length (Sg.mv s)) c, .int .i64 (Sg.done s), .bool (Sg.und s)]), (4, .box 28 [.slice A4 (List.length (Sg.acc (Prod.fst t))) c4, .slice B4 (List.length (Sg.mv (Prod.fst t))) d4, .int .i64 (Sg.done (Prod.fst t)), .bool (Sg.und (Prod.fst t))])] [] (by kernel_rfl) ?_

  refine J.one (Op1.ocall rfl rfl rfl rfl rfl rfl rfl (toSaga_ok _ _ s U4 (ra _ (hx1.trans (hx2.trans (hx3.trans hx4)))) (rm _ (hx1.trans (hx2.trans (hx3.trans hx4)))) hl1 hl2) fun v U5 hx5 => ?_)
  refine J.sg 26 rfl fun A5 c5 B5 d5 e => ?_
  subst e
  have hU5 : Ext U U5 := hx1.trans (hx2.trans (hx3.trans (hx4.trans hx5)))
  refine J.to 6 [] 96 [(1, .bp 1 0), (2, .v (.bool false)), (4, .bp 4 0), (5, .v (.bool (Prod.snd t))), (6, .bp 6 0), (28, .v (.agg (Array.mk [.slice A5 (List.length (Sg.acc s)) c5, .slice B5 (List.length (Sg.mv s)) d5, .int .i64 (Sg.done s), .bool (Sg.und s)])))] [(2, .some false)] [(1, .box 46 [.slice A (List.length (Sg.acc s)) ca, .slice B (List.length (Sg.mv s)) c, .int .i64 (Sg.done s), .bool (Sg.und s)]), (4, .box 28 [.slice A4 (List.length (Sg.acc (Prod.fst t))) c4, .slice B4 (List.length (Sg.mv (Prod.fst t))) d4, .int .i64 (Sg.done (Prod.fst t)), .bool (Sg.und (Prod.fst t))]), (26, .own (sgOwn (.slice A5 (List.length (Sg.acc s)) c5) (.slice B5 (List.length (Sg.mv s)) d5) s)), (6, .box 28 [.slice A5 (List.length (Sg.acc s)) c5, .slice B5 (List.length (Sg.mv s)) d5, .int .i64 (Sg.done s), .bool (Sg.und s)])] [] (by kernel_rfl) ?_

  refine J.lend 26 rfl fun L0 hL0 hd0 => ?_
  obtain ⟨ra5, rm5⟩ := sgOwn_rd hL0 (Hp.un_r hd0)
  refine J.one (Op1.ocall rfl rfl rfl rfl rfl rfl rfl (implStep_ok _ _ s _ ra5 rm5 hl1 hl2) fun v U6 hx6 => ?_)
  rw [implStep_eq, ht]
  refine J.sg2 29 rfl fun A6 c6 B6 d6 e => ?_
  subst e
  refine J.to 12 [] 96 [(1, .bp 1 0), (2, .v (.bool false)), (4, .bp 4 0), (5, .v (.bool (Prod.snd t))), (6, .bp 6 0), (7, .bp 7 0), (8, .v (.bool (Prod.snd t))), (32, .v (.agg (Array.mk [.slice A6 (List.length (Sg.acc (Prod.fst t))) c6, .slice B6 (List.length (Sg.mv (Prod.fst t))) d6, .int .i64 (Sg.done (Prod.fst t)), .bool (Sg.und (Prod.fst t))]))), (33, .v (.agg (Array.mk [.slice A4 (List.length (Sg.acc (Prod.fst t))) c4, .slice B4 (List.length (Sg.mv (Prod.fst t))) d4, .int .i64 (Sg.done (Prod.fst t)), .bool (Sg.und (Prod.fst t))])))] [(2, .some false)] [(1, .box 46 [.slice A (List.length (Sg.acc s)) ca, .slice B (List.length (Sg.mv s)) c, .int .i64 (Sg.done s), .bool (Sg.und s)]), (4, .box 28 [.slice A4 (List.length (Sg.acc (Prod.fst t))) c4, .slice B4 (List.length (Sg.mv (Prod.fst t))) d4, .int .i64 (Sg.done (Prod.fst t)), .bool (Sg.und (Prod.fst t))]), (6, .box 28 [.slice A5 (List.length (Sg.acc s)) c5, .slice B5 (List.length (Sg.mv s)) d5, .int .i64 (Sg.done s), .bool (Sg.und s)]), (29, .own (sgOwn (.slice A6 (List.length (Sg.acc (Prod.fst t))) c6) (.slice B6 (List.length (Sg.mv (Prod.fst t))) d6) (Prod.fst t))), (7, .box 28 [.slice A6 (List.length (Sg.acc (Prod.fst t))) c6, .slice B6 (List.length (Sg.mv (Prod.fst t))) d6, .int .i64 (Sg.done (Prod.fst t)), .bool (Sg.und (Prod.fst t))])] [] (by kernel_rfl) ?_

  refine J.lend 29 rfl fun L1 hL1 hd1 => ?_
  obtain ⟨ra6, rm6⟩ := sgOwn_rd hL1 (Hp.un_r hd1)
  refine J.to 0 [] 96 [(1, .bp 1 0), (2, .v (.bool false)), (4, .bp 4 0), (5, .v (.bool (Prod.snd t))), (6, .bp 6 0), (7, .bp 7 0), (8, .v (.bool (Prod.snd t))), (32, .v (.agg (Array.mk [.slice A6 (List.length (Sg.acc (Prod.fst t))) c6, .slice B6 (List.length (Sg.mv (Prod.fst t))) d6, .int .i64 (Sg.done (Prod.fst t)), .bool (Sg.und (Prod.fst t))]))), (33, .v (.agg (Array.mk [.slice A4 (List.length (Sg.acc (Prod.fst t))) c4, .slice B4 (List.length (Sg.mv (Prod.fst t))) d4, .int .i64 (Sg.done (Prod.fst t)), .bool (Sg.und (Prod.fst t))])))] [(2, .some false)] [(1, .box 46 [.slice A (List.length (Sg.acc s)) ca, .slice B (List.length (Sg.mv s)) c, .int .i64 (Sg.done s), .bool (Sg.und s)]), (4, .box 28 [.slice A4 (List.length (Sg.acc (Prod.fst t))) c4, .slice B4 (List.length (Sg.mv (Prod.fst t))) d4, .int .i64 (Sg.done (Prod.fst t)), .bool (Sg.und (Prod.fst t))]), (6, .box 28 [.slice A5 (List.length (Sg.acc s)) c5, .slice B5 (List.length (Sg.mv s)) d5, .int .i64 (Sg.done s), .bool (Sg.und s)]), (7, .box 28 [.slice A6 (List.length (Sg.acc (Prod.fst t))) c6, .slice B6 (List.length (Sg.mv (Prod.fst t))) d6, .int .i64 (Sg.done (Prod.fst t)), .bool (Sg.und (Prod.fst t))])] [] (by kernel_rfl) ?_
  refine J.one (Op1.call rfl rfl rfl rfl rfl rfl rfl rfl (eqSaga_ok _ _ _ _ t.1 t.1 _ ra6 rm6 ⟨A4, c4, rfl, hc4, hA4.mono (hx5.trans (Hp.un_l.trans (hx6.trans Hp.un_l)))⟩ ⟨B4, d4, rfl, hd4, hB4.mono (hx5.trans (Hp.un_l.trans (hx6.trans Hp.un_l)))⟩ (by omega) (by omega)) fun v U7 hx7 hv => ?_)
  rw [decide_eq_true rfl] at hv; subst hv
  refine J.to 7 [] 96 [(1, .bp 1 0), (2, .v (.bool false)), (4, .bp 4 0), (5, .v (.bool (Prod.snd t))), (6, .bp 6 0), (7, .bp 7 0), (8, .v (.bool (Prod.snd t))), (40, .v (.bool !Prod.snd t == Prod.snd t))] [(2, .some false)] [(1, .box 46 [.slice A (List.length (Sg.acc s)) ca, .slice B (List.length (Sg.mv s)) c, .int .i64 (Sg.done s), .bool (Sg.und s)]), (4, .box 28 [.slice A4 (List.length (Sg.acc (Prod.fst t))) c4, .slice B4 (List.length (Sg.mv (Prod.fst t))) d4, .int .i64 (Sg.done (Prod.fst t)), .bool (Sg.und (Prod.fst t))]), (6, .box 28 [.slice A5 (List.length (Sg.acc s)) c5, .slice B5 (List.length (Sg.mv s)) d5, .int .i64 (Sg.done s), .bool (Sg.und s)]), (7, .box 28 [.slice A6 (List.length (Sg.acc (Prod.fst t))) c6, .slice B6 (List.length (Sg.mv (Prod.fst t))) d6, .int .i64 (Sg.done (Prod.fst t)), .bool (Sg.und (Prod.fst t))])] [] (by kernel_rfl) ?_
  refine J.br rfl rfl (fun h => by simp at h) (fun _ => ?_)
  have hU6 : Ext U5 U7 := Hp.un_l.trans (hx6.trans (Hp.un_l.trans hx7))
  refine J.to 4 [false] 96 [(1, .bp 1 0), (2, .v (.bool false)), (4, .bp 4 0), (5, .v (.bool (Prod.snd t))), (6, .bp 6 0), (7, .bp 7 0), (8, .v (.bool (Prod.snd t)))] [(2, .some false)] [(1, .box 46 [.slice A (List.length (Sg.acc s)) ca, .slice B (List.length (Sg.mv s)) c, .int .i64 (Sg.done s), .bool (Sg.und s)]), (4, .box 28 [.slice A4 (List.length (Sg.acc (Prod.fst t))) c4, .slice B4 (List.length (Sg.mv (Prod.fst t))) d4, .int .i64 (Sg.done (Prod.fst t)), .bool (Sg.und (Prod.fst t))]), (6, .box 28 [.slice A5 (List.length (Sg.acc s)) c5, .slice B5 (List.length (Sg.mv s)) d5, .int .i64 (Sg.done s), .bool (Sg.und s)]), (7, .box 28 [.slice A6 (List.length (Sg.acc (Prod.fst t))) c6, .slice B6 (List.length (Sg.mv (Prod.fst t))) d6, .int .i64 (Sg.done (Prod.fst t)), .bool (Sg.und (Prod.fst t))])] [] (by kernel_rfl) ?_
  refine J.any [1, 6] [] [] trivial fun ρ1 _ => ?_
  refine J.takeTo true [0, 1] 3 96 [(1, .bp 1 0), (2, .v (.bool false)), (4, .bp 4 0), (5, .v (.bool (Prod.snd t))), (6, .bp 6 0), (7, .bp 7 0), (8, .v (.bool (Prod.snd t))), (41, .v (.agg (Array.mk [.slice A5 (List.length (Sg.acc s)) c5, .slice B5 (List.length (Sg.mv s)) d5, .int .i64 (Sg.done s), .bool (Sg.und s)]))), (42, .v (.agg (Array.mk [.slice A (List.length (Sg.acc s)) ca, .slice B (List.length (Sg.mv s)) c, .int .i64 (Sg.done s), .bool (Sg.und s)])))] [(2, .some false)] [(1, .box 46 [.slice A (List.length (Sg.acc s)) ca, .slice B (List.length (Sg.mv s)) c, .int .i64 (Sg.done s), .bool (Sg.und s)]), (4, .box 28 [.slice A4 (List.length (Sg.acc (Prod.fst t))) c4, .slice B4 (List.length (Sg.mv (Prod.fst t))) d4, .int .i64 (Sg.done (Prod.fst t)), .bool (Sg.und (Prod.fst t))]), (6, .box 28 [.slice A5 (List.length (Sg.acc s)) c5, .slice B5 (List.length (Sg.mv s)) d5, .int .i64 (Sg.done s), .bool (Sg.und s)]), (7, .box 28 [.slice A6 (List.length (Sg.acc (Prod.fst t))) c6, .slice B6 (List.length (Sg.mv (Prod.fst t))) d6, .int .i64 (Sg.done (Prod.fst t)), .bool (Sg.und (Prod.fst t))])] [(1, .some (ρ1 1)), (4, .some (ρ1 4)), (6, .some (ρ1 6)), (7, .some (ρ1 7))] (by first | exact Ext.refl _ | assumption | exact Ext.trans (by assumption) (by assumption) | exact Ext.trans (by assumption) (Ext.trans (by assumption) (by assumption))) (fun h => rfl) ⟨⟨rfl, rfl⟩, ⟨⟨rfl, rfl⟩, trivial⟩⟩ rfl (by kernel_rfl) ?_
  refine J.aone (i := 2) (by kernel_rfl) (Op1.ocall rfl rfl rfl rfl rfl rfl rfl (toSaga_ok _ _ s U7 (ra _ (hU5.trans hU6)) (rm _ (hU5.trans hU6)) hl1 hl2) fun v U8 hx8 => ⟨fun _ => ⟨hx8, ⟨rfl, rfl⟩, ⟨rfl, rfl⟩, trivial⟩, ?_⟩)
  refine J.sg 43 rfl fun A8 c8 B8 d8 e => ?_
  subst e
  refine J.pub (k := 43) rfl fun U9 L9 hx9 hl9 hp9 => ?_
  obtain ⟨ra9, rm9⟩ := sgOwn_rd hp9 hl9
  refine J.to 0 [] 96 [(1, .bp 1 0), (2, .v (.bool false)), (4, .bp 4 0), (5, .v (.bool (Prod.snd t))), (6, .bp 6 0), (7, .bp 7 0), (8, .v (.bool (Prod.snd t))), (41, .v (.agg (Array.mk [.slice A5 (List.length (Sg.acc s)) c5, .slice B5 (List.length (Sg.mv s)) d5, .int .i64 (Sg.done s), .bool (Sg.und s)]))), (42, .v (.agg (Array.mk [.slice A (List.length (Sg.acc s)) ca, .slice B (List.length (Sg.mv s)) c, .int .i64 (Sg.done s), .bool (Sg.und s)]))), (43, .v (.agg (Array.mk [.slice A8 (List.length (Sg.acc s)) c8, .slice B8 (List.length (Sg.mv s)) d8, .int .i64 (Sg.done s), .bool (Sg.und s)])))] [(2, .some false)] [(1, .box 46 [.slice A (List.length (Sg.acc s)) ca, .slice B (List.length (Sg.mv s)) c, .int .i64 (Sg.done s), .bool (Sg.und s)]), (4, .box 28 [.slice A4 (List.length (Sg.acc (Prod.fst t))) c4, .slice B4 (List.length (Sg.mv (Prod.fst t))) d4, .int .i64 (Sg.done (Prod.fst t)), .bool (Sg.und (Prod.fst t))]), (6, .box 28 [.slice A5 (List.length (Sg.acc s)) c5, .slice B5 (List.length (Sg.mv s)) d5, .int .i64 (Sg.done s), .bool (Sg.und s)]), (7, .box 28 [.slice A6 (List.length (Sg.acc (Prod.fst t))) c6, .slice B6 (List.length (Sg.mv (Prod.fst t))) d6, .int .i64 (Sg.done (Prod.fst t)), .bool (Sg.und (Prod.fst t))])] [(1, .some (ρ1 1)), (4, .some (ρ1 4)), (6, .some (ρ1 6)), (7, .some (ρ1 7))] (by kernel_rfl) ?_
  have hU7 : Ext (Hp.un U5 L0) U9 := hx6.trans (Hp.un_l.trans (hx7.trans (hx8.trans hx9)))
  refine J.aone (i := 3) (by kernel_rfl) (Op1.call rfl rfl rfl rfl rfl rfl rfl rfl (eqSaga_ok _ _ _ _ s s U9 (ra5.mono hU7) (rm5.mono hU7) ra9 rm9 hl1 hl2) fun v U10 hx10 hv => ⟨fun _ => ⟨hx8.trans (hx9.trans hx10), ⟨rfl, rfl⟩, ⟨rfl, rfl⟩, trivial⟩, ?_⟩)
  rw [decide_eq_true rfl] at hv; subst hv
  refine J.to 0 [] 96 [(1, .bp 1 0), (2, .v (.bool false)), (4, .bp 4 0), (5, .v (.bool (Prod.snd t))), (6, .bp 6 0), (7, .bp 7 0), (8, .v (.bool (Prod.snd t))), (41, .v (.agg (Array.mk [.slice A5 (List.length (Sg.acc s)) c5, .slice B5 (List.length (Sg.mv s)) d5, .int .i64 (Sg.done s), .bool (Sg.und s)]))), (42, .v (.agg (Array.mk [.slice A (List.length (Sg.acc s)) ca, .slice B (List.length (Sg.mv s)) c, .int .i64 (Sg.done s), .bool (Sg.und s)]))), (43, .v (.agg (Array.mk [.slice A8 (List.length (Sg.acc s)) c8, .slice B8 (List.length (Sg.mv s)) d8, .int .i64 (Sg.done s), .bool (Sg.und s)]))), (44, .v (.bool true))] [(2, .some false)] [(1, .box 46 [.slice A (List.length (Sg.acc s)) ca, .slice B (List.length (Sg.mv s)) c, .int .i64 (Sg.done s), .bool (Sg.und s)]), (4, .box 28 [.slice A4 (List.length (Sg.acc (Prod.fst t))) c4, .slice B4 (List.length (Sg.mv (Prod.fst t))) d4, .int .i64 (Sg.done (Prod.fst t)), .bool (Sg.und (Prod.fst t))]), (6, .box 28 [.slice A5 (List.length (Sg.acc s)) c5, .slice B5 (List.length (Sg.mv s)) d5, .int .i64 (Sg.done s), .bool (Sg.und s)]), (7, .box 28 [.slice A6 (List.length (Sg.acc (Prod.fst t))) c6, .slice B6 (List.length (Sg.mv (Prod.fst t))) d6, .int .i64 (Sg.done (Prod.fst t)), .bool (Sg.und (Prod.fst t))])] [(1, .some (ρ1 1)), (4, .some (ρ1 4)), (6, .some (ρ1 6)), (7, .some (ρ1 7))] (by kernel_rfl) ?_
  refine J.takeTo false [4] 0 96 [(1, .bp 1 0), (2, .v (.bool false)), (4, .bp 4 0), (5, .v (.bool (Prod.snd t))), (6, .bp 6 0), (7, .bp 7 0), (8, .v (.bool (Prod.snd t))), (41, .v (.agg (Array.mk [.slice A5 (List.length (Sg.acc s)) c5, .slice B5 (List.length (Sg.mv s)) d5, .int .i64 (Sg.done s), .bool (Sg.und s)]))), (42, .v (.agg (Array.mk [.slice A (List.length (Sg.acc s)) ca, .slice B (List.length (Sg.mv s)) c, .int .i64 (Sg.done s), .bool (Sg.und s)]))), (43, .v (.agg (Array.mk [.slice A8 (List.length (Sg.acc s)) c8, .slice B8 (List.length (Sg.mv s)) d8, .int .i64 (Sg.done s), .bool (Sg.und s)]))), (44, .v (.bool true)), (45, .v (.bool false))] [(2, .some false), (45, .some false)] [(1, .box 46 [.slice A (List.length (Sg.acc s)) ca, .slice B (List.length (Sg.mv s)) c, .int .i64 (Sg.done s), .bool (Sg.und s)]), (4, .box 28 [.slice A4 (List.length (Sg.acc (Prod.fst t))) c4, .slice B4 (List.length (Sg.mv (Prod.fst t))) d4, .int .i64 (Sg.done (Prod.fst t)), .bool (Sg.und (Prod.fst t))]), (6, .box 28 [.slice A5 (List.length (Sg.acc s)) c5, .slice B5 (List.length (Sg.mv s)) d5, .int .i64 (Sg.done s), .bool (Sg.und s)]), (7, .box 28 [.slice A6 (List.length (Sg.acc (Prod.fst t))) c6, .slice B6 (List.length (Sg.mv (Prod.fst t))) d6, .int .i64 (Sg.done (Prod.fst t)), .bool (Sg.und (Prod.fst t))])] [(1, .some (ρ1 1)), (4, .some (ρ1 4)), (6, .some (ρ1 6)), (7, .some (ρ1 7))] (by first | exact Ext.refl _ | assumption | exact Ext.trans (by assumption) (by assumption) | exact Ext.trans (by assumption) (Ext.trans (by assumption) (by assumption))) (fun h => by cases h) ⟨⟨rfl, rfl⟩, ⟨⟨rfl, rfl⟩, trivial⟩⟩ rfl (by kernel_rfl) ?_
  refine J.adone' (by kernel_rfl) ?_
  refine J.unlend 29 (V := U6) rfl hL1 (hx7.trans (hx8.trans (hx9.trans hx10))) hd1 (hU5.trans (Hp.un_l.trans hx6)) fun hxa => ?_
  refine J.unlend 26 (V := U5) rfl hL0 (hx6.trans hxa) hd0 hU5 fun hxb => ?_
  generalize Hp.less (Hp.less U10 L1) L0 = U11 at hxb
  refine J.to 10 [false] 96 [(1, .bp 1 0), (2, .v (.bool false)), (4, .bp 4 0), (5, .v (.bool (Prod.snd t))), (7, .bp 7 0), (8, .v (.bool (Prod.snd t))), (9, .v (.int .i64 1)), (46, .v (.agg (Array.mk [.slice A5 (List.length (Sg.acc s)) c5, .slice B5 (List.length (Sg.mv s)) d5, .int .i64 (Sg.done s), .bool (Sg.und s)]))), (47, .v (.int .i64 1))] [(2, .some false)] [(1, .box 46 [.slice A (List.length (Sg.acc s)) ca, .slice B (List.length (Sg.mv s)) c, .int .i64 (Sg.done s), .bool (Sg.und s)]), (4, .box 28 [.slice A4 (List.length (Sg.acc (Prod.fst t))) c4, .slice B4 (List.length (Sg.mv (Prod.fst t))) d4, .int .i64 (Sg.done (Prod.fst t)), .bool (Sg.und (Prod.fst t))]), (6, .box 28 [.slice A5 (List.length (Sg.acc s)) c5, .slice B5 (List.length (Sg.mv s)) d5, .int .i64 (Sg.done s), .bool (Sg.und s)]), (7, .box 28 [.slice A6 (List.length (Sg.acc (Prod.fst t))) c6, .slice B6 (List.length (Sg.mv (Prod.fst t))) d6, .int .i64 (Sg.done (Prod.fst t)), .bool (Sg.und (Prod.fst t))]), (26, .own (sgOwn (.slice A5 (List.length (Sg.acc s)) c5) (.slice B5 (List.length (Sg.mv s)) d5) s)), (29, .own (sgOwn (.slice A6 (List.length (Sg.acc (Prod.fst t))) c6) (.slice B6 (List.length (Sg.mv (Prod.fst t))) d6) (Prod.fst t)))] [(1, .some (ρ1 1)), (4, .some (ρ1 4)), (6, .some (ρ1 6)), (7, .some (ρ1 7))] (by kernel_rfl) ?_
  refine J.one (Op1.bcall [(14, 26)] (args := [.v _, .v _]) (ML := [(14, .own (sgOwn (.slice A5 s.acc.length c5) (.slice B5 s.mv.length d5) s))]) rfl rfl rfl rfl rfl rfl rfl rfl rfl rfl (fun p hp => by simp at hp; subst hp; rfl) (fun p hp => by simp at hp; subst hp; rfl)
    (markSaga_ok _ _ s 1 U11 hl1 hl2 (by omega)) fun v U12 ML hx12 ⟨hv, hML⟩ => ?_)
  subst hv; subst hML
  refine J.to 10 [] 96 [(1, .bp 1 0), (2, .v (.bool false)), (4, .bp 4 0), (5, .v (.bool (Prod.snd t))), (7, .bp 7 0), (8, .v (.bool (Prod.snd t))), (51, .v (.bool (Decidable.decide (1 + (↑(List.length (Sg.acc s)) : Int) + 3 * (↑(List.length (Sg.mv s)) : Int) < 0)))), (52, .v (.agg (Array.mk [.slice A6 (List.length (Sg.acc (Prod.fst t))) c6, .slice B6 (List.length (Sg.mv (Prod.fst t))) d6, .int .i64 (Sg.done (Prod.fst t)), .bool (Sg.und (Prod.fst t))]))), (53, .v (.agg (Array.mk [.slice A4 (List.length (Sg.acc (Prod.fst t))) c4, .slice B4 (List.length (Sg.mv (Prod.fst t))) d4, .int .i64 (Sg.done (Prod.fst t)), .bool (Sg.und (Prod.fst t))])))] [(2, .some false), (51, .some false)] [(1, .box 46 [.slice A (List.length (Sg.acc s)) ca, .slice B (List.length (Sg.mv s)) c, .int .i64 (Sg.done s), .bool (Sg.und s)]), (4, .box 28 [.slice A4 (List.length (Sg.acc (Prod.fst t))) c4, .slice B4 (List.length (Sg.mv (Prod.fst t))) d4, .int .i64 (Sg.done (Prod.fst t)), .bool (Sg.und (Prod.fst t))]), (6, .box 28 [.slice A5 (List.length (Sg.acc s)) c5, .slice B5 (List.length (Sg.mv s)) d5, .int .i64 (Sg.done s), .bool (Sg.und s)]), (7, .box 28 [.slice A6 (List.length (Sg.acc (Prod.fst t))) c6, .slice B6 (List.length (Sg.mv (Prod.fst t))) d6, .int .i64 (Sg.done (Prod.fst t)), .bool (Sg.und (Prod.fst t))]), (26, .own (sgOwn (.slice A5 (List.length (Sg.acc s)) c5) (.slice B5 (List.length (Sg.mv s)) d5) (Sg.marked s 1))), (29, .own (sgOwn (.slice A6 (List.length (Sg.acc (Prod.fst t))) c6) (.slice B6 (List.length (Sg.mv (Prod.fst t))) d6) (Prod.fst t)))] [(1, .some (ρ1 1)), (4, .some (ρ1 4)), (6, .some (ρ1 6)), (7, .some (ρ1 7))] (by kernel_rfl) ?_
  refine J.br rfl rfl (fun h => by simp at h; omega) (fun _ => ?_)
  refine J.to 0 [] 96 [(1, .bp 1 0), (2, .v (.bool false)), (4, .bp 4 0), (5, .v (.bool (Prod.snd t))), (7, .bp 7 0), (8, .v (.bool (Prod.snd t))), (51, .v (.bool false)), (52, .v (.agg (Array.mk [.slice A6 (List.length (Sg.acc (Prod.fst t))) c6, .slice B6 (List.length (Sg.mv (Prod.fst t))) d6, .int .i64 (Sg.done (Prod.fst t)), .bool (Sg.und (Prod.fst t))]))), (53, .v (.agg (Array.mk [.slice A4 (List.length (Sg.acc (Prod.fst t))) c4, .slice B4 (List.length (Sg.mv (Prod.fst t))) d4, .int .i64 (Sg.done (Prod.fst t)), .bool (Sg.und (Prod.fst t))])))] [(2, .some false), (51, .some false)] [(1, .box 46 [.slice A (List.length (Sg.acc s)) ca, .slice B (List.length (Sg.mv s)) c, .int .i64 (Sg.done s), .bool (Sg.und s)]), (4, .box 28 [.slice A4 (List.length (Sg.acc (Prod.fst t))) c4, .slice B4 (List.length (Sg.mv (Prod.fst t))) d4, .int .i64 (Sg.done (Prod.fst t)), .bool (Sg.und (Prod.fst t))]), (6, .box 28 [.slice A5 (List.length (Sg.acc s)) c5, .slice B5 (List.length (Sg.mv s)) d5, .int .i64 (Sg.done s), .bool (Sg.und s)]), (7, .box 28 [.slice A6 (List.length (Sg.acc (Prod.fst t))) c6, .slice B6 (List.length (Sg.mv (Prod.fst t))) d6, .int .i64 (Sg.done (Prod.fst t)), .bool (Sg.und (Prod.fst t))]), (26, .own (sgOwn (.slice A5 (List.length (Sg.acc s)) c5) (.slice B5 (List.length (Sg.mv s)) d5) (Sg.marked s 1))), (29, .own (sgOwn (.slice A6 (List.length (Sg.acc (Prod.fst t))) c6) (.slice B6 (List.length (Sg.mv (Prod.fst t))) d6) (Prod.fst t)))] [(1, .some (ρ1 1)), (4, .some (ρ1 4)), (6, .some (ρ1 6)), (7, .some (ρ1 7))] (by kernel_rfl) ?_

  refine J.lend 29 rfl fun L2 hL2 hd2 => ?_
  obtain ⟨ra7, rm7⟩ := sgOwn_rd hL2 (Hp.un_r hd2)
  have hU12 : Ext U4 U12 := hx5.trans (hxb.trans hx12)
  refine J.one (Op1.call rfl rfl rfl rfl rfl rfl rfl rfl (eqSaga_ok _ _ _ _ t.1 t.1 _ ra7 rm7 ⟨A4, c4, rfl, hc4, hA4.mono (hU12.trans Hp.un_l)⟩ ⟨B4, d4, rfl, hd4, hB4.mono (hU12.trans Hp.un_l)⟩ (by omega) (by omega)) fun v U13 hx13 hv => ?_)
  rw [decide_eq_true rfl] at hv; subst hv
  refine J.to 8 [] 96 [(1, .bp 1 0), (2, .v (.bool false)), (4, .bp 4 0), (5, .v (.bool (Prod.snd t))), (7, .bp 7 0), (61, .v (.bool !Prod.snd t == Prod.snd t))] [(2, .some false)] [(1, .box 46 [.slice A (List.length (Sg.acc s)) ca, .slice B (List.length (Sg.mv s)) c, .int .i64 (Sg.done s), .bool (Sg.und s)]), (4, .box 28 [.slice A4 (List.length (Sg.acc (Prod.fst t))) c4, .slice B4 (List.length (Sg.mv (Prod.fst t))) d4, .int .i64 (Sg.done (Prod.fst t)), .bool (Sg.und (Prod.fst t))]), (6, .box 28 [.slice A5 (List.length (Sg.acc s)) c5, .slice B5 (List.length (Sg.mv s)) d5, .int .i64 (Sg.done s), .bool (Sg.und s)]), (7, .box 28 [.slice A6 (List.length (Sg.acc (Prod.fst t))) c6, .slice B6 (List.length (Sg.mv (Prod.fst t))) d6, .int .i64 (Sg.done (Prod.fst t)), .bool (Sg.und (Prod.fst t))]), (26, .own (sgOwn (.slice A5 (List.length (Sg.acc s)) c5) (.slice B5 (List.length (Sg.mv s)) d5) (Sg.marked s 1)))] [(1, .some (ρ1 1)), (4, .some (ρ1 4)), (6, .some (ρ1 6)), (7, .some (ρ1 7))] (by kernel_rfl) ?_
  refine J.br rfl rfl (fun h => by simp at h) (fun _ => ?_)
  refine J.to 10 [false] 96 [(1, .bp 1 0), (2, .v (.bool false)), (4, .bp 4 0), (5, .v (.bool (Prod.snd t))), (7, .bp 7 0), (10, .v (.int .i64 1)), (62, .v (.agg (Array.mk [.slice A6 (List.length (Sg.acc (Prod.fst t))) c6, .slice B6 (List.length (Sg.mv (Prod.fst t))) d6, .int .i64 (Sg.done (Prod.fst t)), .bool (Sg.und (Prod.fst t))]))), (63, .v (.int .i64 1))] [(2, .some false)] [(1, .box 46 [.slice A (List.length (Sg.acc s)) ca, .slice B (List.length (Sg.mv s)) c, .int .i64 (Sg.done s), .bool (Sg.und s)]), (4, .box 28 [.slice A4 (List.length (Sg.acc (Prod.fst t))) c4, .slice B4 (List.length (Sg.mv (Prod.fst t))) d4, .int .i64 (Sg.done (Prod.fst t)), .bool (Sg.und (Prod.fst t))]), (6, .box 28 [.slice A5 (List.length (Sg.acc s)) c5, .slice B5 (List.length (Sg.mv s)) d5, .int .i64 (Sg.done s), .bool (Sg.und s)]), (7, .box 28 [.slice A6 (List.length (Sg.acc (Prod.fst t))) c6, .slice B6 (List.length (Sg.mv (Prod.fst t))) d6, .int .i64 (Sg.done (Prod.fst t)), .bool (Sg.und (Prod.fst t))]), (26, .own (sgOwn (.slice A5 (List.length (Sg.acc s)) c5) (.slice B5 (List.length (Sg.mv s)) d5) (Sg.marked s 1)))] [(1, .some (ρ1 1)), (4, .some (ρ1 4)), (6, .some (ρ1 6)), (7, .some (ρ1 7))] (by kernel_rfl) ?_
  refine J.unlend 29 (V := U12) rfl hL2 hx13 hd2 (hU5.trans (hxb.trans hx12)) fun hxc => ?_
  generalize Hp.less U13 L2 = U14 at hxc
  refine J.to 0 [] 96 [(1, .bp 1 0), (2, .v (.bool false)), (4, .bp 4 0), (5, .v (.bool (Prod.snd t))), (7, .bp 7 0), (10, .v (.int .i64 1)), (62, .v (.agg (Array.mk [.slice A6 (List.length (Sg.acc (Prod.fst t))) c6, .slice B6 (List.length (Sg.mv (Prod.fst t))) d6, .int .i64 (Sg.done (Prod.fst t)), .bool (Sg.und (Prod.fst t))]))), (63, .v (.int .i64 1))] [(2, .some false)] [(1, .box 46 [.slice A (List.length (Sg.acc s)) ca, .slice B (List.length (Sg.mv s)) c, .int .i64 (Sg.done s), .bool (Sg.und s)]), (4, .box 28 [.slice A4 (List.length (Sg.acc (Prod.fst t))) c4, .slice B4 (List.length (Sg.mv (Prod.fst t))) d4, .int .i64 (Sg.done (Prod.fst t)), .bool (Sg.und (Prod.fst t))]), (6, .box 28 [.slice A5 (List.length (Sg.acc s)) c5, .slice B5 (List.length (Sg.mv s)) d5, .int .i64 (Sg.done s), .bool (Sg.und s)]), (7, .box 28 [.slice A6 (List.length (Sg.acc (Prod.fst t))) c6, .slice B6 (List.length (Sg.mv (Prod.fst t))) d6, .int .i64 (Sg.done (Prod.fst t)), .bool (Sg.und (Prod.fst t))]), (26, .own (sgOwn (.slice A5 (List.length (Sg.acc s)) c5) (.slice B5 (List.length (Sg.mv s)) d5) (Sg.marked s 1))), (29, .own (sgOwn (.slice A6 (List.length (Sg.acc (Prod.fst t))) c6) (.slice B6 (List.length (Sg.mv (Prod.fst t))) d6) (Prod.fst t)))] [(1, .some (ρ1 1)), (4, .some (ρ1 4)), (6, .some (ρ1 6)), (7, .some (ρ1 7))] (by kernel_rfl) ?_
  refine J.one (Op1.bcall [(14, 29)] (args := [.v _, .v _]) (ML := [(14, .own (sgOwn (.slice A6 t.1.acc.length c6) (.slice B6 t.1.mv.length d6) t.1))]) rfl rfl rfl rfl rfl rfl rfl rfl rfl rfl (fun p hp => by simp at hp; subst hp; rfl) (fun p hp => by simp at hp; subst hp; rfl)
    (markSaga_ok _ _ t.1 1 U14 (by omega) (by omega) (by omega)) fun v U15 ML hx15 ⟨hv, hML⟩ => ?_)
  subst hv; subst hML
  refine J.to 10 [] 96 [(1, .bp 1 0), (2, .v (.bool false)), (4, .bp 4 0), (5, .v (.bool (Prod.snd t))), (7, .bp 7 0), (10, .v (.int .i64 (1 + (↑(List.length (Sg.acc (Prod.fst t))) : Int) + 3 * (↑(List.length (Sg.mv (Prod.fst t))) : Int)))), (11, .v (.int .i64 1)), (65, .v (.agg (Array.mk [.slice A6 (List.length (Sg.acc (Prod.fst t))) c6, .slice B6 (List.length (Sg.mv (Prod.fst t))) d6, .int .i64 (Sg.done (Prod.fst t)), .bool (Sg.und (Prod.fst t))]))), (66, .v (.int .i64 1))] [(2, .some false)] [(1, .box 46 [.slice A (List.length (Sg.acc s)) ca, .slice B (List.length (Sg.mv s)) c, .int .i64 (Sg.done s), .bool (Sg.und s)]), (4, .box 28 [.slice A4 (List.length (Sg.acc (Prod.fst t))) c4, .slice B4 (List.length (Sg.mv (Prod.fst t))) d4, .int .i64 (Sg.done (Prod.fst t)), .bool (Sg.und (Prod.fst t))]), (6, .box 28 [.slice A5 (List.length (Sg.acc s)) c5, .slice B5 (List.length (Sg.mv s)) d5, .int .i64 (Sg.done s), .bool (Sg.und s)]), (7, .box 28 [.slice A6 (List.length (Sg.acc (Prod.fst t))) c6, .slice B6 (List.length (Sg.mv (Prod.fst t))) d6, .int .i64 (Sg.done (Prod.fst t)), .bool (Sg.und (Prod.fst t))]), (26, .own (sgOwn (.slice A5 (List.length (Sg.acc s)) c5) (.slice B5 (List.length (Sg.mv s)) d5) (Sg.marked s 1))), (29, .own (sgOwn (.slice A6 (List.length (Sg.acc (Prod.fst t))) c6) (.slice B6 (List.length (Sg.mv (Prod.fst t))) d6) (Sg.marked (Prod.fst t) 1)))] [(1, .some (ρ1 1)), (4, .some (ρ1 4)), (6, .some (ρ1 6)), (7, .some (ρ1 7))] (by kernel_rfl) ?_
  refine J.lend 29 rfl fun L3 hL3 hd3 => ?_
  obtain ⟨ra8, rm8⟩ := sgOwn_rd hL3 (Hp.un_r hd3)
  have hmm : t.1.marked 1 = (t.1.marked 1).marked 1 := by simp [Sg.marked, intMarks_len, mvMarks_len]
  have hml : (t.1.marked 1).acc.length = t.1.acc.length ∧ (t.1.marked 1).mv.length = t.1.mv.length := by simp [Sg.marked, intMarks_len, mvMarks_len]
  refine J.to 0 [] 96 [(1, .bp 1 0), (2, .v (.bool false)), (4, .bp 4 0), (5, .v (.bool (Prod.snd t))), (7, .bp 7 0), (10, .v (.int .i64 (1 + (↑(List.length (Sg.acc (Prod.fst t))) : Int) + 3 * (↑(List.length (Sg.mv (Prod.fst t))) : Int)))), (11, .v (.int .i64 1)), (65, .v (.agg (Array.mk [.slice A6 (List.length (Sg.acc (Prod.fst t))) c6, .slice B6 (List.length (Sg.mv (Prod.fst t))) d6, .int .i64 (Sg.done (Prod.fst t)), .bool (Sg.und (Prod.fst t))]))), (66, .v (.int .i64 1))] [(2, .some false)] [(1, .box 46 [.slice A (List.length (Sg.acc s)) ca, .slice B (List.length (Sg.mv s)) c, .int .i64 (Sg.done s), .bool (Sg.und s)]), (4, .box 28 [.slice A4 (List.length (Sg.acc (Prod.fst t))) c4, .slice B4 (List.length (Sg.mv (Prod.fst t))) d4, .int .i64 (Sg.done (Prod.fst t)), .bool (Sg.und (Prod.fst t))]), (6, .box 28 [.slice A5 (List.length (Sg.acc s)) c5, .slice B5 (List.length (Sg.mv s)) d5, .int .i64 (Sg.done s), .bool (Sg.und s)]), (7, .box 28 [.slice A6 (List.length (Sg.acc (Prod.fst t))) c6, .slice B6 (List.length (Sg.mv (Prod.fst t))) d6, .int .i64 (Sg.done (Prod.fst t)), .bool (Sg.und (Prod.fst t))]), (26, .own (sgOwn (.slice A5 (List.length (Sg.acc s)) c5) (.slice B5 (List.length (Sg.mv s)) d5) (Sg.marked s 1)))] [(1, .some (ρ1 1)), (4, .some (ρ1 4)), (6, .some (ρ1 6)), (7, .some (ρ1 7))] (by kernel_rfl) ?_
  refine J.one (Op1.call rfl rfl rfl rfl rfl rfl rfl rfl (heldSaga_ok _ _ (t.1.marked 1) 1 _ ra8 rm8 (by omega) (by omega) (by omega)) fun v U16 hx16 hv => ?_)
  rw [if_pos hmm, hml.1, hml.2] at hv
  subst hv
  refine J.to 17 [false] 96 [(1, .bp 1 0), (2, .v (.bool false)), (4, .bp 4 0), (5, .v (.bool (Prod.snd t))), (7, .bp 7 0), (10, .v (.int .i64 (1 + (↑(List.length (Sg.acc (Prod.fst t))) : Int) + 3 * (↑(List.length (Sg.mv (Prod.fst t))) : Int)))), (11, .v (.int .i64 (1 + (↑(List.length (Sg.acc (Prod.fst t))) : Int) + 3 * (↑(List.length (Sg.mv (Prod.fst t))) : Int)))), (72, .v (.bool (1 + (↑(List.length (Sg.acc (Prod.fst t))) : Int) + 3 * (↑(List.length (Sg.mv (Prod.fst t))) : Int) != 1 + (↑(List.length (Sg.acc (Prod.fst t))) : Int) + 3 * (↑(List.length (Sg.mv (Prod.fst t))) : Int))))] [(2, .some false)] [(1, .box 46 [.slice A (List.length (Sg.acc s)) ca, .slice B (List.length (Sg.mv s)) c, .int .i64 (Sg.done s), .bool (Sg.und s)]), (4, .box 28 [.slice A4 (List.length (Sg.acc (Prod.fst t))) c4, .slice B4 (List.length (Sg.mv (Prod.fst t))) d4, .int .i64 (Sg.done (Prod.fst t)), .bool (Sg.und (Prod.fst t))]), (6, .box 28 [.slice A5 (List.length (Sg.acc s)) c5, .slice B5 (List.length (Sg.mv s)) d5, .int .i64 (Sg.done s), .bool (Sg.und s)]), (7, .box 28 [.slice A6 (List.length (Sg.acc (Prod.fst t))) c6, .slice B6 (List.length (Sg.mv (Prod.fst t))) d6, .int .i64 (Sg.done (Prod.fst t)), .bool (Sg.und (Prod.fst t))]), (26, .own (sgOwn (.slice A5 (List.length (Sg.acc s)) c5) (.slice B5 (List.length (Sg.mv s)) d5) (Sg.marked s 1)))] [(1, .some (ρ1 1)), (4, .some (ρ1 4)), (6, .some (ρ1 6)), (7, .some (ρ1 7))] (by kernel_rfl) ?_
  refine J.br rfl rfl (fun h => by first | (simp at h; done) | (simp at h; omega)) (fun _ => ?_)
  refine J.to 5 [false] 96 [(2, .v (.bool false)), (4, .bp 4 0), (5, .v (.bool (Prod.snd t))), (7, .bp 7 0), (10, .v (.int .i64 (1 + (↑(List.length (Sg.acc (Prod.fst t))) : Int) + 3 * (↑(List.length (Sg.mv (Prod.fst t))) : Int)))), (11, .v (.int .i64 (1 + (↑(List.length (Sg.acc (Prod.fst t))) : Int) + 3 * (↑(List.length (Sg.mv (Prod.fst t))) : Int)))), (74, .v (.agg (Array.mk [.slice A (List.length (Sg.acc s)) ca, .slice B (List.length (Sg.mv s)) c, .int .i64 (Sg.done s), .bool (Sg.und s)])))] [(2, .some false)] [(1, .box 46 [.slice A (List.length (Sg.acc s)) ca, .slice B (List.length (Sg.mv s)) c, .int .i64 (Sg.done s), .bool (Sg.und s)]), (4, .box 28 [.slice A4 (List.length (Sg.acc (Prod.fst t))) c4, .slice B4 (List.length (Sg.mv (Prod.fst t))) d4, .int .i64 (Sg.done (Prod.fst t)), .bool (Sg.und (Prod.fst t))]), (6, .box 28 [.slice A5 (List.length (Sg.acc s)) c5, .slice B5 (List.length (Sg.mv s)) d5, .int .i64 (Sg.done s), .bool (Sg.und s)]), (7, .box 28 [.slice A6 (List.length (Sg.acc (Prod.fst t))) c6, .slice B6 (List.length (Sg.mv (Prod.fst t))) d6, .int .i64 (Sg.done (Prod.fst t)), .bool (Sg.und (Prod.fst t))]), (26, .own (sgOwn (.slice A5 (List.length (Sg.acc s)) c5) (.slice B5 (List.length (Sg.mv s)) d5) (Sg.marked s 1)))] [(1, .some (ρ1 1)), (4, .some (ρ1 4)), (6, .some (ρ1 6)), (7, .some (ρ1 7))] (by kernel_rfl) ?_

  have hU15 : Ext U5 U15 := hxb.trans (hx12.trans (hxc.trans hx15))
  have hU16 : Ext U5 U16 := hU15.trans (Hp.un_l.trans hx16)
  refine J.one (Op1.ocall rfl rfl rfl rfl rfl rfl rfl (toSaga_ok _ _ s U16 (ra _ (hU5.trans hU16)) (rm _ (hU5.trans hU16)) hl1 hl2) fun v U17 hx17 => ?_)
  refine J.sg 75 rfl fun A7 c7 B7 d7 e => ?_
  subst e
  refine J.pub (k := 75) rfl fun U18 L18 hx18 hl18 hp18 => ?_
  obtain ⟨ra9, rm9⟩ := sgOwn_rd hp18 hl18
  refine J.to 0 [] 96 [(2, .v (.bool false)), (4, .bp 4 0), (5, .v (.bool (Prod.snd t))), (7, .bp 7 0), (10, .v (.int .i64 (1 + (↑(List.length (Sg.acc (Prod.fst t))) : Int) + 3 * (↑(List.length (Sg.mv (Prod.fst t))) : Int)))), (11, .v (.int .i64 (1 + (↑(List.length (Sg.acc (Prod.fst t))) : Int) + 3 * (↑(List.length (Sg.mv (Prod.fst t))) : Int)))), (75, .v (.agg (Array.mk [.slice A7 (List.length (Sg.acc s)) c7, .slice B7 (List.length (Sg.mv s)) d7, .int .i64 (Sg.done s), .bool (Sg.und s)])))] [(2, .some false)] [(1, .box 46 [.slice A (List.length (Sg.acc s)) ca, .slice B (List.length (Sg.mv s)) c, .int .i64 (Sg.done s), .bool (Sg.und s)]), (4, .box 28 [.slice A4 (List.length (Sg.acc (Prod.fst t))) c4, .slice B4 (List.length (Sg.mv (Prod.fst t))) d4, .int .i64 (Sg.done (Prod.fst t)), .bool (Sg.und (Prod.fst t))]), (6, .box 28 [.slice A5 (List.length (Sg.acc s)) c5, .slice B5 (List.length (Sg.mv s)) d5, .int .i64 (Sg.done s), .bool (Sg.und s)]), (7, .box 28 [.slice A6 (List.length (Sg.acc (Prod.fst t))) c6, .slice B6 (List.length (Sg.mv (Prod.fst t))) d6, .int .i64 (Sg.done (Prod.fst t)), .bool (Sg.und (Prod.fst t))]), (26, .own (sgOwn (.slice A5 (List.length (Sg.acc s)) c5) (.slice B5 (List.length (Sg.mv s)) d5) (Sg.marked s 1)))] [(1, .some (ρ1 1)), (4, .some (ρ1 4)), (6, .some (ρ1 6)), (7, .some (ρ1 7))] (by kernel_rfl) ?_
  refine J.one (Op1.ocall rfl rfl rfl rfl rfl rfl rfl (implStep_ok _ _ s _ ra9 rm9 hl1 hl2) fun v U19 hx19 => ?_)
  rw [implStep_eq, ht]
  refine J.sg2 76 rfl fun A8 c8 B8 d8 e => ?_
  subst e
  refine J.pub (k := 76) rfl fun U20 L20 hx20 hl20 hp20 => ?_
  obtain ⟨ra10, rm10⟩ := sgOwn_rd hp20 hl20
  refine J.to 12 [] 96 [(2, .v (.bool false)), (4, .bp 4 0), (5, .v (.bool (Prod.snd t))), (7, .bp 7 0), (10, .v (.int .i64 (1 + (↑(List.length (Sg.acc (Prod.fst t))) : Int) + 3 * (↑(List.length (Sg.mv (Prod.fst t))) : Int)))), (11, .v (.int .i64 (1 + (↑(List.length (Sg.acc (Prod.fst t))) : Int) + 3 * (↑(List.length (Sg.mv (Prod.fst t))) : Int)))), (13, .v (.bool (Prod.snd t))), (79, .v (.agg (Array.mk [.slice A8 (List.length (Sg.acc (Prod.fst t))) c8, .slice B8 (List.length (Sg.mv (Prod.fst t))) d8, .int .i64 (Sg.done (Prod.fst t)), .bool (Sg.und (Prod.fst t))]))), (80, .v (.agg (Array.mk [.slice A4 (List.length (Sg.acc (Prod.fst t))) c4, .slice B4 (List.length (Sg.mv (Prod.fst t))) d4, .int .i64 (Sg.done (Prod.fst t)), .bool (Sg.und (Prod.fst t))])))] [(2, .some false)] [(1, .box 46 [.slice A (List.length (Sg.acc s)) ca, .slice B (List.length (Sg.mv s)) c, .int .i64 (Sg.done s), .bool (Sg.und s)]), (4, .box 28 [.slice A4 (List.length (Sg.acc (Prod.fst t))) c4, .slice B4 (List.length (Sg.mv (Prod.fst t))) d4, .int .i64 (Sg.done (Prod.fst t)), .bool (Sg.und (Prod.fst t))]), (6, .box 28 [.slice A5 (List.length (Sg.acc s)) c5, .slice B5 (List.length (Sg.mv s)) d5, .int .i64 (Sg.done s), .bool (Sg.und s)]), (7, .box 28 [.slice A6 (List.length (Sg.acc (Prod.fst t))) c6, .slice B6 (List.length (Sg.mv (Prod.fst t))) d6, .int .i64 (Sg.done (Prod.fst t)), .bool (Sg.und (Prod.fst t))]), (26, .own (sgOwn (.slice A5 (List.length (Sg.acc s)) c5) (.slice B5 (List.length (Sg.mv s)) d5) (Sg.marked s 1)))] [(1, .some (ρ1 1)), (4, .some (ρ1 4)), (6, .some (ρ1 6)), (7, .some (ρ1 7))] (by kernel_rfl) ?_
  have hU20 : Ext U5 U20 := hU16.trans (hx17.trans (hx18.trans (hx19.trans hx20)))
  refine J.one (Op1.call rfl rfl rfl rfl rfl rfl rfl rfl (eqSaga_ok _ _ _ _ t.1 t.1 _ ra10 rm10 ⟨A4, c4, rfl, hc4, hA4.mono (hx5.trans hU20)⟩ ⟨B4, d4, rfl, hd4, hB4.mono (hx5.trans hU20)⟩ (by omega) (by omega)) fun v U21 hx21 hv => ?_)
  rw [decide_eq_true rfl] at hv; subst hv
  refine J.to 7 [] 96 [(2, .v (.bool false)), (7, .bp 7 0), (10, .v (.int .i64 (1 + (↑(List.length (Sg.acc (Prod.fst t))) : Int) + 3 * (↑(List.length (Sg.mv (Prod.fst t))) : Int)))), (11, .v (.int .i64 (1 + (↑(List.length (Sg.acc (Prod.fst t))) : Int) + 3 * (↑(List.length (Sg.mv (Prod.fst t))) : Int)))), (87, .v (.bool !Prod.snd t == Prod.snd t))] [(2, .some false)] [(1, .box 46 [.slice A (List.length (Sg.acc s)) ca, .slice B (List.length (Sg.mv s)) c, .int .i64 (Sg.done s), .bool (Sg.und s)]), (4, .box 28 [.slice A4 (List.length (Sg.acc (Prod.fst t))) c4, .slice B4 (List.length (Sg.mv (Prod.fst t))) d4, .int .i64 (Sg.done (Prod.fst t)), .bool (Sg.und (Prod.fst t))]), (6, .box 28 [.slice A5 (List.length (Sg.acc s)) c5, .slice B5 (List.length (Sg.mv s)) d5, .int .i64 (Sg.done s), .bool (Sg.und s)]), (7, .box 28 [.slice A6 (List.length (Sg.acc (Prod.fst t))) c6, .slice B6 (List.length (Sg.mv (Prod.fst t))) d6, .int .i64 (Sg.done (Prod.fst t)), .bool (Sg.und (Prod.fst t))]), (26, .own (sgOwn (.slice A5 (List.length (Sg.acc s)) c5) (.slice B5 (List.length (Sg.mv s)) d5) (Sg.marked s 1)))] [(1, .some (ρ1 1)), (4, .some (ρ1 4)), (6, .some (ρ1 6)), (7, .some (ρ1 7))] (by kernel_rfl) ?_
  refine J.br rfl rfl (fun h => by simp at h) (fun _ => ?_)
  refine J.to 10 [false] 96 [(2, .v (.bool false)), (10, .v (.int .i64 (1 + (↑(List.length (Sg.acc (Prod.fst t))) : Int) + 3 * (↑(List.length (Sg.mv (Prod.fst t))) : Int)))), (11, .v (.int .i64 1)), (88, .v (.agg (Array.mk [.slice A6 (List.length (Sg.acc (Prod.fst t))) c6, .slice B6 (List.length (Sg.mv (Prod.fst t))) d6, .int .i64 (Sg.done (Prod.fst t)), .bool (Sg.und (Prod.fst t))]))), (89, .v (.int .i64 1))] [(2, .some false)] [(1, .box 46 [.slice A (List.length (Sg.acc s)) ca, .slice B (List.length (Sg.mv s)) c, .int .i64 (Sg.done s), .bool (Sg.und s)]), (4, .box 28 [.slice A4 (List.length (Sg.acc (Prod.fst t))) c4, .slice B4 (List.length (Sg.mv (Prod.fst t))) d4, .int .i64 (Sg.done (Prod.fst t)), .bool (Sg.und (Prod.fst t))]), (6, .box 28 [.slice A5 (List.length (Sg.acc s)) c5, .slice B5 (List.length (Sg.mv s)) d5, .int .i64 (Sg.done s), .bool (Sg.und s)]), (7, .box 28 [.slice A6 (List.length (Sg.acc (Prod.fst t))) c6, .slice B6 (List.length (Sg.mv (Prod.fst t))) d6, .int .i64 (Sg.done (Prod.fst t)), .bool (Sg.und (Prod.fst t))]), (26, .own (sgOwn (.slice A5 (List.length (Sg.acc s)) c5) (.slice B5 (List.length (Sg.mv s)) d5) (Sg.marked s 1)))] [(1, .some (ρ1 1)), (4, .some (ρ1 4)), (6, .some (ρ1 6)), (7, .some (ρ1 7))] (by kernel_rfl) ?_
  have hU21 : Ext (Hp.un U15 L3) U21 := hx16.trans (hx17.trans (hx18.trans (hx19.trans (hx20.trans hx21))))
  refine J.one (Op1.call rfl rfl rfl rfl rfl rfl rfl rfl (heldSaga_ok _ _ (t.1.marked 1) 1 _ (ra8.mono hU21) (rm8.mono hU21) (by omega) (by omega) (by omega)) fun v U22 hx22 hv => ?_)
  rw [if_pos hmm, hml.1, hml.2] at hv
  subst hv
  refine J.to 17 [false] 96 [(2, .v (.bool false)), (95, .v (.bool (1 + (↑(List.length (Sg.acc (Prod.fst t))) : Int) + 3 * (↑(List.length (Sg.mv (Prod.fst t))) : Int) != 1 + (↑(List.length (Sg.acc (Prod.fst t))) : Int) + 3 * (↑(List.length (Sg.mv (Prod.fst t))) : Int))))] [(2, .some false)] [(1, .box 46 [.slice A (List.length (Sg.acc s)) ca, .slice B (List.length (Sg.mv s)) c, .int .i64 (Sg.done s), .bool (Sg.und s)]), (4, .box 28 [.slice A4 (List.length (Sg.acc (Prod.fst t))) c4, .slice B4 (List.length (Sg.mv (Prod.fst t))) d4, .int .i64 (Sg.done (Prod.fst t)), .bool (Sg.und (Prod.fst t))]), (6, .box 28 [.slice A5 (List.length (Sg.acc s)) c5, .slice B5 (List.length (Sg.mv s)) d5, .int .i64 (Sg.done s), .bool (Sg.und s)]), (7, .box 28 [.slice A6 (List.length (Sg.acc (Prod.fst t))) c6, .slice B6 (List.length (Sg.mv (Prod.fst t))) d6, .int .i64 (Sg.done (Prod.fst t)), .bool (Sg.und (Prod.fst t))]), (26, .own (sgOwn (.slice A5 (List.length (Sg.acc s)) c5) (.slice B5 (List.length (Sg.mv s)) d5) (Sg.marked s 1)))] [(1, .some (ρ1 1)), (4, .some (ρ1 4)), (6, .some (ρ1 6)), (7, .some (ρ1 7))] (by kernel_rfl) ?_
  refine J.br rfl rfl (fun h => by first | (simp at h; done) | (simp at h; omega)) (fun _ => ?_)
  refine J.to 6 [false] 96 [(2, .v (.bool true))] [(2, .some true)] [(1, .box 46 [.slice A (List.length (Sg.acc s)) ca, .slice B (List.length (Sg.mv s)) c, .int .i64 (Sg.done s), .bool (Sg.und s)]), (4, .box 28 [.slice A4 (List.length (Sg.acc (Prod.fst t))) c4, .slice B4 (List.length (Sg.mv (Prod.fst t))) d4, .int .i64 (Sg.done (Prod.fst t)), .bool (Sg.und (Prod.fst t))]), (6, .box 28 [.slice A5 (List.length (Sg.acc s)) c5, .slice B5 (List.length (Sg.mv s)) d5, .int .i64 (Sg.done s), .bool (Sg.und s)]), (7, .box 28 [.slice A6 (List.length (Sg.acc (Prod.fst t))) c6, .slice B6 (List.length (Sg.mv (Prod.fst t))) d6, .int .i64 (Sg.done (Prod.fst t)), .bool (Sg.und (Prod.fst t))]), (26, .own (sgOwn (.slice A5 (List.length (Sg.acc s)) c5) (.slice B5 (List.length (Sg.mv s)) d5) (Sg.marked s 1)))] [(1, .some (ρ1 1)), (4, .some (ρ1 4)), (6, .some (ρ1 6)), (7, .some (ρ1 7))] (by kernel_rfl) ?_
  exact J.ret ⟨_, rfl, .inl rfl⟩
end Go.Rx
end

section
open Go Go.Rx Go.Proofs
namespace Go.Rx
def Sg.mu (s : Sg) : Nat := if s.und then s.done.toNat else s.mv.length + 1 + (s.mv.length - s.done.toNat)
def Sg.may (s : Sg) : Bool := !s.und && (s.done != s.mv.length)
def Sg.nxt (s : Sg) (b : Bool) : Option Sg := if b && s.may then some { s with und := true } else if s.step.2 then some s.step.1 else none
def runF : Nat → Int → Nat → Sg → Sg × Nat
  | 0, _, n, s => (s, n)
  | k + 1, fail, n, s => match s.nxt ((n : Int) == fail) with
    | some t => runF k fail (n + 1) t
    | none => (s, n)
theorem fail_good {s : Sg} (h : s.good = true) : ({ s with und := true } : Sg).good = true := h
theorem nxt_good {s t : Sg} {b : Bool} (h : s.good = true) (e : s.nxt b = some t) : t.good = true ∧ t.mu < s.mu := by
  obtain ⟨hf, -⟩ := good_parts h
  obtain ⟨-, -, h20, hd, -⟩ := form_parts hf
  unfold Sg.nxt at e
  cases hb : (b && s.may) with
  | true =>
    rw [hb] at e
    simp only [if_true, Option.some.injEq] at e
    subst e
    refine ⟨fail_good h, ?_⟩
    simp only [Bool.and_eq_true, Sg.may, Bool.not_eq_true'] at hb
    simp only [Sg.mu, hb.2.1, if_true, Bool.false_eq_true, if_false]
    omega
  | false =>
    rw [hb] at e
    simp only [Bool.false_eq_true, if_false] at e
    cases h2 : s.step.2 with
    | false => rw [h2] at e; simp at e
    | true =>
      rw [h2] at e
      simp only [if_true, Option.some.injEq] at e
      subst e
      refine ⟨step_good h h2, ?_⟩
      unfold Sg.step at h2 ⊢
      cases hu : s.und with
      | true =>
        simp only [hu, if_true] at h2 ⊢
        by_cases h0 : s.done = 0
        · rw [if_pos h0] at h2; cases h2
        · rw [if_neg h0]
          simp only [Sg.mu, hu, if_true]
          rw [wr_id (by omega)]
          omega
      | false =>
        simp only [hu, Bool.false_eq_true, if_false] at h2 ⊢
        by_cases h0 : s.done = s.mv.length
        · rw [if_pos h0] at h2; cases h2
        · rw [if_neg h0]
          split
          · simp only [Sg.mu, hu, Bool.false_eq_true, if_false]
            rw [wr_id (by omega)]
            omega
          · simp only [Sg.mu, hu, if_true, Bool.false_eq_true, if_false]
            omega
theorem mu_le {s : Sg} (h : s.good = true) : s.mu ≤ 2 * s.mv.length + 1 := by
  obtain ⟨hf, -⟩ := good_parts h
  obtain ⟨-, -, h20, hd, -⟩ := form_parts hf
  unfold Sg.mu
  split <;> omega
theorem runF_eq (fail : Int) : ∀ (k k' n : Nat) (s : Sg), s.good = true → s.mu < k → s.mu < k' → runF k fail n s = runF k' fail n s
  | 0, _, _, _, _, h, _ => by omega
  | _ + 1, 0, _, _, _, _, h => by omega
  | k + 1, k' + 1, n, s, h, h1, h2 => by
    simp only [runF]
    cases e : s.nxt ((n : Int) == fail) with
    | none => rfl
    | some t =>
      obtain ⟨g1, g2⟩ := nxt_good h e
      exact runF_eq fail k k' (n + 1) t g1 (by omega) (by omega)
theorem runF_some {fail : Int} {n : Nat} {s t : Sg} (h : s.good = true) (e : s.nxt ((n : Int) == fail) = some t) : runF (s.mu + 1) fail n s = runF (t.mu + 1) fail (n + 1) t := by
  obtain ⟨g1, g2⟩ := nxt_good h e
  rw [runF, e]
  exact runF_eq fail _ _ _ _ g1 (by omega) (by omega)
theorem runF_none {fail : Int} {n : Nat} {s : Sg} (e : s.nxt ((n : Int) == fail) = none) : runF (s.mu + 1) fail n s = (s, n) := by rw [runF, e]
def runS (s : Sg) (fail : Int) : Sg × Nat × Bool := if s.good then ((runF (s.mu + 1) fail 0 s).1, (runF (s.mu + 1) fail 0 s).2, true) else (Sg.zero, 0, false)
theorem nxt_len {s t : Sg} {b : Bool} (e : s.nxt b = some t) : t.acc.length = s.acc.length ∧ t.mv = s.mv := by
  unfold Sg.nxt at e
  split at e
  · simp only [Option.some.injEq] at e; subst e; exact ⟨rfl, rfl⟩
  · split at e
    · simp only [Option.some.injEq] at e; subst e; exact step_len s
    · cases e
theorem runF_len (fail : Int) : ∀ (k n : Nat) (s : Sg), (runF k fail n s).1.acc.length = s.acc.length ∧ (runF k fail n s).1.mv = s.mv
  | 0, _, _ => ⟨rfl, rfl⟩
  | k + 1, n, s => by
    simp only [runF]
    split
    · rename_i t e
      have h1 := runF_len fail k (n + 1) t
      have h2 := nxt_len e
      exact ⟨h1.1.trans h2.1, h1.2.trans h2.2⟩
    · exact ⟨rfl, rfl⟩
theorem runS_len (s : Sg) (fail : Int) : (runS s fail).1.acc.length ≤ s.acc.length ∧ (runS s fail).1.mv.length ≤ s.mv.length := by
  unfold runS
  split
  · have := runF_len fail (s.mu + 1) 0 s
    simp only [this.1, this.2]; omega
  · simp [Sg.zero]
end Go.Rx
end

section
open Go Go.Rx Go.Proofs
set_option maxHeartbeats 1000000
namespace Go.Rx
theorem failM_ok (va : Value) (B : Option Addr) (d m : Nat) (dn : Int) (u : Bool) (U : Hp) :
    BCall Try.prog 32 [.bp 22 0] [(22, .box 28 [va, .slice B m d, .int .i64 dn, .bool u])] U fun r U' ML => r = .bool (!u && (dn != m)) ∧ ML = [(22, .box 28 [va, .slice B m d, .int .i64 dn, .bool ((!u && (dn != m)) || u)])] := by
  refine BCall.of (args := [.bp 22 0]) E_ok mix Try.func32 (by kernel_rfl) rfl Try.ntmps32 (Nat.le_of_ble_eq_true rfl) rfl fun F w0 ρ => ?_
  refine J.to 6 [] 22 [(0, .bp 22 0), (2, .v (.bool false))] [(2, .some false)] [(22, .box 28 [va, .slice B m d, .int .i64 dn, .bool u])] [(22, .some (ρ 22))] (by kernel_rfl) ?_
  refine J.any [22] [] [(22, ρ 22)] ⟨rfl, trivial⟩ fun ρ1 ⟨hρ1, _⟩ => ?_
  refine J.takeTo true [0, 1, 2, 3, 4] 11 22 [(0, .bp 22 0), (2, .v (.bool false)), (3, .bp 22 0), (4, .bp 22 0), (5, .bp 22 3), (6, .v (.bool u)), (7, .v (.bool u))] [(2, .some false)] [(22, .box 28 [va, .slice B m d, .int .i64 dn, .bool u])] [(22, .some (ρ1 22))] (by first | exact Ext.refl _ | assumption | exact Ext.trans (by assumption) (by assumption) | exact Ext.trans (by assumption) (Ext.trans (by assumption) (by assumption))) (fun h => rfl) ⟨⟨rfl, rfl⟩, trivial⟩ rfl (by kernel_rfl) ?_
  refine J.brAt 7 rfl (fun h1 => ?_) (fun h1 => ?_)
  · refine J.takeTo true [5, 6, 7, 8, 9, 10, 11, 12, 13, 14, 15] 0 22 [(0, .bp 22 0), (2, .v (.bool false)), (3, .bp 22 0), (4, .bp 22 0), (5, .bp 22 3), (6, .v (.bool u)), (7, .v (.bool true)), (8, .v (.tuple (Array.mk []))), (9, .v (.tuple (Array.mk []))), (10, .v (.tuple (Array.mk []))), (11, .v (.tuple (Array.mk []))), (12, .v (.tuple (Array.mk []))), (13, .v (.tuple (Array.mk []))), (14, .v (.tuple (Array.mk []))), (15, .v (.tuple (Array.mk []))), (16, .v (.tuple (Array.mk []))), (17, .v (.tuple (Array.mk []))), (18, .v (.bool true))] [(2, .some false), (7, .some true), (18, .some true)] [(22, .box 28 [va, .slice B m d, .int .i64 dn, .bool u])] [(22, .some (ρ1 22))] (by first | exact Ext.refl _ | assumption | exact Ext.trans (by assumption) (by assumption) | exact Ext.trans (by assumption) (Ext.trans (by assumption) (by assumption))) (fun h => rfl) ⟨⟨rfl, rfl⟩, trivial⟩ rfl (by kernel_rfl) ?_
    refine J.adone' (by kernel_rfl) ?_
    refine J.to 5 [true] 22 [(0, .bp 22 0), (2, .v (.bool false))] [(2, .some false)] [(22, .box 28 [va, .slice B m d, .int .i64 dn, .bool u])] [(22, .some (ρ1 22))] (by kernel_rfl) ?_
    subst h1
    exact J.retB [(22, .box 28 [va, .slice B m d, .int .i64 dn, .bool true])] rfl ⟨⟨rfl, .inl (congrArg some hρ1)⟩, trivial⟩ ⟨rfl, rfl⟩
  · refine J.takeTo true [5, 6, 7, 8, 9, 10, 11, 12, 13, 14, 15] 0 22 [(0, .bp 22 0), (2, .v (.bool false)), (3, .bp 22 0), (4, .bp 22 0), (5, .bp 22 3), (6, .v (.bool u)), (7, .v (.bool false)), (8, .bp 22 0), (9, .bp 22 0), (10, .bp 22 2), (11, .v (.int .i64 dn)), (12, .bp 22 0), (13, .bp 22 0), (14, .bp 22 1), (15, .v (.slice B m d)), (16, .v (.int .i64 (↑m : Int))), (17, .v (.bool (dn == (↑m : Int)))), (18, .v (.bool (dn == (↑m : Int))))] [(2, .some false), (7, .some false)] [(22, .box 28 [va, .slice B m d, .int .i64 dn, .bool u])] [(22, .some (ρ1 22))] (by first | exact Ext.refl _ | assumption | exact Ext.trans (by assumption) (by assumption) | exact Ext.trans (by assumption) (Ext.trans (by assumption) (by assumption))) (fun h => rfl) ⟨⟨rfl, rfl⟩, trivial⟩ rfl (by kernel_rfl) ?_
    refine J.adone' (by kernel_rfl) ?_
    refine J.to 0 [] 22 [(0, .bp 22 0), (2, .v (.bool false)), (18, .v (.bool (dn == (↑m : Int))))] [(2, .some false)] [(22, .box 28 [va, .slice B m d, .int .i64 dn, .bool u])] [(22, .some (ρ1 22))] (by kernel_rfl) ?_
    subst h1
    refine J.br rfl rfl (fun h2 => ?_) (fun h2 => ?_)
    · refine J.to 5 [true] 22 [(0, .bp 22 0), (2, .v (.bool false))] [(2, .some false)] [(22, .box 28 [va, .slice B m d, .int .i64 dn, .bool false])] [(22, .some (ρ1 22))] (by kernel_rfl) ?_
      have e : (dn != (m : Int)) = false := by simpa using h2
      refine J.retB [(22, .box 28 [va, .slice B m d, .int .i64 dn, .bool false])] rfl ⟨⟨rfl, .inl (congrArg some hρ1)⟩, trivial⟩ ⟨?_, ?_⟩
      · rw [e]; rfl
      · rw [e]; rfl
    · refine J.to 13 [false] 22 [(2, .v (.bool true))] [(2, .some true)] [(22, .box 28 [va, .slice B m d, .int .i64 dn, .bool true])] [(22, .some (ρ1 22))] (by kernel_rfl) ?_
      have e : (dn != (m : Int)) = true := by simpa using h2
      refine J.retB [(22, .box 28 [va, .slice B m d, .int .i64 dn, .bool true])] rfl ⟨⟨rfl, .inl (congrArg some hρ1)⟩, trivial⟩ ⟨?_, ?_⟩
      · rw [e]; rfl
      · rw [e]; rfl

theorem run31_ok (A : Option Addr) (c : Nat) (B : Option Addr) (d : Nat) (s : Sg) (fail : Int) (U : Hp) (hg : s.good = true) :
    BCall Try.prog 31 [.bp 18 0, .bp 19 0, .bp 20 0] [(18, .box 28 [.slice A s.acc.length c, .slice B s.mv.length d, .int .i64 s.done, .bool s.und]), (19, .box 3 [.int .i64 0]), (20, .box 3 [.int .i64 fail]), (21, .own (sgOwn (.slice A s.acc.length c) (.slice B s.mv.length d) s))] U fun r U' ML =>
      ∃ va' vm' t n, (t, n) = runF (s.mu + 1) fail 0 s ∧ r = .bool true ∧ ML = [(18, .box 28 [va', vm', .int .i64 t.done, .bool t.und]), (19, .box 3 [.int .i64 (n : Nat)]), (20, .box 3 [.int .i64 fail]), (21, .own (sgOwn va' vm' t))] := by
  have hmu := mu_le hg
  have hml : s.mv.length ≤ 20 := (form_parts (good_parts hg).1).2.2.1
  refine BCall.of (args := [.bp 18 0, .bp 19 0, .bp 20 0]) E_ok mix Try.func31 (by kernel_rfl) rfl Try.ntmps31 (Nat.le_of_ble_eq_true rfl) rfl fun F w0 ρ => ?_
  refine J.to 6 [] 18 [(0, .bp 18 0), (1, .bp 19 0), (2, .bp 20 0), (4, .v (.bool false))] [(4, .some false)] [(18, .box 28 [.slice A (List.length (Sg.acc s)) c, .slice B (List.length (Sg.mv s)) d, .int .i64 (Sg.done s), .bool (Sg.und s)]), (19, .box 3 [.int .i64 0]), (20, .box 3 [.int .i64 fail]), (21, .own (sgOwn (.slice A (List.length (Sg.acc s)) c) (.slice B (List.length (Sg.mv s)) d) s))] [(18, .some (ρ 18)), (19, .some (ρ 19)), (20, .some (ρ 20)), (21, .some (ρ 21))] (by kernel_rfl) ?_
  refine J.loopK 18 [(18, some (ρ 18)), (19, some (ρ 19)), (20, some (ρ 20))] (fun x : Nat × Sg × (Option Addr × Nat) × (Option Addr × Nat) => [(0, .bp 18 0), (1, .bp 19 0), (2, .bp 20 0)])
    (fun x => [(18, .box 28 [.slice x.2.2.1.1 x.2.1.acc.length x.2.2.1.2, .slice x.2.2.2.1 x.2.1.mv.length x.2.2.2.2, .int .i64 x.2.1.done, .bool x.2.1.und]), (19, .box 3 [.int .i64 (x.1 : Nat)]), (20, .box 3 [.int .i64 fail]), (21, .own (sgOwn (.slice x.2.2.1.1 x.2.1.acc.length x.2.2.1.2) (.slice x.2.2.2.1 x.2.1.mv.length x.2.2.2.2) x.2.1))])
    (fun x U' => x.2.1.good = true ∧ x.1 + x.2.1.mu ≤ 41 ∧ runF (x.2.1.mu + 1) fail x.1 x.2.1 = runF (s.mu + 1) fail 0 s) (fun x => x.2.1.mu) (0, s, (A, c), (B, d)) ⟨hg, by simp only; omega, rfl⟩ (by kernel_rfl) ?_
  rintro ⟨n, t, ⟨A1, c1⟩, B1, d1⟩ U1 ⟨hg1, hn1, hr1⟩ hx1
  simp only at hg1 hn1 hr1
  have hf1 := (good_parts hg1).1
  refine J.to 7 [] 18 [(0, .bp 18 0), (1, .bp 19 0), (2, .bp 20 0), (7, .v (.bool ((↑n : Int) == fail))), (8, .v (.bool ((↑n : Int) == fail)))] [] [(18, .box 28 [.slice A1 (List.length (Sg.acc t)) c1, .slice B1 (List.length (Sg.mv t)) d1, .int .i64 (Sg.done t), .bool (Sg.und t)]), (19, .box 3 [.int .i64 (↑n : Int)]), (20, .box 3 [.int .i64 fail]), (21, .own (sgOwn (.slice A1 (List.length (Sg.acc t)) c1) (.slice B1 (List.length (Sg.mv t)) d1) t))] [(18, .some (ρ 18)), (19, .some (ρ 19)), (20, .some (ρ 20))] (by kernel_rfl) ?_
  refine J.br rfl rfl (fun h1 => ?_) (fun h1 => ?_)
  · refine J.to 1 [] 18 [(0, .bp 18 0), (1, .bp 19 0), (2, .bp 20 0), (7, .v (.bool ((↑n : Int) == fail))), (8, .v (.bool true)), (9, .bp 18 0)] [(8, .some true)] [(18, .box 28 [.slice A1 (List.length (Sg.acc t)) c1, .slice B1 (List.length (Sg.mv t)) d1, .int .i64 (Sg.done t), .bool (Sg.und t)]), (19, .box 3 [.int .i64 (↑n : Int)]), (20, .box 3 [.int .i64 fail]), (21, .own (sgOwn (.slice A1 (List.length (Sg.acc t)) c1) (.slice B1 (List.length (Sg.mv t)) d1) t))] [(18, .some (ρ 18)), (19, .some (ρ 19)), (20, .some (ρ 20))] (by kernel_rfl) ?_
    refine J.one (Op1.bcall [(22, 18)] (args := [.bp 22 0]) (ML := [(22, .box 28 [.slice A1 t.acc.length c1, .slice B1 t.mv.length d1, .int .i64 t.done, .bool t.und])]) rfl rfl rfl rfl rfl rfl rfl rfl rfl rfl (fun p hp => by simp at hp; subst hp; rfl) (fun p hp => by simp at hp; subst hp; rfl)
      (failM_ok _ B1 d1 t.mv.length t.done t.und U1) fun v U2 ML hx2 ⟨hv, hML⟩ => ?_)
    subst hv; subst hML
    refine J.to 2 [] 18 [(0, .bp 18 0), (1, .bp 19 0), (2, .bp 20 0), (7, .v (.bool ((↑n : Int) == fail))), (12, .v (.bool (!Sg.und t && Sg.done t != (↑(List.length (Sg.mv t)) : Int))))] [] [(18, .box 28 [.slice A1 (List.length (Sg.acc t)) c1, .slice B1 (List.length (Sg.mv t)) d1, .int .i64 (Sg.done t), .bool (!Sg.und t && Sg.done t != (↑(List.length (Sg.mv t)) : Int) || Sg.und t)]), (19, .box 3 [.int .i64 (↑n : Int)]), (20, .box 3 [.int .i64 fail]), (21, .own (sgOwn (.slice A1 (List.length (Sg.acc t)) c1) (.slice B1 (List.length (Sg.mv t)) d1) t))] [(18, .some (ρ 18)), (19, .some (ρ 19)), (20, .some (ρ 20))] (by kernel_rfl) ?_
    refine J.br rfl rfl (fun h2 => ?_) (fun h2 => ?_)
    · rw [h2]
      refine J.to 13 [true] 18 [(0, .bp 18 0), (1, .bp 19 0), (2, .bp 20 0)] [] [(18, .box 28 [.slice A1 (List.length (Sg.acc t)) c1, .slice B1 (List.length (Sg.mv t)) d1, .int .i64 (Sg.done t), .bool (true || Sg.und t)]), (20, .box 3 [.int .i64 fail]), (21, .own (sgOwn (.slice A1 (List.length (Sg.acc t)) c1) (.slice B1 (List.length (Sg.mv t)) d1) t)), (19, .box 3 [.int .i64 (IntKind.wrap .i64 ((↑n : Int) + 1))])] [(18, .some (ρ 18)), (19, .some (ρ 19)), (20, .some (ρ 20))] (by kernel_rfl) ?_
      rw [show IntKind.wrap .i64 ((n : Int) + 1) = ((n + 1 : Nat) : Int) from wr_id (by omega)]
      have e : t.nxt ((n : Int) == fail) = some { t with und := true } := by simp [Sg.nxt, h1, Sg.may, h2]
      have e2 := nxt_good hg1 e
      exact J.againK (n + 1, { t with und := true }, (A1, c1), (B1, d1)) (by kernel_rfl) ⟨e2.1, by have := e2.2; simp only; omega, (runF_some hg1 e).symm.trans hr1⟩ e2.2
    · rw [h2]
      refine J.to 1 [] 18 [(0, .bp 18 0), (1, .bp 19 0), (2, .bp 20 0), (7, .v (.bool ((↑n : Int) == fail))), (12, .v (.bool false)), (13, .bp 18 0)] [(12, .some false)] [(18, .box 28 [.slice A1 (List.length (Sg.acc t)) c1, .slice B1 (List.length (Sg.mv t)) d1, .int .i64 (Sg.done t), .bool (false || Sg.und t)]), (19, .box 3 [.int .i64 (↑n : Int)]), (20, .box 3 [.int .i64 fail]), (21, .own (sgOwn (.slice A1 (List.length (Sg.acc t)) c1) (.slice B1 (List.length (Sg.mv t)) d1) t))] [(18, .some (ρ 18)), (19, .some (ρ 19)), (20, .some (ρ 20))] (by kernel_rfl) ?_
      refine J.one (Op1.bcall [(104, 18), (105, 21)] (args := [.bp 104 0]) (ML := [(104, .box 28 [.slice A1 t.acc.length c1, .slice B1 t.mv.length d1, .int .i64 t.done, .bool t.und]), (105, .own (sgOwn (.slice A1 t.acc.length c1) (.slice B1 t.mv.length d1) t))]) rfl rfl rfl rfl rfl rfl rfl rfl rfl rfl (fun p hp => by simp at hp; rcases hp with rfl | rfl <;> rfl) (fun p hp => by simp at hp; rcases hp with rfl | rfl <;> rfl) (stepM_ok _ _ t U2 hf1) fun v U3 ML hx3 ⟨va3, vm3, hv, hML⟩ => ?_)
      subst hv; subst hML
      refine J.own' (α := ∃ x : Option Addr × Nat × Option Addr × Nat, va3 = .slice x.1 t.step.1.acc.length x.2.1 ∧ vm3 = .slice x.2.2.1 t.step.1.mv.length x.2.2.2) (p' := fun _ => sgOwn va3 vm3 t.step.1) 21 rfl (fun h h1 => ⟨sgOwn_slice h1, h1⟩) ?_
      rintro ⟨⟨A3, c3, B3, d3⟩, rfl, rfl⟩
      dsimp only
      refine J.to 2 [] 18 [(0, .bp 18 0), (1, .bp 19 0), (2, .bp 20 0), (15, .v (.bool (Prod.snd (Sg.step t))))] [] [(18, .box 28 [.slice A3 (List.length (Sg.acc (Prod.fst (Sg.step t)))) c3, .slice B3 (List.length (Sg.mv (Prod.fst (Sg.step t)))) d3, .int .i64 (Sg.done (Prod.fst (Sg.step t))), .bool (Sg.und (Prod.fst (Sg.step t)))]), (19, .box 3 [.int .i64 (↑n : Int)]), (20, .box 3 [.int .i64 fail]), (21, .own (sgOwn (.slice A3 (List.length (Sg.acc (Prod.fst (Sg.step t)))) c3) (.slice B3 (List.length (Sg.mv (Prod.fst (Sg.step t)))) d3) (Prod.fst (Sg.step t))))] [(18, .some (ρ 18)), (19, .some (ρ 19)), (20, .some (ρ 20))] (by kernel_rfl) ?_
      have hno : ((n : Int) == fail && t.may) = false := by simp [Sg.may, h1, h2]
      refine J.br rfl rfl (fun h3 => ?_) (fun h3 => ?_)
      · refine J.to 9 [true] 18 [(0, .bp 18 0), (1, .bp 19 0), (2, .bp 20 0)] [] [(18, .box 28 [.slice A3 (List.length (Sg.acc (Prod.fst (Sg.step t)))) c3, .slice B3 (List.length (Sg.mv (Prod.fst (Sg.step t)))) d3, .int .i64 (Sg.done (Prod.fst (Sg.step t))), .bool (Sg.und (Prod.fst (Sg.step t)))]), (20, .box 3 [.int .i64 fail]), (21, .own (sgOwn (.slice A3 (List.length (Sg.acc (Prod.fst (Sg.step t)))) c3) (.slice B3 (List.length (Sg.mv (Prod.fst (Sg.step t)))) d3) (Prod.fst (Sg.step t)))), (19, .box 3 [.int .i64 (IntKind.wrap .i64 ((↑n : Int) + 1))])] [(18, .some (ρ 18)), (19, .some (ρ 19)), (20, .some (ρ 20))] (by kernel_rfl) ?_
        rw [show IntKind.wrap .i64 ((n : Int) + 1) = ((n + 1 : Nat) : Int) from wr_id (by omega)]
        have e : t.nxt ((n : Int) == fail) = some t.step.1 := by simp [Sg.nxt, hno, h3]
        have e2 := nxt_good hg1 e
        exact J.againK (n + 1, t.step.1, (A3, c3), (B3, d3)) (by kernel_rfl) ⟨e2.1, by have := e2.2; simp only; omega, (runF_some hg1 e).symm.trans hr1⟩ e2.2
      · refine J.to 6 [false] 18 [(4, .v (.bool true))] [(4, .some true)] [(18, .box 28 [.slice A3 (List.length (Sg.acc (Prod.fst (Sg.step t)))) c3, .slice B3 (List.length (Sg.mv (Prod.fst (Sg.step t)))) d3, .int .i64 (Sg.done (Prod.fst (Sg.step t))), .bool (Sg.und (Prod.fst (Sg.step t)))]), (19, .box 3 [.int .i64 (↑n : Int)]), (20, .box 3 [.int .i64 fail]), (21, .own (sgOwn (.slice A3 (List.length (Sg.acc (Prod.fst (Sg.step t)))) c3) (.slice B3 (List.length (Sg.mv (Prod.fst (Sg.step t)))) d3) (Prod.fst (Sg.step t))))] [(18, .some (ρ 18)), (19, .some (ρ 19)), (20, .some (ρ 20))] (by kernel_rfl) ?_
        have e : t.nxt ((n : Int) == fail) = none := by simp [Sg.nxt, hno, h3]
        have e1 : t.step.1 = t := by
          have h3 : t.step.2 = false := h3
          unfold Sg.step at h3 ⊢
          repeat' split at h3
          all_goals first | (cases h3; done) | rfl | skip
          all_goals simp_all
        rw [runF_none e] at hr1
        refine J.retB [(18, .box 28 [.slice A3 t.step.1.acc.length c3, .slice B3 t.step.1.mv.length d3, .int .i64 t.step.1.done, .bool t.step.1.und]), (19, .box 3 [.int .i64 (n : Nat)]), (20, .box 3 [.int .i64 fail]), (21, .own (sgOwn (.slice A3 t.step.1.acc.length c3) (.slice B3 t.step.1.mv.length d3) t.step.1))] rfl
          ⟨⟨rfl, .inl rfl⟩, ⟨rfl, .inl rfl⟩, ⟨rfl, .inl rfl⟩, ⟨rfl, .inr ⟨_, rfl⟩⟩, trivial⟩ ⟨_, _, t.step.1, n, by rw [e1]; exact hr1, rfl, rfl⟩
  · refine J.to 5 [] 18 [(0, .bp 18 0), (1, .bp 19 0), (2, .bp 20 0), (7, .v (.bool ((↑n : Int) == fail))), (12, .v (.bool false)), (13, .bp 18 0)] [(12, .some false)] [(18, .box 28 [.slice A1 (List.length (Sg.acc t)) c1, .slice B1 (List.length (Sg.mv t)) d1, .int .i64 (Sg.done t), .bool (Sg.und t)]), (19, .box 3 [.int .i64 (↑n : Int)]), (20, .box 3 [.int .i64 fail]), (21, .own (sgOwn (.slice A1 (List.length (Sg.acc t)) c1) (.slice B1 (List.length (Sg.mv t)) d1) t))] [(18, .some (ρ 18)), (19, .some (ρ 19)), (20, .some (ρ 20))] (by kernel_rfl) ?_
    refine J.one (Op1.bcall [(104, 18), (105, 21)] (args := [.bp 104 0]) (ML := [(104, .box 28 [.slice A1 t.acc.length c1, .slice B1 t.mv.length d1, .int .i64 t.done, .bool t.und]), (105, .own (sgOwn (.slice A1 t.acc.length c1) (.slice B1 t.mv.length d1) t))]) rfl rfl rfl rfl rfl rfl rfl rfl rfl rfl (fun p hp => by simp at hp; rcases hp with rfl | rfl <;> rfl) (fun p hp => by simp at hp; rcases hp with rfl | rfl <;> rfl) (stepM_ok _ _ t U1 hf1) fun v U3 ML hx3 ⟨va3, vm3, hv, hML⟩ => ?_)
    subst hv; subst hML
    refine J.own' (α := ∃ x : Option Addr × Nat × Option Addr × Nat, va3 = .slice x.1 t.step.1.acc.length x.2.1 ∧ vm3 = .slice x.2.2.1 t.step.1.mv.length x.2.2.2) (p' := fun _ => sgOwn va3 vm3 t.step.1) 21 rfl (fun h h1 => ⟨sgOwn_slice h1, h1⟩) ?_
    rintro ⟨⟨A3, c3, B3, d3⟩, rfl, rfl⟩
    dsimp only
    refine J.to 2 [] 18 [(0, .bp 18 0), (1, .bp 19 0), (2, .bp 20 0), (15, .v (.bool (Prod.snd (Sg.step t))))] [] [(18, .box 28 [.slice A3 (List.length (Sg.acc (Prod.fst (Sg.step t)))) c3, .slice B3 (List.length (Sg.mv (Prod.fst (Sg.step t)))) d3, .int .i64 (Sg.done (Prod.fst (Sg.step t))), .bool (Sg.und (Prod.fst (Sg.step t)))]), (19, .box 3 [.int .i64 (↑n : Int)]), (20, .box 3 [.int .i64 fail]), (21, .own (sgOwn (.slice A3 (List.length (Sg.acc (Prod.fst (Sg.step t)))) c3) (.slice B3 (List.length (Sg.mv (Prod.fst (Sg.step t)))) d3) (Prod.fst (Sg.step t))))] [(18, .some (ρ 18)), (19, .some (ρ 19)), (20, .some (ρ 20))] (by kernel_rfl) ?_
    have hno : ((n : Int) == fail && t.may) = false := by simp [Sg.may, h1]
    refine J.br rfl rfl (fun h3 => ?_) (fun h3 => ?_)
    · refine J.to 9 [true] 18 [(0, .bp 18 0), (1, .bp 19 0), (2, .bp 20 0)] [] [(18, .box 28 [.slice A3 (List.length (Sg.acc (Prod.fst (Sg.step t)))) c3, .slice B3 (List.length (Sg.mv (Prod.fst (Sg.step t)))) d3, .int .i64 (Sg.done (Prod.fst (Sg.step t))), .bool (Sg.und (Prod.fst (Sg.step t)))]), (20, .box 3 [.int .i64 fail]), (21, .own (sgOwn (.slice A3 (List.length (Sg.acc (Prod.fst (Sg.step t)))) c3) (.slice B3 (List.length (Sg.mv (Prod.fst (Sg.step t)))) d3) (Prod.fst (Sg.step t)))), (19, .box 3 [.int .i64 (IntKind.wrap .i64 ((↑n : Int) + 1))])] [(18, .some (ρ 18)), (19, .some (ρ 19)), (20, .some (ρ 20))] (by kernel_rfl) ?_
      rw [show IntKind.wrap .i64 ((n : Int) + 1) = ((n + 1 : Nat) : Int) from wr_id (by omega)]
      have e : t.nxt ((n : Int) == fail) = some t.step.1 := by simp [Sg.nxt, hno, h3]
      have e2 := nxt_good hg1 e
      exact J.againK (n + 1, t.step.1, (A3, c3), (B3, d3)) (by kernel_rfl) ⟨e2.1, by have := e2.2; simp only; omega, (runF_some hg1 e).symm.trans hr1⟩ e2.2
    · refine J.to 6 [false] 18 [(4, .v (.bool true))] [(4, .some true)] [(18, .box 28 [.slice A3 (List.length (Sg.acc (Prod.fst (Sg.step t)))) c3, .slice B3 (List.length (Sg.mv (Prod.fst (Sg.step t)))) d3, .int .i64 (Sg.done (Prod.fst (Sg.step t))), .bool (Sg.und (Prod.fst (Sg.step t)))]), (19, .box 3 [.int .i64 (↑n : Int)]), (20, .box 3 [.int .i64 fail]), (21, .own (sgOwn (.slice A3 (List.length (Sg.acc (Prod.fst (Sg.step t)))) c3) (.slice B3 (List.length (Sg.mv (Prod.fst (Sg.step t)))) d3) (Prod.fst (Sg.step t))))] [(18, .some (ρ 18)), (19, .some (ρ 19)), (20, .some (ρ 20))] (by kernel_rfl) ?_
      have e : t.nxt ((n : Int) == fail) = none := by simp [Sg.nxt, hno, h3]
      have e1 : t.step.1 = t := by
        have h3 : t.step.2 = false := h3
        unfold Sg.step at h3 ⊢
        repeat' split at h3
        all_goals first | (cases h3; done) | rfl | skip
        all_goals simp_all
      rw [runF_none e] at hr1
      refine J.retB [(18, .box 28 [.slice A3 t.step.1.acc.length c3, .slice B3 t.step.1.mv.length d3, .int .i64 t.step.1.done, .bool t.step.1.und]), (19, .box 3 [.int .i64 (n : Nat)]), (20, .box 3 [.int .i64 fail]), (21, .own (sgOwn (.slice A3 t.step.1.acc.length c3) (.slice B3 t.step.1.mv.length d3) t.step.1))] rfl
        ⟨⟨rfl, .inl rfl⟩, ⟨rfl, .inl rfl⟩, ⟨rfl, .inl rfl⟩, ⟨rfl, .inr ⟨_, rfl⟩⟩, trivial⟩ ⟨_, _, t.step.1, n, by rw [e1]; exact hr1, rfl, rfl⟩

theorem changedRun_ok (va vm : Value) (s : Sg) (fail : Int) (U : Hp) (ha : Rd rInt U va s.acc) (hm : Rd rMv U vm s.mv) (hb : s.acc.length < 2^40) (hb2 : s.mv.length < 2^40) :
    BCall Try.prog 30 [.v (.agg #[va, vm, .int .i64 s.done, .bool s.und]), .clo 31 [18, 19]] [(18, .box 3 [.int .i64 0]), (19, .box 3 [.int .i64 fail])] U fun r U' ML => ∃ va' vm', r = .tuple #[.agg #[va', vm', .int .i64 (runS s fail).1.done, .bool (runS s fail).1.und], .bool (runS s fail).2.2] ∧
      ML = [(18, .box 3 [.int .i64 ((runS s fail).2.1 : Nat)]), (19, .box 3 [.int .i64 fail]), (20, .own (sgOwn va' vm' (runS s fail).1))] := by
  refine BCall.of (args := [.v (.agg #[va, vm, .int .i64 s.done, .bool s.und]), .clo 31 [18, 19]]) E_ok mix Try.func30 (by kernel_rfl) rfl Try.ntmps30 (Nat.le_of_ble_eq_true rfl) rfl fun F w0 ρ => ?_
  refine J.to 10 [] 18 [(1, .clo 31 [18, 19]), (2, .bp 2 0), (4, .bp 4 0), (5, .v (.bool false)), (7, .v (.agg (Array.mk [va, vm, .int .i64 (Sg.done s), .bool (Sg.und s)])))] [(5, .some false)] [(18, .box 3 [.int .i64 0]), (19, .box 3 [.int .i64 fail]), (2, .box 28 [va, vm, .int .i64 (Sg.done s), .bool (Sg.und s)]), (4, .box 28 [.slice .none 0 0, .slice .none 0 0, .int .i64 0, .bool false])] [(18, .some (ρ 18)), (19, .some (ρ 19))] (by kernel_rfl) ?_
  refine J.one (Op1.call rfl rfl rfl rfl rfl rfl rfl rfl (implGood_ok va vm s U ha hm hb hb2) fun v U1 hx1 hv => ?_); subst hv
  refine J.to 2 [] 18 [(1, .clo 31 [18, 19]), (2, .bp 2 0), (4, .bp 4 0), (5, .v (.bool false)), (9, .v (.bool !Sg.good s))] [(5, .some false)] [(2, .box 28 [va, vm, .int .i64 (Sg.done s), .bool (Sg.und s)]), (4, .box 28 [.slice .none 0 0, .slice .none 0 0, .int .i64 0, .bool false]), (18, .box 3 [.int .i64 0]), (19, .box 3 [.int .i64 fail])] [(18, .some (ρ 18)), (19, .some (ρ 19))] (by kernel_rfl) ?_
  refine J.br rfl rfl (fun h1 => ?_) (fun h1 => ?_)
  · refine J.to 7 [true] 18 [(1, .clo 31 [18, 19]), (2, .bp 2 0), (4, .bp 4 0), (5, .v (.bool false))] [(5, .some false)] [(2, .box 28 [va, vm, .int .i64 (Sg.done s), .bool (Sg.und s)]), (18, .box 3 [.int .i64 0]), (19, .box 3 [.int .i64 fail]), (4, .box 28 [.slice .none 0 0, .slice .none 0 0, .int .i64 0, .bool false])] [(18, .some (ρ 18)), (19, .some (ρ 19))] (by kernel_rfl) ?_
    have h1 : s.good = false := by simpa using h1
    have e : runS s fail = (Sg.zero, 0, false) := by simp [runS, h1]
    rw [e]
    refine J.give 20 (p := sgOwn (.slice none 0 0) (.slice none 0 0) Sg.zero) rfl zeroOwn ?_
    exact J.retB [(18, .box 3 [.int .i64 0]), (19, .box 3 [.int .i64 fail]), (20, .own (sgOwn (.slice none 0 0) (.slice none 0 0) Sg.zero))] rfl ⟨⟨rfl, .inl rfl⟩, ⟨rfl, .inl rfl⟩, ⟨rfl, .inr ⟨_, rfl⟩⟩, trivial⟩ ⟨_, _, rfl, rfl⟩
  have h1 : s.good = true := by simpa using h1
  refine J.to 5 [false] 18 [(1, .clo 31 [18, 19]), (4, .bp 4 0), (5, .v (.bool false)), (11, .v (.agg (Array.mk [va, vm, .int .i64 (Sg.done s), .bool (Sg.und s)])))] [(5, .some false)] [(2, .box 28 [va, vm, .int .i64 (Sg.done s), .bool (Sg.und s)]), (4, .box 28 [.slice .none 0 0, .slice .none 0 0, .int .i64 0, .bool false]), (18, .box 3 [.int .i64 0]), (19, .box 3 [.int .i64 fail])] [(18, .some (ρ 18)), (19, .some (ρ 19))] (by kernel_rfl) ?_
  refine J.one (Op1.ocall rfl rfl rfl rfl rfl rfl rfl (cloneSaga_ok va vm s U1 (ha.mono hx1) (hm.mono hx1) hb hb2) fun v U2 hx2 => ?_)
  refine J.sg 12 rfl fun A2 c2 B2 d2 e => ?_
  subst e
  refine J.to 7 [] 18 [(4, .bp 4 0), (5, .v (.bool false)), (6, .bp 6 0), (13, .clo 31 [18, 19])] [(5, .some false)] [(2, .box 28 [va, vm, .int .i64 (Sg.done s), .bool (Sg.und s)]), (4, .box 28 [.slice .none 0 0, .slice .none 0 0, .int .i64 0, .bool false]), (12, .own (sgOwn (.slice A2 (List.length (Sg.acc s)) c2) (.slice B2 (List.length (Sg.mv s)) d2) s)), (18, .box 3 [.int .i64 0]), (19, .box 3 [.int .i64 fail]), (6, .box 28 [.slice A2 (List.length (Sg.acc s)) c2, .slice B2 (List.length (Sg.mv s)) d2, .int .i64 (Sg.done s), .bool (Sg.und s)])] [(18, .some (ρ 18)), (19, .some (ρ 19))] (by kernel_rfl) ?_
  refine J.one (Op1.bcall [(18, 6), (19, 18), (20, 19), (21, 12)] (args := [.bp 18 0, .bp 19 0, .bp 20 0]) (ML := [(18, .box 28 [.slice A2 s.acc.length c2, .slice B2 s.mv.length d2, .int .i64 s.done, .bool s.und]), (19, .box 3 [.int .i64 0]), (20, .box 3 [.int .i64 fail]), (21, .own (sgOwn (.slice A2 s.acc.length c2) (.slice B2 s.mv.length d2) s))]) rfl rfl rfl rfl rfl rfl rfl rfl rfl rfl (fun p hp => by simp at hp; rcases hp with rfl | rfl | rfl | rfl <;> rfl) (fun p hp => by simp at hp; rcases hp with rfl | rfl | rfl | rfl <;> rfl)
    (run31_ok A2 c2 B2 d2 s fail U2 h1) fun v U3 ML hx3 ⟨va3, vm3, t, n, hr, hv, hML⟩ => ?_)
  subst hv; subst hML
  refine J.own' (α := ∃ x : Option Addr × Nat × Option Addr × Nat, va3 = .slice x.1 t.acc.length x.2.1 ∧ vm3 = .slice x.2.2.1 t.mv.length x.2.2.2) (p' := fun _ => sgOwn va3 vm3 t) 12 rfl (fun h h1 => ⟨sgOwn_slice h1, h1⟩) ?_
  rintro ⟨⟨A3, c3, B3, d3⟩, rfl, rfl⟩
  dsimp only
  refine J.to 10 [false] 18 [(4, .bp 4 0), (5, .v (.bool true))] [(5, .some true)] [(12, .own (sgOwn (.slice A3 (List.length (Sg.acc t)) c3) (.slice B3 (List.length (Sg.mv t)) d3) t)), (18, .box 3 [.int .i64 (↑n : Int)]), (19, .box 3 [.int .i64 fail]), (4, .box 28 [.slice A3 (List.length (Sg.acc t)) c3, .slice B3 (List.length (Sg.mv t)) d3, .int .i64 (Sg.done t), .bool (Sg.und t)])] [(18, .some (ρ 18)), (19, .some (ρ 19))] (by kernel_rfl) ?_
  have e : runS s fail = (t, n, true) := by simp only [runS, h1, if_true, ← hr]
  rw [e]
  refine J.own (k := 12) (k' := 20) (p' := sgOwn (.slice A3 t.acc.length c3) (.slice B3 t.mv.length d3) t) rfl (.inr rfl) (fun _ h => h) ?_
  exact J.retB [(18, .box 3 [.int .i64 (n : Nat)]), (19, .box 3 [.int .i64 fail]), (20, .own (sgOwn (.slice A3 t.acc.length c3) (.slice B3 t.mv.length d3) t))] rfl ⟨⟨rfl, .inl rfl⟩, ⟨rfl, .inl rfl⟩, ⟨rfl, .inr ⟨_, rfl⟩⟩, trivial⟩ ⟨_, _, rfl, rfl⟩

theorem implRun_ok (va vm : Value) (s : Sg) (fail : Int) (U : Hp) (ha : Rd rInt U va s.acc) (hm : Rd rMv U vm s.mv) (hb : s.acc.length < 2^40) (hb2 : s.mv.length < 2^40) :
    OCall Try.prog 10 #[.agg #[va, vm, .int .i64 s.done, .bool s.und], .int .i64 fail] U fun r U' L => ∃ va' vm', r = .tuple #[.agg #[va', vm', .int .i64 (runS s fail).1.done, .bool (runS s fail).1.und], .int .i64 ((runS s fail).2.1 : Nat), .bool (runS s fail).2.2] ∧ sgOwn va' vm' (runS s fail).1 L := by
  refine OCall.of (args := [.agg #[va, vm, .int .i64 s.done, .bool s.und], .int .i64 fail]) E_ok mix Try.func10 (by kernel_rfl) rfl Try.ntmps10 (Nat.le_of_ble_eq_true rfl) fun F w0 => ?_
  refine J.to 17 [] 21 [(4, .bp 4 0), (5, .v (.int .i64 0)), (6, .v (.bool false)), (7, .bp 7 0), (11, .v (.agg (Array.mk [va, vm, .int .i64 (Sg.done s), .bool (Sg.und s)]))), (12, .clo 31 [7, 3])] [(6, .some false)] [(2, .box 28 [va, vm, .int .i64 (Sg.done s), .bool (Sg.und s)]), (3, .box 3 [.int .i64 fail]), (4, .box 28 [.slice .none 0 0, .slice .none 0 0, .int .i64 0, .bool false]), (7, .box 3 [.int .i64 0])] [] (by kernel_rfl) ?_
  refine J.one (Op1.bcall [(18, 7), (19, 3), (20, 13)] (args := [.v _, .clo 31 [18, 19]]) (ML := [(18, .box 3 [.int .i64 0]), (19, .box 3 [.int .i64 fail])]) rfl rfl rfl rfl rfl rfl rfl rfl rfl rfl (fun p hp => by simp at hp; rcases hp with rfl | rfl | rfl <;> rfl) (fun p hp => by simp at hp; rcases hp with rfl | rfl <;> rfl)
    (changedRun_ok va vm s fail U ha hm hb hb2) fun v U1 ML hx1 ⟨va3, vm3, hv, hML⟩ => ?_)
  subst hv; subst hML
  have hnn : (runS s fail).2.2 = false → runS s fail = (Sg.zero, 0, false) := by
    unfold runS; split <;> simp
  generalize runS s fail = t at *
  obtain ⟨t, n, ok⟩ := t
  refine J.own' (α := ∃ x : Option Addr × Nat × Option Addr × Nat, va3 = .slice x.1 t.acc.length x.2.1 ∧ vm3 = .slice x.2.2.1 t.mv.length x.2.2.2) (p' := fun _ => sgOwn va3 vm3 t) 13 rfl (fun h h1 => ⟨sgOwn_slice h1, h1⟩) ?_
  rintro ⟨⟨A3, c3, B3, d3⟩, rfl, rfl⟩
  dsimp only
  refine J.to 13 [] 21 [(4, .bp 4 0), (5, .v (.int .i64 0)), (6, .v (.bool false)), (7, .bp 7 0), (8, .bp 8 0), (17, .v (.bool !ok))] [(6, .some false)] [(4, .box 28 [.slice .none 0 0, .slice .none 0 0, .int .i64 0, .bool false]), (7, .box 3 [.int .i64 (↑n : Int)]), (13, .own (sgOwn (.slice A3 (List.length (Sg.acc t)) c3) (.slice B3 (List.length (Sg.mv t)) d3) t)), (8, .box 28 [.slice A3 (List.length (Sg.acc t)) c3, .slice B3 (List.length (Sg.mv t)) d3, .int .i64 (Sg.done t), .bool (Sg.und t)])] [] (by kernel_rfl) ?_
  refine J.br rfl rfl (fun h1 => ?_) (fun h1 => ?_)
  · refine J.to 8 [true] 21 [(4, .bp 4 0), (7, .bp 7 0), (8, .bp 8 0), (5, .v (.int .i64 0)), (6, .v (.bool false))] [(6, .some false)] [(7, .box 3 [.int .i64 (↑n : Int)]), (8, .box 28 [.slice A3 (List.length (Sg.acc t)) c3, .slice B3 (List.length (Sg.mv t)) d3, .int .i64 (Sg.done t), .bool (Sg.und t)]), (13, .own (sgOwn (.slice A3 (List.length (Sg.acc t)) c3) (.slice B3 (List.length (Sg.mv t)) d3) t)), (4, .box 28 [.slice .none 0 0, .slice .none 0 0, .int .i64 0, .bool false])] [] (by kernel_rfl) ?_
    have h1 : ok = false := by simpa using h1
    have e := hnn h1
    simp only [Prod.mk.injEq] at e
    obtain ⟨rfl, rfl, rfl⟩ := e
    exact J.ret ⟨_, rfl, .inl ⟨_, _, rfl, zeroOwn⟩⟩
  · refine J.to 3 [false] 21 [(4, .bp 4 0), (5, .v (.int .i64 0)), (6, .v (.bool false)), (7, .bp 7 0), (8, .bp 8 0)] [(6, .some false)] [(4, .box 28 [.slice .none 0 0, .slice .none 0 0, .int .i64 0, .bool false]), (7, .box 3 [.int .i64 (↑n : Int)]), (8, .box 28 [.slice A3 (List.length (Sg.acc t)) c3, .slice B3 (List.length (Sg.mv t)) d3, .int .i64 (Sg.done t), .bool (Sg.und t)]), (13, .own (sgOwn (.slice A3 (List.length (Sg.acc t)) c3) (.slice B3 (List.length (Sg.mv t)) d3) t))] [] (by kernel_rfl) ?_
    have h1 : ok = true := by simpa using h1
    subst h1
    refine J.any [8, 7] [] [] trivial fun ρ1 _ => ?_
    refine J.takeTo true [0, 1] 3 21 [(4, .bp 4 0), (5, .v (.int .i64 0)), (6, .v (.bool false)), (7, .bp 7 0), (8, .bp 8 0), (19, .v (.agg (Array.mk [.slice A3 (List.length (Sg.acc t)) c3, .slice B3 (List.length (Sg.mv t)) d3, .int .i64 (Sg.done t), .bool (Sg.und t)]))), (20, .v (.int .i64 (↑n : Int)))] [(6, .some false)] [(4, .box 28 [.slice .none 0 0, .slice .none 0 0, .int .i64 0, .bool false]), (7, .box 3 [.int .i64 (↑n : Int)]), (8, .box 28 [.slice A3 (List.length (Sg.acc t)) c3, .slice B3 (List.length (Sg.mv t)) d3, .int .i64 (Sg.done t), .bool (Sg.und t)]), (13, .own (sgOwn (.slice A3 (List.length (Sg.acc t)) c3) (.slice B3 (List.length (Sg.mv t)) d3) t))] [(4, .some (ρ1 4)), (7, .some (ρ1 7)), (8, .some (ρ1 8)), (13, .some (ρ1 13))] (by first | exact Ext.refl _ | assumption | exact Ext.trans (by assumption) (by assumption) | exact Ext.trans (by assumption) (Ext.trans (by assumption) (by assumption))) (fun h => rfl) ⟨⟨rfl, rfl⟩, ⟨⟨rfl, rfl⟩, trivial⟩⟩ rfl (by kernel_rfl) ?_
    refine J.aone (i := 2) (by kernel_rfl) (Op1.step rfl rfl rfl ⟨fun _ => ⟨Ext.refl _, ⟨rfl, rfl⟩, ⟨rfl, rfl⟩, trivial⟩, ?_⟩)
    refine J.takeTo true [3, 4] 0 21 [(4, .bp 4 0), (7, .bp 7 0), (8, .bp 8 0), (19, .v (.agg (Array.mk [.slice A3 (List.length (Sg.acc t)) c3, .slice B3 (List.length (Sg.mv t)) d3, .int .i64 (Sg.done t), .bool (Sg.und t)]))), (20, .v (.int .i64 (↑n : Int))), (5, .v (.int .i64 (↑n : Int))), (6, .v (.bool true))] [(6, .some true)] [(4, .box 28 [.slice A3 (List.length (Sg.acc t)) c3, .slice B3 (List.length (Sg.mv t)) d3, .int .i64 (Sg.done t), .bool (Sg.und t)]), (7, .box 3 [.int .i64 (↑n : Int)]), (8, .box 28 [.slice A3 (List.length (Sg.acc t)) c3, .slice B3 (List.length (Sg.mv t)) d3, .int .i64 (Sg.done t), .bool (Sg.und t)]), (13, .own (sgOwn (.slice A3 (List.length (Sg.acc t)) c3) (.slice B3 (List.length (Sg.mv t)) d3) t))] [(4, .some (ρ1 4)), (7, .some (ρ1 7)), (8, .some (ρ1 8)), (13, .some (ρ1 13))] (by first | exact Ext.refl _ | assumption | exact Ext.trans (by assumption) (by assumption) | exact Ext.trans (by assumption) (Ext.trans (by assumption) (by assumption))) (fun h => rfl) ⟨⟨rfl, rfl⟩, ⟨⟨rfl, rfl⟩, trivial⟩⟩ rfl (by kernel_rfl) ?_
    refine J.adone' (by kernel_rfl) ?_
    refine J.to 0 [] 21 [(4, .bp 4 0), (5, .v (.int .i64 (↑n : Int))), (6, .v (.bool true))] [(6, .some true)] [(4, .box 28 [.slice A3 (List.length (Sg.acc t)) c3, .slice B3 (List.length (Sg.mv t)) d3, .int .i64 (Sg.done t), .bool (Sg.und t)]), (7, .box 3 [.int .i64 (↑n : Int)]), (8, .box 28 [.slice A3 (List.length (Sg.acc t)) c3, .slice B3 (List.length (Sg.mv t)) d3, .int .i64 (Sg.done t), .bool (Sg.und t)]), (13, .own (sgOwn (.slice A3 (List.length (Sg.acc t)) c3) (.slice B3 (List.length (Sg.mv t)) d3) t))] [(4, .some (ρ1 4)), (7, .some (ρ1 7)), (8, .some (ρ1 8)), (13, .some (ρ1 13))] (by kernel_rfl) ?_
    exact J.ret ⟨_, rfl, .inr ⟨13, _, rfl, fun L hL => ⟨.slice A3 t.acc.length c3, .slice B3 t.mv.length d3, rfl, hL⟩⟩⟩
end Go.Rx
end

section
open Go Go.Rx Go.Proofs
set_option maxHeartbeats 1000000
namespace Go.Rx
def failS (s : Sg) : Sg × Bool := if s.good && s.may then ({ s with und := true }, true) else (Sg.zero, false)
theorem specFail_ok (va vm : Value) (s : Sg) (U : Hp) (ha : Rd rInt U va s.acc) (hm : Rd rMv U vm s.mv) (hb : s.acc.length < 2^40) (hb2 : s.mv.length < 2^40) :
    PCall Try.prog 59 #[.agg #[va, vm, .int .i64 s.done, .bool s.und]] U fun r U' => ∃ va' vm', r = .tuple #[.agg #[va', vm', .int .i64 (failS s).1.done, .bool (failS s).1.und], .bool (failS s).2] ∧ Rd rInt U' va' (failS s).1.acc ∧ Rd rMv U' vm' (failS s).1.mv := by
  obtain ⟨B, c, rfl, hc, hB⟩ := hm
  obtain ⟨A, ca, rfl, hca, hA⟩ := ha
  refine OCall.of (args := [.agg #[.slice A s.acc.length ca, .slice B s.mv.length c, .int .i64 s.done, .bool s.und]]) E_ok mix Try.func59 (by kernel_rfl) rfl Try.ntmps59 (Nat.le_of_ble_eq_true rfl) fun F w0 => ?_
  have zero : ∀ U' : Hp, failS s = (Sg.zero, false) → ∃ va' vm', Value.tuple #[.agg #[.slice none 0 0, .slice none 0 0, .int .i64 0, .bool false], .bool false] = .tuple #[.agg #[va', vm', .int .i64 (failS s).1.done, .bool (failS s).1.und], .bool (failS s).2] ∧ Rd rInt U' va' (failS s).1.acc ∧ Rd rMv U' vm' (failS s).1.mv := by
    intro U' e
    rw [e]
    exact ⟨_, _, rfl, ⟨none, 0, rfl, Nat.le_refl _, .inl rfl⟩, ⟨none, 0, rfl, Nat.le_refl _, .inl rfl⟩⟩
  refine J.to 10 [] 24 [(1, .bp 1 0), (2, .bp 2 0), (3, .v (.bool false)), (4, .v (.agg (Array.mk [.slice A (List.length (Sg.acc s)) ca, .slice B (List.length (Sg.mv s)) c, .int .i64 (Sg.done s), .bool (Sg.und s)])))] [(3, .some false)] [(1, .box 28 [.slice A (List.length (Sg.acc s)) ca, .slice B (List.length (Sg.mv s)) c, .int .i64 (Sg.done s), .bool (Sg.und s)]), (2, .box 28 [.slice .none 0 0, .slice .none 0 0, .int .i64 0, .bool false])] [] (by kernel_rfl) ?_
  refine J.one (Op1.call rfl rfl rfl rfl rfl rfl rfl rfl (specGood_ok _ _ s U ⟨A, ca, rfl, hca, hA⟩ ⟨B, c, rfl, hc, hB⟩ hb hb2) fun v U1 hx1 hv => ?_); subst hv
  refine J.to 2 [] 24 [(1, .bp 1 0), (2, .bp 2 0), (3, .v (.bool false)), (7, .v (.bool !Sg.good s))] [(3, .some false)] [(1, .box 28 [.slice A (List.length (Sg.acc s)) ca, .slice B (List.length (Sg.mv s)) c, .int .i64 (Sg.done s), .bool (Sg.und s)]), (2, .box 28 [.slice .none 0 0, .slice .none 0 0, .int .i64 0, .bool false])] [] (by kernel_rfl) ?_
  refine J.br rfl rfl (fun h1 => ?_) (fun h1 => ?_)
  · refine J.to 19 [true] 24 [(1, .bp 1 0), (2, .bp 2 0), (3, .v (.bool false))] [(3, .some false)] [(1, .box 28 [.slice A (List.length (Sg.acc s)) ca, .slice B (List.length (Sg.mv s)) c, .int .i64 (Sg.done s), .bool (Sg.und s)]), (2, .box 28 [.slice .none 0 0, .slice .none 0 0, .int .i64 0, .bool false])] [] (by kernel_rfl) ?_
    have h1 : s.good = false := by simpa using h1
    exact J.ret ⟨_, rfl, .inl (zero _ (by simp [failS, h1]))⟩
  have h1 : s.good = true := by simpa using h1
  refine J.to 4 [] 24 [(1, .bp 1 0), (2, .bp 2 0), (3, .v (.bool false)), (7, .v (.bool false)), (11, .v (.bool (Sg.und s)))] [(3, .some false), (7, .some false)] [(1, .box 28 [.slice A (List.length (Sg.acc s)) ca, .slice B (List.length (Sg.mv s)) c, .int .i64 (Sg.done s), .bool (Sg.und s)]), (2, .box 28 [.slice .none 0 0, .slice .none 0 0, .int .i64 0, .bool false])] [] (by kernel_rfl) ?_
  refine J.br rfl rfl (fun h2 => ?_) (fun h2 => ?_)
  · refine J.to 15 [true] 24 [(1, .bp 1 0), (2, .bp 2 0), (3, .v (.bool false))] [(3, .some false)] [(1, .box 28 [.slice A (List.length (Sg.acc s)) ca, .slice B (List.length (Sg.mv s)) c, .int .i64 (Sg.done s), .bool (Sg.und s)]), (2, .box 28 [.slice .none 0 0, .slice .none 0 0, .int .i64 0, .bool false])] [] (by kernel_rfl) ?_
    exact J.ret ⟨_, rfl, .inl (zero _ (by simp [failS, Sg.may, h2]))⟩
  refine J.to 8 [] 24 [(1, .bp 1 0), (2, .bp 2 0), (3, .v (.bool false)), (18, .v (.bool (Sg.done s == (↑(List.length (Sg.mv s)) : Int))))] [(3, .some false)] [(1, .box 28 [.slice A (List.length (Sg.acc s)) ca, .slice B (List.length (Sg.mv s)) c, .int .i64 (Sg.done s), .bool (Sg.und s)]), (2, .box 28 [.slice .none 0 0, .slice .none 0 0, .int .i64 0, .bool false])] [] (by kernel_rfl) ?_
  refine J.br rfl rfl (fun h3 => ?_) (fun h3 => ?_)
  · refine J.to 7 [true] 24 [(1, .bp 1 0), (2, .bp 2 0), (3, .v (.bool false))] [(3, .some false)] [(1, .box 28 [.slice A (List.length (Sg.acc s)) ca, .slice B (List.length (Sg.mv s)) c, .int .i64 (Sg.done s), .bool (Sg.und s)]), (2, .box 28 [.slice .none 0 0, .slice .none 0 0, .int .i64 0, .bool false])] [] (by kernel_rfl) ?_
    have h3 : s.done = s.mv.length := by simpa using h3
    exact J.ret ⟨_, rfl, .inl (zero _ (by simp [failS, Sg.may, h3]))⟩
  have h3 : s.done ≠ s.mv.length := by simpa using h3
  refine J.to 5 [false] 24 [(1, .bp 1 0), (2, .bp 2 0), (3, .v (.bool false)), (20, .v (.agg (Array.mk [.slice A (List.length (Sg.acc s)) ca, .slice B (List.length (Sg.mv s)) c, .int .i64 (Sg.done s), .bool (Sg.und s)])))] [(3, .some false)] [(1, .box 28 [.slice A (List.length (Sg.acc s)) ca, .slice B (List.length (Sg.mv s)) c, .int .i64 (Sg.done s), .bool (Sg.und s)]), (2, .box 28 [.slice .none 0 0, .slice .none 0 0, .int .i64 0, .bool false])] [] (by kernel_rfl) ?_
  refine J.one (Op1.call rfl rfl rfl rfl rfl rfl rfl rfl (l9Own_ok _ _ s U1 ⟨A, ca, rfl, hca, hA.mono hx1⟩ ⟨B, c, rfl, hc, hB.mono hx1⟩ hb hb2) fun v U2 hx2 ⟨va2, vm2, hv, ha2, hm2⟩ => ?_); subst hv
  obtain ⟨A2, c2, rfl, hc2, hA2⟩ := ha2
  obtain ⟨B2, d2, rfl, hd2, hB2⟩ := hm2
  refine J.to 13 [] 24 [(2, .bp 2 0), (3, .v (.bool true))] [(3, .some true)] [(2, .box 28 [.slice A2 (List.length (Sg.acc s)) c2, .slice B2 (List.length (Sg.mv s)) d2, .int .i64 (Sg.done s), .bool true])] [] (by kernel_rfl) ?_
  have e : failS s = ({ s with und := true }, true) := by simp [failS, h1, Sg.may, h2, h3]
  refine J.ret ⟨_, rfl, .inl ⟨.slice A2 s.acc.length c2, .slice B2 s.mv.length d2, ?_, ?_, ?_⟩⟩
  · rw [e]; rfl
  · rw [e]; exact ⟨A2, c2, rfl, hc2, hA2⟩
  · rw [e]; exact ⟨B2, d2, rfl, hd2, hB2⟩

theorem specRun_ok (va vm : Value) (s : Sg) (fail : Int) (U : Hp) (ha : Rd rInt U va s.acc) (hm : Rd rMv U vm s.mv) (hb : s.acc.length < 2^40) (hb2 : s.mv.length < 2^40) :
    PCall Try.prog 25 #[.agg #[va, vm, .int .i64 s.done, .bool s.und], .int .i64 fail] U fun r U' => ∃ va' vm', r = .tuple #[.agg #[va', vm', .int .i64 (runS s fail).1.done, .bool (runS s fail).1.und], .int .i64 ((runS s fail).2.1 : Nat), .bool (runS s fail).2.2] ∧ Rd rInt U' va' (runS s fail).1.acc ∧ Rd rMv U' vm' (runS s fail).1.mv := by
  obtain ⟨B, c, rfl, hc, hB⟩ := hm
  obtain ⟨A, ca, rfl, hca, hA⟩ := ha
  refine OCall.of (args := [.agg #[.slice A s.acc.length ca, .slice B s.mv.length c, .int .i64 s.done, .bool s.und], .int .i64 fail]) E_ok mix Try.func25 (by kernel_rfl) rfl Try.ntmps25 (Nat.le_of_ble_eq_true rfl) fun F w0 => ?_
  refine J.to 11 [] 39 [(1, .v (.int .i64 fail)), (2, .bp 2 0), (4, .bp 4 0), (5, .v (.int .i64 0)), (6, .v (.bool false)), (10, .v (.agg (Array.mk [.slice A (List.length (Sg.acc s)) ca, .slice B (List.length (Sg.mv s)) c, .int .i64 (Sg.done s), .bool (Sg.und s)])))] [(6, .some false)] [(2, .box 28 [.slice A (List.length (Sg.acc s)) ca, .slice B (List.length (Sg.mv s)) c, .int .i64 (Sg.done s), .bool (Sg.und s)]), (4, .box 28 [.slice .none 0 0, .slice .none 0 0, .int .i64 0, .bool false])] [] (by kernel_rfl) ?_
  refine J.one (Op1.call rfl rfl rfl rfl rfl rfl rfl rfl (specGood_ok _ _ s U ⟨A, ca, rfl, hca, hA⟩ ⟨B, c, rfl, hc, hB⟩ hb hb2) fun v U1 hx1 hv => ?_); subst hv
  refine J.to 2 [] 39 [(1, .v (.int .i64 fail)), (2, .bp 2 0), (4, .bp 4 0), (5, .v (.int .i64 0)), (6, .v (.bool false)), (12, .v (.bool !Sg.good s))] [(6, .some false)] [(2, .box 28 [.slice A (List.length (Sg.acc s)) ca, .slice B (List.length (Sg.mv s)) c, .int .i64 (Sg.done s), .bool (Sg.und s)]), (4, .box 28 [.slice .none 0 0, .slice .none 0 0, .int .i64 0, .bool false])] [] (by kernel_rfl) ?_
  refine J.br rfl rfl (fun hg => ?_) (fun hg => ?_)
  · refine J.to 8 [true] 39 [(1, .v (.int .i64 fail)), (2, .bp 2 0), (4, .bp 4 0), (5, .v (.int .i64 0)), (6, .v (.bool false))] [(6, .some false)] [(2, .box 28 [.slice A (List.length (Sg.acc s)) ca, .slice B (List.length (Sg.mv s)) c, .int .i64 (Sg.done s), .bool (Sg.und s)]), (4, .box 28 [.slice .none 0 0, .slice .none 0 0, .int .i64 0, .bool false])] [] (by kernel_rfl) ?_
    have hg : s.good = false := by simpa using hg
    have e : runS s fail = (Sg.zero, 0, false) := by simp [runS, hg]
    rw [e]
    exact J.ret ⟨_, rfl, .inl ⟨_, _, rfl, ⟨none, 0, rfl, Nat.le_refl _, .inl rfl⟩, ⟨none, 0, rfl, Nat.le_refl _, .inl rfl⟩⟩⟩
  have hg : s.good = true := by simpa using hg
  have hmu := mu_le hg
  have hml : s.mv.length ≤ 20 := (form_parts (good_parts hg).1).2.2.1
  refine J.to 5 [false] 39 [(1, .v (.int .i64 fail)), (2, .bp 2 0), (4, .bp 4 0), (5, .v (.int .i64 0)), (6, .v (.bool false)), (14, .v (.agg (Array.mk [.slice A (List.length (Sg.acc s)) ca, .slice B (List.length (Sg.mv s)) c, .int .i64 (Sg.done s), .bool (Sg.und s)])))] [(6, .some false)] [(2, .box 28 [.slice A (List.length (Sg.acc s)) ca, .slice B (List.length (Sg.mv s)) c, .int .i64 (Sg.done s), .bool (Sg.und s)]), (4, .box 28 [.slice .none 0 0, .slice .none 0 0, .int .i64 0, .bool false])] [] (by kernel_rfl) ?_
  refine J.one (Op1.call rfl rfl rfl rfl rfl rfl rfl rfl (l9Own_ok _ _ s U1 ⟨A, ca, rfl, hca, hA.mono hx1⟩ ⟨B, c, rfl, hc, hB.mono hx1⟩ hb hb2) fun v U2 hx2 ⟨va2, vm2, hv, ha2, hm2⟩ => ?_); subst hv
  obtain ⟨A2, c2, rfl, hc2, hA2⟩ := ha2
  obtain ⟨B2, d2, rfl, hd2, hB2⟩ := hm2
  refine J.to 7 [] 39 [(1, .v (.int .i64 fail)), (2, .bp 2 0), (4, .bp 4 0), (5, .v (.int .i64 0)), (6, .v (.bool false)), (7, .v (.int .i64 0))] [(6, .some false)] [(4, .box 28 [.slice .none 0 0, .slice .none 0 0, .int .i64 0, .bool false]), (2, .box 28 [.slice A2 (List.length (Sg.acc s)) c2, .slice B2 (List.length (Sg.mv s)) d2, .int .i64 (Sg.done s), .bool (Sg.und s)])] [] (by kernel_rfl) ?_
  refine J.loopK 39 [] (fun x : Nat × Sg × (Option Addr × Nat) × (Option Addr × Nat) => [(1, .v (.int .i64 fail)), (2, .bp 2 0), (4, .bp 4 0), (5, .v (.int .i64 0)), (6, .v (.bool false)), (7, .v (.int .i64 (x.1 : Nat)))])
    (fun x => [(2, .box 28 [.slice x.2.2.1.1 x.2.1.acc.length x.2.2.1.2, .slice x.2.2.2.1 x.2.1.mv.length x.2.2.2.2, .int .i64 x.2.1.done, .bool x.2.1.und]), (4, .box 28 [.slice none 0 0, .slice none 0 0, .int .i64 0, .bool false])])
    (fun x U' => x.2.1.good = true ∧ x.1 + x.2.1.mu ≤ 41 ∧ runF (x.2.1.mu + 1) fail x.1 x.2.1 = runF (s.mu + 1) fail 0 s ∧ x.2.1.acc.length ≤ x.2.2.1.2 ∧ x.2.1.mv.length ≤ x.2.2.2.2 ∧ Arr rInt U' x.2.2.1.1 x.2.1.acc ∧ Arr rMv U' x.2.2.2.1 x.2.1.mv) (fun x => x.2.1.mu) (0, s, (A2, c2), (B2, d2)) ⟨hg, by simp only; omega, rfl, hc2, hd2, hA2, hB2⟩ (by kernel_rfl) ?_
  rintro ⟨n, t, ⟨A1, c1⟩, B1, d1⟩ U1 ⟨hg1, hn1, hr1, hc1, hd1, hA1, hB1⟩ hx1
  simp only at hg1 hn1 hr1 hc1 hd1 hA1 hB1
  have hf1 := (good_parts hg1).1
  obtain ⟨-, p1, p2, p3, -⟩ := form_parts hf1
  have hl1 : t.acc.length < 2^40 := by omega
  have hl2 : t.mv.length < 2^40 := by omega
  refine J.to 15 [] 39 [(1, .v (.int .i64 fail)), (2, .bp 2 0), (4, .bp 4 0), (5, .v (.int .i64 0)), (6, .v (.bool false)), (7, .v (.int .i64 (↑n : Int))), (8, .bp 8 0), (9, .v (.bool false)), (19, .v (.bool ((↑n : Int) == fail)))] [(9, .some false)] [(2, .box 28 [.slice A1 (List.length (Sg.acc t)) c1, .slice B1 (List.length (Sg.mv t)) d1, .int .i64 (Sg.done t), .bool (Sg.und t)]), (4, .box 28 [.slice .none 0 0, .slice .none 0 0, .int .i64 0, .bool false]), (8, .box 28 [.slice A1 (List.length (Sg.acc t)) c1, .slice B1 (List.length (Sg.mv t)) d1, .int .i64 (Sg.done t), .bool (Sg.und t)])] [] (by kernel_rfl) ?_
  refine J.br rfl rfl (fun h1 => ?_) (fun h1 => ?_)
  · refine J.to 3 [true] 39 [(1, .v (.int .i64 fail)), (2, .bp 2 0), (4, .bp 4 0), (5, .v (.int .i64 0)), (6, .v (.bool false)), (7, .v (.int .i64 (↑n : Int))), (8, .bp 8 0), (9, .v (.bool false)), (21, .v (.agg (Array.mk [.slice A1 (List.length (Sg.acc t)) c1, .slice B1 (List.length (Sg.mv t)) d1, .int .i64 (Sg.done t), .bool (Sg.und t)])))] [(9, .some false)] [(2, .box 28 [.slice A1 (List.length (Sg.acc t)) c1, .slice B1 (List.length (Sg.mv t)) d1, .int .i64 (Sg.done t), .bool (Sg.und t)]), (4, .box 28 [.slice .none 0 0, .slice .none 0 0, .int .i64 0, .bool false]), (8, .box 28 [.slice A1 (List.length (Sg.acc t)) c1, .slice B1 (List.length (Sg.mv t)) d1, .int .i64 (Sg.done t), .bool (Sg.und t)])] [] (by kernel_rfl) ?_
    refine J.one (Op1.call rfl rfl rfl rfl rfl rfl rfl rfl (specFail_ok _ _ t _ ⟨A1, c1, rfl, hc1, hA1⟩ ⟨B1, d1, rfl, hd1, hB1⟩ hl1 hl2) fun v U2 hx2 ⟨va2, vm2, hv, ha2, hm2⟩ => ?_); subst hv
    cases h2 : t.may with
    | true =>
      have ef : failS t = ({ t with und := true }, true) := by simp [failS, hg1, h2]
      rw [ef] at ha2 hm2 ⊢
      obtain ⟨A3, c3, rfl, hc3, hA3⟩ := ha2
      obtain ⟨B3, d3, rfl, hd3, hB3⟩ := hm2
      refine J.to 33 [false, false] 39 [(1, .v (.int .i64 fail)), (2, .bp 2 0), (4, .bp 4 0), (5, .v (.int .i64 0)), (6, .v (.bool false)), (7, .v (.int .i64 (IntKind.wrap .i64 ((↑n : Int) + 1))))] [] [(4, .box 28 [.slice .none 0 0, .slice .none 0 0, .int .i64 0, .bool false]), (2, .box 28 [.slice A3 (List.length (Sg.acc t)) c3, .slice B3 (List.length (Sg.mv t)) d3, .int .i64 (Sg.done t), .bool true])] [] (by kernel_rfl) ?_
      rw [show IntKind.wrap .i64 ((n : Int) + 1) = ((n + 1 : Nat) : Int) from wr_id (by omega)]
      have e : t.nxt ((n : Int) == fail) = some { t with und := true } := by simp [Sg.nxt, h1, h2]
      have e2 := nxt_good hg1 e
      exact J.againK (n + 1, { t with und := true }, (A3, c3), (B3, d3)) (by kernel_rfl) ⟨e2.1, by have := e2.2; simp only; omega, (runF_some hg1 e).symm.trans hr1, hc3, hd3, hA3, hB3⟩ e2.2
    | false =>
      have ef : failS t = (Sg.zero, false) := by simp [failS, h2]
      rw [ef] at ha2 hm2 ⊢
      obtain ⟨A3, c3, rfl, hc3, hA3⟩ := ha2
      obtain ⟨B3, d3, rfl, hd3, hB3⟩ := hm2
      refine J.to 15 [true] 39 [(1, .v (.int .i64 fail)), (2, .bp 2 0), (4, .bp 4 0), (5, .v (.int .i64 0)), (6, .v (.bool false)), (7, .v (.int .i64 (↑n : Int))), (8, .bp 8 0), (9, .v (.bool false)), (28, .v (.agg (Array.mk [.slice A1 (List.length (Sg.acc t)) c1, .slice B1 (List.length (Sg.mv t)) d1, .int .i64 (Sg.done t), .bool (Sg.und t)])))] [(9, .some false)] [(2, .box 28 [.slice A1 (List.length (Sg.acc t)) c1, .slice B1 (List.length (Sg.mv t)) d1, .int .i64 (Sg.done t), .bool (Sg.und t)]), (4, .box 28 [.slice .none 0 0, .slice .none 0 0, .int .i64 0, .bool false]), (8, .box 28 [.slice A3 0 c3, .slice B3 0 d3, .int .i64 (Sg.done Sg.zero), .bool false])] [] (by kernel_rfl) ?_
      refine J.one (Op1.call rfl rfl rfl rfl rfl rfl rfl rfl (specStep_ok _ _ t _ ⟨A1, c1, rfl, hc1, hA1.mono hx2⟩ ⟨B1, d1, rfl, hd1, hB1.mono hx2⟩ hl1 hl2) fun v U3 hx3 ⟨va3, vm3, hv, ha3, hm3⟩ => ?_); subst hv
      have es : specStep t = if t.step.2 then (t.step.1, true) else (Sg.zero, false) := by
        rw [← implStep_eq]; simp only [implStep, hg1, if_true]
      rw [es] at ha3 hm3 ⊢
      have hno : ((n : Int) == fail && t.may) = false := by simp [h2]
      cases h3 : t.step.2 with
      | true =>
        rw [h3] at ha3 hm3
        simp only [if_true] at ha3 hm3 ⊢
        obtain ⟨A3, c3, rfl, hc3, hA3⟩ := ha3
        obtain ⟨B3, d3, rfl, hd3, hB3⟩ := hm3
        refine J.to 25 [false] 39 [(1, .v (.int .i64 fail)), (2, .bp 2 0), (4, .bp 4 0), (5, .v (.int .i64 0)), (6, .v (.bool false)), (7, .v (.int .i64 (IntKind.wrap .i64 ((↑n : Int) + 1))))] [] [(4, .box 28 [.slice .none 0 0, .slice .none 0 0, .int .i64 0, .bool false]), (2, .box 28 [.slice A3 (List.length (Sg.acc (Prod.fst (Sg.step t)))) c3, .slice B3 (List.length (Sg.mv (Prod.fst (Sg.step t)))) d3, .int .i64 (Sg.done (Prod.fst (Sg.step t))), .bool (Sg.und (Prod.fst (Sg.step t)))])] [] (by kernel_rfl) ?_
        rw [show IntKind.wrap .i64 ((n : Int) + 1) = ((n + 1 : Nat) : Int) from wr_id (by omega)]
        have e : t.nxt ((n : Int) == fail) = some t.step.1 := by simp [Sg.nxt, hno, h3]
        have e2 := nxt_good hg1 e
        exact J.againK (n + 1, t.step.1, (A3, c3), (B3, d3)) (by kernel_rfl) ⟨e2.1, by have := e2.2; simp only; omega, (runF_some hg1 e).symm.trans hr1, hc3, hd3, hA3, hB3⟩ e2.2
      | false =>
        rw [h3] at ha3 hm3
        simp only [Bool.false_eq_true, if_false] at ha3 hm3 ⊢
        obtain ⟨A3, c3, rfl, hc3, hA3⟩ := ha3
        obtain ⟨B3, d3, rfl, hd3, hB3⟩ := hm3
        refine J.to 21 [true] 39 [(1, .v (.int .i64 fail)), (2, .bp 2 0), (4, .bp 4 0), (7, .v (.int .i64 (↑n : Int))), (8, .bp 8 0), (5, .v (.int .i64 (↑n : Int))), (6, .v (.bool true))] [(6, .some true)] [(2, .box 28 [.slice A1 (List.length (Sg.acc t)) c1, .slice B1 (List.length (Sg.mv t)) d1, .int .i64 (Sg.done t), .bool (Sg.und t)]), (8, .box 28 [.slice A3 0 c3, .slice B3 0 d3, .int .i64 (Sg.done Sg.zero), .bool false]), (4, .box 28 [.slice A1 (List.length (Sg.acc t)) c1, .slice B1 (List.length (Sg.mv t)) d1, .int .i64 (Sg.done t), .bool (Sg.und t)])] [] (by kernel_rfl) ?_
        have e : t.nxt ((n : Int) == fail) = none := by simp [Sg.nxt, hno, h3]
        rw [runF_none e] at hr1
        have er : runS s fail = (t, n, true) := by simp only [runS, hg, if_true, ← hr1]
        refine J.ret ⟨_, rfl, .inl ⟨.slice A1 t.acc.length c1, .slice B1 t.mv.length d1, ?_, ?_, ?_⟩⟩
        · rw [er]; rfl
        · rw [er]; exact ⟨A1, c1, rfl, hc1, hA1.mono (hx2.trans hx3)⟩
        · rw [er]; exact ⟨B1, d1, rfl, hd1, hB1.mono (hx2.trans hx3)⟩
  · refine J.to 11 [false, true] 39 [(1, .v (.int .i64 fail)), (2, .bp 2 0), (4, .bp 4 0), (5, .v (.int .i64 0)), (6, .v (.bool false)), (7, .v (.int .i64 (↑n : Int))), (8, .bp 8 0), (9, .v (.bool false)), (28, .v (.agg (Array.mk [.slice A1 (List.length (Sg.acc t)) c1, .slice B1 (List.length (Sg.mv t)) d1, .int .i64 (Sg.done t), .bool (Sg.und t)])))] [(9, .some false)] [(2, .box 28 [.slice A1 (List.length (Sg.acc t)) c1, .slice B1 (List.length (Sg.mv t)) d1, .int .i64 (Sg.done t), .bool (Sg.und t)]), (4, .box 28 [.slice .none 0 0, .slice .none 0 0, .int .i64 0, .bool false]), (8, .box 28 [.slice A1 (List.length (Sg.acc t)) c1, .slice B1 (List.length (Sg.mv t)) d1, .int .i64 (Sg.done t), .bool (Sg.und t)])] [] (by kernel_rfl) ?_
    refine J.one (Op1.call rfl rfl rfl rfl rfl rfl rfl rfl (specStep_ok _ _ t _ ⟨A1, c1, rfl, hc1, hA1⟩ ⟨B1, d1, rfl, hd1, hB1⟩ hl1 hl2) fun v U3 hx3 ⟨va3, vm3, hv, ha3, hm3⟩ => ?_); subst hv
    have es : specStep t = if t.step.2 then (t.step.1, true) else (Sg.zero, false) := by
      rw [← implStep_eq]; simp only [implStep, hg1, if_true]
    rw [es] at ha3 hm3 ⊢
    have hno : ((n : Int) == fail && t.may) = false := by simp [h1]
    cases h3 : t.step.2 with
    | true =>
      rw [h3] at ha3 hm3
      simp only [if_true] at ha3 hm3 ⊢
      obtain ⟨A3, c3, rfl, hc3, hA3⟩ := ha3
      obtain ⟨B3, d3, rfl, hd3, hB3⟩ := hm3
      refine J.to 25 [false] 39 [(1, .v (.int .i64 fail)), (2, .bp 2 0), (4, .bp 4 0), (5, .v (.int .i64 0)), (6, .v (.bool false)), (7, .v (.int .i64 (IntKind.wrap .i64 ((↑n : Int) + 1))))] [] [(4, .box 28 [.slice .none 0 0, .slice .none 0 0, .int .i64 0, .bool false]), (2, .box 28 [.slice A3 (List.length (Sg.acc (Prod.fst (Sg.step t)))) c3, .slice B3 (List.length (Sg.mv (Prod.fst (Sg.step t)))) d3, .int .i64 (Sg.done (Prod.fst (Sg.step t))), .bool (Sg.und (Prod.fst (Sg.step t)))])] [] (by kernel_rfl) ?_
      rw [show IntKind.wrap .i64 ((n : Int) + 1) = ((n + 1 : Nat) : Int) from wr_id (by omega)]
      have e : t.nxt ((n : Int) == fail) = some t.step.1 := by simp [Sg.nxt, hno, h3]
      have e2 := nxt_good hg1 e
      exact J.againK (n + 1, t.step.1, (A3, c3), (B3, d3)) (by kernel_rfl) ⟨e2.1, by have := e2.2; simp only; omega, (runF_some hg1 e).symm.trans hr1, hc3, hd3, hA3, hB3⟩ e2.2
    | false =>
      rw [h3] at ha3 hm3
      simp only [Bool.false_eq_true, if_false] at ha3 hm3 ⊢
      obtain ⟨A3, c3, rfl, hc3, hA3⟩ := ha3
      obtain ⟨B3, d3, rfl, hd3, hB3⟩ := hm3
      refine J.to 21 [true] 39 [(1, .v (.int .i64 fail)), (2, .bp 2 0), (4, .bp 4 0), (7, .v (.int .i64 (↑n : Int))), (8, .bp 8 0), (5, .v (.int .i64 (↑n : Int))), (6, .v (.bool true))] [(6, .some true)] [(2, .box 28 [.slice A1 (List.length (Sg.acc t)) c1, .slice B1 (List.length (Sg.mv t)) d1, .int .i64 (Sg.done t), .bool (Sg.und t)]), (8, .box 28 [.slice A3 0 c3, .slice B3 0 d3, .int .i64 (Sg.done Sg.zero), .bool false]), (4, .box 28 [.slice A1 (List.length (Sg.acc t)) c1, .slice B1 (List.length (Sg.mv t)) d1, .int .i64 (Sg.done t), .bool (Sg.und t)])] [] (by kernel_rfl) ?_
      have e : t.nxt ((n : Int) == fail) = none := by simp [Sg.nxt, hno, h3]
      rw [runF_none e] at hr1
      have er : runS s fail = (t, n, true) := by simp only [runS, hg, if_true, ← hr1]
      refine J.ret ⟨_, rfl, .inl ⟨.slice A1 t.acc.length c1, .slice B1 t.mv.length d1, ?_, ?_, ?_⟩⟩
      · rw [er]; rfl
      · rw [er]; exact ⟨A1, c1, rfl, hc1, hA1.mono hx3⟩
      · rw [er]; exact ⟨B1, d1, rfl, hd1, hB1.mono hx3⟩
end Go.Rx
end

section
open Go Go.Rx Go.Proofs
namespace Go.Rx

theorem sum_set : ∀ (l : List Int) (i : Nat) (x : Int), i < l.length → (l.set i x).sum = l.sum - l.getD i 0 + x
  | [], _, _, h => by simp at h
  | a :: l, 0, x, _ => by simp; omega
  | a :: l, i + 1, x, h => by
    have := sum_set l i x (by simpa using h)
    simp only [List.set_cons_succ, List.sum_cons, this, List.getD_cons_succ]
    omega
theorem doL_sum {l : List Int} {m : Mv} (h : May l m) : (doL l m).sum = l.sum := by
  have hab : m.a.toNat ≠ m.b.toNat := by have := h.ne; have := h.a; have := h.b; omega
  have ga := all_get h.acc m.a.toNat
  have gb := all_get h.acc m.b.toNat
  have hn := h.n
  have ha := h.a
  have hb := h.b
  unfold doL
  simp only
  rw [sum_set _ _ _ (by simp; omega), sum_set _ _ _ (by omega)]
  have e1 : (l.set m.a.toNat (wr (l.getD m.a.toNat 0 - m.n))).getD m.b.toNat 0 = l.getD m.b.toNat 0 := by
    simp only [List.getD_eq_getElem?_getD, List.getElem?_set_ne hab]
  rw [e1, wr_id (by omega), wr_id (by omega)]
  omega
theorem step_sum {s : Sg} (h : s.good = true) : s.step.1.acc.sum = s.acc.sum := by
  obtain ⟨hf, -⟩ := good_parts h
  obtain ⟨-, -, h20, hd, -⟩ := form_parts hf
  unfold Sg.step
  split
  · split
    · rfl
    · simp only
      exact doL_sum (form_may hf (getD_mem (by omega))).back
  · split
    · rfl
    · split
      · simp only
        exact doL_sum (form_may hf (getD_mem (by omega)))
      · rfl
theorem nxt_sum {s t : Sg} {b : Bool} (h : s.good = true) (e : s.nxt b = some t) : t.acc.sum = s.acc.sum := by
  unfold Sg.nxt at e
  split at e
  · simp only [Option.some.injEq] at e; subst e; rfl
  · split at e
    · simp only [Option.some.injEq] at e; subst e; exact step_sum h
    · cases e
theorem runF_all (fail : Int) : ∀ (k n : Nat) (s : Sg), s.good = true → s.mu < k →
    (runF k fail n s).1.good = true ∧ (runF k fail n s).1.acc.sum = s.acc.sum ∧ (runF k fail n s).1.nxt (((runF k fail n s).2 : Int) == fail) = none ∧ (runF k fail n s).2 ≤ n + s.mu
  | 0, _, _, _, h => by omega
  | k + 1, n, s, hg, h => by
    simp only [runF]
    cases e : s.nxt ((n : Int) == fail) with
    | none => exact ⟨hg, rfl, e, by simp⟩
    | some t =>
      obtain ⟨g1, g2⟩ := nxt_good hg e
      obtain ⟨h1, h2, h3, h4⟩ := runF_all fail k (n + 1) t g1 (by omega)
      exact ⟨h1, h2.trans (nxt_sum hg e), h3, by simp only; omega⟩

theorem nxt_end {s : Sg} {b : Bool} (h : s.good = true) (e : s.nxt b = none) : (s.und = true ∧ s.done = 0) ∨ (s.und = false ∧ s.done = s.mv.length) := by
  unfold Sg.nxt at e
  split at e
  · cases e
  · split at e
    · cases e
    · rename_i h2
      unfold Sg.step at h2
      cases hu : s.und with
      | true =>
        left
        rw [hu] at h2
        simp only [if_true] at h2
        by_cases h0 : s.done = 0
        · exact ⟨rfl, h0⟩
        · rw [if_neg h0] at h2; exact absurd rfl h2
      | false =>
        right
        rw [hu] at h2
        simp only [Bool.false_eq_true, if_false] at h2
        by_cases h0 : s.done = s.mv.length
        · exact ⟨rfl, h0⟩
        · rw [if_neg h0] at h2
          split at h2 <;> exact absurd rfl h2

def replay (mv : List Mv) : Nat → List Int → Option (List Int)
  | 0, l => some l
  | k + 1, l => match replay mv k l with
    | some x => if doOk x (mv.getD k ⟨0, 0, 0⟩) then some (doL x (mv.getD k ⟨0, 0, 0⟩)) else none
    | none => none
theorem replay_all {mv : List Mv} {l : List Int} (hl : l.all accOk = true) (hn : l.length ≤ 8) (hm : mv.all (mvB l.length) = true) : ∀ (k : Nat) (x : List Int), k ≤ mv.length → replay mv k l = some x → x.all accOk = true ∧ x.length = l.length
  | 0, x, _, h => by simp only [replay, Option.some.injEq] at h; subst h; exact ⟨hl, rfl⟩
  | k + 1, x, hk, h => by
    simp only [replay] at h
    split at h
    · rename_i y hy
      obtain ⟨h1, h2⟩ := replay_all hl hn hm k y (by omega) hy
      split at h
      · rename_i ho
        simp only [Option.some.injEq] at h
        subst h
        have hq : mvB l.length (mv.getD k ⟨0, 0, 0⟩) = true := List.all_eq_true.1 hm _ (getD_mem (by omega))
        obtain ⟨m1, m2, m3, m4, m5⟩ := mvB_some (by omega) hq
        exact ⟨doL_all ⟨h1, by rw [h2]; exact m1, by rw [h2]; exact m2, m3, m4, m5⟩ ho, by rw [doL_len]; exact h2⟩
      · cases h
    · cases h
theorem nxt_replay {s t : Sg} {b : Bool} {l : List Int} (hl : l.all accOk = true) (hn : l.length = s.acc.length) (h : s.good = true) (e : s.nxt b = some t) (hr : replay s.mv s.done.toNat l = some s.acc) : replay t.mv t.done.toNat l = some t.acc := by
  obtain ⟨hf, -⟩ := good_parts h
  obtain ⟨p1, p2, h20, hd, p5⟩ := form_parts hf
  unfold Sg.nxt at e
  split at e
  · simp only [Option.some.injEq] at e; subst e; exact hr
  · split at e
    · rename_i h2
      simp only [Option.some.injEq] at e; subst e
      unfold Sg.step at h2 ⊢
      cases hu : s.und with
      | true =>
        simp only [hu, if_true] at h2 ⊢
        by_cases h0 : s.done = 0
        · rw [if_pos h0] at h2; cases h2
        · rw [if_neg h0]
          simp only
          rw [wr_id (by omega)]
          obtain ⟨k, hk⟩ : ∃ k : Nat, s.done = (k : Int) + 1 := ⟨(s.done - 1).toNat, by omega⟩
          rw [hk] at hr ⊢
          rw [show ((k : Int) + 1).toNat = k + 1 by omega] at hr
          rw [show ((k : Int) + 1 - 1).toNat = k by omega]
          simp only [replay] at hr
          split at hr
          · rename_i y hy
            obtain ⟨g1, g2⟩ := replay_all hl (by omega) (by rw [hn]; exact p5) k y (by omega) hy
            split at hr
            · rename_i ho
              simp only [Option.some.injEq] at hr
              rw [hy, ← hr]
              have hq : mvB l.length (s.mv.getD k ⟨0, 0, 0⟩) = true := by rw [hn]; exact List.all_eq_true.1 p5 _ (getD_mem (by omega))
              obtain ⟨m1, m2, m3, m4, m5⟩ := mvB_some (by omega) hq
              rw [doL_back ⟨g1, by rw [g2]; exact m1, by rw [g2]; exact m2, m3, m4, m5⟩ ho]
            · cases hr
          · cases hr
      | false =>
        simp only [hu, Bool.false_eq_true, if_false] at h2 ⊢
        by_cases h0 : s.done = s.mv.length
        · rw [if_pos h0] at h2; cases h2
        · rw [if_neg h0]
          split
          · rename_i ho
            simp only
            rw [wr_id (by omega), show (s.done + 1).toNat = s.done.toNat + 1 by omega]
            simp only [replay, hr, ho, if_true]
          · exact hr
    · cases e
theorem runF_replay (fail : Int) {l : List Int} (hl : l.all accOk = true) : ∀ (k n : Nat) (s : Sg), l.length = s.acc.length → s.good = true → replay s.mv s.done.toNat l = some s.acc → replay (runF k fail n s).1.mv (runF k fail n s).1.done.toNat l = some (runF k fail n s).1.acc
  | 0, _, _, _, _, h => h
  | k + 1, n, s, hn, hg, h => by
    simp only [runF]
    cases e : s.nxt ((n : Int) == fail) with
    | none => exact h
    | some t => exact runF_replay fail hl k (n + 1) t (hn.trans (nxt_len e).1.symm) (nxt_good hg e).1 (nxt_replay hl hn hg e h)

theorem run_new {acc : List Int} {mv : List Mv} (fail : Int) (hg : (Sg.mk acc mv 0 false).good = true) :
    (runS ⟨acc, mv, 0, false⟩ fail).2.2 = true ∧ (runS ⟨acc, mv, 0, false⟩ fail).1.good = true ∧ (runS ⟨acc, mv, 0, false⟩ fail).1.acc.sum = acc.sum ∧ (runS ⟨acc, mv, 0, false⟩ fail).2.1 ≤ 2 * mv.length + 1 ∧
    (runS ⟨acc, mv, 0, false⟩ fail).1.mv = mv ∧
    ((((runS ⟨acc, mv, 0, false⟩ fail).1.und = true ∧ (runS ⟨acc, mv, 0, false⟩ fail).1.done = 0) ∧ (runS ⟨acc, mv, 0, false⟩ fail).1.acc = acc) ∨ ((runS ⟨acc, mv, 0, false⟩ fail).1.und = false ∧ (runS ⟨acc, mv, 0, false⟩ fail).1.done = mv.length)) := by
  have hm := mu_le hg
  obtain ⟨h1, h2, h3, h4⟩ := runF_all fail ((Sg.mk acc mv 0 false).mu + 1) 0 _ hg (by omega)
  have h5 := runF_len fail ((Sg.mk acc mv 0 false).mu + 1) 0 ⟨acc, mv, 0, false⟩
  have h6 := runF_replay fail (l := acc) (form_parts (good_parts hg).1).1 ((Sg.mk acc mv 0 false).mu + 1) 0 ⟨acc, mv, 0, false⟩ rfl hg rfl
  unfold runS
  rw [if_pos hg]
  simp only at h5 h6 ⊢
  refine ⟨trivial, h1, h2, by simp only at hm; omega, h5.2, ?_⟩
  rcases nxt_end h1 h3 with ⟨e1, e2⟩ | ⟨e1, e2⟩
  · left
    refine ⟨⟨e1, e2⟩, ?_⟩
    rw [e2] at h6
    simp only [Int.toNat_zero, replay, Option.some.injEq] at h6
    exact h6.symm
  · right
    exact ⟨e1, by rw [e2, h5.2]⟩
end Go.Rx
end

section
open Go Go.Rx Go.Proofs
set_option maxHeartbeats 1000000
namespace Go.Rx

def rB : Rp Int := .int .u8
structure Cur (U : Hp) (A : Option Addr) (xs : List Int) : Prop where
  arr : Arr rB U A xs
  bytes : ∀ x ∈ xs, 0 ≤ x ∧ x ≤ 255
theorem Cur.mono {U V : Hp} {A : Option Addr} {xs : List Int} (h : Cur U A xs) (hx : Ext U V) : Cur V A xs := ⟨h.arr.mono hx, h.bytes⟩
abbrev curC (A : Option Addr) (m c : Nat) (p sd : Int) : List Value := [.slice A m c, .int .i64 p, .int .u64 sd]

theorem and255 (x : Int) : 0 ≤ IntKind.wrap .i64 (IntKind.wrap .u64 (BitVec.ofInt (IntKind.bits .u64) x &&& BitVec.ofInt (IntKind.bits .u64) 255).toNat) ∧ IntKind.wrap .i64 (IntKind.wrap .u64 (BitVec.ofInt (IntKind.bits .u64) x &&& BitVec.ofInt (IntKind.bits .u64) 255).toNat) ≤ 255 := by
  have h : (BitVec.ofInt (IntKind.bits .u64) x &&& BitVec.ofInt (IntKind.bits .u64) 255).toNat ≤ 255 := by
    rw [BitVec.toNat_and]
    exact Nat.and_le_right
  generalize (BitVec.ofInt (IntKind.bits .u64) x &&& BitVec.ofInt (IntKind.bits .u64) 255).toNat = k at h
  have e : IntKind.wrap .u64 (k : Int) = k := by
    unfold IntKind.wrap
    simp [IntKind.bits, IntKind.signed]
    omega
  rw [e, show IntKind.wrap .i64 (k : Int) = k from wr_id (by omega)]
  omega

theorem next_ok (A : Option Addr) (c : Nat) (xs : List Int) (p sd : Int) (U : Hp) (hc : Cur U A xs) (h0 : 0 ≤ p) (h1 : p < 2^62) :
    BCall Try.prog 71 [.bp 62 0] [(62, .box 55 (curC A xs.length c p sd))] U fun r U' ML => ∃ b sd', r = .int .i64 b ∧ (0 ≤ b ∧ b ≤ 255) ∧ ML = [(62, .box 55 (curC A xs.length c (p + 1) sd'))] := by
  refine BCall.of (args := [.bp 62 0]) E_ok mix Try.func71 (by kernel_rfl) rfl Try.ntmps71 (Nat.le_of_ble_eq_true rfl) rfl fun F w0 ρ => ?_
  refine J.to 10 [] 62 [(0, .bp 62 0), (2, .v (.int .i64 0)), (3, .v (.int .i64 0))] [] [(62, .box 55 [.slice A (List.length xs) c, .int .i64 p, .int .u64 sd])] [(62, .some (ρ 62))] (by kernel_rfl) ?_
  refine J.any [62] [] [(62, ρ 62)] ⟨rfl, trivial⟩ fun ρ1 ⟨hρ1, _⟩ => ?_
  refine J.takeTo true [0, 1, 2, 3, 4, 5, 6, 7, 8, 9] 0 62 [(0, .bp 62 0), (2, .v (.int .i64 0)), (3, .v (.int .i64 0)), (4, .bp 62 0), (5, .bp 62 0), (6, .bp 62 1), (7, .v (.int .i64 p)), (8, .bp 62 0), (9, .bp 62 0), (10, .bp 62 0), (11, .v (.slice A (List.length xs) c)), (12, .v (.int .i64 (↑(List.length xs) : Int))), (13, .v (.bool (Decidable.decide (p < (↑(List.length xs) : Int)))))] [] [(62, .box 55 [.slice A (List.length xs) c, .int .i64 p, .int .u64 sd])] [(62, .some (ρ1 62))] (by first | exact Ext.refl _ | assumption | exact Ext.trans (by assumption) (by assumption) | exact Ext.trans (by assumption) (Ext.trans (by assumption) (by assumption))) (fun h => rfl) ⟨⟨rfl, rfl⟩, trivial⟩ rfl (by kernel_rfl) ?_
  refine J.adone' (by kernel_rfl) ?_
  refine J.cutK 62 [(62, some (ρ1 62))] (fun b : Int => [(0, .bp 62 0), (3, .v (.int .i64 b))]) (fun _ => [(62, .box 55 [.slice A xs.length c, .int .i64 p, .int .u64 sd])]) (fun b U' => U' = U ∧ 0 ≤ b ∧ b ≤ 255) ?_ ?_
  · refine J.br rfl rfl (fun h => ?_) (fun h => ?_)
    · replace h : p < xs.length := of_decide_eq_true h
      refine J.to 1 [true] 62 [(0, .bp 62 0), (2, .v (.int .i64 0)), (3, .v (.int .i64 0))] [] [(62, .box 55 [.slice A (List.length xs) c, .int .i64 p, .int .u64 sd])] [(62, .some (ρ1 62))] (by kernel_rfl) ?_
      refine J.any [62] [] [(62, ρ1 62)] ⟨rfl, trivial⟩ fun ρ2 ⟨hρ2, _⟩ => ?_
      refine J.takeTo true [0, 1, 2, 3, 4, 5, 6, 7] 4 62 [(0, .bp 62 0), (2, .v (.int .i64 0)), (3, .v (.int .i64 0)), (14, .bp 62 0), (15, .bp 62 0), (16, .bp 62 0), (17, .v (.slice A (List.length xs) c)), (18, .bp 62 0), (19, .bp 62 0), (20, .bp 62 1), (21, .v (.int .i64 p))] [] [(62, .box 55 [.slice A (List.length xs) c, .int .i64 p, .int .u64 sd])] [(62, .some (ρ2 62))] (by first | exact Ext.refl _ | assumption | exact Ext.trans (by assumption) (by assumption) | exact Ext.trans (by assumption) (Ext.trans (by assumption) (by assumption))) (fun h => rfl) ⟨⟨rfl, rfl⟩, trivial⟩ rfl (by kernel_rfl) ?_
      refine J.aone (i := 8) (by kernel_rfl) (Op1.index (r := rB) rfl rfl rfl rfl rfl ⟨_, _, _, _, _, rfl, rfl, rfl⟩ rfl rfl hc.arr h0 h fun q b o' cs hq hcs => ⟨fun _ => ⟨Ext.refl _, ⟨rfl, rfl⟩, trivial⟩, ?_⟩)
      subst hcs
      have hq2 := hc.bytes q (List.mem_of_getElem? hq)
      refine J.takeTo true [9, 10, 11] 0 62 [(0, .bp 62 0), (2, .v (.int .i64 0)), (14, .bp 62 0), (15, .bp 62 0), (16, .bp 62 0), (17, .v (.slice A (List.length xs) c)), (18, .bp 62 0), (19, .bp 62 0), (20, .bp 62 1), (21, .v (.int .i64 p)), (22, .win b o' [.int .u8 q] 0), (23, .v (.int .u8 q)), (24, .v (.int .i64 (IntKind.wrap .i64 q))), (3, .v (.int .i64 (IntKind.wrap .i64 q)))] [] [(62, .box 55 [.slice A (List.length xs) c, .int .i64 p, .int .u64 sd])] [(62, .some (ρ2 62))] (by first | exact Ext.refl _ | assumption | exact Ext.trans (by assumption) (by assumption) | exact Ext.trans (by assumption) (Ext.trans (by assumption) (by assumption))) (fun h => rfl) ⟨⟨rfl, rfl⟩, trivial⟩ rfl (by kernel_rfl) ?_
      refine J.adone' (by kernel_rfl) ?_
      refine J.to 0 [] 62 [(0, .bp 62 0), (2, .v (.int .i64 0)), (3, .v (.int .i64 (IntKind.wrap .i64 q)))] [] [(62, .box 55 [.slice A (List.length xs) c, .int .i64 p, .int .u64 sd])] [(62, .some (ρ2 62))] (by kernel_rfl) ?_
      rw [show IntKind.wrap .i64 q = q from wr_id (by omega), hρ2]
      exact J.againK q (by kernel_rfl) ⟨rfl, hq2⟩ (by simp)
    · refine J.to 2 [false] 62 [(0, .bp 62 0), (2, .v (.int .i64 0)), (3, .v (.int .i64 0))] [] [(62, .box 55 [.slice A (List.length xs) c, .int .i64 p, .int .u64 sd])] [(62, .some (ρ1 62))] (by kernel_rfl) ?_
      exact J.againK 0 (by kernel_rfl) ⟨rfl, by omega⟩ (by simp)
  · rintro b U' ⟨rfl, hb0, hb1⟩ hx1
    refine J.to 29 [] 62 [(0, .bp 62 0), (3, .v (.int .i64 b))] [] [(62, .box 55 [.slice A (List.length xs) c, .int .i64 (IntKind.wrap .i64 (p + 1)), .int .u64 (IntKind.wrap .u64 (IntKind.wrap .u64 (IntKind.wrap .u64 (sd * 6364136223846793005) + IntKind.wrap .u64 b) + 1442695040888963407))])] [(62, .some (ρ1 62))] (by kernel_rfl) ?_
    rw [show IntKind.wrap .i64 (p + 1) = p + 1 from wr_id (by omega)]
    refine J.any [62] [] [(62, ρ1 62)] ⟨rfl, trivial⟩ fun ρ2 ⟨hρ2, _⟩ => ?_
    refine J.takeTo true [0, 1, 2, 3, 4, 5, 6, 7, 8, 9] 0 62 [(0, .bp 62 0), (3, .v (.int .i64 b)), (44, .bp 62 0), (45, .bp 62 0), (46, .bp 62 1), (47, .v (.int .i64 (p + 1))), (48, .bp 62 0), (49, .bp 62 0), (50, .bp 62 0), (51, .v (.slice A (List.length xs) c)), (52, .v (.int .i64 (↑(List.length xs) : Int))), (53, .v (.bool (Decidable.decide (p + 1 ≤ (↑(List.length xs) : Int)))))] [] [(62, .box 55 [.slice A (List.length xs) c, .int .i64 (p + 1), .int .u64 (IntKind.wrap .u64 (IntKind.wrap .u64 (IntKind.wrap .u64 (sd * 6364136223846793005) + IntKind.wrap .u64 b) + 1442695040888963407))])] [(62, .some (ρ2 62))] (by first | exact Ext.refl _ | assumption | exact Ext.trans (by assumption) (by assumption) | exact Ext.trans (by assumption) (Ext.trans (by assumption) (by assumption))) (fun h => rfl) ⟨⟨rfl, rfl⟩, trivial⟩ rfl (by kernel_rfl) ?_
    refine J.adone' (by kernel_rfl) ?_
    refine J.br rfl rfl (fun h => ?_) (fun h => ?_)
    · refine J.to 6 [true] 62 [(0, .bp 62 0), (2, .v (.int .i64 b))] [] [(62, .box 55 [.slice A (List.length xs) c, .int .i64 (p + 1), .int .u64 (IntKind.wrap .u64 (IntKind.wrap .u64 (IntKind.wrap .u64 (sd * 6364136223846793005) + IntKind.wrap .u64 b) + 1442695040888963407))])] [(62, .some (ρ2 62))] (by kernel_rfl) ?_
      exact J.retB [(62, .box 55 (curC A xs.length c (p + 1) _))] rfl ⟨⟨rfl, .inl (congrArg some (hρ2.trans hρ1))⟩, trivial⟩ ⟨b, _, rfl, ⟨hb0, hb1⟩, rfl⟩
    · refine J.to 8 [false] 62 [(58, .v (.int .u64 (IntKind.wrap .u64 (IntKind.wrap .u64 (IntKind.wrap .u64 (sd * 6364136223846793005) + IntKind.wrap .u64 b) + 1442695040888963407))))] [] [(62, .box 55 [.slice A (List.length xs) c, .int .i64 (p + 1), .int .u64 (IntKind.wrap .u64 (IntKind.wrap .u64 (IntKind.wrap .u64 (sd * 6364136223846793005) + IntKind.wrap .u64 b) + 1442695040888963407))])] [(62, .some (ρ2 62))] (by kernel_rfl) ?_
      refine J.one (Op1.bin rfl rfl rfl rfl rfl rfl rfl (fun w => run_shr (by decide) w) ?_)
      refine J.to 0 [] 62 [(59, .v (.int .u64 (Int.fdiv (IntKind.wrap .u64 (IntKind.wrap .u64 (IntKind.wrap .u64 (sd * 6364136223846793005) + IntKind.wrap .u64 b) + 1442695040888963407)) (2 ^ Min.min (Int.toNat 40) (IntKind.bits .u64)))))] [] [(62, .box 55 [.slice A (List.length xs) c, .int .i64 (p + 1), .int .u64 (IntKind.wrap .u64 (IntKind.wrap .u64 (IntKind.wrap .u64 (sd * 6364136223846793005) + IntKind.wrap .u64 b) + 1442695040888963407))])] [(62, .some (ρ2 62))] (by kernel_rfl) ?_
      refine J.one (Op1.bin rfl rfl rfl rfl rfl rfl rfl (fun w => run_and w) ?_)
      refine J.to 3 [] 62 [(2, .v (.int .i64 (IntKind.wrap .i64 (IntKind.wrap .u64 (↑(BitVec.toNat (BitVec.ofInt (IntKind.bits .u64) (Int.fdiv (IntKind.wrap .u64 (IntKind.wrap .u64 (IntKind.wrap .u64 (sd * 6364136223846793005) + IntKind.wrap .u64 b) + 1442695040888963407)) (2 ^ Min.min (Int.toNat 40) (IntKind.bits .u64))) &&& BitVec.ofInt (IntKind.bits .u64) 255)) : Int)))))] [] [(62, .box 55 [.slice A (List.length xs) c, .int .i64 (p + 1), .int .u64 (IntKind.wrap .u64 (IntKind.wrap .u64 (IntKind.wrap .u64 (sd * 6364136223846793005) + IntKind.wrap .u64 b) + 1442695040888963407))])] [(62, .some (ρ2 62))] (by kernel_rfl) ?_
      exact J.retB [(62, .box 55 (curC A xs.length c (p + 1) _))] rfl ⟨⟨rfl, .inl (congrArg some (hρ2.trans hρ1))⟩, trivial⟩ ⟨_, _, rfl, and255 _, rfl⟩

theorem pick_ok (A : Option Addr) (c : Nat) (xs : List Int) (p sd n : Int) (U : Hp) (hc : Cur U A xs) (h0 : 0 ≤ p) (h1 : p < 2^61) :
    BCall Try.prog 60 [.bp 20 0, .v (.int .i64 n)] [(20, .box 55 (curC A xs.length c p sd))] U fun r U' ML => ∃ b p' sd', r = .int .i64 b ∧ (0 ≤ b ∧ (b < n ∨ b = 0)) ∧ (p ≤ p' ∧ p' ≤ p + 2) ∧ ML = [(20, .box 55 (curC A xs.length c p' sd'))] := by
  refine BCall.of (args := [.bp 20 0, .v (.int .i64 n)]) E_ok mix Try.func60 (by kernel_rfl) rfl Try.ntmps60 (Nat.le_of_ble_eq_true rfl) rfl fun F w0 ρ => ?_
  refine J.to 10 [] 20 [(0, .bp 20 0), (1, .v (.int .i64 n)), (4, .v (.int .i64 0)), (7, .v (.bool (Decidable.decide (n ≤ 1))))] [] [(20, .box 55 [.slice A (List.length xs) c, .int .i64 p, .int .u64 sd])] [(20, .some (ρ 20))] (by kernel_rfl) ?_
  refine J.br rfl rfl (fun h => ?_) (fun h => ?_)
  · refine J.to 5 [true] 20 [(0, .bp 20 0), (1, .v (.int .i64 n)), (4, .v (.int .i64 0))] [] [(20, .box 55 [.slice A (List.length xs) c, .int .i64 p, .int .u64 sd])] [(20, .some (ρ 20))] (by kernel_rfl) ?_
    exact J.retB [(20, .box 55 (curC A xs.length c p sd))] rfl ⟨⟨rfl, .inl rfl⟩, trivial⟩ ⟨0, p, sd, rfl, by omega, by omega, rfl⟩
  replace h : ¬ n ≤ 1 := of_decide_eq_false h
  refine J.to 5 [false] 20 [(0, .bp 20 0), (1, .v (.int .i64 n)), (4, .v (.int .i64 0)), (8, .bp 20 0)] [] [(20, .box 55 [.slice A (List.length xs) c, .int .i64 p, .int .u64 sd])] [(20, .some (ρ 20))] (by kernel_rfl) ?_
  refine J.one (Op1.bcall [(62, 20)] (args := [.bp 62 0]) (ML := [(62, .box 55 (curC A xs.length c p sd))]) rfl rfl rfl rfl rfl rfl rfl rfl rfl rfl (fun q hq => by simp at hq; subst hq; rfl) (fun q hq => by simp at hq; subst hq; rfl)
    (next_ok A c xs p sd U hc h0 (by omega)) fun v U2 ML hx2 ⟨b, sd', hv, hb, hML⟩ => ?_)
  subst hv; subst hML
  refine J.to 8 [] 20 [(0, .bp 20 0), (1, .v (.int .i64 n)), (4, .v (.int .i64 0)), (5, .v (.int .i64 b)), (11, .v (.bool (Decidable.decide (n > 200))))] [] [(20, .box 55 [.slice A (List.length xs) c, .int .i64 (p + 1), .int .u64 sd'])] [(20, .some (ρ 20))] (by kernel_rfl) ?_
  have fin : ∀ x : Int, 0 ≤ x → 0 ≤ x.tmod n ∧ (x.tmod n < n ∨ x.tmod n = 0) := fun x hx => ⟨Int.tmod_nonneg _ hx, .inl (Int.tmod_lt_of_pos _ (by omega))⟩
  refine J.br rfl rfl (fun h2 => ?_) (fun h2 => ?_)
  · refine J.to 5 [true] 20 [(1, .v (.int .i64 n)), (4, .v (.int .i64 0)), (5, .v (.int .i64 b)), (13, .v (.int .i64 (IntKind.wrap .i64 (b * 256)))), (14, .bp 20 0)] [] [(20, .box 55 [.slice A (List.length xs) c, .int .i64 (p + 1), .int .u64 sd'])] [(20, .some (ρ 20))] (by kernel_rfl) ?_
    refine J.one (Op1.bcall [(62, 20)] (args := [.bp 62 0]) (ML := [(62, .box 55 (curC A xs.length c (p + 1) sd'))]) rfl rfl rfl rfl rfl rfl rfl rfl rfl rfl (fun q hq => by simp at hq; subst hq; rfl) (fun q hq => by simp at hq; subst hq; rfl)
      (next_ok A c xs (p + 1) sd' U2 (hc.mono hx2) (by omega) (by omega)) fun v U3 ML hx3 ⟨b2, sd2, hv, hb2, hML⟩ => ?_)
    subst hv; subst hML
    refine J.to 7 [] 20 [(4, .v (.int .i64 0)), (17, .v (.int .i64 (IntKind.wrap .i64 (IntKind.wrap .i64 (b * 256) + b2)))), (18, .v (.int .i64 n))] [] [(20, .box 55 [.slice A (List.length xs) c, .int .i64 (p + 1 + 1), .int .u64 sd2])] [(20, .some (ρ 20))] (by kernel_rfl) ?_
    refine J.one (Op1.bin rfl rfl rfl rfl rfl rfl rfl (fun w => run_rem (by omega) w) ?_)
    refine J.to 2 [] 20 [(4, .v (.int .i64 (Int.tmod (IntKind.wrap .i64 (IntKind.wrap .i64 (b * 256) + b2)) n)))] [] [(20, .box 55 [.slice A (List.length xs) c, .int .i64 (p + 1 + 1), .int .u64 sd2])] [(20, .some (ρ 20))] (by kernel_rfl) ?_
    rw [show IntKind.wrap .i64 (IntKind.wrap .i64 (b * 256) + b2) = b * 256 + b2 by
      rw [show IntKind.wrap .i64 (b * 256) = b * 256 from wr_id (by omega)]; exact wr_id (by omega)]
    exact J.retB [(20, .box 55 (curC A xs.length c (p + 1 + 1) sd2))] rfl ⟨⟨rfl, .inl rfl⟩, trivial⟩ ⟨_, p + 1 + 1, _, rfl, fin _ (by omega), by omega, rfl⟩
  · refine J.to 6 [false] 20 [(4, .v (.int .i64 0)), (17, .v (.int .i64 b)), (18, .v (.int .i64 n))] [] [(20, .box 55 [.slice A (List.length xs) c, .int .i64 (p + 1), .int .u64 sd'])] [(20, .some (ρ 20))] (by kernel_rfl) ?_
    refine J.one (Op1.bin rfl rfl rfl rfl rfl rfl rfl (fun w => run_rem (by omega) w) ?_)
    refine J.to 2 [] 20 [(4, .v (.int .i64 (Int.tmod b n)))] [] [(20, .box 55 [.slice A (List.length xs) c, .int .i64 (p + 1), .int .u64 sd'])] [(20, .some (ρ 20))] (by kernel_rfl) ?_
    exact J.retB [(20, .box 55 (curC A xs.length c (p + 1) sd'))] rfl ⟨⟨rfl, .inl rfl⟩, trivial⟩ ⟨_, p + 1, _, rfl, fin _ (by omega), by omega, rfl⟩

theorem one_ok (A : Option Addr) (c : Nat) (xs : List Int) (p sd n : Int) (U : Hp) (hc : Cur U A xs) (h0 : 0 ≤ p) (h1 : p < 2^61) :
    BCall Try.prog 27 [.bp 9 0, .v (.int .i64 n)] [(9, .box 55 (curC A xs.length c p sd))] U fun r U' ML => ∃ (b : Bool) (p' sd' : Int), r = .bool b ∧ (p ≤ p' ∧ p' ≤ p + 2) ∧ ML = [(9, .box 55 (curC A xs.length c p' sd'))] := by
  refine BCall.of (args := [.bp 9 0, .v (.int .i64 n)]) E_ok mix Try.func27 (by kernel_rfl) rfl Try.ntmps27 (Nat.le_of_ble_eq_true rfl) rfl fun F w0 ρ => ?_
  refine J.to 8 [] 9 [(4, .v (.bool false)), (5, .bp 9 0), (6, .v (.int .i64 n))] [(4, .some false)] [(9, .box 55 [.slice A (List.length xs) c, .int .i64 p, .int .u64 sd])] [(9, .some (ρ 9))] (by kernel_rfl) ?_
  refine J.one (Op1.bcall [(20, 9)] (args := [.bp 20 0, .v _]) (ML := [(20, .box 55 (curC A xs.length c p sd))]) rfl rfl rfl rfl rfl rfl rfl rfl rfl rfl (fun q hq => by simp at hq; subst hq; rfl) (fun q hq => by simp at hq; subst hq; rfl)
    (pick_ok A c xs p sd n U hc h0 h1) fun v U2 ML hx2 ⟨b, p', sd', hv, hb, hp, hML⟩ => ?_)
  subst hv; subst hML
  refine J.to 3 [] 9 [(4, .v (.bool (b == 0)))] [] [(9, .box 55 [.slice A (List.length xs) c, .int .i64 p', .int .u64 sd'])] [(9, .some (ρ 9))] (by kernel_rfl) ?_
  exact J.retB [(9, .box 55 (curC A xs.length c p' sd'))] rfl ⟨⟨rfl, .inl rfl⟩, trivial⟩ ⟨_, p', _, rfl, hp, rfl⟩

theorem among_ok (A : Option Addr) (c : Nat) (xs : List Int) (p sd : Int) (va : Value) (l : List Int) (U : Hp) (hc : Cur U A xs) (h0 : 0 ≤ p) (h1 : p < 2^61) (hl : Rd rInt U va l) (hn : 0 < l.length) :
    BCall Try.prog 61 [.bp 12 0, .v va] [(12, .box 55 (curC A xs.length c p sd))] U fun r U' ML => ∃ b p' sd', r = .int .i64 b ∧ (p ≤ p' ∧ p' ≤ p + 2) ∧ ML = [(12, .box 55 (curC A xs.length c p' sd'))] := by
  obtain ⟨B, d, rfl, hd, hB⟩ := hl
  refine BCall.of (args := [.bp 12 0, .v (.slice B l.length d)]) E_ok mix Try.func61 (by kernel_rfl) rfl Try.ntmps61 (Nat.le_of_ble_eq_true rfl) rfl fun F w0 ρ => ?_
  refine J.to 10 [] 12 [(4, .v (.int .i64 0)), (5, .v (.slice B (List.length l) d)), (6, .bp 12 0), (8, .v (.int .i64 (↑(List.length l) : Int)))] [] [(12, .box 55 [.slice A (List.length xs) c, .int .i64 p, .int .u64 sd])] [(12, .some (ρ 12))] (by kernel_rfl) ?_
  refine J.one (Op1.bcall [(20, 12)] (args := [.bp 20 0, .v _]) (ML := [(20, .box 55 (curC A xs.length c p sd))]) rfl rfl rfl rfl rfl rfl rfl rfl rfl rfl (fun q hq => by simp at hq; subst hq; rfl) (fun q hq => by simp at hq; subst hq; rfl)
    (pick_ok A c xs p sd l.length U hc h0 h1) fun v U2 ML hx2 ⟨b, p', sd', hv, hb, hp, hML⟩ => ?_)
  subst hv; subst hML
  refine J.to 0 [] 12 [(4, .v (.int .i64 0)), (5, .v (.slice B (List.length l) d)), (9, .v (.int .i64 b))] [] [(12, .box 55 [.slice A (List.length xs) c, .int .i64 p', .int .u64 sd'])] [(12, .some (ρ 12))] (by kernel_rfl) ?_
  refine J.one (Op1.index (r := rInt) rfl rfl rfl rfl rfl ⟨_, _, _, _, _, rfl, rfl, rfl⟩ rfl rfl (hB.mono hx2) hb.1 (by omega) fun q b o' cs hq hcs => ?_)
  subst hcs
  refine J.to 3 [] 12 [(4, .v (.int .i64 q))] [] [(12, .box 55 [.slice A (List.length xs) c, .int .i64 p', .int .u64 sd'])] [(12, .some (ρ 12))] (by kernel_rfl) ?_
  exact J.retB [(12, .box 55 (curC A xs.length c p' sd'))] rfl ⟨⟨rfl, .inl rfl⟩, trivial⟩ ⟨_, p', _, rfl, hp, rfl⟩
end Go.Rx
end

section
open Go Go.Rx Go.Proofs
set_option maxHeartbeats 1000000
namespace Go.Rx

theorem l9Own_o (va vm : Value) (s : Sg) (U : Hp) (ha : Rd rInt U va s.acc) (hm : Rd rMv U vm s.mv) (hb : s.acc.length < 2^40) (hb2 : s.mv.length < 2^40) :
    OCall Try.prog 29 #[.agg #[va, vm, .int .i64 s.done, .bool s.und]] U fun r U' L => ∃ va' vm', r = .agg #[va', vm', .int .i64 s.done, .bool s.und] ∧ sgOwn va' vm' s L := by
  refine OCall.of (args := [.agg #[va, vm, .int .i64 s.done, .bool s.und]]) E_ok mix Try.func29 (by kernel_rfl) rfl Try.ntmps29 (Nat.le_of_ble_eq_true rfl) fun F w0 => ?_
  refine J.to 7 [] 14 [(1, .bp 1 0), (2, .bp 2 0)] [] [(1, .box 28 [va, vm, .int .i64 (Sg.done s), .bool (Sg.und s)]), (2, .box 28 [.slice .none 0 0, .slice .none 0 0, .int .i64 0, .bool false])] [] (by kernel_rfl) ?_
  refine J.one (Op1.buildSlice (pv := []) (cells := []) (zz := .int .i64 0) rfl rfl rfl rfl rfl ⟨_,_,_,_,_,rfl,rfl⟩ (by decide) (by decide) rfl rfl rfl fun g0 => ?_)
  refine J.to 2 [] 14 [(1, .bp 1 0), (2, .bp 2 0), (3, .v (.slice (.some (Addr.mk g0 0 .none)) 0 0)), (5, .v va)] [] [(1, .box 28 [va, vm, .int .i64 (Sg.done s), .bool (Sg.und s)]), (2, .box 28 [.slice .none 0 0, .slice .none 0 0, .int .i64 0, .bool false]), (3, .own (arr (.slice (.some (Addr.mk g0 0 .none)) 0 0) 3 1 0 []))] [] (by kernel_rfl) ?_
  refine J.one (Op1.append (t := 23) (e := 3) (k := 3) (news := intC s.acc) (m := s.acc.length) (bytes := 8) rfl rfl rfl rfl rfl rfl rfl rfl ⟨_,_,_,rfl⟩ rfl rfl rfl (by decide) rfl rfl ?_ (by simp [intC]) (by simp [intC, Value.oneCell']) (by omega) (by omega) fun v' hv' => ?_)
  · exact J.src_rd rfl ha (by intro i q cs hi hr; cases hr; exact intC_drop _ i q hi) (by simp [intC, rInt, Rp.int]) (by decide)
  refine J.own (k := 6) (k' := 6) (p' := arr v' 3 1 s.acc.length (intC s.acc)) rfl (.inl rfl) (fun h h1 => by rw [Nat.zero_add, List.nil_append] at h1; exact h1) ?_
  refine J.arrS 6 rfl fun A1 c1 e1 => ?_
  subst e1
  refine J.to 5 [] 14 [(1, .bp 1 0), (2, .bp 2 0)] [] [(2, .box 28 [.slice .none 0 0, .slice .none 0 0, .int .i64 0, .bool false]), (6, .own (arr (.slice A1 (List.length (Sg.acc s)) c1) 3 1 (List.length (Sg.acc s)) (intC (Sg.acc s)))), (1, .box 28 [.slice A1 (List.length (Sg.acc s)) c1, vm, .int .i64 (Sg.done s), .bool (Sg.und s)])] [] (by kernel_rfl) ?_
  refine J.one (Op1.buildSlice (len := 0) (size := 3) (pv := []) (cells := []) (zz := .agg #[.int .i64 0, .int .i64 0, .int .i64 0]) rfl rfl rfl rfl rfl ⟨_,_,_,_,_,rfl,rfl⟩ (by decide) (by decide) rfl rfl rfl fun g1 => ?_)
  refine J.to 2 [] 14 [(1, .bp 1 0), (2, .bp 2 0), (8, .v (.slice (.some (Addr.mk g1 0 .none)) 0 0)), (10, .v vm)] [] [(1, .box 28 [.slice A1 (List.length (Sg.acc s)) c1, vm, .int .i64 (Sg.done s), .bool (Sg.und s)]), (2, .box 28 [.slice .none 0 0, .slice .none 0 0, .int .i64 0, .bool false]), (6, .own (arr (.slice A1 (List.length (Sg.acc s)) c1) 3 1 (List.length (Sg.acc s)) (intC (Sg.acc s)))), (8, .own (arr (.slice (.some (Addr.mk g1 0 .none)) 0 0) 59 3 0 []))] [] (by kernel_rfl) ?_
  refine J.one (Op1.append (t := 24) (e := 59) (k := 8) (news := mvC s.mv) (m := s.mv.length) (bytes := 24) rfl rfl rfl rfl rfl rfl rfl rfl ⟨_,_,_,rfl⟩ rfl rfl rfl (by decide) rfl rfl ?_ (mvC_len _) ?_ (by omega) (by omega) fun v2 hv2 => ?_)
  · exact J.src_rd rfl hm (by intro i q cs hi hr; cases hr; exact mvC_drop _ i q hi) (by rw [mvC_len]; rfl) (by decide)
  · intro u hu
    simp only [mvC, List.mem_flatMap] at hu
    obtain ⟨m, -, hm⟩ := hu
    simp only [Mv.cells, List.mem_cons, List.not_mem_nil, or_false] at hm
    rcases hm with rfl | rfl | rfl <;> rfl
  refine J.own (k := 11) (k' := 11) (p' := arr v2 59 3 s.mv.length (mvC s.mv)) rfl (.inl rfl) (fun h h1 => by rw [Nat.zero_add, List.nil_append] at h1; exact h1) ?_
  refine J.arrS 11 rfl fun A2 c2 e2 => ?_
  subst e2
  refine J.join 6 11 rfl rfl rfl ?_
  refine J.to 8 [] 14 [(2, .bp 2 0)] [] [(6, .own (star (arr (.slice A1 (List.length (Sg.acc s)) c1) 3 1 (List.length (Sg.acc s)) (intC (Sg.acc s))) (arr (.slice A2 (List.length (Sg.mv s)) c2) 59 3 (List.length (Sg.mv s)) (mvC (Sg.mv s))))), (2, .box 28 [.slice A1 (List.length (Sg.acc s)) c1, .slice A2 (List.length (Sg.mv s)) c2, .int .i64 (Sg.done s), .bool (Sg.und s)])] [] (by kernel_rfl) ?_
  exact J.ret ⟨_, rfl, .inr ⟨6, _, rfl, fun L hL => ⟨_, _, rfl, hL⟩⟩⟩

def stepOwn (va vm : Value) (s : Sg) (r : Value) (L : Hp) : Prop := ∃ va', r = .tuple #[.agg #[va', vm, .int .i64 s.step.1.done, .bool s.step.1.und], .bool s.step.2] ∧ ((va' = va ∧ s.step.1.acc = s.acc) ∨ arr va' 3 1 s.acc.length (intC s.step.1.acc) L)
theorem l9Step_o (A B : Option Addr) (ca c : Nat) (s : Sg) (U : Hp) (hca : s.acc.length ≤ ca) (hc : s.mv.length ≤ c) (hA : Arr rInt U A s.acc) (hB : Arr rMv U B s.mv) (hf : s.form = true) :
    OCall Try.prog 35 #[.agg #[.slice A s.acc.length ca, .slice B s.mv.length c, .int .i64 s.done, .bool s.und]] U fun r U' L => stepOwn (.slice A s.acc.length ca) (.slice B s.mv.length c) s r L := by
  simp only [Sg.form, accB, Bool.and_eq_true, inB_iff, decide_eq_true_eq] at hf
  obtain ⟨⟨⟨⟨hacc, hal⟩, hml⟩, hd⟩, hmv⟩ := hf
  refine OCall.of (args := [.agg #[.slice A s.acc.length ca, .slice B s.mv.length c, .int .i64 s.done, .bool s.und]]) E_ok mix Try.func35 (by kernel_rfl) rfl Try.ntmps35 (Nat.le_of_ble_eq_true rfl) fun F w0 => ?_
  refine J.to 12 [] 61 [(1, .bp 1 0), (2, .bp 2 0), (3, .v (.bool false)), (7, .v (.bool (Sg.und s)))] [(3, .some false)] [(1, .box 28 [.slice A (List.length (Sg.acc s)) ca, .slice B (List.length (Sg.mv s)) c, .int .i64 (Sg.done s), .bool (Sg.und s)]), (2, .box 28 [.slice .none 0 0, .slice .none 0 0, .int .i64 0, .bool false])] [] (by kernel_rfl) ?_
  refine J.br rfl rfl (fun h1 => ?_) (fun h1 => ?_)
  · refine J.to 8 [true] 61 [(1, .bp 1 0), (2, .bp 2 0), (3, .v (.bool false)), (10, .v (.bool (Sg.done s == 0)))] [(3, .some false)] [(1, .box 28 [.slice A (List.length (Sg.acc s)) ca, .slice B (List.length (Sg.mv s)) c, .int .i64 (Sg.done s), .bool (Sg.und s)]), (2, .box 28 [.slice .none 0 0, .slice .none 0 0, .int .i64 0, .bool false])] [] (by kernel_rfl) ?_
    refine J.br rfl rfl (fun h2 => ?_) (fun h2 => ?_)
    · refine J.to 7 [true] 61 [(1, .bp 1 0), (2, .bp 2 0), (3, .v (.bool false))] [(3, .some false)] [(1, .box 28 [.slice A (List.length (Sg.acc s)) ca, .slice B (List.length (Sg.mv s)) c, .int .i64 (Sg.done s), .bool (Sg.und s)]), (2, .box 28 [.slice A (List.length (Sg.acc s)) ca, .slice B (List.length (Sg.mv s)) c, .int .i64 (Sg.done s), .bool (Sg.und s)])] [] (by kernel_rfl) ?_
      have h2 : s.done = 0 := by simpa using h2
      have e : s.step = (s, false) := by simp [Sg.step, h1, h2]
      exact J.ret ⟨_, rfl, .inl ⟨.slice A s.acc.length ca, by rw [e]; rfl, .inl ⟨rfl, by rw [e]⟩⟩⟩
    · refine J.to 11 [false] 61 [(1, .bp 1 0), (2, .bp 2 0), (3, .v (.bool false))] [(3, .some false)] [(2, .box 28 [.slice .none 0 0, .slice .none 0 0, .int .i64 0, .bool false]), (1, .box 28 [.slice A (List.length (Sg.acc s)) ca, .slice B (List.length (Sg.mv s)) c, .int .i64 (IntKind.wrap .i64 (Sg.done s - 1)), .bool (Sg.und s)])] [] (by kernel_rfl) ?_
      have h2 : s.done ≠ 0 := by simpa using h2
      have ew : wr (s.done - 1) = s.done - 1 := wr_id (by omega)
      refine J.any [1] [11, 12, 13, 14] [] trivial fun ρ1 _ => ?_
      refine J.takeTo true [0, 1, 2, 3, 4, 5] 9 61 [(1, .bp 1 0), (2, .bp 2 0), (3, .v (.bool false)), (17, .bp 1 0), (18, .v (.slice A (List.length (Sg.acc s)) ca)), (19, .bp 1 1), (20, .v (.slice B (List.length (Sg.mv s)) c)), (21, .bp 1 2), (22, .v (.int .i64 (IntKind.wrap .i64 (Sg.done s - 1))))] [(3, .some false)] [(1, .box 28 [.slice A (List.length (Sg.acc s)) ca, .slice B (List.length (Sg.mv s)) c, .int .i64 (IntKind.wrap .i64 (Sg.done s - 1)), .bool (Sg.und s)]), (2, .box 28 [.slice .none 0 0, .slice .none 0 0, .int .i64 0, .bool false])] [(1, .some (ρ1 1)), (2, .some (ρ1 2))] (by first | exact Ext.refl _ | assumption | exact Ext.trans (by assumption) (by assumption) | exact Ext.trans (by assumption) (Ext.trans (by assumption) (by assumption))) (fun h => rfl) ⟨⟨rfl, rfl⟩, trivial⟩ rfl (by kernel_rfl) ?_
      refine J.aone (i := 6) (by kernel_rfl) (Op1.index (r := rMv) rfl rfl rfl rfl rfl ⟨_, _, _, _, _, rfl, rfl, rfl⟩ rfl rfl hB (by rw [show IntKind.wrap .i64 (s.done - 1) = s.done - 1 from ew]; omega) (by rw [show IntKind.wrap .i64 (s.done - 1) = s.done - 1 from ew]; omega) fun q b o' cs hq hcs => ⟨fun _ => ⟨Ext.refl _, ⟨rfl, rfl⟩, trivial⟩, ?_⟩)
      subst hcs
      rw [show IntKind.wrap .i64 (s.done - 1) = s.done - 1 from ew] at hq
      have hq' : s.mv.getD (s.done - 1).toNat ⟨0, 0, 0⟩ = q := by
        rw [List.getD_eq_getElem?_getD, hq]; rfl
      have hqm : mvB s.acc.length q = true := List.all_eq_true.1 hmv q (List.mem_of_getElem? hq)
      obtain ⟨m1, m2, m3, m4, m5⟩ := mvB_some (by omega) hqm
      refine J.takeTo true [7] 7 61 [(1, .bp 1 0), (2, .bp 2 0), (3, .v (.bool false)), (17, .bp 1 0), (18, .v (.slice A (List.length (Sg.acc s)) ca)), (19, .bp 1 1), (20, .v (.slice B (List.length (Sg.mv s)) c)), (21, .bp 1 2), (22, .v (.int .i64 (IntKind.wrap .i64 (Sg.done s - 1)))), (23, .win b o' [.int .i64 (Mv.a q), .int .i64 (Mv.b q), .int .i64 (Mv.n q)] 0), (24, .v (.agg (Array.mk [.int .i64 (Mv.a q), .int .i64 (Mv.b q), .int .i64 (Mv.n q)])))] [(3, .some false)] [(1, .box 28 [.slice A (List.length (Sg.acc s)) ca, .slice B (List.length (Sg.mv s)) c, .int .i64 (IntKind.wrap .i64 (Sg.done s - 1)), .bool (Sg.und s)]), (2, .box 28 [.slice .none 0 0, .slice .none 0 0, .int .i64 0, .bool false])] [(1, .some (ρ1 1)), (2, .some (ρ1 2))] (by first | exact Ext.refl _ | assumption | exact Ext.trans (by assumption) (by assumption) | exact Ext.trans (by assumption) (Ext.trans (by assumption) (by assumption))) (fun h => rfl) ⟨⟨rfl, rfl⟩, trivial⟩ rfl (by kernel_rfl) ?_
      refine J.aone (i := 8) (by kernel_rfl) (Op1.call rfl rfl rfl rfl rfl rfl rfl rfl (l9Back_ok q _) fun v U5 hx5 hv => ⟨fun _ => ⟨hx5, ⟨rfl, rfl⟩, trivial⟩, ?_⟩); subst hv
      refine J.aone (i := 9) (by kernel_rfl) (Op1.ocall rfl rfl rfl rfl rfl rfl rfl (l9Do_own _ s.acc q.back _ ⟨A, ca, rfl, hca, hA.mono hx5⟩ (by omega) (by simp only [Mv.back]; omega) (by simp only [Mv.back]; omega)) fun v U6 hx6 => ⟨fun _ => ⟨hx5.trans hx6, ⟨rfl, rfl⟩, trivial⟩, ?_⟩)
      refine J.own' (α := Σ' x : Option Addr × Nat, v = .tuple #[.slice x.1 s.acc.length x.2, .bool (doOk s.acc q.back)]) (p' := fun x => arr (.slice x.1.1 s.acc.length x.1.2) 3 1 s.acc.length (intC (doL s.acc q.back))) 26 rfl (fun h ⟨v', e, h1⟩ => let ⟨X, y, e1⟩ := arr_slice h1; ⟨⟨(X, y), by rw [e, e1]⟩, e1 ▸ h1⟩) ?_
      rintro ⟨⟨A2, c2⟩, rfl⟩
      dsimp only
      refine J.takeTo false [10, 11, 12, 13] 1 61 [(1, .bp 1 0), (2, .bp 2 0), (3, .v (.bool false)), (17, .bp 1 0), (18, .v (.slice A (List.length (Sg.acc s)) ca)), (19, .bp 1 1), (20, .v (.slice B (List.length (Sg.mv s)) c)), (21, .bp 1 2), (22, .v (.int .i64 (IntKind.wrap .i64 (Sg.done s - 1)))), (23, .win b o' [.int .i64 (Mv.a q), .int .i64 (Mv.b q), .int .i64 (Mv.n q)] 0), (24, .v (.agg (Array.mk [.int .i64 (Mv.a q), .int .i64 (Mv.b q), .int .i64 (Mv.n q)]))), (25, .v (.agg (Array.mk [.int .i64 (Mv.a (Mv.back q)), .int .i64 (Mv.b (Mv.back q)), .int .i64 (Mv.n (Mv.back q))]))), (26, .v (.tuple (Array.mk [.slice A2 (List.length (Sg.acc s)) c2, .bool (doOk (Sg.acc s) (Mv.back q))]))), (16, .v (.tuple (Array.mk [.slice A2 (List.length (Sg.acc s)) c2, .bool (doOk (Sg.acc s) (Mv.back q))]))), (27, .v (.slice A2 (List.length (Sg.acc s)) c2)), (29, .bp 1 0)] [(3, .some false)] [(1, .box 28 [.slice A (List.length (Sg.acc s)) ca, .slice B (List.length (Sg.mv s)) c, .int .i64 (IntKind.wrap .i64 (Sg.done s - 1)), .bool (Sg.und s)]), (2, .box 28 [.slice .none 0 0, .slice .none 0 0, .int .i64 0, .bool false]), (26, .own (arr (.slice A2 (List.length (Sg.acc s)) c2) 3 1 (List.length (Sg.acc s)) (intC (doL (Sg.acc s) (Mv.back q)))))] [(1, .some (ρ1 1)), (2, .some (ρ1 2))] (by first | exact Ext.refl _ | assumption | exact Ext.trans (by assumption) (by assumption) | exact Ext.trans (by assumption) (Ext.trans (by assumption) (by assumption))) (fun h => by cases h) ⟨⟨rfl, rfl⟩, trivial⟩ rfl (by kernel_rfl) ?_
      refine J.aone (i := 14) (by kernel_rfl) (Op1.step rfl rfl rfl ⟨nofun, ?_⟩)
      refine J.adone' (by kernel_rfl) ?_
      refine J.to 6 [] 61 [(1, .bp 1 0), (2, .bp 2 0), (3, .v (.bool true))] [(3, .some true)] [(1, .box 28 [.slice A2 (List.length (Sg.acc s)) c2, .slice B (List.length (Sg.mv s)) c, .int .i64 (IntKind.wrap .i64 (Sg.done s - 1)), .bool (Sg.und s)]), (26, .own (arr (.slice A2 (List.length (Sg.acc s)) c2) 3 1 (List.length (Sg.acc s)) (intC (doL (Sg.acc s) (Mv.back q))))), (2, .box 28 [.slice A2 (List.length (Sg.acc s)) c2, .slice B (List.length (Sg.mv s)) c, .int .i64 (IntKind.wrap .i64 (Sg.done s - 1)), .bool (Sg.und s)])] [(1, .some (ρ1 1)), (2, .some (ρ1 2))] (by kernel_rfl) ?_
      have e : s.step = ({ s with done := wr (s.done - 1), acc := doL s.acc q.back }, true) := by simp only [Sg.step, h1, h2, if_true, if_false, hq']
      exact J.ret ⟨_, rfl, .inr ⟨26, _, rfl, fun L hL => ⟨.slice A2 s.acc.length c2, by rw [e]; rfl, .inr (by rw [e]; exact hL)⟩⟩⟩
  · refine J.to 12 [false] 61 [(1, .bp 1 0), (2, .bp 2 0), (3, .v (.bool false)), (36, .v (.bool (Sg.done s == (↑(List.length (Sg.mv s)) : Int))))] [(3, .some false)] [(1, .box 28 [.slice A (List.length (Sg.acc s)) ca, .slice B (List.length (Sg.mv s)) c, .int .i64 (Sg.done s), .bool (Sg.und s)]), (2, .box 28 [.slice .none 0 0, .slice .none 0 0, .int .i64 0, .bool false])] [] (by kernel_rfl) ?_
    have h1 : s.und = false := by simpa using h1
    refine J.br rfl rfl (fun h2 => ?_) (fun h2 => ?_)
    · refine J.to 7 [true] 61 [(1, .bp 1 0), (2, .bp 2 0), (3, .v (.bool false))] [(3, .some false)] [(1, .box 28 [.slice A (List.length (Sg.acc s)) ca, .slice B (List.length (Sg.mv s)) c, .int .i64 (Sg.done s), .bool (Sg.und s)]), (2, .box 28 [.slice A (List.length (Sg.acc s)) ca, .slice B (List.length (Sg.mv s)) c, .int .i64 (Sg.done s), .bool (Sg.und s)])] [] (by kernel_rfl) ?_
      have h2 : s.done = s.mv.length := by simpa using h2
      have e : s.step = (s, false) := by simp [Sg.step, h1, h2]
      exact J.ret ⟨_, rfl, .inl ⟨.slice A s.acc.length ca, by rw [e]; rfl, .inl ⟨rfl, by rw [e]⟩⟩⟩
    · refine J.to 3 [false] 61 [(1, .bp 1 0), (2, .bp 2 0), (3, .v (.bool false))] [(3, .some false)] [(1, .box 28 [.slice A (List.length (Sg.acc s)) ca, .slice B (List.length (Sg.mv s)) c, .int .i64 (Sg.done s), .bool (Sg.und s)]), (2, .box 28 [.slice .none 0 0, .slice .none 0 0, .int .i64 0, .bool false])] [] (by kernel_rfl) ?_
      have h2 : s.done ≠ s.mv.length := by simpa using h2
      refine J.any [1] [9, 10, 11, 12, 13] [] trivial fun ρ1 _ => ?_
      refine J.takeTo true [0, 1, 2, 3, 4, 5] 8 61 [(1, .bp 1 0), (2, .bp 2 0), (3, .v (.bool false)), (39, .bp 1 0), (40, .v (.slice A (List.length (Sg.acc s)) ca)), (41, .bp 1 1), (42, .v (.slice B (List.length (Sg.mv s)) c)), (43, .bp 1 2), (44, .v (.int .i64 (Sg.done s)))] [(3, .some false)] [(1, .box 28 [.slice A (List.length (Sg.acc s)) ca, .slice B (List.length (Sg.mv s)) c, .int .i64 (Sg.done s), .bool (Sg.und s)]), (2, .box 28 [.slice .none 0 0, .slice .none 0 0, .int .i64 0, .bool false])] [(1, .some (ρ1 1)), (2, .some (ρ1 2))] (by first | exact Ext.refl _ | assumption | exact Ext.trans (by assumption) (by assumption) | exact Ext.trans (by assumption) (Ext.trans (by assumption) (by assumption))) (fun h => rfl) ⟨⟨rfl, rfl⟩, trivial⟩ rfl (by kernel_rfl) ?_
      refine J.aone (i := 6) (by kernel_rfl) (Op1.index (r := rMv) rfl rfl rfl rfl rfl ⟨_, _, _, _, _, rfl, rfl, rfl⟩ rfl rfl hB (by omega) (by omega) fun q b o' cs hq hcs => ⟨fun _ => ⟨Ext.refl _, ⟨rfl, rfl⟩, trivial⟩, ?_⟩)
      subst hcs
      have hq' : s.mv.getD s.done.toNat ⟨0, 0, 0⟩ = q := by
        rw [List.getD_eq_getElem?_getD, hq]; rfl
      have hqm : mvB s.acc.length q = true := List.all_eq_true.1 hmv q (List.mem_of_getElem? hq)
      obtain ⟨m1, m2, m3, m4, m5⟩ := mvB_some (by omega) hqm
      refine J.takeTo true [7] 6 61 [(1, .bp 1 0), (2, .bp 2 0), (3, .v (.bool false)), (39, .bp 1 0), (40, .v (.slice A (List.length (Sg.acc s)) ca)), (41, .bp 1 1), (42, .v (.slice B (List.length (Sg.mv s)) c)), (43, .bp 1 2), (44, .v (.int .i64 (Sg.done s))), (45, .win b o' [.int .i64 (Mv.a q), .int .i64 (Mv.b q), .int .i64 (Mv.n q)] 0), (46, .v (.agg (Array.mk [.int .i64 (Mv.a q), .int .i64 (Mv.b q), .int .i64 (Mv.n q)])))] [(3, .some false)] [(1, .box 28 [.slice A (List.length (Sg.acc s)) ca, .slice B (List.length (Sg.mv s)) c, .int .i64 (Sg.done s), .bool (Sg.und s)]), (2, .box 28 [.slice .none 0 0, .slice .none 0 0, .int .i64 0, .bool false])] [(1, .some (ρ1 1)), (2, .some (ρ1 2))] (by first | exact Ext.refl _ | assumption | exact Ext.trans (by assumption) (by assumption) | exact Ext.trans (by assumption) (Ext.trans (by assumption) (by assumption))) (fun h => rfl) ⟨⟨rfl, rfl⟩, trivial⟩ rfl (by kernel_rfl) ?_
      refine J.aone (i := 8) (by kernel_rfl) (Op1.ocall rfl rfl rfl rfl rfl rfl rfl (l9Do_own _ s.acc q _ ⟨A, ca, rfl, hca, hA⟩ (by omega) (by omega) (by omega)) fun v U6 hx6 => ⟨fun _ => ⟨hx6, ⟨rfl, rfl⟩, trivial⟩, ?_⟩)
      refine J.own' (α := Σ' x : Option Addr × Nat, v = .tuple #[.slice x.1 s.acc.length x.2, .bool (doOk s.acc q)]) (p' := fun x => arr (.slice x.1.1 s.acc.length x.1.2) 3 1 s.acc.length (intC (doL s.acc q))) 47 rfl (fun h ⟨v', e, h1⟩ => let ⟨X, y, e1⟩ := arr_slice h1; ⟨⟨(X, y), by rw [e, e1]⟩, e1 ▸ h1⟩) ?_
      rintro ⟨⟨A2, c2⟩, rfl⟩
      dsimp only
      refine J.takeTo false [9, 10, 11, 12, 13] 0 61 [(1, .bp 1 0), (2, .bp 2 0), (3, .v (.bool false)), (39, .bp 1 0), (40, .v (.slice A (List.length (Sg.acc s)) ca)), (41, .bp 1 1), (42, .v (.slice B (List.length (Sg.mv s)) c)), (43, .bp 1 2), (44, .v (.int .i64 (Sg.done s))), (45, .win b o' [.int .i64 (Mv.a q), .int .i64 (Mv.b q), .int .i64 (Mv.n q)] 0), (46, .v (.agg (Array.mk [.int .i64 (Mv.a q), .int .i64 (Mv.b q), .int .i64 (Mv.n q)]))), (47, .v (.tuple (Array.mk [.slice A2 (List.length (Sg.acc s)) c2, .bool (doOk (Sg.acc s) q)]))), (38, .v (.tuple (Array.mk [.slice A2 (List.length (Sg.acc s)) c2, .bool (doOk (Sg.acc s) q)]))), (48, .v (.slice A2 (List.length (Sg.acc s)) c2)), (49, .v (.bool (doOk (Sg.acc s) q))), (4, .v (.slice A2 (List.length (Sg.acc s)) c2)), (5, .v (.bool (doOk (Sg.acc s) q)))] [(3, .some false)] [(1, .box 28 [.slice A (List.length (Sg.acc s)) ca, .slice B (List.length (Sg.mv s)) c, .int .i64 (Sg.done s), .bool (Sg.und s)]), (2, .box 28 [.slice .none 0 0, .slice .none 0 0, .int .i64 0, .bool false]), (47, .own (arr (.slice A2 (List.length (Sg.acc s)) c2) 3 1 (List.length (Sg.acc s)) (intC (doL (Sg.acc s) q))))] [(1, .some (ρ1 1)), (2, .some (ρ1 2))] (by first | exact Ext.refl _ | assumption | exact Ext.trans (by assumption) (by assumption) | exact Ext.trans (by assumption) (Ext.trans (by assumption) (by assumption))) (fun h => by cases h) ⟨⟨rfl, rfl⟩, trivial⟩ rfl (by kernel_rfl) ?_
      refine J.adone' (by kernel_rfl) ?_
      refine J.to 6 [] 61 [(1, .bp 1 0), (2, .bp 2 0), (3, .v (.bool false)), (4, .v (.slice A2 (List.length (Sg.acc s)) c2)), (51, .v (.bool !doOk (Sg.acc s) q))] [(3, .some false)] [(1, .box 28 [.slice A (List.length (Sg.acc s)) ca, .slice B (List.length (Sg.mv s)) c, .int .i64 (Sg.done s), .bool (Sg.und s)]), (2, .box 28 [.slice .none 0 0, .slice .none 0 0, .int .i64 0, .bool false]), (47, .own (arr (.slice A2 (List.length (Sg.acc s)) c2) 3 1 (List.length (Sg.acc s)) (intC (doL (Sg.acc s) q))))] [(1, .some (ρ1 1)), (2, .some (ρ1 2))] (by kernel_rfl) ?_
      refine J.br rfl rfl (fun h3 => ?_) (fun h3 => ?_)
      · refine J.to 12 [true] 61 [(1, .bp 1 0), (2, .bp 2 0), (4, .v (.slice A2 (List.length (Sg.acc s)) c2)), (3, .v (.bool true))] [(3, .some true)] [(47, .own (arr (.slice A2 (List.length (Sg.acc s)) c2) 3 1 (List.length (Sg.acc s)) (intC (doL (Sg.acc s) q)))), (1, .box 28 [.slice A (List.length (Sg.acc s)) ca, .slice B (List.length (Sg.mv s)) c, .int .i64 (Sg.done s), .bool true]), (2, .box 28 [.slice A (List.length (Sg.acc s)) ca, .slice B (List.length (Sg.mv s)) c, .int .i64 (Sg.done s), .bool true])] [(1, .some (ρ1 1)), (2, .some (ρ1 2))] (by kernel_rfl) ?_
        have h3 : doOk s.acc q = false := by simpa using h3
        have e : s.step = ({ s with und := true }, true) := by simp only [Sg.step, h1, h2, hq', h3, Bool.false_eq_true, if_false, if_true]
        exact J.ret ⟨_, rfl, .inl ⟨.slice A s.acc.length ca, by rw [e]; rfl, .inl ⟨rfl, by rw [e]⟩⟩⟩
      · refine J.to 22 [false] 61 [(2, .bp 2 0), (3, .v (.bool true))] [(3, .some true)] [(47, .own (arr (.slice A2 (List.length (Sg.acc s)) c2) 3 1 (List.length (Sg.acc s)) (intC (doL (Sg.acc s) q)))), (1, .box 28 [.slice A2 (List.length (Sg.acc s)) c2, .slice B (List.length (Sg.mv s)) c, .int .i64 (IntKind.wrap .i64 (Sg.done s + 1)), .bool (Sg.und s)]), (2, .box 28 [.slice A2 (List.length (Sg.acc s)) c2, .slice B (List.length (Sg.mv s)) c, .int .i64 (IntKind.wrap .i64 (Sg.done s + 1)), .bool (Sg.und s)])] [(1, .some (ρ1 1)), (2, .some (ρ1 2))] (by kernel_rfl) ?_
        have h3 : doOk s.acc q = true := by simpa using h3
        have e : s.step = ({ s with acc := doL s.acc q, done := wr (s.done + 1) }, true) := by simp only [Sg.step, h1, h2, hq', h3, Bool.false_eq_true, if_false, if_true]
        exact J.ret ⟨_, rfl, .inr ⟨47, _, rfl, fun L hL => ⟨.slice A2 s.acc.length c2, by rw [e]; simp only [← h1]; rfl, .inr (by rw [e]; exact hL)⟩⟩⟩

theorem specFail_o (va vm : Value) (s : Sg) (U : Hp) (ha : Rd rInt U va s.acc) (hm : Rd rMv U vm s.mv) (hb : s.acc.length < 2^40) (hb2 : s.mv.length < 2^40) :
    OCall Try.prog 59 #[.agg #[va, vm, .int .i64 s.done, .bool s.und]] U fun r U' L => ∃ va' vm', r = .tuple #[.agg #[va', vm', .int .i64 (failS s).1.done, .bool (failS s).1.und], .bool (failS s).2] ∧ sgOwn va' vm' (failS s).1 L := by
  obtain ⟨B, c, rfl, hc, hB⟩ := hm
  obtain ⟨A, ca, rfl, hca, hA⟩ := ha
  refine OCall.of (args := [.agg #[.slice A s.acc.length ca, .slice B s.mv.length c, .int .i64 s.done, .bool s.und]]) E_ok mix Try.func59 (by kernel_rfl) rfl Try.ntmps59 (Nat.le_of_ble_eq_true rfl) fun F w0 => ?_
  have zero : failS s = (Sg.zero, false) → ∃ va' vm', Value.tuple #[.agg #[.slice none 0 0, .slice none 0 0, .int .i64 0, .bool false], .bool false] = .tuple #[.agg #[va', vm', .int .i64 (failS s).1.done, .bool (failS s).1.und], .bool (failS s).2] ∧ sgOwn va' vm' (failS s).1 Hp.emp := by
    intro e
    rw [e]
    exact ⟨_, _, rfl, zeroOwn⟩
  refine J.to 10 [] 24 [(1, .bp 1 0), (2, .bp 2 0), (3, .v (.bool false)), (4, .v (.agg (Array.mk [.slice A (List.length (Sg.acc s)) ca, .slice B (List.length (Sg.mv s)) c, .int .i64 (Sg.done s), .bool (Sg.und s)])))] [(3, .some false)] [(1, .box 28 [.slice A (List.length (Sg.acc s)) ca, .slice B (List.length (Sg.mv s)) c, .int .i64 (Sg.done s), .bool (Sg.und s)]), (2, .box 28 [.slice .none 0 0, .slice .none 0 0, .int .i64 0, .bool false])] [] (by kernel_rfl) ?_
  refine J.one (Op1.call rfl rfl rfl rfl rfl rfl rfl rfl (specGood_ok _ _ s U ⟨A, ca, rfl, hca, hA⟩ ⟨B, c, rfl, hc, hB⟩ hb hb2) fun v U1 hx1 hv => ?_); subst hv
  refine J.to 2 [] 24 [(1, .bp 1 0), (2, .bp 2 0), (3, .v (.bool false)), (7, .v (.bool !Sg.good s))] [(3, .some false)] [(1, .box 28 [.slice A (List.length (Sg.acc s)) ca, .slice B (List.length (Sg.mv s)) c, .int .i64 (Sg.done s), .bool (Sg.und s)]), (2, .box 28 [.slice .none 0 0, .slice .none 0 0, .int .i64 0, .bool false])] [] (by kernel_rfl) ?_
  refine J.br rfl rfl (fun h1 => ?_) (fun h1 => ?_)
  · refine J.to 19 [true] 24 [(1, .bp 1 0), (2, .bp 2 0), (3, .v (.bool false))] [(3, .some false)] [(1, .box 28 [.slice A (List.length (Sg.acc s)) ca, .slice B (List.length (Sg.mv s)) c, .int .i64 (Sg.done s), .bool (Sg.und s)]), (2, .box 28 [.slice .none 0 0, .slice .none 0 0, .int .i64 0, .bool false])] [] (by kernel_rfl) ?_
    have h1 : s.good = false := by simpa using h1
    exact J.ret ⟨_, rfl, .inl (zero (by simp [failS, h1]))⟩
  have h1 : s.good = true := by simpa using h1
  refine J.to 4 [] 24 [(1, .bp 1 0), (2, .bp 2 0), (3, .v (.bool false)), (7, .v (.bool false)), (11, .v (.bool (Sg.und s)))] [(3, .some false), (7, .some false)] [(1, .box 28 [.slice A (List.length (Sg.acc s)) ca, .slice B (List.length (Sg.mv s)) c, .int .i64 (Sg.done s), .bool (Sg.und s)]), (2, .box 28 [.slice .none 0 0, .slice .none 0 0, .int .i64 0, .bool false])] [] (by kernel_rfl) ?_
  refine J.br rfl rfl (fun h2 => ?_) (fun h2 => ?_)
  · refine J.to 15 [true] 24 [(1, .bp 1 0), (2, .bp 2 0), (3, .v (.bool false))] [(3, .some false)] [(1, .box 28 [.slice A (List.length (Sg.acc s)) ca, .slice B (List.length (Sg.mv s)) c, .int .i64 (Sg.done s), .bool (Sg.und s)]), (2, .box 28 [.slice .none 0 0, .slice .none 0 0, .int .i64 0, .bool false])] [] (by kernel_rfl) ?_
    exact J.ret ⟨_, rfl, .inl (zero (by simp [failS, Sg.may, h2]))⟩
  refine J.to 8 [] 24 [(1, .bp 1 0), (2, .bp 2 0), (3, .v (.bool false)), (18, .v (.bool (Sg.done s == (↑(List.length (Sg.mv s)) : Int))))] [(3, .some false)] [(1, .box 28 [.slice A (List.length (Sg.acc s)) ca, .slice B (List.length (Sg.mv s)) c, .int .i64 (Sg.done s), .bool (Sg.und s)]), (2, .box 28 [.slice .none 0 0, .slice .none 0 0, .int .i64 0, .bool false])] [] (by kernel_rfl) ?_
  refine J.br rfl rfl (fun h3 => ?_) (fun h3 => ?_)
  · refine J.to 7 [true] 24 [(1, .bp 1 0), (2, .bp 2 0), (3, .v (.bool false))] [(3, .some false)] [(1, .box 28 [.slice A (List.length (Sg.acc s)) ca, .slice B (List.length (Sg.mv s)) c, .int .i64 (Sg.done s), .bool (Sg.und s)]), (2, .box 28 [.slice .none 0 0, .slice .none 0 0, .int .i64 0, .bool false])] [] (by kernel_rfl) ?_
    have h3 : s.done = s.mv.length := by simpa using h3
    exact J.ret ⟨_, rfl, .inl (zero (by simp [failS, Sg.may, h3]))⟩
  have h3 : s.done ≠ s.mv.length := by simpa using h3
  refine J.to 5 [false] 24 [(1, .bp 1 0), (2, .bp 2 0), (3, .v (.bool false)), (20, .v (.agg (Array.mk [.slice A (List.length (Sg.acc s)) ca, .slice B (List.length (Sg.mv s)) c, .int .i64 (Sg.done s), .bool (Sg.und s)])))] [(3, .some false)] [(1, .box 28 [.slice A (List.length (Sg.acc s)) ca, .slice B (List.length (Sg.mv s)) c, .int .i64 (Sg.done s), .bool (Sg.und s)]), (2, .box 28 [.slice .none 0 0, .slice .none 0 0, .int .i64 0, .bool false])] [] (by kernel_rfl) ?_
  refine J.one (Op1.ocall rfl rfl rfl rfl rfl rfl rfl (l9Own_o _ _ s U1 ⟨A, ca, rfl, hca, hA.mono hx1⟩ ⟨B, c, rfl, hc, hB.mono hx1⟩ hb hb2) fun v U2 hx2 => ?_)
  refine J.sg 21 rfl fun A2 c2 B2 d2 e => ?_
  subst e
  refine J.to 13 [] 24 [(2, .bp 2 0), (3, .v (.bool true))] [(3, .some true)] [(21, .own (sgOwn (.slice A2 (List.length (Sg.acc s)) c2) (.slice B2 (List.length (Sg.mv s)) d2) s)), (2, .box 28 [.slice A2 (List.length (Sg.acc s)) c2, .slice B2 (List.length (Sg.mv s)) d2, .int .i64 (Sg.done s), .bool true])] [] (by kernel_rfl) ?_
  have e : failS s = ({ s with und := true }, true) := by simp [failS, h1, Sg.may, h2, h3]
  exact J.ret ⟨_, rfl, .inr ⟨21, _, rfl, fun L hL => ⟨.slice A2 s.acc.length c2, .slice B2 s.mv.length d2, by rw [e]; rfl, by rw [e]; exact hL⟩⟩⟩

def newS (acc : List Int) (mv : List Mv) : Sg × Bool := if (Sg.mk acc mv 0 false).good then (⟨acc, mv, 0, false⟩, true) else (Sg.zero, false)
theorem specNew_o (va vm : Value) (acc : List Int) (mv : List Mv) (U : Hp) (ha : Rd rInt U va acc) (hm : Rd rMv U vm mv) (hb : acc.length < 2^40) (hb2 : mv.length < 2^40) :
    OCall Try.prog 8 #[va, vm] U fun r U' L => ∃ va' vm', r = .tuple #[.agg #[va', vm', .int .i64 (newS acc mv).1.done, .bool (newS acc mv).1.und], .bool (newS acc mv).2] ∧ sgOwn va' vm' (newS acc mv).1 L := by
  obtain ⟨B, c, rfl, hc, hB⟩ := hm
  obtain ⟨A, ca, rfl, hca, hA⟩ := ha
  refine OCall.of (args := [.slice A acc.length ca, .slice B mv.length c]) E_ok mix Try.func8 (by kernel_rfl) rfl Try.ntmps8 (Nat.le_of_ble_eq_true rfl) fun F w0 => ?_
  refine J.to 17 [] 16 [(4, .bp 4 0), (5, .v (.bool false)), (6, .bp 6 0), (10, .v (.agg (Array.mk [.slice A (List.length acc) ca, .slice B (List.length mv) c, .int .i64 0, .bool false])))] [(5, .some false)] [(4, .box 28 [.slice .none 0 0, .slice .none 0 0, .int .i64 0, .bool false]), (6, .box 28 [.slice A (List.length acc) ca, .slice B (List.length mv) c, .int .i64 0, .bool false])] [] (by kernel_rfl) ?_
  refine J.one (Op1.call rfl rfl rfl rfl rfl rfl rfl rfl (specGood_ok _ _ ⟨acc, mv, 0, false⟩ U ⟨A, ca, rfl, hca, hA⟩ ⟨B, c, rfl, hc, hB⟩ hb hb2) fun v U1 hx1 hv => ?_); subst hv
  refine J.to 2 [] 16 [(4, .bp 4 0), (5, .v (.bool false)), (6, .bp 6 0), (12, .v (.bool !Sg.good (Sg.mk acc mv 0 false)))] [(5, .some false)] [(4, .box 28 [.slice .none 0 0, .slice .none 0 0, .int .i64 0, .bool false]), (6, .box 28 [.slice A (List.length acc) ca, .slice B (List.length mv) c, .int .i64 0, .bool false])] [] (by kernel_rfl) ?_
  refine J.br rfl rfl (fun h1 => ?_) (fun h1 => ?_)
  · refine J.to 7 [true] 16 [(4, .bp 4 0), (6, .bp 6 0), (5, .v (.bool false))] [(5, .some false)] [(6, .box 28 [.slice A (List.length acc) ca, .slice B (List.length mv) c, .int .i64 0, .bool false]), (4, .box 28 [.slice .none 0 0, .slice .none 0 0, .int .i64 0, .bool false])] [] (by kernel_rfl) ?_
    have h1 : (Sg.mk acc mv 0 false).good = false := by simpa using h1
    have e : newS acc mv = (Sg.zero, false) := by simp [newS, h1]
    exact J.ret ⟨_, rfl, .inl ⟨_, _, by rw [e]; rfl, by rw [e]; exact zeroOwn⟩⟩
  have h1 : (Sg.mk acc mv 0 false).good = true := by simpa using h1
  have e : newS acc mv = (⟨acc, mv, 0, false⟩, true) := by simp [newS, h1]
  refine J.to 5 [false] 16 [(4, .bp 4 0), (5, .v (.bool false)), (14, .v (.agg (Array.mk [.slice A (List.length acc) ca, .slice B (List.length mv) c, .int .i64 0, .bool false])))] [(5, .some false)] [(4, .box 28 [.slice .none 0 0, .slice .none 0 0, .int .i64 0, .bool false])] [] (by kernel_rfl) ?_
  refine J.one (Op1.ocall rfl rfl rfl rfl rfl rfl rfl (l9Own_o _ _ ⟨acc, mv, 0, false⟩ U1 ⟨A, ca, rfl, hca, hA.mono hx1⟩ ⟨B, c, rfl, hc, hB.mono hx1⟩ hb hb2) fun v U2 hx2 => ?_)
  refine J.sg 15 rfl fun A2 c2 B2 d2 e2 => ?_
  subst e2
  dsimp only
  refine J.to 3 [] 16 [(4, .bp 4 0), (5, .v (.bool true))] [(5, .some true)] [(15, .own (sgOwn (.slice A2 (List.length acc) c2) (.slice B2 (List.length mv) d2) (Sg.mk acc mv 0 false))), (4, .box 28 [.slice A2 (List.length acc) c2, .slice B2 (List.length mv) d2, .int .i64 0, .bool false])] [] (by kernel_rfl) ?_
  exact J.ret ⟨_, rfl, .inr ⟨15, _, rfl, fun L hL => ⟨.slice A2 acc.length c2, .slice B2 mv.length d2, by rw [e]; rfl, by rw [e]; exact hL⟩⟩⟩

theorem specStep_o (va vm : Value) (s : Sg) (U : Hp) (ha : Rd rInt U va s.acc) (hm : Rd rMv U vm s.mv) (hb : s.acc.length < 2^40) (hb2 : s.mv.length < 2^40) :
    OCall Try.prog 17 #[.agg #[va, vm, .int .i64 s.done, .bool s.und]] U fun r U' L => ∃ va' vm', r = .tuple #[.agg #[va', vm', .int .i64 (specStep s).1.done, .bool (specStep s).1.und], .bool (specStep s).2] ∧ sgOwn va' vm' (specStep s).1 L := by
  refine OCall.of (args := [.agg #[va, vm, .int .i64 s.done, .bool s.und]]) E_ok mix Try.func17 (by kernel_rfl) rfl Try.ntmps17 (Nat.le_of_ble_eq_true rfl) fun F w0 => ?_
  have zero : specStep s = (Sg.zero, false) → ∃ va' vm', Value.tuple #[.agg #[.slice none 0 0, .slice none 0 0, .int .i64 0, .bool false], .bool false] = .tuple #[.agg #[va', vm', .int .i64 (specStep s).1.done, .bool (specStep s).1.und], .bool (specStep s).2] ∧ sgOwn va' vm' (specStep s).1 Hp.emp := by
    intro e
    rw [e]
    exact ⟨_, _, rfl, zeroOwn⟩
  refine J.to 10 [] 25 [(1, .bp 1 0), (2, .bp 2 0), (3, .v (.bool false)), (6, .v (.agg (Array.mk [va, vm, .int .i64 (Sg.done s), .bool (Sg.und s)])))] [(3, .some false)] [(1, .box 28 [va, vm, .int .i64 (Sg.done s), .bool (Sg.und s)]), (2, .box 28 [.slice .none 0 0, .slice .none 0 0, .int .i64 0, .bool false])] [] (by kernel_rfl) ?_
  refine J.one (Op1.call rfl rfl rfl rfl rfl rfl rfl rfl (specGood_ok va vm s U ha hm hb hb2) fun v U1 hx1 hv => ?_); subst hv
  refine J.to 2 [] 25 [(1, .bp 1 0), (2, .bp 2 0), (3, .v (.bool false)), (8, .v (.bool !Sg.good s))] [(3, .some false)] [(1, .box 28 [va, vm, .int .i64 (Sg.done s), .bool (Sg.und s)]), (2, .box 28 [.slice .none 0 0, .slice .none 0 0, .int .i64 0, .bool false])] [] (by kernel_rfl) ?_
  refine J.br rfl rfl (fun h1 => ?_) (fun h1 => ?_)
  · refine J.to 7 [true] 25 [(1, .bp 1 0), (2, .bp 2 0), (3, .v (.bool false))] [(3, .some false)] [(1, .box 28 [va, vm, .int .i64 (Sg.done s), .bool (Sg.und s)]), (2, .box 28 [.slice .none 0 0, .slice .none 0 0, .int .i64 0, .bool false])] [] (by kernel_rfl) ?_
    have h1 : s.good = false := by simpa using h1
    exact J.ret ⟨_, rfl, .inl (zero (by simp [specStep, h1]))⟩
  refine J.to 5 [false] 25 [(2, .bp 2 0), (3, .v (.bool false)), (11, .v (.agg (Array.mk [va, vm, .int .i64 (Sg.done s), .bool (Sg.und s)])))] [(3, .some false)] [(2, .box 28 [.slice .none 0 0, .slice .none 0 0, .int .i64 0, .bool false])] [] (by kernel_rfl) ?_
  have h1 : s.good = true := by simpa using h1
  have hf : s.form = true := by simp only [Sg.good, Bool.and_eq_true] at h1; exact h1.1
  have sl := step_len s
  refine J.one (Op1.ocall rfl rfl rfl rfl rfl rfl rfl (l9Own_o va vm s U1 (ha.mono hx1) (hm.mono hx1) hb hb2) fun v U2 hx2 => ?_)
  refine J.sg 12 rfl fun A2 c2 B2 d2 e2 => ?_
  subst e2
  refine J.to 0 [] 25 [(2, .bp 2 0), (3, .v (.bool false)), (12, .v (.agg (Array.mk [.slice A2 (List.length (Sg.acc s)) c2, .slice B2 (List.length (Sg.mv s)) d2, .int .i64 (Sg.done s), .bool (Sg.und s)])))] [(3, .some false)] [(2, .box 28 [.slice .none 0 0, .slice .none 0 0, .int .i64 0, .bool false]), (12, .own (sgOwn (.slice A2 (List.length (Sg.acc s)) c2) (.slice B2 (List.length (Sg.mv s)) d2) s))] [] (by kernel_rfl) ?_
  refine J.lend 12 rfl fun L0 hL0 hd0 => ?_
  obtain ⟨⟨X, cX, eX, hcX, hX⟩, ⟨Y, cY, eY, hcY, hY⟩⟩ := sgOwn_rd hL0 (Hp.un_r hd0)
  cases eX; cases eY
  refine J.one (Op1.ocall rfl rfl rfl rfl rfl rfl rfl (l9Step_o A2 B2 c2 d2 s _ hcX hcY hX hY hf) fun v U3 hx3 => ?_)
  refine J.own' (α := Σ' (b : Bool) (va' : Value), v = .tuple #[.agg #[va', .slice B2 s.mv.length d2, .int .i64 s.step.1.done, .bool s.step.1.und], .bool s.step.2] ∧ (b = true → va' = .slice A2 s.acc.length c2 ∧ s.step.1.acc = s.acc)) (p' := fun x L => x.1 = false → arr x.2.1 3 1 s.acc.length (intC s.step.1.acc) L) 13 rfl
    (fun h ⟨va', e, h1⟩ => h1.elim (fun h1 => ⟨⟨true, va', e, fun _ => h1⟩, fun q => by cases q⟩) (fun h1 => ⟨⟨false, va', e, fun q => by cases q⟩, fun _ => h1⟩)) ?_
  rintro ⟨b, va', rfl, hb'⟩
  dsimp only
  refine J.unlend 12 (V := U2) rfl hL0 hx3 hd0 (hx1.trans hx2) fun hx3' => ?_
  generalize Hp.less U3 L0 = U4 at hx3'
  cases b with
  | true =>
    obtain ⟨rfl, hacc⟩ := hb' rfl
    refine J.free 13 ?_
    refine J.own (k := 12) (k' := 12) (p' := sgOwn (.slice A2 s.acc.length c2) (.slice B2 s.mv.length d2) s.step.1) rfl (.inl rfl) (fun h h1 => by unfold sgOwn at h1 ⊢; rw [hacc, sl.2]; exact h1) ?_
    refine J.to 13 [] 25 [(2, .bp 2 0), (3, .v (.bool false)), (4, .bp 4 0), (18, .v (.bool !Prod.snd (Sg.step s)))] [(3, .some false)] [(2, .box 28 [.slice .none 0 0, .slice .none 0 0, .int .i64 0, .bool false]), (12, .own (sgOwn (.slice A2 (List.length (Sg.acc s)) c2) (.slice B2 (List.length (Sg.mv s)) d2) (Prod.fst (Sg.step s)))), (4, .box 28 [.slice A2 (List.length (Sg.acc s)) c2, .slice B2 (List.length (Sg.mv s)) d2, .int .i64 (Sg.done (Prod.fst (Sg.step s))), .bool (Sg.und (Prod.fst (Sg.step s)))])] [] (by kernel_rfl) ?_
    refine J.br rfl rfl (fun h2 => ?_) (fun h2 => ?_)
    · refine J.to 12 [true] 25 [(2, .bp 2 0), (4, .bp 4 0), (3, .v (.bool false))] [(3, .some false)] [(4, .box 28 [.slice A2 (List.length (Sg.acc s)) c2, .slice B2 (List.length (Sg.mv s)) d2, .int .i64 (Sg.done (Prod.fst (Sg.step s))), .bool (Sg.und (Prod.fst (Sg.step s)))]), (12, .own (sgOwn (.slice A2 (List.length (Sg.acc s)) c2) (.slice B2 (List.length (Sg.mv s)) d2) (Prod.fst (Sg.step s)))), (2, .box 28 [.slice .none 0 0, .slice .none 0 0, .int .i64 0, .bool false])] [] (by kernel_rfl) ?_
      have h2 : s.step.2 = false := by simpa using h2
      exact J.ret ⟨_, rfl, .inl (zero (by simp [specStep, h1, h2]))⟩
    have h2 : s.step.2 = true := by simpa using h2
    refine J.to 1 [] 25 [(2, .bp 2 0), (3, .v (.bool false)), (4, .bp 4 0), (18, .v (.bool false)), (19, .v (.agg (Array.mk [.slice A2 (List.length (Sg.acc s)) c2, .slice B2 (List.length (Sg.mv s)) d2, .int .i64 (Sg.done (Prod.fst (Sg.step s))), .bool (Sg.und (Prod.fst (Sg.step s)))])))] [(3, .some false), (18, .some false)] [(2, .box 28 [.slice .none 0 0, .slice .none 0 0, .int .i64 0, .bool false]), (4, .box 28 [.slice A2 (List.length (Sg.acc s)) c2, .slice B2 (List.length (Sg.mv s)) d2, .int .i64 (Sg.done (Prod.fst (Sg.step s))), .bool (Sg.und (Prod.fst (Sg.step s)))]), (12, .own (sgOwn (.slice A2 (List.length (Sg.acc s)) c2) (.slice B2 (List.length (Sg.mv s)) d2) (Prod.fst (Sg.step s))))] [] (by kernel_rfl) ?_
    refine J.lend 12 rfl fun L1 hL1 hd1 => ?_
    obtain ⟨ra, rm⟩ := sgOwn_rd hL1 (Hp.un_r hd1)
    refine J.one (Op1.call rfl rfl rfl rfl rfl rfl rfl rfl (specGood_ok _ _ s.step.1 _ ra rm (by omega) (by rw [sl.2]; exact hb2)) fun v U5 hx5 hv => ?_); subst hv
    refine J.unlend 12 (V := U4) rfl hL1 hx5 hd1 (hx1.trans (hx2.trans hx3')) fun hx5' => ?_
    generalize Hp.less U5 L1 = U6 at hx5'
    refine J.to 3 [] 25 [(2, .bp 2 0), (3, .v (.bool false)), (4, .bp 4 0), (22, .v (.bool !Sg.good (Prod.fst (Sg.step s))))] [(3, .some false)] [(2, .box 28 [.slice .none 0 0, .slice .none 0 0, .int .i64 0, .bool false]), (4, .box 28 [.slice A2 (List.length (Sg.acc s)) c2, .slice B2 (List.length (Sg.mv s)) d2, .int .i64 (Sg.done (Prod.fst (Sg.step s))), .bool (Sg.und (Prod.fst (Sg.step s)))]), (12, .own (sgOwn (.slice A2 (List.length (Sg.acc s)) c2) (.slice B2 (List.length (Sg.mv s)) d2) (Prod.fst (Sg.step s))))] [] (by kernel_rfl) ?_
    refine J.br rfl rfl (fun h3 => ?_) (fun h3 => ?_)
    · refine J.to 7 [true] 25 [(2, .bp 2 0), (4, .bp 4 0), (3, .v (.bool false))] [(3, .some false)] [(4, .box 28 [.slice A2 (List.length (Sg.acc s)) c2, .slice B2 (List.length (Sg.mv s)) d2, .int .i64 (Sg.done (Prod.fst (Sg.step s))), .bool (Sg.und (Prod.fst (Sg.step s)))]), (12, .own (sgOwn (.slice A2 (List.length (Sg.acc s)) c2) (.slice B2 (List.length (Sg.mv s)) d2) (Prod.fst (Sg.step s)))), (2, .box 28 [.slice .none 0 0, .slice .none 0 0, .int .i64 0, .bool false])] [] (by kernel_rfl) ?_
      have h3 : s.step.1.good = false := by simpa using h3
      exact J.ret ⟨_, rfl, .inl (zero (by simp [specStep, h1, h2, h3]))⟩
    have h3 : s.step.1.good = true := by simpa using h3
    have e : specStep s = (s.step.1, true) := by simp [specStep, h1, h2, h3]
    refine J.to 8 [false] 25 [(2, .bp 2 0), (3, .v (.bool true))] [(3, .some true)] [(12, .own (sgOwn (.slice A2 (List.length (Sg.acc s)) c2) (.slice B2 (List.length (Sg.mv s)) d2) (Prod.fst (Sg.step s)))), (2, .box 28 [.slice A2 (List.length (Sg.acc s)) c2, .slice B2 (List.length (Sg.mv s)) d2, .int .i64 (Sg.done (Prod.fst (Sg.step s))), .bool (Sg.und (Prod.fst (Sg.step s)))])] [] (by kernel_rfl) ?_
    exact J.ret ⟨_, rfl, .inr ⟨12, _, rfl, fun L hL => ⟨.slice A2 s.acc.length c2, .slice B2 s.mv.length d2, by rw [e]; rfl, by rw [e]; exact hL⟩⟩⟩
  | false =>
    refine J.own' (α := Σ' x : Option Addr × Nat, va' = .slice x.1 s.acc.length x.2) (p' := fun x => arr (.slice x.1.1 s.acc.length x.1.2) 3 1 s.acc.length (intC s.step.1.acc)) 13 rfl (fun h h1 => let ⟨X, y, e1⟩ := arr_slice (h1 rfl); ⟨⟨(X, y), e1⟩, e1 ▸ h1 rfl⟩) ?_
    rintro ⟨⟨A3, c3⟩, rfl⟩
    dsimp only
    refine J.split 12 14 rfl rfl rfl ?_
    refine J.free 12 ?_
    refine J.join 13 14 rfl rfl rfl ?_
    refine J.own (k := 13) (k' := 12) (p' := sgOwn (.slice A3 s.acc.length c3) (.slice B2 s.mv.length d2) s.step.1) rfl (.inr rfl) (fun h h1 => by unfold sgOwn; rw [sl.1, sl.2]; exact h1) ?_
    refine J.to 13 [] 25 [(2, .bp 2 0), (3, .v (.bool false)), (4, .bp 4 0), (18, .v (.bool !Prod.snd (Sg.step s)))] [(3, .some false)] [(2, .box 28 [.slice .none 0 0, .slice .none 0 0, .int .i64 0, .bool false]), (12, .own (sgOwn (.slice A3 (List.length (Sg.acc s)) c3) (.slice B2 (List.length (Sg.mv s)) d2) (Prod.fst (Sg.step s)))), (4, .box 28 [.slice A3 (List.length (Sg.acc s)) c3, .slice B2 (List.length (Sg.mv s)) d2, .int .i64 (Sg.done (Prod.fst (Sg.step s))), .bool (Sg.und (Prod.fst (Sg.step s)))])] [] (by kernel_rfl) ?_
    refine J.br rfl rfl (fun h2 => ?_) (fun h2 => ?_)
    · refine J.to 12 [true] 25 [(2, .bp 2 0), (4, .bp 4 0), (3, .v (.bool false))] [(3, .some false)] [(4, .box 28 [.slice A3 (List.length (Sg.acc s)) c3, .slice B2 (List.length (Sg.mv s)) d2, .int .i64 (Sg.done (Prod.fst (Sg.step s))), .bool (Sg.und (Prod.fst (Sg.step s)))]), (12, .own (sgOwn (.slice A3 (List.length (Sg.acc s)) c3) (.slice B2 (List.length (Sg.mv s)) d2) (Prod.fst (Sg.step s)))), (2, .box 28 [.slice .none 0 0, .slice .none 0 0, .int .i64 0, .bool false])] [] (by kernel_rfl) ?_
      have h2 : s.step.2 = false := by simpa using h2
      exact J.ret ⟨_, rfl, .inl (zero (by simp [specStep, h1, h2]))⟩
    have h2 : s.step.2 = true := by simpa using h2
    refine J.to 1 [] 25 [(2, .bp 2 0), (3, .v (.bool false)), (4, .bp 4 0), (18, .v (.bool false)), (19, .v (.agg (Array.mk [.slice A3 (List.length (Sg.acc s)) c3, .slice B2 (List.length (Sg.mv s)) d2, .int .i64 (Sg.done (Prod.fst (Sg.step s))), .bool (Sg.und (Prod.fst (Sg.step s)))])))] [(3, .some false), (18, .some false)] [(2, .box 28 [.slice .none 0 0, .slice .none 0 0, .int .i64 0, .bool false]), (4, .box 28 [.slice A3 (List.length (Sg.acc s)) c3, .slice B2 (List.length (Sg.mv s)) d2, .int .i64 (Sg.done (Prod.fst (Sg.step s))), .bool (Sg.und (Prod.fst (Sg.step s)))]), (12, .own (sgOwn (.slice A3 (List.length (Sg.acc s)) c3) (.slice B2 (List.length (Sg.mv s)) d2) (Prod.fst (Sg.step s))))] [] (by kernel_rfl) ?_
    refine J.lend 12 rfl fun L1 hL1 hd1 => ?_
    obtain ⟨ra, rm⟩ := sgOwn_rd hL1 (Hp.un_r hd1)
    refine J.one (Op1.call rfl rfl rfl rfl rfl rfl rfl rfl (specGood_ok _ _ s.step.1 _ ra rm (by omega) (by rw [sl.2]; exact hb2)) fun v U5 hx5 hv => ?_); subst hv
    refine J.unlend 12 (V := U4) rfl hL1 hx5 hd1 (hx1.trans (hx2.trans hx3')) fun hx5' => ?_
    generalize Hp.less U5 L1 = U6 at hx5'
    refine J.to 3 [] 25 [(2, .bp 2 0), (3, .v (.bool false)), (4, .bp 4 0), (22, .v (.bool !Sg.good (Prod.fst (Sg.step s))))] [(3, .some false)] [(2, .box 28 [.slice .none 0 0, .slice .none 0 0, .int .i64 0, .bool false]), (4, .box 28 [.slice A3 (List.length (Sg.acc s)) c3, .slice B2 (List.length (Sg.mv s)) d2, .int .i64 (Sg.done (Prod.fst (Sg.step s))), .bool (Sg.und (Prod.fst (Sg.step s)))]), (12, .own (sgOwn (.slice A3 (List.length (Sg.acc s)) c3) (.slice B2 (List.length (Sg.mv s)) d2) (Prod.fst (Sg.step s))))] [] (by kernel_rfl) ?_
    refine J.br rfl rfl (fun h3 => ?_) (fun h3 => ?_)
    · refine J.to 7 [true] 25 [(2, .bp 2 0), (4, .bp 4 0), (3, .v (.bool false))] [(3, .some false)] [(4, .box 28 [.slice A3 (List.length (Sg.acc s)) c3, .slice B2 (List.length (Sg.mv s)) d2, .int .i64 (Sg.done (Prod.fst (Sg.step s))), .bool (Sg.und (Prod.fst (Sg.step s)))]), (12, .own (sgOwn (.slice A3 (List.length (Sg.acc s)) c3) (.slice B2 (List.length (Sg.mv s)) d2) (Prod.fst (Sg.step s)))), (2, .box 28 [.slice .none 0 0, .slice .none 0 0, .int .i64 0, .bool false])] [] (by kernel_rfl) ?_
      have h3 : s.step.1.good = false := by simpa using h3
      exact J.ret ⟨_, rfl, .inl (zero (by simp [specStep, h1, h2, h3]))⟩
    have h3 : s.step.1.good = true := by simpa using h3
    have e : specStep s = (s.step.1, true) := by simp [specStep, h1, h2, h3]
    refine J.to 8 [false] 25 [(2, .bp 2 0), (3, .v (.bool true))] [(3, .some true)] [(12, .own (sgOwn (.slice A3 (List.length (Sg.acc s)) c3) (.slice B2 (List.length (Sg.mv s)) d2) (Prod.fst (Sg.step s)))), (2, .box 28 [.slice A3 (List.length (Sg.acc s)) c3, .slice B2 (List.length (Sg.mv s)) d2, .int .i64 (Sg.done (Prod.fst (Sg.step s))), .bool (Sg.und (Prod.fst (Sg.step s)))])] [] (by kernel_rfl) ?_
    exact J.ret ⟨_, rfl, .inr ⟨12, _, rfl, fun L hL => ⟨.slice A3 s.acc.length c3, .slice B2 s.mv.length d2, by rw [e]; rfl, by rw [e]; exact hL⟩⟩⟩
end Go.Rx
end

section
open Go Go.Rx Go.Proofs
set_option maxHeartbeats 1000000
namespace Go.Rx

theorem pickAt {C : Ctx} {σ : Sym} {U : Hp} {K : Sym → Hp → Prop} {ops : Array Oper} {i : Nat} {A : Option Addr} {m c : Nat} {xs : List Int} {p sd n : Int} {key d : Nat} (hc : Cur U A xs) (h0 : 0 ≤ p) (h1 : p < 2^61)
    (h : (∀ v U' ML, Ext U U' → (∃ b p' sd', v = .int .i64 b ∧ (0 ≤ b ∧ (b < n ∨ b = 0)) ∧ (p ≤ p' ∧ p' ≤ p + 2) ∧ ML = [(20, .box 55 (curC A xs.length c p' sd'))]) → K (σ.retB d v [(20, key)] ML) U') → Op1 C ops i σ U K)
    (k : ∀ b p' sd' U', Ext U U' → 0 ≤ b → (b < n ∨ b = 0) → p ≤ p' → p' ≤ p + 2 → K (σ.retB d (.int .i64 b) [(20, key)] [(20, .box 55 (curC A xs.length c p' sd'))]) U') : Op1 C ops i σ U K :=
  h fun v U' ML hx ⟨b, p', sd', hv, hb, hp, hM⟩ => by subst hv; subst hM; exact k b p' sd' U' hx hb.1 hb.2 hp.1 hp.2

structure Fine (s : Sg) : Prop where
  a0 : 0 < s.acc.length
  a1 : s.acc.length ≤ 8
  m : s.mv.length ≤ 40

theorem fine_step {s : Sg} (h : Fine s) (e : (specStep s).2 = true) : Fine (specStep s).1 := by
  have := step_len s
  unfold specStep at e ⊢
  split at e
  · split at e
    · rename_i h1 h2
      rw [if_pos h1, if_pos h2]
      exact ⟨by simp only; rw [this.1]; exact h.a0, by simp only; rw [this.1]; exact h.a1, by simp only; rw [this.2]; exact h.m⟩
    · cases e
  · cases e
theorem fine_fail {s : Sg} (h : Fine s) (e : (failS s).2 = true) : Fine (failS s).1 := by
  unfold failS at e ⊢
  split at e
  · rename_i h1
    rw [if_pos h1]
    exact ⟨h.a0, h.a1, h.m⟩
  · cases e

theorem saga_ok (A : Option Addr) (c : Nat) (xs : List Int) (p sd : Int) (U : Hp) (hc : Cur U A xs) (h0 : 0 ≤ p) (h1 : p < 2^60) :
    BCall Try.prog 26 [.bp 120 0] [(120, .box 55 (curC A xs.length c p sd))] U fun r U' ML => ∃ (s : Sg) (va vm : Value) (p' sd' : Int), r = .agg #[va, vm, .int .i64 s.done, .bool s.und] ∧ Fine s ∧ (p ≤ p' ∧ p' ≤ p + 1000) ∧ ML = [(120, .box 55 (curC A xs.length c p' sd')), (121, .own (sgOwn va vm s))] := by
  refine BCall.of (args := [.bp 120 0]) E_ok mix Try.func26 (by kernel_rfl) rfl Try.ntmps26 (Nat.le_of_ble_eq_true rfl) rfl fun F w0 ρ => ?_
  refine J.to 12 [] 120 [(0, .bp 120 0), (2, .bp 2 0), (3, .v (.slice .none 0 0)), (16, .bp 120 0)] [] [(120, .box 55 [.slice A (List.length xs) c, .int .i64 p, .int .u64 sd]), (2, .box 28 [.slice .none 0 0, .slice .none 0 0, .int .i64 0, .bool false])] [(120, .some (ρ 120))] (by kernel_rfl) ?_
  refine J.one (Op1.bcall [(20, 120)] (args := [.bp 20 0, .v _]) (ML := [(20, .box 55 (curC A xs.length c p sd))]) rfl rfl rfl rfl rfl rfl rfl rfl rfl rfl (fun q hq => by simp at hq; subst hq; rfl) (fun q hq => by simp at hq; subst hq; rfl)
    (pick_ok A c xs p sd 4 U hc h0 (by omega)) fun v U1 ML hx1 ⟨b1, p1, sd1, hv, hb1, hp1, hML⟩ => ?_)
  subst hv; subst hML
  refine J.to 4 [] 120 [(0, .bp 120 0), (2, .bp 2 0), (3, .v (.slice .none 0 0)), (4, .v (.int .i64 (IntKind.wrap .i64 (1 + b1))))] [] [(2, .box 28 [.slice .none 0 0, .slice .none 0 0, .int .i64 0, .bool false]), (120, .box 55 [.slice A (List.length xs) c, .int .i64 p1, .int .u64 sd1])] [(120, .some (ρ 120))] (by kernel_rfl) ?_
  rw [show IntKind.wrap .i64 (1 + b1) = ((b1.toNat + 1 : Nat) : Int) from (wr_id (by omega)).trans (by omega)]
  refine J.nilArr 121 3 1 rfl ?_
  refine J.loopK 120 [(120, some (ρ 120))] (fun x : Nat × List Int × (Option Addr × Nat) × (Int × Int) => [(0, .bp 120 0), (2, .bp 2 0), (3, .v (.slice x.2.2.1.1 x.2.1.length x.2.2.1.2)), (4, .v (.int .i64 x.1))])
    (fun x => [(120, .box 55 (curC A xs.length c x.2.2.2.1 x.2.2.2.2)), (2, .box 28 [.slice none 0 0, .slice none 0 0, .int .i64 0, .bool false]), (121, .own (arr (.slice x.2.2.1.1 x.2.1.length x.2.2.1.2) 3 1 x.2.1.length (intC x.2.1)))])
    (fun x U' => x.1 + x.2.1.length = b1.toNat + 1 ∧ p ≤ x.2.2.2.1 ∧ x.2.2.2.1 ≤ p + 2 + 2 * x.2.1.length ∧ Cur U' A xs) (fun x => x.1) (b1.toNat + 1, [], (none, 0), (p1, sd1)) ⟨by simp, by simp only; omega, by simp only; omega, hc.mono hx1⟩ (by kernel_rfl) ?_
  rintro ⟨k, l, ⟨A1, c1⟩, p2, sd2⟩ U2 ⟨i1, i2, i3, hc⟩ hx2
  simp only at i1 i2 i3
  refine J.to 6 [] 120 [(0, .bp 120 0), (2, .bp 2 0), (3, .v (.slice A1 (List.length l) c1)), (4, .v (.int .i64 (↑k : Int))), (20, .v (.bool (Decidable.decide ((↑k : Int) > 0))))] [] [(2, .box 28 [.slice .none 0 0, .slice .none 0 0, .int .i64 0, .bool false]), (120, .box 55 [.slice A (List.length xs) c, .int .i64 p2, .int .u64 sd2]), (121, .own (arr (.slice A1 (List.length l) c1) 3 1 (List.length l) (intC l)))] [(120, .some (ρ 120))] (by kernel_rfl) ?_
  refine J.br rfl rfl (fun hk => ?_) (fun hk => ?_)
  · replace hk : (k : Int) > 0 := of_decide_eq_true hk
    obtain ⟨j, rfl⟩ : ∃ j, k = j + 1 := ⟨k - 1, by omega⟩
    refine J.to 7 [true] 120 [(0, .bp 120 0), (2, .bp 2 0), (3, .v (.slice A1 (List.length l) c1)), (4, .v (.int .i64 (↑(j + 1) : Int))), (23, .v (.slice A1 (List.length l) c1)), (24, .bp 120 0)] [] [(2, .box 28 [.slice .none 0 0, .slice .none 0 0, .int .i64 0, .bool false]), (120, .box 55 [.slice A (List.length xs) c, .int .i64 p2, .int .u64 sd2]), (121, .own (arr (.slice A1 (List.length l) c1) 3 1 (List.length l) (intC l)))] [(120, .some (ρ 120))] (by kernel_rfl) ?_
    refine J.one (Op1.bcall [(20, 120)] (args := [.bp 20 0, .v _]) (ML := [(20, .box 55 (curC A xs.length c p2 sd2))]) rfl rfl rfl rfl rfl rfl rfl rfl rfl rfl (fun q hq => by simp at hq; subst hq; rfl) (fun q hq => by simp at hq; subst hq; rfl)
      (pick_ok A c xs p2 sd2 60 U2 hc (by omega) (by omega)) fun v U3 ML hx3 ⟨b3, p3, sd3, hv, hb3, hp3, hML⟩ => ?_)
    subst hv; subst hML
    refine J.to 0 [] 120 [(0, .bp 120 0), (2, .bp 2 0), (3, .v (.slice A1 (List.length l) c1)), (4, .v (.int .i64 (↑(j + 1) : Int))), (23, .v (.slice A1 (List.length l) c1)), (25, .v (.int .i64 b3))] [] [(2, .box 28 [.slice .none 0 0, .slice .none 0 0, .int .i64 0, .bool false]), (120, .box 55 [.slice A (List.length xs) c, .int .i64 p3, .int .u64 sd3]), (121, .own (arr (.slice A1 (List.length l) c1) 3 1 (List.length l) (intC l)))] [(120, .some (ρ 120))] (by kernel_rfl) ?_
    refine J.one (Op1.buildSlice (len := 1) (pv := [(0, .int .i64 b3)]) (cells := intC [b3]) (zz := .int .i64 0) rfl rfl rfl rfl rfl ⟨_,_,_,_,_,rfl,rfl⟩ (by decide) (by decide) rfl (by kernel_rfl) rfl fun g0 => ?_)
    refine J.pub (k := 26) rfl fun U4 L4 hx4 hl4 hp4 => ?_
    have hr4 : Rd rInt U4 _ [b3] := int_rd hp4 hl4
    refine J.to 0 [] 120 [(0, .bp 120 0), (2, .bp 2 0), (3, .v (.slice A1 (List.length l) c1)), (4, .v (.int .i64 (↑(j + 1) : Int))), (23, .v (.slice A1 (List.length l) c1)), (26, .v (.slice (.some (Addr.mk g0 0 .none)) 1 1))] [] [(2, .box 28 [.slice .none 0 0, .slice .none 0 0, .int .i64 0, .bool false]), (120, .box 55 [.slice A (List.length xs) c, .int .i64 p3, .int .u64 sd3]), (121, .own (arr (.slice A1 (List.length l) c1) 3 1 (List.length l) (intC l)))] [(120, .some (ρ 120))] (by kernel_rfl) ?_
    refine J.one (Op1.append (t := 23) (e := 3) (k := 121) (news := intC [b3]) (m := 1) (bytes := 8) rfl rfl rfl rfl rfl rfl rfl rfl ⟨_,_,_,rfl⟩ rfl rfl rfl (by decide) rfl rfl ?_ (by simp [intC]) (by simp [intC, Value.oneCell']) (by omega) (by omega) fun v' hv' => ?_)
    · exact J.src_rd rfl hr4 (by intro i q cs hi hr; cases hr; exact intC_drop _ i q hi) (by simp [intC, rInt, Rp.int]) (by decide)
    refine J.own (k := 27) (k' := 121) (p' := arr v' 3 1 (l ++ [b3]).length (intC (l ++ [b3]))) rfl (.inr rfl) (fun h h1 => by rw [List.length_append]; simp only [intC, List.map_append] at h1 ⊢; exact h1) ?_
    refine J.arrS 121 rfl fun A5 c5 e5 => ?_
    subst e5
    refine J.to 8 [] 120 [(0, .bp 120 0), (2, .bp 2 0), (3, .v (.slice A5 (List.length (l ++ [b3])) c5)), (4, .v (.int .i64 (IntKind.wrap .i64 ((↑(j + 1) : Int) - 1))))] [] [(2, .box 28 [.slice .none 0 0, .slice .none 0 0, .int .i64 0, .bool false]), (120, .box 55 [.slice A (List.length xs) c, .int .i64 p3, .int .u64 sd3]), (121, .own (arr (.slice A5 (List.length (l ++ [b3])) c5) 3 1 (List.length (l ++ [b3])) (intC (l ++ [b3]))))] [(120, .some (ρ 120))] (by kernel_rfl) ?_
    rw [show IntKind.wrap .i64 (((j + 1 : Nat) : Int) - 1) = (j : Int) from (wr_id (by omega)).trans (by omega)]
    exact J.againK (j, l ++ [b3], (A5, c5), (p3, sd3)) (by kernel_rfl) ⟨by simp; omega, by simp only; omega, by simp; omega, hc.mono (hx3.trans hx4)⟩ (by simp)
  obtain rfl : k = 0 := by have : ¬ (k : Int) > 0 := of_decide_eq_false hk; omega
  have hl1 : l.length = b1.toNat + 1 := by omega
  have hl4 : l.length ≤ 4 := by omega
  refine J.to 9 [false] 120 [(0, .bp 120 0), (2, .bp 2 0), (3, .v (.slice A1 (List.length l) c1)), (5, .v (.slice .none 0 0)), (28, .bp 120 0)] [] [(2, .box 28 [.slice .none 0 0, .slice .none 0 0, .int .i64 0, .bool false]), (120, .box 55 [.slice A (List.length xs) c, .int .i64 p2, .int .u64 sd2]), (121, .own (arr (.slice A1 (List.length l) c1) 3 1 (List.length l) (intC l)))] [(120, .some (ρ 120))] (by kernel_rfl) ?_
  refine J.one (Op1.bcall [(20, 120)] (args := [.bp 20 0, .v _]) (ML := [(20, .box 55 (curC A xs.length c p2 sd2))]) rfl rfl rfl rfl rfl rfl rfl rfl rfl rfl (fun q hq => by simp at hq; subst hq; rfl) (fun q hq => by simp at hq; subst hq; rfl)
    (pick_ok A c xs p2 sd2 8 U2 hc (by omega) (by omega)) fun v U3 ML hx3 ⟨b3, p3, sd3, hv, hb3, hp3, hML⟩ => ?_)
  subst hv; subst hML
  refine J.to 6 [] 120 [(0, .bp 120 0), (2, .bp 2 0), (3, .v (.slice A1 (List.length l) c1)), (5, .v (.slice .none 0 0)), (6, .v (.int .i64 b3)), (30, .bp 120 0)] [] [(2, .box 28 [.slice .none 0 0, .slice .none 0 0, .int .i64 0, .bool false]), (120, .box 55 [.slice A (List.length xs) c, .int .i64 p3, .int .u64 sd3]), (121, .own (arr (.slice A1 (List.length l) c1) 3 1 (List.length l) (intC l)))] [(120, .some (ρ 120))] (by kernel_rfl) ?_
  refine J.one (Op1.bcall [(9, 120)] (args := [.bp 9 0, .v _]) (ML := [(9, .box 55 (curC A xs.length c p3 sd3))]) rfl rfl rfl rfl rfl rfl rfl rfl rfl rfl (fun q hq => by simp at hq; subst hq; rfl) (fun q hq => by simp at hq; subst hq; rfl)
    (one_ok A c xs p3 sd3 20 U3 (hc.mono hx3) (by omega) (by omega)) fun v U4 ML hx4 ⟨b4, p4, sd4, hv, hp4, hML⟩ => ?_)
  subst hv; subst hML
  refine J.to 1 [] 120 [(0, .bp 120 0), (2, .bp 2 0), (3, .v (.slice A1 (List.length l) c1)), (5, .v (.slice .none 0 0)), (6, .v (.int .i64 b3)), (31, .v (.bool b4))] [] [(2, .box 28 [.slice .none 0 0, .slice .none 0 0, .int .i64 0, .bool false]), (120, .box 55 [.slice A (List.length xs) c, .int .i64 p4, .int .u64 sd4]), (121, .own (arr (.slice A1 (List.length l) c1) 3 1 (List.length l) (intC l)))] [(120, .some (ρ 120))] (by kernel_rfl) ?_
  refine J.cutK 120 [(120, some (ρ 120))] (fun x : Nat × Int × Int => [(0, .bp 120 0), (2, .bp 2 0), (3, .v (.slice A1 l.length c1)), (5, .v (.slice none 0 0)), (6, .v (.int .i64 x.1))])
    (fun x => [(120, .box 55 (curC A xs.length c x.2.1 x.2.2)), (2, .box 28 [.slice none 0 0, .slice none 0 0, .int .i64 0, .bool false]), (121, .own (arr (.slice A1 l.length c1) 3 1 l.length (intC l)))])
    (fun x U' => x.1 ≤ 22 ∧ p ≤ x.2.1 ∧ x.2.1 ≤ p + 50 ∧ Ext U4 U') ?_ ?_
  · refine J.br rfl rfl (fun h => ?_) (fun h => ?_)
    · refine J.to 3 [true] 120 [(0, .bp 120 0), (2, .bp 2 0), (3, .v (.slice A1 (List.length l) c1)), (5, .v (.slice .none 0 0)), (6, .v (.int .i64 b3)), (32, .bp 120 0)] [] [(2, .box 28 [.slice .none 0 0, .slice .none 0 0, .int .i64 0, .bool false]), (120, .box 55 [.slice A (List.length xs) c, .int .i64 p4, .int .u64 sd4]), (121, .own (arr (.slice A1 (List.length l) c1) 3 1 (List.length l) (intC l)))] [(120, .some (ρ 120))] (by kernel_rfl) ?_
      refine J.one (Op1.bcall [(20, 120)] (args := [.bp 20 0, .v _]) (ML := [(20, .box 55 (curC A xs.length c p4 sd4))]) rfl rfl rfl rfl rfl rfl rfl rfl rfl rfl (fun q hq => by simp at hq; subst hq; rfl) (fun q hq => by simp at hq; subst hq; rfl)
        (pick_ok A c xs p4 sd4 2 U4 (hc.mono (hx3.trans hx4)) (by omega) (by omega)) fun v U5 ML hx5 ⟨b5, p5, sd5, hv, hb5, hp5, hML⟩ => ?_)
      subst hv; subst hML
      refine J.to 3 [] 120 [(0, .bp 120 0), (2, .bp 2 0), (3, .v (.slice A1 (List.length l) c1)), (5, .v (.slice .none 0 0)), (6, .v (.int .i64 (IntKind.wrap .i64 (20 + b5))))] [] [(2, .box 28 [.slice .none 0 0, .slice .none 0 0, .int .i64 0, .bool false]), (120, .box 55 [.slice A (List.length xs) c, .int .i64 p5, .int .u64 sd5]), (121, .own (arr (.slice A1 (List.length l) c1) 3 1 (List.length l) (intC l)))] [(120, .some (ρ 120))] (by kernel_rfl) ?_
      rw [show IntKind.wrap .i64 (20 + b5) = ((20 + b5.toNat : Nat) : Int) from (wr_id (by omega)).trans (by omega)]
      exact J.againK (20 + b5.toNat, p5, sd5) (by kernel_rfl) ⟨by simp only; omega, by simp only; omega, by simp only; omega, hx5⟩ (by simp)
    · refine J.to 2 [false] 120 [(0, .bp 120 0), (2, .bp 2 0), (3, .v (.slice A1 (List.length l) c1)), (5, .v (.slice .none 0 0)), (6, .v (.int .i64 b3))] [] [(2, .box 28 [.slice .none 0 0, .slice .none 0 0, .int .i64 0, .bool false]), (120, .box 55 [.slice A (List.length xs) c, .int .i64 p4, .int .u64 sd4]), (121, .own (arr (.slice A1 (List.length l) c1) 3 1 (List.length l) (intC l)))] [(120, .some (ρ 120))] (by kernel_rfl) ?_
      obtain ⟨j, rfl⟩ : ∃ j : Nat, b3 = (j : Int) := ⟨b3.toNat, by omega⟩
      exact J.againK (j, p4, sd4) (by kernel_rfl) ⟨by simp only; omega, by simp only; omega, by simp only; omega, Ext.refl _⟩ (by simp)
  rintro ⟨n, p5, sd5⟩ U5 ⟨i5, j5, k5, hx5⟩ hy5
  simp only at i5 j5 k5
  replace hc := hc.mono (hx3.trans (hx4.trans hx5))
  refine J.seq ?_
  refine J.cutK 120 [(120, some (ρ 120))] (fun x : List Mv × (Option Addr × Nat) × (Int × Int) => [(0, .bp 120 0), (2, .bp 2 0), (3, .v (.slice A1 l.length c1)), (5, .v (.slice x.2.1.1 x.1.length x.2.1.2))])
    (fun x => [(120, .box 55 (curC A xs.length c x.2.2.1 x.2.2.2)), (2, .box 28 [.slice none 0 0, .slice none 0 0, .int .i64 0, .bool false]), (121, .own (arr (.slice A1 l.length c1) 3 1 l.length (intC l))), (122, .own (arr (.slice x.2.1.1 x.1.length x.2.1.2) 59 3 x.1.length (mvC x.1)))])
    (fun x U' => x.1.length ≤ 22 ∧ p ≤ x.2.2.1 ∧ x.2.2.1 ≤ p + 200 ∧ Cur U' A xs) ?_ ?_
  · refine J.nilArr 122 59 3 rfl ?_
    refine J.to 1 [] 120 [(0, .bp 120 0), (2, .bp 2 0), (3, .v (.slice A1 (List.length l) c1)), (5, .v (.slice .none 0 0)), (6, .v (.int .i64 (↑n : Int)))] [] [(2, .box 28 [.slice .none 0 0, .slice .none 0 0, .int .i64 0, .bool false]), (120, .box 55 [.slice A (List.length xs) c, .int .i64 p5, .int .u64 sd5]), (121, .own (arr (.slice A1 (List.length l) c1) 3 1 (List.length l) (intC l))), (122, .own (arr (.slice .none 0 0) 59 3 0 []))] [(120, .some (ρ 120))] (by kernel_rfl) ?_
    refine J.loopK 120 [(120, some (ρ 120))] (fun x : Nat × List Mv × (Option Addr × Nat) × (Int × Int) => [(0, .bp 120 0), (2, .bp 2 0), (3, .v (.slice A1 l.length c1)), (5, .v (.slice x.2.2.1.1 x.2.1.length x.2.2.1.2)), (6, .v (.int .i64 x.1))])
      (fun x => [(120, .box 55 (curC A xs.length c x.2.2.2.1 x.2.2.2.2)), (2, .box 28 [.slice none 0 0, .slice none 0 0, .int .i64 0, .bool false]), (121, .own (arr (.slice A1 l.length c1) 3 1 l.length (intC l))), (122, .own (arr (.slice x.2.2.1.1 x.2.1.length x.2.2.1.2) 59 3 x.2.1.length (mvC x.2.1)))])
      (fun x U' => x.1 + x.2.1.length = n ∧ p ≤ x.2.2.2.1 ∧ x.2.2.2.1 ≤ p + 50 + 6 * x.2.1.length ∧ Cur U' A xs) (fun x => x.1) (n, [], (none, 0), (p5, sd5)) ⟨by simp, by simp only; omega, by simp only [List.length_nil]; omega, hc⟩ (by kernel_rfl) ?_
    rintro ⟨k, m, ⟨B1, d1⟩, p6, sd6⟩ U6 ⟨i6, j6, k6, hc⟩ hx6
    simp only at i6 j6 k6
    refine J.to 6 [] 120 [(0, .bp 120 0), (2, .bp 2 0), (3, .v (.slice A1 (List.length l) c1)), (5, .v (.slice B1 (List.length m) d1)), (6, .v (.int .i64 (↑k : Int))), (37, .v (.bool (Decidable.decide ((↑k : Int) > 0))))] [] [(2, .box 28 [.slice .none 0 0, .slice .none 0 0, .int .i64 0, .bool false]), (120, .box 55 [.slice A (List.length xs) c, .int .i64 p6, .int .u64 sd6]), (121, .own (arr (.slice A1 (List.length l) c1) 3 1 (List.length l) (intC l))), (122, .own (arr (.slice B1 (List.length m) d1) 59 3 (List.length m) (mvC m)))] [(120, .some (ρ 120))] (by kernel_rfl) ?_
    refine J.br rfl rfl (fun hk => ?_) (fun hk => ?_)
    · replace hk : (k : Int) > 0 := of_decide_eq_true hk
      obtain ⟨j, rfl⟩ : ∃ j, k = j + 1 := ⟨k - 1, by omega⟩
      refine J.to 5 [] 120 [(0, .bp 120 0), (2, .bp 2 0), (3, .v (.slice A1 (List.length l) c1)), (5, .v (.slice B1 (List.length m) d1)), (6, .v (.int .i64 (↑(j + 1) : Int))), (41, .v (.bool (Decidable.decide ((↑(List.length l) : Int) > 1))))] [] [(2, .box 28 [.slice .none 0 0, .slice .none 0 0, .int .i64 0, .bool false]), (120, .box 55 [.slice A (List.length xs) c, .int .i64 p6, .int .u64 sd6]), (121, .own (arr (.slice A1 (List.length l) c1) 3 1 (List.length l) (intC l))), (122, .own (arr (.slice B1 (List.length m) d1) 59 3 (List.length m) (mvC m)))] [(120, .some (ρ 120))] (by kernel_rfl) ?_
      refine J.br rfl rfl (fun hl => ?_) (fun hl => ?_)
      · replace hl : (l.length : Int) > 1 := of_decide_eq_true hl
        refine J.to 9 [true] 120 [(0, .bp 120 0), (2, .bp 2 0), (3, .v (.slice A1 (List.length l) c1)), (5, .v (.slice B1 (List.length m) d1)), (6, .v (.int .i64 (↑(j + 1) : Int))), (44, .bp 120 0), (46, .v (.int .i64 (↑(List.length l) : Int)))] [] [(2, .box 28 [.slice .none 0 0, .slice .none 0 0, .int .i64 0, .bool false]), (120, .box 55 [.slice A (List.length xs) c, .int .i64 p6, .int .u64 sd6]), (121, .own (arr (.slice A1 (List.length l) c1) 3 1 (List.length l) (intC l))), (122, .own (arr (.slice B1 (List.length m) d1) 59 3 (List.length m) (mvC m)))] [(120, .some (ρ 120))] (by kernel_rfl) ?_
        refine J.one (Op1.bcall [(20, 120)] (args := [.bp 20 0, .v _]) (ML := [(20, .box 55 (curC A xs.length c p6 sd6))]) rfl rfl rfl rfl rfl rfl rfl rfl rfl rfl (fun q hq => by simp at hq; subst hq; rfl) (fun q hq => by simp at hq; subst hq; rfl)
          (pick_ok A c xs p6 sd6 l.length U6 hc (by omega) (by omega)) fun v U7 ML hx7 ⟨b7, p7, sd7, hv, hb7, hp7, hML⟩ => ?_)
        subst hv; subst hML
        refine J.to 10 [] 120 [(0, .bp 120 0), (2, .bp 2 0), (3, .v (.slice A1 (List.length l) c1)), (5, .v (.slice B1 (List.length m) d1)), (6, .v (.int .i64 (↑(j + 1) : Int))), (7, .v (.int .i64 b7)), (49, .v (.int .i64 (IntKind.wrap .i64 (b7 + 1)))), (50, .bp 120 0), (53, .v (.int .i64 (IntKind.wrap .i64 ((↑(List.length l) : Int) - 1))))] [] [(2, .box 28 [.slice .none 0 0, .slice .none 0 0, .int .i64 0, .bool false]), (120, .box 55 [.slice A (List.length xs) c, .int .i64 p7, .int .u64 sd7]), (121, .own (arr (.slice A1 (List.length l) c1) 3 1 (List.length l) (intC l))), (122, .own (arr (.slice B1 (List.length m) d1) 59 3 (List.length m) (mvC m)))] [(120, .some (ρ 120))] (by kernel_rfl) ?_
        refine J.one (Op1.bcall [(20, 120)] (args := [.bp 20 0, .v _]) (ML := [(20, .box 55 (curC A xs.length c p7 sd7))]) rfl rfl rfl rfl rfl rfl rfl rfl rfl rfl (fun q hq => by simp at hq; subst hq; rfl) (fun q hq => by simp at hq; subst hq; rfl)
          (pick_ok A c xs p7 sd7 (IntKind.wrap .i64 ((l.length : Int) - 1)) U7 (hc.mono hx7) (by omega) (by omega)) fun v U8 ML hx8 ⟨b8, p8, sd8, hv, hb8, hp8, hML⟩ => ?_)
        subst hv; subst hML
        refine J.to 3 [] 120 [(0, .bp 120 0), (2, .bp 2 0), (3, .v (.slice A1 (List.length l) c1)), (5, .v (.slice B1 (List.length m) d1)), (6, .v (.int .i64 (↑(j + 1) : Int))), (7, .v (.int .i64 b7)), (55, .v (.int .i64 (IntKind.wrap .i64 (IntKind.wrap .i64 (b7 + 1) + b8)))), (57, .v (.int .i64 (↑(List.length l) : Int)))] [] [(2, .box 28 [.slice .none 0 0, .slice .none 0 0, .int .i64 0, .bool false]), (120, .box 55 [.slice A (List.length xs) c, .int .i64 p8, .int .u64 sd8]), (121, .own (arr (.slice A1 (List.length l) c1) 3 1 (List.length l) (intC l))), (122, .own (arr (.slice B1 (List.length m) d1) 59 3 (List.length m) (mvC m)))] [(120, .some (ρ 120))] (by kernel_rfl) ?_
        refine J.one (Op1.bin rfl rfl rfl rfl rfl rfl rfl (fun w => run_rem (by omega) w) ?_)
        refine J.to 7 [] 120 [(0, .bp 120 0), (2, .bp 2 0), (3, .v (.slice A1 (List.length l) c1)), (5, .v (.slice B1 (List.length m) d1)), (6, .v (.int .i64 (↑(j + 1) : Int))), (59, .v (.slice B1 (List.length m) d1)), (60, .v (.int .i64 b7)), (61, .v (.int .i64 (Int.tmod (IntKind.wrap .i64 (IntKind.wrap .i64 (b7 + 1) + b8)) (↑(List.length l) : Int)))), (62, .bp 120 0)] [] [(2, .box 28 [.slice .none 0 0, .slice .none 0 0, .int .i64 0, .bool false]), (120, .box 55 [.slice A (List.length xs) c, .int .i64 p8, .int .u64 sd8]), (121, .own (arr (.slice A1 (List.length l) c1) 3 1 (List.length l) (intC l))), (122, .own (arr (.slice B1 (List.length m) d1) 59 3 (List.length m) (mvC m)))] [(120, .some (ρ 120))] (by kernel_rfl) ?_
        refine J.one (Op1.bcall [(20, 120)] (args := [.bp 20 0, .v _]) (ML := [(20, .box 55 (curC A xs.length c p8 sd8))]) rfl rfl rfl rfl rfl rfl rfl rfl rfl rfl (fun q hq => by simp at hq; subst hq; rfl) (fun q hq => by simp at hq; subst hq; rfl)
          (pick_ok A c xs p8 sd8 25 U8 ((hc.mono hx7).mono hx8) (by omega) (by omega)) fun v U9 ML hx9 ⟨b9, p9, sd9, hv, hb9, hp9, hML⟩ => ?_)
        subst hv; subst hML
        refine J.to 2 [] 120 [(0, .bp 120 0), (2, .bp 2 0), (3, .v (.slice A1 (List.length l) c1)), (5, .v (.slice B1 (List.length m) d1)), (6, .v (.int .i64 (↑(j + 1) : Int))), (59, .v (.slice B1 (List.length m) d1)), (65, .v (.agg (Array.mk [.int .i64 b7, .int .i64 (Int.tmod (IntKind.wrap .i64 (IntKind.wrap .i64 (b7 + 1) + b8)) (↑(List.length l) : Int)), .int .i64 (IntKind.wrap .i64 (1 + b9))])))] [] [(2, .box 28 [.slice .none 0 0, .slice .none 0 0, .int .i64 0, .bool false]), (120, .box 55 [.slice A (List.length xs) c, .int .i64 p9, .int .u64 sd9]), (121, .own (arr (.slice A1 (List.length l) c1) 3 1 (List.length l) (intC l))), (122, .own (arr (.slice B1 (List.length m) d1) 59 3 (List.length m) (mvC m)))] [(120, .some (ρ 120))] (by kernel_rfl) ?_
        generalize hq : (Mv.mk b7 ((IntKind.wrap .i64 (IntKind.wrap .i64 (b7 + 1) + b8)).tmod l.length) (IntKind.wrap .i64 (1 + b9))) = q
        refine J.one (Op1.buildSlice (len := 1) (pv := [(0, q.val)]) (cells := mvC [q]) (zz := .agg #[.int .i64 0, .int .i64 0, .int .i64 0]) rfl rfl rfl rfl rfl ⟨_,_,_,_,_,rfl,rfl⟩ (by decide) (by decide) (by rw [← hq]; rfl) (by kernel_rfl) rfl fun g0 => ?_)
        refine J.pub (k := 66) rfl fun U10 L10 hx10 hl10 hp10 => ?_
        have hr10 : Rd rMv U10 _ [q] := mv_rd hp10 hl10
        refine J.to 0 [] 120 [(0, .bp 120 0), (2, .bp 2 0), (3, .v (.slice A1 (List.length l) c1)), (5, .v (.slice B1 (List.length m) d1)), (6, .v (.int .i64 (↑(j + 1) : Int))), (59, .v (.slice B1 (List.length m) d1)), (66, .v (.slice (.some (Addr.mk g0 0 .none)) 1 1))] [] [(2, .box 28 [.slice .none 0 0, .slice .none 0 0, .int .i64 0, .bool false]), (120, .box 55 [.slice A (List.length xs) c, .int .i64 p9, .int .u64 sd9]), (121, .own (arr (.slice A1 (List.length l) c1) 3 1 (List.length l) (intC l))), (122, .own (arr (.slice B1 (List.length m) d1) 59 3 (List.length m) (mvC m)))] [(120, .some (ρ 120))] (by kernel_rfl) ?_
        refine J.one (Op1.append (t := 24) (e := 59) (k := 122) (news := mvC [q]) (m := 1) (bytes := 24) rfl rfl rfl rfl rfl rfl rfl rfl ⟨_,_,_,rfl⟩ rfl rfl rfl (by decide) rfl rfl ?_ (mvC_len _) ?_ (by omega) (by omega) fun v' hv' => ?_)
        · exact J.src_rd rfl hr10 (by intro i q cs hi hr; cases hr; exact mvC_drop _ i q hi) (by rw [mvC_len]; rfl) (by decide)
        · intro u hu
          simp only [mvC, List.mem_flatMap] at hu
          obtain ⟨m, -, hm⟩ := hu
          simp only [Mv.cells, List.mem_cons, List.not_mem_nil, or_false] at hm
          rcases hm with rfl | rfl | rfl <;> rfl
        refine J.own (k := 67) (k' := 122) (p' := arr v' 59 3 (m ++ [q]).length (mvC (m ++ [q]))) rfl (.inr rfl) (fun h h1 => by rw [List.length_append]; simp only [mvC, List.flatMap_append] at h1 ⊢; exact h1) ?_
        refine J.arrS 122 rfl fun B11 d11 e11 => ?_
        subst e11
        refine J.to 8 [] 120 [(0, .bp 120 0), (2, .bp 2 0), (3, .v (.slice A1 (List.length l) c1)), (5, .v (.slice B11 (List.length (m ++ [q])) d11)), (6, .v (.int .i64 (IntKind.wrap .i64 ((↑(j + 1) : Int) - 1))))] [] [(2, .box 28 [.slice .none 0 0, .slice .none 0 0, .int .i64 0, .bool false]), (120, .box 55 [.slice A (List.length xs) c, .int .i64 p9, .int .u64 sd9]), (121, .own (arr (.slice A1 (List.length l) c1) 3 1 (List.length l) (intC l))), (122, .own (arr (.slice B11 (List.length (m ++ [q])) d11) 59 3 (List.length (m ++ [q])) (mvC (m ++ [q]))))] [(120, .some (ρ 120))] (by kernel_rfl) ?_
        rw [show IntKind.wrap .i64 (((j + 1 : Nat) : Int) - 1) = (j : Int) from (wr_id (by omega)).trans (by omega)]
        exact J.againK (j, m ++ [q], (B11, d11), (p9, sd9)) (by kernel_rfl) ⟨by simp; omega, by simp only; omega, by simp; omega, ((hc.mono hx7).mono hx8).mono (hx9.trans hx10)⟩ (by simp)
      · refine J.to 2 [false] 120 [(0, .bp 120 0), (2, .bp 2 0), (3, .v (.slice A1 (List.length l) c1)), (5, .v (.slice B1 (List.length m) d1))] [] [(2, .box 28 [.slice .none 0 0, .slice .none 0 0, .int .i64 0, .bool false]), (120, .box 55 [.slice A (List.length xs) c, .int .i64 p6, .int .u64 sd6]), (121, .own (arr (.slice A1 (List.length l) c1) 3 1 (List.length l) (intC l))), (122, .own (arr (.slice B1 (List.length m) d1) 59 3 (List.length m) (mvC m)))] [(120, .some (ρ 120))] (by kernel_rfl) ?_
        exact J.againK (m, (B1, d1), (p6, sd6)) (by kernel_rfl) ⟨by simp only; omega, by simp only; omega, by simp only; omega, hc⟩ (by simp)
    · refine J.to 7 [false] 120 [(0, .bp 120 0), (2, .bp 2 0), (3, .v (.slice A1 (List.length l) c1)), (5, .v (.slice B1 (List.length m) d1))] [] [(2, .box 28 [.slice .none 0 0, .slice .none 0 0, .int .i64 0, .bool false]), (120, .box 55 [.slice A (List.length xs) c, .int .i64 p6, .int .u64 sd6]), (121, .own (arr (.slice A1 (List.length l) c1) 3 1 (List.length l) (intC l))), (122, .own (arr (.slice B1 (List.length m) d1) 59 3 (List.length m) (mvC m)))] [(120, .some (ρ 120))] (by kernel_rfl) ?_
      exact J.againK (m, (B1, d1), (p6, sd6)) (by kernel_rfl) ⟨by simp only; omega, by simp only; omega, by simp only; omega, hc⟩ (by simp)
  rintro ⟨m, ⟨B1, d1⟩, p6, sd6⟩ U6 ⟨i6, j6, k6, hc⟩ hx6
  simp only at i6 j6 k6
  refine J.to 4 [] 120 [(0, .bp 120 0), (2, .bp 2 0), (3, .v (.slice A1 (List.length l) c1)), (5, .v (.slice B1 (List.length m) d1)), (69, .v (.slice A1 (List.length l) c1)), (70, .v (.slice B1 (List.length m) d1))] [] [(2, .box 28 [.slice .none 0 0, .slice .none 0 0, .int .i64 0, .bool false]), (120, .box 55 [.slice A (List.length xs) c, .int .i64 p6, .int .u64 sd6]), (121, .own (arr (.slice A1 (List.length l) c1) 3 1 (List.length l) (intC l))), (122, .own (arr (.slice B1 (List.length m) d1) 59 3 (List.length m) (mvC m)))] [(120, .some (ρ 120))] (by kernel_rfl) ?_
  refine J.lend 121 rfl fun L1 hL1 hd1 => ?_
  refine J.lend 122 rfl fun L2 hL2 hd2 => ?_
  refine J.one (Op1.ocall rfl rfl rfl rfl rfl rfl rfl (specNew_o _ _ l m _ (int_rd hL1 ((Hp.un_r hd1).trans Hp.un_l)) (mv_rd hL2 (Hp.un_r hd2)) (by omega) (by omega)) fun v U7 hx7 => ?_)
  refine J.sg2 71 rfl fun A7 c7 B7 d7 e7 => ?_
  subst e7
  refine J.unlend 122 (V := Hp.un U6 L1) rfl hL2 hx7 hd2 (hx6.trans Hp.un_l) fun hxa => ?_
  refine J.unlend 121 (V := U6) rfl hL1 hxa hd1 hx6 fun hxb => ?_
  generalize Hp.less (Hp.less U7 L2) L1 = U8 at hxb
  refine J.to 13 [] 120 [(0, .bp 120 0), (2, .bp 2 0), (3, .v (.slice A1 (List.length l) c1)), (5, .v (.slice B1 (List.length m) d1)), (9, .bp 9 0), (75, .v (.bool !Prod.snd (newS l m)))] [] [(2, .box 28 [.slice .none 0 0, .slice .none 0 0, .int .i64 0, .bool false]), (71, .own (sgOwn (.slice A7 (List.length (Sg.acc (Prod.fst (newS l m)))) c7) (.slice B7 (List.length (Sg.mv (Prod.fst (newS l m)))) d7) (Prod.fst (newS l m)))), (120, .box 55 [.slice A (List.length xs) c, .int .i64 p6, .int .u64 sd6]), (121, .own (arr (.slice A1 (List.length l) c1) 3 1 (List.length l) (intC l))), (122, .own (arr (.slice B1 (List.length m) d1) 59 3 (List.length m) (mvC m))), (9, .box 28 [.slice A7 (List.length (Sg.acc (Prod.fst (newS l m)))) c7, .slice B7 (List.length (Sg.mv (Prod.fst (newS l m)))) d7, .int .i64 (Sg.done (Prod.fst (newS l m))), .bool (Sg.und (Prod.fst (newS l m)))])] [(120, .some (ρ 120))] (by kernel_rfl) ?_
  refine J.cutK 120 [(120, some (ρ 120))] (fun x : Sg × (Option Addr × Nat) × (Option Addr × Nat) => [(0, .bp 120 0), (2, .bp 2 0), (9, .bp 9 0)])
    (fun x => [(120, .box 55 (curC A xs.length c p6 sd6)), (2, .box 28 [.slice none 0 0, .slice none 0 0, .int .i64 0, .bool false]), (9, .box 28 [.slice x.2.1.1 x.1.acc.length x.2.1.2, .slice x.2.2.1 x.1.mv.length x.2.2.2, .int .i64 x.1.done, .bool x.1.und]), (121, .own (sgOwn (.slice x.2.1.1 x.1.acc.length x.2.1.2) (.slice x.2.2.1 x.1.mv.length x.2.2.2) x.1))])
    (fun x U' => Fine x.1 ∧ U' = U8) ?_ ?_
  · refine J.br rfl rfl (fun h => ?_) (fun h => ?_)
    · refine J.free 71 ?_
      refine J.join 121 122 rfl rfl rfl ?_
      refine J.to 7 [true] 120 [(0, .bp 120 0), (2, .bp 2 0), (9, .bp 9 0)] [] [(2, .box 28 [.slice .none 0 0, .slice .none 0 0, .int .i64 0, .bool false]), (120, .box 55 [.slice A (List.length xs) c, .int .i64 p6, .int .u64 sd6]), (121, .own (star (arr (.slice A1 (List.length l) c1) 3 1 (List.length l) (intC l)) (arr (.slice B1 (List.length m) d1) 59 3 (List.length m) (mvC m)))), (9, .box 28 [.slice A1 (List.length l) c1, .slice B1 (List.length m) d1, .int .i64 0, .bool false])] [(120, .some (ρ 120))] (by kernel_rfl) ?_
      exact J.againK (⟨l, m, 0, false⟩, (A1, c1), (B1, d1)) (by kernel_rfl) ⟨⟨by simp only; omega, by simp only; omega, by simp only; omega⟩, rfl⟩ (by simp)
    · have e : newS l m = (⟨l, m, 0, false⟩, true) := by
        unfold newS at h ⊢
        split at h
        · rename_i hg; rw [if_pos hg]
        · simp at h
      rw [e]
      dsimp only
      refine J.free 121 ?_
      refine J.free 122 ?_
      refine J.own (k := 71) (k' := 121) (p' := sgOwn (.slice A7 l.length c7) (.slice B7 m.length d7) ⟨l, m, 0, false⟩) rfl (.inr rfl) (fun _ h => h) ?_
      refine J.to 2 [false] 120 [(0, .bp 120 0), (2, .bp 2 0), (9, .bp 9 0)] [] [(2, .box 28 [.slice .none 0 0, .slice .none 0 0, .int .i64 0, .bool false]), (9, .box 28 [.slice A7 (List.length l) c7, .slice B7 (List.length m) d7, .int .i64 0, .bool false]), (120, .box 55 [.slice A (List.length xs) c, .int .i64 p6, .int .u64 sd6]), (121, .own (sgOwn (.slice A7 (List.length l) c7) (.slice B7 (List.length m) d7) (Sg.mk l m 0 false)))] [(120, .some (ρ 120))] (by kernel_rfl) ?_
      exact J.againK (⟨l, m, 0, false⟩, (A7, c7), (B7, d7)) (by kernel_rfl) ⟨⟨by simp only; omega, by simp only; omega, by simp only; omega⟩, rfl⟩ (by simp)
  rintro ⟨s, ⟨A8, c8⟩, B8, d8⟩ U9 ⟨hs, rfl⟩ hx9
  simp only at hs
  refine J.to 4 [] 120 [(0, .bp 120 0), (2, .bp 2 0), (9, .bp 9 0), (79, .bp 120 0)] [] [(2, .box 28 [.slice .none 0 0, .slice .none 0 0, .int .i64 0, .bool false]), (9, .box 28 [.slice A8 (List.length (Sg.acc s)) c8, .slice B8 (List.length (Sg.mv s)) d8, .int .i64 (Sg.done s), .bool (Sg.und s)]), (120, .box 55 [.slice A (List.length xs) c, .int .i64 p6, .int .u64 sd6]), (121, .own (sgOwn (.slice A8 (List.length (Sg.acc s)) c8) (.slice B8 (List.length (Sg.mv s)) d8) s))] [(120, .some (ρ 120))] (by kernel_rfl) ?_
  refine J.one (Op1.bcall [(20, 120)] (args := [.bp 20 0, .v _]) (ML := [(20, .box 55 (curC A xs.length c p6 sd6))]) rfl rfl rfl rfl rfl rfl rfl rfl rfl rfl (fun q hq => by simp at hq; subst hq; rfl) (fun q hq => by simp at hq; subst hq; rfl)
    (pick_ok A c xs p6 sd6 6 U9 (hc.mono hxb) (by omega) (by omega)) fun v U10 ML hx10 ⟨b10, p10, sd10, hv, hb10, hp10, hML⟩ => ?_)
  subst hv; subst hML
  refine J.to 3 [] 120 [(0, .bp 120 0), (2, .bp 2 0), (9, .bp 9 0), (11, .v (.int .i64 b10))] [] [(2, .box 28 [.slice .none 0 0, .slice .none 0 0, .int .i64 0, .bool false]), (9, .box 28 [.slice A8 (List.length (Sg.acc s)) c8, .slice B8 (List.length (Sg.mv s)) d8, .int .i64 (Sg.done s), .bool (Sg.und s)]), (120, .box 55 [.slice A (List.length xs) c, .int .i64 p10, .int .u64 sd10]), (121, .own (sgOwn (.slice A8 (List.length (Sg.acc s)) c8) (.slice B8 (List.length (Sg.mv s)) d8) s))] [(120, .some (ρ 120))] (by kernel_rfl) ?_
  obtain ⟨k0, rfl⟩ : ∃ j : Nat, b10 = (j : Int) := ⟨b10.toNat, by omega⟩
  refine J.loopK 120 [(120, some (ρ 120))] (fun x : Nat × (Sg × (Option Addr × Nat) × (Option Addr × Nat)) × (Int × Int) => [(0, .bp 120 0), (2, .bp 2 0), (9, .bp 9 0), (11, .v (.int .i64 x.1))])
    (fun x => [(120, .box 55 (curC A xs.length c x.2.2.1 x.2.2.2)), (2, .box 28 [.slice none 0 0, .slice none 0 0, .int .i64 0, .bool false]), (9, .box 28 [.slice x.2.1.2.1.1 x.2.1.1.acc.length x.2.1.2.1.2, .slice x.2.1.2.2.1 x.2.1.1.mv.length x.2.1.2.2.2, .int .i64 x.2.1.1.done, .bool x.2.1.1.und]), (121, .own (sgOwn (.slice x.2.1.2.1.1 x.2.1.1.acc.length x.2.1.2.1.2) (.slice x.2.1.2.2.1 x.2.1.1.mv.length x.2.1.2.2.2) x.2.1.1))])
    (fun x U' => Fine x.2.1.1 ∧ x.1 ≤ 6 ∧ p ≤ x.2.2.1 ∧ x.2.2.1 + 2 * x.1 ≤ p + 300 ∧ Cur U' A xs) (fun x => x.1) (k0, (s, (A8, c8), (B8, d8)), (p10, sd10)) ⟨hs, by simp only; omega, by simp only; omega, by simp only; omega, (hc.mono hxb).mono hx10⟩ (by kernel_rfl) ?_
  clear hs hc
  rintro ⟨k, ⟨s, ⟨A9, c9⟩, B9, d9⟩, p11, sd11⟩ U11 ⟨hs, i11, j11, k11, hc⟩ hx11
  simp only at hs i11 j11 k11
  have hsa := hs.a1
  have hsm := hs.m
  refine J.to 6 [] 120 [(0, .bp 120 0), (2, .bp 2 0), (9, .bp 9 0), (11, .v (.int .i64 (↑k : Int))), (82, .v (.bool (Decidable.decide ((↑k : Int) > 0))))] [] [(2, .box 28 [.slice .none 0 0, .slice .none 0 0, .int .i64 0, .bool false]), (9, .box 28 [.slice A9 (List.length (Sg.acc s)) c9, .slice B9 (List.length (Sg.mv s)) d9, .int .i64 (Sg.done s), .bool (Sg.und s)]), (120, .box 55 [.slice A (List.length xs) c, .int .i64 p11, .int .u64 sd11]), (121, .own (sgOwn (.slice A9 (List.length (Sg.acc s)) c9) (.slice B9 (List.length (Sg.mv s)) d9) s))] [(120, .some (ρ 120))] (by kernel_rfl) ?_
  refine J.br rfl rfl (fun hk => ?_) (fun hk => ?_)
  · replace hk : (k : Int) > 0 := of_decide_eq_true hk
    obtain ⟨j, rfl⟩ : ∃ j, k = j + 1 := ⟨k - 1, by omega⟩
    refine J.to 8 [true] 120 [(0, .bp 120 0), (2, .bp 2 0), (9, .bp 9 0), (11, .v (.int .i64 (↑(j + 1) : Int))), (86, .v (.agg (Array.mk [.slice A9 (List.length (Sg.acc s)) c9, .slice B9 (List.length (Sg.mv s)) d9, .int .i64 (Sg.done s), .bool (Sg.und s)])))] [] [(2, .box 28 [.slice .none 0 0, .slice .none 0 0, .int .i64 0, .bool false]), (9, .box 28 [.slice A9 (List.length (Sg.acc s)) c9, .slice B9 (List.length (Sg.mv s)) d9, .int .i64 (Sg.done s), .bool (Sg.und s)]), (120, .box 55 [.slice A (List.length xs) c, .int .i64 p11, .int .u64 sd11]), (121, .own (sgOwn (.slice A9 (List.length (Sg.acc s)) c9) (.slice B9 (List.length (Sg.mv s)) d9) s))] [(120, .some (ρ 120))] (by kernel_rfl) ?_
    refine J.lend 121 rfl fun L1 hL1 hd1 => ?_
    obtain ⟨ra, rm⟩ := sgOwn_rd hL1 (Hp.un_r hd1)
    refine J.one (Op1.ocall rfl rfl rfl rfl rfl rfl rfl (specStep_o _ _ s _ ra rm (by omega) (by omega)) fun v U12 hx12 => ?_)
    have hfs : (specStep s).2 = true → Fine (specStep s).1 := fine_step hs
    generalize specStep s = t at hfs
    refine J.sg2 87 rfl fun A12 c12 B12 d12 e12 => ?_
    subst e12
    refine J.unlend 121 (V := U11) rfl hL1 hx12 hd1 hx11 fun hxa => ?_
    generalize Hp.less U12 L1 = U13 at hxa
    refine J.to 11 [] 120 [(0, .bp 120 0), (2, .bp 2 0), (9, .bp 9 0), (11, .v (.int .i64 (↑(j + 1) : Int))), (12, .bp 12 0), (90, .v (.bool (Prod.snd t)))] [] [(2, .box 28 [.slice .none 0 0, .slice .none 0 0, .int .i64 0, .bool false]), (9, .box 28 [.slice A9 (List.length (Sg.acc s)) c9, .slice B9 (List.length (Sg.mv s)) d9, .int .i64 (Sg.done s), .bool (Sg.und s)]), (87, .own (sgOwn (.slice A12 (List.length (Sg.acc (Prod.fst t))) c12) (.slice B12 (List.length (Sg.mv (Prod.fst t))) d12) (Prod.fst t))), (120, .box 55 [.slice A (List.length xs) c, .int .i64 p11, .int .u64 sd11]), (121, .own (sgOwn (.slice A9 (List.length (Sg.acc s)) c9) (.slice B9 (List.length (Sg.mv s)) d9) s)), (12, .box 28 [.slice A12 (List.length (Sg.acc (Prod.fst t))) c12, .slice B12 (List.length (Sg.mv (Prod.fst t))) d12, .int .i64 (Sg.done (Prod.fst t)), .bool (Sg.und (Prod.fst t))])] [(120, .some (ρ 120))] (by kernel_rfl) ?_
    refine J.cutK 120 [(120, some (ρ 120))] (fun x : Sg × (Option Addr × Nat) × (Option Addr × Nat) => [(0, .bp 120 0), (2, .bp 2 0), (9, .bp 9 0), (11, .v (.int .i64 ((j + 1 : Nat) : Int)))])
      (fun x => [(120, .box 55 (curC A xs.length c p11 sd11)), (2, .box 28 [.slice none 0 0, .slice none 0 0, .int .i64 0, .bool false]), (9, .box 28 [.slice x.2.1.1 x.1.acc.length x.2.1.2, .slice x.2.2.1 x.1.mv.length x.2.2.2, .int .i64 x.1.done, .bool x.1.und]), (121, .own (sgOwn (.slice x.2.1.1 x.1.acc.length x.2.1.2) (.slice x.2.2.1 x.1.mv.length x.2.2.2) x.1))])
      (fun x U' => Fine x.1 ∧ U' = U13) ?_ ?_
    · refine J.br rfl rfl (fun h => ?_) (fun h => ?_)
      · refine J.to 5 [true] 120 [(0, .bp 120 0), (2, .bp 2 0), (9, .bp 9 0), (11, .v (.int .i64 (↑(j + 1) : Int)))] [] [(2, .box 28 [.slice .none 0 0, .slice .none 0 0, .int .i64 0, .bool false]), (87, .own (sgOwn (.slice A12 (List.length (Sg.acc (Prod.fst t))) c12) (.slice B12 (List.length (Sg.mv (Prod.fst t))) d12) (Prod.fst t))), (120, .box 55 [.slice A (List.length xs) c, .int .i64 p11, .int .u64 sd11]), (121, .own (sgOwn (.slice A9 (List.length (Sg.acc s)) c9) (.slice B9 (List.length (Sg.mv s)) d9) s)), (9, .box 28 [.slice A12 (List.length (Sg.acc (Prod.fst t))) c12, .slice B12 (List.length (Sg.mv (Prod.fst t))) d12, .int .i64 (Sg.done (Prod.fst t)), .bool (Sg.und (Prod.fst t))])] [(120, .some (ρ 120))] (by kernel_rfl) ?_
        refine J.free 121 ?_
        refine J.own (k := 87) (k' := 121) (p' := sgOwn (.slice A12 t.1.acc.length c12) (.slice B12 t.1.mv.length d12) t.1) rfl (.inr rfl) (fun _ h => h) ?_
        refine J.to 0 [] 120 [(0, .bp 120 0), (2, .bp 2 0), (9, .bp 9 0), (11, .v (.int .i64 (↑(j + 1) : Int)))] [] [(2, .box 28 [.slice .none 0 0, .slice .none 0 0, .int .i64 0, .bool false]), (9, .box 28 [.slice A12 (List.length (Sg.acc (Prod.fst t))) c12, .slice B12 (List.length (Sg.mv (Prod.fst t))) d12, .int .i64 (Sg.done (Prod.fst t)), .bool (Sg.und (Prod.fst t))]), (120, .box 55 [.slice A (List.length xs) c, .int .i64 p11, .int .u64 sd11]), (121, .own (sgOwn (.slice A12 (List.length (Sg.acc (Prod.fst t))) c12) (.slice B12 (List.length (Sg.mv (Prod.fst t))) d12) (Prod.fst t)))] [(120, .some (ρ 120))] (by kernel_rfl) ?_
        exact J.againK (t.1, (A12, c12), (B12, d12)) (by kernel_rfl) ⟨hfs h, rfl⟩ (by simp)
      · refine J.to 2 [false] 120 [(0, .bp 120 0), (2, .bp 2 0), (9, .bp 9 0), (11, .v (.int .i64 (↑(j + 1) : Int)))] [] [(2, .box 28 [.slice .none 0 0, .slice .none 0 0, .int .i64 0, .bool false]), (9, .box 28 [.slice A9 (List.length (Sg.acc s)) c9, .slice B9 (List.length (Sg.mv s)) d9, .int .i64 (Sg.done s), .bool (Sg.und s)]), (87, .own (sgOwn (.slice A12 (List.length (Sg.acc (Prod.fst t))) c12) (.slice B12 (List.length (Sg.mv (Prod.fst t))) d12) (Prod.fst t))), (120, .box 55 [.slice A (List.length xs) c, .int .i64 p11, .int .u64 sd11]), (121, .own (sgOwn (.slice A9 (List.length (Sg.acc s)) c9) (.slice B9 (List.length (Sg.mv s)) d9) s))] [(120, .some (ρ 120))] (by kernel_rfl) ?_
        exact J.againK (s, (A9, c9), (B9, d9)) (by kernel_rfl) ⟨hs, rfl⟩ (by simp)
    clear hs hsa hsm hfs
    rintro ⟨s, ⟨A14, c14⟩, B14, d14⟩ U14 ⟨hs, rfl⟩ hx14
    simp only at hs
    have hsa := hs.a1
    have hsm := hs.m
    refine J.to 3 [] 120 [(0, .bp 120 0), (2, .bp 2 0), (9, .bp 9 0), (11, .v (.int .i64 (↑(j + 1) : Int))), (93, .v (.agg (Array.mk [.slice A14 (List.length (Sg.acc s)) c14, .slice B14 (List.length (Sg.mv s)) d14, .int .i64 (Sg.done s), .bool (Sg.und s)])))] [] [(2, .box 28 [.slice .none 0 0, .slice .none 0 0, .int .i64 0, .bool false]), (9, .box 28 [.slice A14 (List.length (Sg.acc s)) c14, .slice B14 (List.length (Sg.mv s)) d14, .int .i64 (Sg.done s), .bool (Sg.und s)]), (120, .box 55 [.slice A (List.length xs) c, .int .i64 p11, .int .u64 sd11]), (121, .own (sgOwn (.slice A14 (List.length (Sg.acc s)) c14) (.slice B14 (List.length (Sg.mv s)) d14) s))] [(120, .some (ρ 120))] (by kernel_rfl) ?_
    refine J.lend 121 rfl fun L2 hL2 hd2 => ?_
    obtain ⟨ra, rm⟩ := sgOwn_rd hL2 (Hp.un_r hd2)
    refine J.one (Op1.ocall rfl rfl rfl rfl rfl rfl rfl (specFail_o _ _ s _ ra rm (by omega) (by omega)) fun v U15 hx15 => ?_)
    have hfs : (failS s).2 = true → Fine (failS s).1 := fine_fail hs
    generalize failS s = t at hfs
    refine J.sg2 94 rfl fun A15 c15 B15 d15 e15 => ?_
    subst e15
    refine J.unlend 121 (V := U14) rfl hL2 hx15 hd2 hx14 fun hxc => ?_
    generalize Hp.less U15 L2 = U16 at hxc
    refine J.to 11 [] 120 [(0, .bp 120 0), (2, .bp 2 0), (9, .bp 9 0), (11, .v (.int .i64 (↑(j + 1) : Int))), (14, .bp 14 0), (98, .v (.bool (Prod.snd t)))] [] [(2, .box 28 [.slice .none 0 0, .slice .none 0 0, .int .i64 0, .bool false]), (9, .box 28 [.slice A14 (List.length (Sg.acc s)) c14, .slice B14 (List.length (Sg.mv s)) d14, .int .i64 (Sg.done s), .bool (Sg.und s)]), (94, .own (sgOwn (.slice A15 (List.length (Sg.acc (Prod.fst t))) c15) (.slice B15 (List.length (Sg.mv (Prod.fst t))) d15) (Prod.fst t))), (120, .box 55 [.slice A (List.length xs) c, .int .i64 p11, .int .u64 sd11]), (121, .own (sgOwn (.slice A14 (List.length (Sg.acc s)) c14) (.slice B14 (List.length (Sg.mv s)) d14) s)), (14, .box 28 [.slice A15 (List.length (Sg.acc (Prod.fst t))) c15, .slice B15 (List.length (Sg.mv (Prod.fst t))) d15, .int .i64 (Sg.done (Prod.fst t)), .bool (Sg.und (Prod.fst t))])] [(120, .some (ρ 120))] (by kernel_rfl) ?_
    refine J.br rfl rfl (fun h => ?_) (fun h => ?_)
    · refine J.to 1 [] 120 [(0, .bp 120 0), (2, .bp 2 0), (9, .bp 9 0), (11, .v (.int .i64 (↑(j + 1) : Int))), (14, .bp 14 0), (98, .v (.bool true)), (99, .bp 120 0)] [(98, .some true)] [(2, .box 28 [.slice .none 0 0, .slice .none 0 0, .int .i64 0, .bool false]), (9, .box 28 [.slice A14 (List.length (Sg.acc s)) c14, .slice B14 (List.length (Sg.mv s)) d14, .int .i64 (Sg.done s), .bool (Sg.und s)]), (14, .box 28 [.slice A15 (List.length (Sg.acc (Prod.fst t))) c15, .slice B15 (List.length (Sg.mv (Prod.fst t))) d15, .int .i64 (Sg.done (Prod.fst t)), .bool (Sg.und (Prod.fst t))]), (94, .own (sgOwn (.slice A15 (List.length (Sg.acc (Prod.fst t))) c15) (.slice B15 (List.length (Sg.mv (Prod.fst t))) d15) (Prod.fst t))), (120, .box 55 [.slice A (List.length xs) c, .int .i64 p11, .int .u64 sd11]), (121, .own (sgOwn (.slice A14 (List.length (Sg.acc s)) c14) (.slice B14 (List.length (Sg.mv s)) d14) s))] [(120, .some (ρ 120))] (by kernel_rfl) ?_
      refine J.one (Op1.bcall [(9, 120)] (args := [.bp 9 0, .v _]) (ML := [(9, .box 55 (curC A xs.length c p11 sd11))]) rfl rfl rfl rfl rfl rfl rfl rfl rfl rfl (fun q hq => by simp at hq; subst hq; rfl) (fun q hq => by simp at hq; subst hq; rfl)
        (one_ok A c xs p11 sd11 8 U16 (hc.mono (hxa.trans hxc)) (by omega) (by omega)) fun v U17 ML hx17 ⟨b17, p17, sd17, hv, hp17, hML⟩ => ?_)
      subst hv; subst hML
      refine J.to 2 [] 120 [(0, .bp 120 0), (2, .bp 2 0), (9, .bp 9 0), (11, .v (.int .i64 (↑(j + 1) : Int))), (14, .bp 14 0), (101, .v (.bool b17))] [] [(2, .box 28 [.slice .none 0 0, .slice .none 0 0, .int .i64 0, .bool false]), (9, .box 28 [.slice A14 (List.length (Sg.acc s)) c14, .slice B14 (List.length (Sg.mv s)) d14, .int .i64 (Sg.done s), .bool (Sg.und s)]), (14, .box 28 [.slice A15 (List.length (Sg.acc (Prod.fst t))) c15, .slice B15 (List.length (Sg.mv (Prod.fst t))) d15, .int .i64 (Sg.done (Prod.fst t)), .bool (Sg.und (Prod.fst t))]), (94, .own (sgOwn (.slice A15 (List.length (Sg.acc (Prod.fst t))) c15) (.slice B15 (List.length (Sg.mv (Prod.fst t))) d15) (Prod.fst t))), (120, .box 55 [.slice A (List.length xs) c, .int .i64 p17, .int .u64 sd17]), (121, .own (sgOwn (.slice A14 (List.length (Sg.acc s)) c14) (.slice B14 (List.length (Sg.mv s)) d14) s))] [(120, .some (ρ 120))] (by kernel_rfl) ?_
      refine J.br rfl rfl (fun h' => ?_) (fun h' => ?_)
      · refine J.to 11 [true] 120 [(0, .bp 120 0), (2, .bp 2 0), (9, .bp 9 0), (11, .v (.int .i64 (IntKind.wrap .i64 ((↑(j + 1) : Int) - 1))))] [] [(2, .box 28 [.slice .none 0 0, .slice .none 0 0, .int .i64 0, .bool false]), (94, .own (sgOwn (.slice A15 (List.length (Sg.acc (Prod.fst t))) c15) (.slice B15 (List.length (Sg.mv (Prod.fst t))) d15) (Prod.fst t))), (120, .box 55 [.slice A (List.length xs) c, .int .i64 p17, .int .u64 sd17]), (121, .own (sgOwn (.slice A14 (List.length (Sg.acc s)) c14) (.slice B14 (List.length (Sg.mv s)) d14) s)), (9, .box 28 [.slice A15 (List.length (Sg.acc (Prod.fst t))) c15, .slice B15 (List.length (Sg.mv (Prod.fst t))) d15, .int .i64 (Sg.done (Prod.fst t)), .bool (Sg.und (Prod.fst t))])] [(120, .some (ρ 120))] (by kernel_rfl) ?_
        refine J.free 121 ?_
        refine J.own (k := 94) (k' := 121) (p' := sgOwn (.slice A15 t.1.acc.length c15) (.slice B15 t.1.mv.length d15) t.1) rfl (.inr rfl) (fun _ h => h) ?_
        refine J.to 0 [] 120 [(0, .bp 120 0), (2, .bp 2 0), (9, .bp 9 0), (11, .v (.int .i64 (IntKind.wrap .i64 ((↑(j + 1) : Int) - 1))))] [] [(2, .box 28 [.slice .none 0 0, .slice .none 0 0, .int .i64 0, .bool false]), (9, .box 28 [.slice A15 (List.length (Sg.acc (Prod.fst t))) c15, .slice B15 (List.length (Sg.mv (Prod.fst t))) d15, .int .i64 (Sg.done (Prod.fst t)), .bool (Sg.und (Prod.fst t))]), (120, .box 55 [.slice A (List.length xs) c, .int .i64 p17, .int .u64 sd17]), (121, .own (sgOwn (.slice A15 (List.length (Sg.acc (Prod.fst t))) c15) (.slice B15 (List.length (Sg.mv (Prod.fst t))) d15) (Prod.fst t)))] [(120, .some (ρ 120))] (by kernel_rfl) ?_
        rw [show IntKind.wrap .i64 (((j + 1 : Nat) : Int) - 1) = (j : Int) from (wr_id (by omega)).trans (by omega)]
        exact J.againK (j, (t.1, (A15, c15), (B15, d15)), (p17, sd17)) (by kernel_rfl) ⟨hfs h, by simp only; omega, by simp only; omega, by simp only; omega, hc.mono (hxa.trans (hxc.trans hx17))⟩ (by simp)
      · refine J.to 8 [false] 120 [(0, .bp 120 0), (2, .bp 2 0), (9, .bp 9 0), (11, .v (.int .i64 (IntKind.wrap .i64 ((↑(j + 1) : Int) - 1))))] [] [(2, .box 28 [.slice .none 0 0, .slice .none 0 0, .int .i64 0, .bool false]), (9, .box 28 [.slice A14 (List.length (Sg.acc s)) c14, .slice B14 (List.length (Sg.mv s)) d14, .int .i64 (Sg.done s), .bool (Sg.und s)]), (94, .own (sgOwn (.slice A15 (List.length (Sg.acc (Prod.fst t))) c15) (.slice B15 (List.length (Sg.mv (Prod.fst t))) d15) (Prod.fst t))), (120, .box 55 [.slice A (List.length xs) c, .int .i64 p17, .int .u64 sd17]), (121, .own (sgOwn (.slice A14 (List.length (Sg.acc s)) c14) (.slice B14 (List.length (Sg.mv s)) d14) s))] [(120, .some (ρ 120))] (by kernel_rfl) ?_
        rw [show IntKind.wrap .i64 (((j + 1 : Nat) : Int) - 1) = (j : Int) from (wr_id (by omega)).trans (by omega)]
        exact J.againK (j, (s, (A14, c14), (B14, d14)), (p17, sd17)) (by kernel_rfl) ⟨hs, by simp only; omega, by simp only; omega, by simp only; omega, hc.mono (hxa.trans (hxc.trans hx17))⟩ (by simp)
    · refine J.to 12 [false] 120 [(0, .bp 120 0), (2, .bp 2 0), (9, .bp 9 0), (11, .v (.int .i64 (IntKind.wrap .i64 ((↑(j + 1) : Int) - 1))))] [] [(2, .box 28 [.slice .none 0 0, .slice .none 0 0, .int .i64 0, .bool false]), (9, .box 28 [.slice A14 (List.length (Sg.acc s)) c14, .slice B14 (List.length (Sg.mv s)) d14, .int .i64 (Sg.done s), .bool (Sg.und s)]), (94, .own (sgOwn (.slice A15 (List.length (Sg.acc (Prod.fst t))) c15) (.slice B15 (List.length (Sg.mv (Prod.fst t))) d15) (Prod.fst t))), (120, .box 55 [.slice A (List.length xs) c, .int .i64 p11, .int .u64 sd11]), (121, .own (sgOwn (.slice A14 (List.length (Sg.acc s)) c14) (.slice B14 (List.length (Sg.mv s)) d14) s))] [(120, .some (ρ 120))] (by kernel_rfl) ?_
      rw [show IntKind.wrap .i64 (((j + 1 : Nat) : Int) - 1) = (j : Int) from (wr_id (by omega)).trans (by omega)]
      exact J.againK (j, (s, (A14, c14), (B14, d14)), (p11, sd11)) (by kernel_rfl) ⟨hs, by simp only; omega, by simp only; omega, by simp only; omega, hc.mono (hxa.trans hxc)⟩ (by simp)
  clear hk
  refine J.to 6 [false] 120 [(0, .bp 120 0), (2, .bp 2 0), (9, .bp 9 0), (103, .bp 120 0)] [] [(2, .box 28 [.slice .none 0 0, .slice .none 0 0, .int .i64 0, .bool false]), (9, .box 28 [.slice A9 (List.length (Sg.acc s)) c9, .slice B9 (List.length (Sg.mv s)) d9, .int .i64 (Sg.done s), .bool (Sg.und s)]), (120, .box 55 [.slice A (List.length xs) c, .int .i64 p11, .int .u64 sd11]), (121, .own (sgOwn (.slice A9 (List.length (Sg.acc s)) c9) (.slice B9 (List.length (Sg.mv s)) d9) s))] [(120, .some (ρ 120))] (by kernel_rfl) ?_
  refine J.one (Op1.bcall [(20, 120)] (args := [.bp 20 0, .v _]) (ML := [(20, .box 55 (curC A xs.length c p11 sd11))]) rfl rfl rfl rfl rfl rfl rfl rfl rfl rfl (fun q hq => by simp at hq; subst hq; rfl) (fun q hq => by simp at hq; subst hq; rfl)
    (pick_ok A c xs p11 sd11 40 U11 hc (by omega) (by omega)) fun v U20 ML hx20 ⟨b20, p20, sd20, hv, hb20, hp20, hML⟩ => ?_)
  subst hv; subst hML
  refine J.to 7 [] 120 [(0, .bp 120 0), (2, .bp 2 0), (9, .bp 9 0), (104, .v (.int .i64 b20)), (105, .v (.bool (b20 == 0)))] [] [(2, .box 28 [.slice .none 0 0, .slice .none 0 0, .int .i64 0, .bool false]), (9, .box 28 [.slice A9 (List.length (Sg.acc s)) c9, .slice B9 (List.length (Sg.mv s)) d9, .int .i64 (Sg.done s), .bool (Sg.und s)]), (120, .box 55 [.slice A (List.length xs) c, .int .i64 p20, .int .u64 sd20]), (121, .own (sgOwn (.slice A9 (List.length (Sg.acc s)) c9) (.slice B9 (List.length (Sg.mv s)) d9) s))] [(120, .some (ρ 120))] (by kernel_rfl) ?_
  refine J.br rfl rfl (fun h => ?_) (fun h => ?_)
  · refine J.to 14 [true] 120 [(2, .bp 2 0)] [] [(120, .box 55 [.slice A (List.length xs) c, .int .i64 p20, .int .u64 sd20]), (121, .own (sgOwn (.slice A9 (List.length (Sg.acc s)) c9) (.slice B9 (List.length (Sg.mv s)) d9) s)), (2, .box 28 [.slice A9 (List.length (Sg.acc s)) c9, .slice B9 (List.length (Sg.mv s)) d9, .int .i64 (IntKind.wrap .i64 (Sg.done s + 1)), .bool (Sg.und s)])] [(120, .some (ρ 120))] (by kernel_rfl) ?_
    exact J.retB [(120, .box 55 (curC A xs.length c p20 sd20)), (121, .own (sgOwn (.slice A9 s.acc.length c9) (.slice B9 s.mv.length d9) s))] rfl ⟨⟨rfl, .inl rfl⟩, ⟨rfl, .inr ⟨_, rfl⟩⟩, trivial⟩ ⟨{ s with done := IntKind.wrap .i64 (s.done + 1) }, _, _, p20, sd20, rfl, ⟨hs.a0, hs.a1, hs.m⟩, by omega, rfl⟩
  refine J.to 6 [false] 120 [(0, .bp 120 0), (2, .bp 2 0), (9, .bp 9 0), (111, .v (.bool (b20 == 1)))] [] [(2, .box 28 [.slice .none 0 0, .slice .none 0 0, .int .i64 0, .bool false]), (9, .box 28 [.slice A9 (List.length (Sg.acc s)) c9, .slice B9 (List.length (Sg.mv s)) d9, .int .i64 (Sg.done s), .bool (Sg.und s)]), (120, .box 55 [.slice A (List.length xs) c, .int .i64 p20, .int .u64 sd20]), (121, .own (sgOwn (.slice A9 (List.length (Sg.acc s)) c9) (.slice B9 (List.length (Sg.mv s)) d9) s))] [(120, .some (ρ 120))] (by kernel_rfl) ?_
  refine J.br rfl rfl (fun h' => ?_) (fun h' => ?_)
  · refine J.to 1 [true] 120 [(0, .bp 120 0), (2, .bp 2 0), (9, .bp 9 0)] [] [(2, .box 28 [.slice .none 0 0, .slice .none 0 0, .int .i64 0, .bool false]), (9, .box 28 [.slice A9 (List.length (Sg.acc s)) c9, .slice B9 (List.length (Sg.mv s)) d9, .int .i64 (Sg.done s), .bool (Sg.und s)]), (120, .box 55 [.slice A (List.length xs) c, .int .i64 p20, .int .u64 sd20]), (121, .own (sgOwn (.slice A9 (List.length (Sg.acc s)) c9) (.slice B9 (List.length (Sg.mv s)) d9) s))] [(120, .some (ρ 120))] (by kernel_rfl) ?_
    refine J.split 121 122 rfl rfl rfl ?_
    refine J.arrBox 121 rfl (fun e => ?_) fun g cap rest e0 hnc hcm hl1 hl2 => ?_
    · simp only [Value.slice.injEq] at e
      have := hs.a0
      omega
    simp only [Value.slice.injEq] at e0
    obtain ⟨rfl, -, rfl⟩ := e0
    refine J.to 0 [] 120 [(0, .bp 120 0), (2, .bp 2 0), (9, .bp 9 0)] [] [(2, .box 28 [.slice .none 0 0, .slice .none 0 0, .int .i64 0, .bool false]), (9, .box 28 [.slice (.some (Addr.mk g 0 .none)) (List.length (Sg.acc s)) c9, .slice B9 (List.length (Sg.mv s)) d9, .int .i64 (Sg.done s), .bool (Sg.und s)]), (120, .box 55 [.slice A (List.length xs) c, .int .i64 p20, .int .u64 sd20]), (121, .box 3 (intC (Sg.acc s) ++ rest)), (122, .own (arr (.slice B9 (List.length (Sg.mv s)) d9) 59 3 (List.length (Sg.mv s)) (mvC (Sg.mv s))))] [(120, .some (ρ 120)), (121, .some g)] (by kernel_rfl) ?_
    refine J.any [9] [] [(120, ρ 120), (121, g)] ⟨rfl, rfl, trivial⟩ fun ρ1 ⟨hρ1, hρ2, _⟩ => ?_
    refine J.takeTo true [0, 1, 2] 4 120 [(0, .bp 120 0), (2, .bp 2 0), (9, .bp 9 0), (113, .bp 9 0), (114, .v (.slice (.some (Addr.mk g 0 .none)) (List.length (Sg.acc s)) c9)), (115, .bp 120 0)] [] [(2, .box 28 [.slice .none 0 0, .slice .none 0 0, .int .i64 0, .bool false]), (9, .box 28 [.slice (.some (Addr.mk g 0 .none)) (List.length (Sg.acc s)) c9, .slice B9 (List.length (Sg.mv s)) d9, .int .i64 (Sg.done s), .bool (Sg.und s)]), (120, .box 55 [.slice A (List.length xs) c, .int .i64 p20, .int .u64 sd20]), (121, .box 3 (intC (Sg.acc s) ++ rest)), (122, .own (arr (.slice B9 (List.length (Sg.mv s)) d9) 59 3 (List.length (Sg.mv s)) (mvC (Sg.mv s))))] [(2, .some (ρ1 2)), (9, .some (ρ1 9)), (120, .some (ρ1 120)), (121, .some (ρ1 121)), (122, .some (ρ1 122))] (by first | exact Ext.refl _ | assumption | exact Ext.trans (by assumption) (by assumption) | exact Ext.trans (by assumption) (Ext.trans (by assumption) (by assumption))) (fun h => rfl) ⟨⟨rfl, rfl⟩, trivial⟩ rfl (by kernel_rfl) ?_
    refine J.aone (i := 3) (by kernel_rfl) (Op1.buildSlice (len := 3) (pv := [(0, .int .i64 (-1)), (1, .int .i64 1000000), (2, .int .i64 1000001)]) (cells := intC [-1, 1000000, 1000001]) (zz := .int .i64 0) rfl rfl rfl rfl rfl ⟨_,_,_,_,_,rfl,rfl⟩ (by decide) (by decide) rfl (by kernel_rfl) rfl fun g0 => ⟨fun _ => ⟨Ext.refl _, ⟨rfl, rfl⟩, trivial⟩, ?_⟩)
    refine J.pub (k := 116) rfl fun U22 L22 hx22 hl22 hp22 => ?_
    have hr22 : Rd rInt U22 _ [-1, 1000000, 1000001] := int_rd hp22 hl22
    refine J.aone (i := 4) (by kernel_rfl) (Op1.bcall [(12, 120)] (args := [.bp 12 0, .v _]) (ML := [(12, .box 55 (curC A xs.length c p20 sd20))]) rfl rfl rfl rfl rfl rfl rfl rfl rfl rfl (fun q hq => by simp at hq; subst hq; rfl) (fun q hq => by simp at hq; subst hq; rfl)
      (among_ok A c xs p20 sd20 _ [-1, 1000000, 1000001] U22 ((hc.mono hx20).mono hx22) (by omega) (by omega) hr22 (by decide)) fun v U23 ML hx23 ⟨b23, p23, sd23, hv, hp23, hML⟩ => ⟨fun _ => ⟨hx22.trans hx23, ⟨rfl, rfl⟩, trivial⟩, ?_⟩)
    subst hv; subst hML
    refine J.aone (i := 5) (by kernel_rfl) (Op1.indexB (key := 121) rfl rfl rfl rfl rfl ⟨_,_,_,_,_,rfl,rfl,rfl⟩ rfl (congrArg some hρ2) rfl (by decide) (by have := hs.a0; omega) ⟨fun _ => ⟨hx22.trans hx23, ⟨rfl, rfl⟩, trivial⟩, ?_⟩)
    refine J.aone (i := 6) (by kernel_rfl) (Op1.storeB (cells' := intC (s.acc.set 0 b23) ++ rest) rfl rfl rfl rfl rfl rfl rfl ⟨_, rfl, rfl⟩ ?_ rfl ?_ ⟨fun _ => ⟨hx22.trans hx23, ⟨rfl, rfl⟩, trivial⟩, ?_⟩)
    · show 0 + 1 ≤ (intC s.acc ++ rest).length
      have := hs.a0
      simp [intC_len]; omega
    · show putCells (intC s.acc ++ rest) 0 [_] = _
      have := hs.a0
      rw [putCells_app _ _ _ _ (by simp [intC_len]; omega)]
      congr 1
      simp [putCells, intC]
    refine J.adone' (by kernel_rfl) ?_
    refine J.boxArr (xs := intC (s.acc.set 0 b23)) (rest := rest) (n := s.acc.length) (size := 1) (cap := c9) 121 rfl (congrArg some hρ2) hnc hcm (by simp [intC_len]) (by rw [intC_len] at hl2; simp only [intC_len, List.length_set]; exact hl2) ?_
    refine J.join 121 122 rfl rfl rfl ?_
    refine J.own (k := 121) (k' := 121) (p' := sgOwn (.slice (some ⟨g, 0, none⟩) s.acc.length c9) (.slice B9 s.mv.length d9) { s with acc := s.acc.set 0 b23 }) rfl (.inl rfl) (fun h h1 => by unfold sgOwn; rw [List.length_set]; exact h1) ?_
    refine J.to 6 [] 120 [(2, .bp 2 0)] [] [(9, .box 28 [.slice (.some (Addr.mk g 0 .none)) (List.length (Sg.acc s)) c9, .slice B9 (List.length (Sg.mv s)) d9, .int .i64 (Sg.done s), .bool (Sg.und s)]), (120, .box 55 [.slice A (List.length xs) c, .int .i64 p23, .int .u64 sd23]), (121, .own (sgOwn (.slice (.some (Addr.mk g 0 .none)) (List.length (Sg.acc s)) c9) (.slice B9 (List.length (Sg.mv s)) d9) (Sg.mk (List.set (Sg.acc s) 0 b23) (Sg.mv s) (Sg.done s) (Sg.und s)))), (2, .box 28 [.slice (.some (Addr.mk g 0 .none)) (List.length (Sg.acc s)) c9, .slice B9 (List.length (Sg.mv s)) d9, .int .i64 (Sg.done s), .bool (Sg.und s)])] [(2, .some (ρ1 2)), (9, .some (ρ1 9)), (120, .some (ρ1 120)), (121, .some (ρ1 121))] (by kernel_rfl) ?_
    exact J.retB [(120, .box 55 (curC A xs.length c p23 sd23)), (121, .own (sgOwn (.slice (some ⟨g, 0, none⟩) s.acc.length c9) (.slice B9 s.mv.length d9) { s with acc := s.acc.set 0 b23 }))] rfl ⟨⟨rfl, .inl (congrArg some hρ1)⟩, ⟨rfl, .inr ⟨_, rfl⟩⟩, trivial⟩ ⟨{ s with acc := s.acc.set 0 b23 }, _, _, p23, sd23, rfl, ⟨by simp only [List.length_set]; exact hs.a0, by simp only [List.length_set]; exact hs.a1, hs.m⟩, by omega, rfl⟩
  · refine J.to 8 [false] 120 [(2, .bp 2 0)] [] [(120, .box 55 [.slice A (List.length xs) c, .int .i64 p20, .int .u64 sd20]), (121, .own (sgOwn (.slice A9 (List.length (Sg.acc s)) c9) (.slice B9 (List.length (Sg.mv s)) d9) s)), (2, .box 28 [.slice A9 (List.length (Sg.acc s)) c9, .slice B9 (List.length (Sg.mv s)) d9, .int .i64 (Sg.done s), .bool (Sg.und s)])] [(120, .some (ρ 120))] (by kernel_rfl) ?_
    exact J.retB [(120, .box 55 (curC A xs.length c p20 sd20)), (121, .own (sgOwn (.slice A9 s.acc.length c9) (.slice B9 s.mv.length d9) s))] rfl ⟨⟨rfl, .inl rfl⟩, ⟨rfl, .inr ⟨_, rfl⟩⟩, trivial⟩ ⟨s, _, _, p20, sd20, rfl, hs, by omega, rfl⟩
end Go.Rx
end
