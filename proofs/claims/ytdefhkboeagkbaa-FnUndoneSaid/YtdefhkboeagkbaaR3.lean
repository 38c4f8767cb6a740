/- A new saga's run is done whole or undone so that all is as it was, the sum stays, and the program's sagas are the reference's, for drawn sagas: no condition beyond the statement's own. -/
import Derived.Test.YtdefhkboeagkbaaSg3
import Derived.Test.YtdefhkboeagkbaaRx2
import Derived.Test.YtdefhkboeagkbaaRows
import Derived.WalkKit
import Derived.ProofKit
import Derived.OpenShut
import Derived.ShutString
import Derived.ChangeOld
import Derived.Below
import Derived.SizedLaws
import Derived.Carry
import Derived.WideShapes
set_option linter.unusedVariables false
set_option linter.unusedSimpArgs false
set_option linter.unusedSectionVars false
section
open Go Go.Rx Go.Proofs
set_option maxHeartbeats 1000000
namespace Go.Rx
theorem drawNew_ok (v : Value) (xs : List Int) (U : Hp) (hv : Rd rB U v xs) (hb : ∀ x ∈ xs, 0 ≤ x ∧ x ≤ 255) :
    OCall Try.prog 6 #[v] U fun r U' L => ∃ (acc : List Int) (mv : List Mv) (va vm : Value), r = .tuple #[va, vm] ∧ Fine ⟨acc, mv, 0, false⟩ ∧ sgOwn va vm ⟨acc, mv, 0, false⟩ L := by
  obtain ⟨A, c, rfl, hc, hA⟩ := hv
  refine OCall.of (args := [.slice A xs.length c]) E_ok mix Try.func6 (by kernel_rfl) rfl Try.ntmps6 (Nat.le_of_ble_eq_true rfl) fun F w0 => ?_
  refine J.to 15 [] 32 [(2, .v (.slice .none 0 0)), (3, .v (.slice .none 0 0)), (4, .bp 8 0), (9, .bp 8 0)] [] [(8, .box 55 [.slice A (List.length xs) c, .int .i64 0, .int .u64 0])] [] (by kernel_rfl) ?_
  refine J.one (Op1.bcall [(120, 8), (121, 10)] (args := [.bp 120 0]) (ML := [(120, .box 55 (curC A xs.length c 0 0))]) rfl rfl rfl rfl rfl rfl rfl rfl rfl rfl (fun q hq => by simp at hq; rcases hq with rfl | rfl <;> rfl) (fun q hq => by simp at hq; subst hq; rfl)
    (saga_ok A c xs 0 0 U ⟨hA, hb⟩ (by decide) (by decide)) fun v U1 ML hx1 ⟨s, va, vm, p1, sd1, hv, hs, hp1, hML⟩ => ?_)
  subst hv; subst hML
  refine J.own' (α := ∃ x : Option Addr × Nat × Option Addr × Nat, va = .slice x.1 s.acc.length x.2.1 ∧ vm = .slice x.2.2.1 s.mv.length x.2.2.2) (p' := fun _ => sgOwn va vm s) 10 rfl (fun h h1 => ⟨sgOwn_slice h1, h1⟩) ?_
  rintro ⟨⟨A1, c1, B1, d1⟩, rfl, rfl⟩
  dsimp only
  obtain ⟨acc, mv, dn, un⟩ := s
  dsimp only
  refine J.to 7 [] 32 [(2, .v (.slice .none 0 0)), (3, .v (.slice .none 0 0)), (5, .bp 5 0), (11, .bp 8 0)] [] [(8, .box 55 [.slice A (List.length xs) c, .int .i64 p1, .int .u64 sd1]), (10, .own (sgOwn (.slice A1 (List.length acc) c1) (.slice B1 (List.length mv) d1) (Sg.mk acc mv dn un))), (5, .box 28 [.slice A1 (List.length acc) c1, .slice B1 (List.length mv) d1, .int .i64 dn, .bool un])] [] (by kernel_rfl) ?_
  refine J.one (Op1.bcall [(9, 8)] (args := [.bp 9 0, .v _]) (ML := [(9, .box 55 (curC A xs.length c p1 sd1))]) rfl rfl rfl rfl rfl rfl rfl rfl rfl rfl (fun q hq => by simp at hq; subst hq; rfl) (fun q hq => by simp at hq; subst hq; rfl)
    (one_ok A c xs p1 sd1 20 U1 ⟨hA.mono hx1, hb⟩ (by omega) (by omega)) fun v U2 ML hx2 ⟨b2, p2, sd2, hv, hp2, hML⟩ => ?_)
  subst hv; subst hML
  refine J.to 1 [] 32 [(2, .v (.slice .none 0 0)), (3, .v (.slice .none 0 0)), (5, .bp 5 0), (13, .v (.bool b2))] [] [(5, .box 28 [.slice A1 (List.length acc) c1, .slice B1 (List.length mv) d1, .int .i64 dn, .bool un]), (10, .own (sgOwn (.slice A1 (List.length acc) c1) (.slice B1 (List.length mv) d1) (Sg.mk acc mv dn un)))] [] (by kernel_rfl) ?_
  have hs' : Fine ⟨acc, mv, 0, false⟩ := ⟨hs.a0, hs.a1, hs.m⟩
  refine J.br rfl rfl (fun h => ?_) (fun h => ?_)
  · refine J.to 6 [] 32 [(2, .v (.slice .none 0 0)), (3, .v (.slice .none 0 0)), (5, .bp 5 0), (18, .v (.bool (Decidable.decide ((↑(List.length mv) : Int) > 0))))] [] [(5, .box 28 [.slice A1 (List.length acc) c1, .slice B1 (List.length mv) d1, .int .i64 dn, .bool un]), (10, .own (sgOwn (.slice A1 (List.length acc) c1) (.slice B1 (List.length mv) d1) (Sg.mk acc mv dn un)))] [] (by kernel_rfl) ?_
    refine J.br rfl rfl (fun h' => ?_) (fun h' => ?_)
    · replace h' : (mv.length : Int) > 0 := of_decide_eq_true h'
      cases mv with
      | nil => simp at h'
      | cons q r =>
      refine J.to 1 [true] 32 [(2, .v (.slice .none 0 0)), (3, .v (.slice .none 0 0)), (5, .bp 5 0)] [] [(5, .box 28 [.slice A1 (List.length acc) c1, .slice B1 (List.length (q :: r)) d1, .int .i64 dn, .bool un]), (10, .own (sgOwn (.slice A1 (List.length acc) c1) (.slice B1 (List.length (q :: r)) d1) (Sg.mk acc (q :: r) dn un)))] [] (by kernel_rfl) ?_
      refine J.split 10 11 rfl rfl rfl ?_
      refine J.arrBox 11 rfl (fun e => ?_) fun g cap rest e0 hnc hcm hl1 hl2 => ?_
      · simp only [Value.slice.injEq] at e
        simp at e
      simp only [Value.slice.injEq] at e0
      obtain ⟨rfl, -, rfl⟩ := e0
      refine J.to 0 [] 32 [(2, .v (.slice .none 0 0)), (3, .v (.slice .none 0 0)), (5, .bp 5 0)] [] [(5, .box 28 [.slice A1 (List.length acc) c1, .slice (.some (Addr.mk g 0 .none)) (List.length (q :: r)) d1, .int .i64 dn, .bool un]), (10, .own (arr (.slice A1 (List.length acc) c1) 3 1 (List.length acc) (intC acc))), (11, .box 59 (.int .i64 (Mv.a q) :: .int .i64 (Mv.b q) :: .int .i64 (Mv.n q) :: List.append (List.append [] (List.flatten (List.map Mv.cells r))) rest))] [(11, .some g)] (by kernel_rfl) ?_
      refine J.any [5] [] [(11, g)] ⟨rfl, trivial⟩ fun ρ1 ⟨hρ1, _⟩ => ?_
      refine J.takeTo true [0, 1, 2, 3] 6 32 [(2, .v (.slice .none 0 0)), (3, .v (.slice .none 0 0)), (5, .bp 5 0), (19, .bp 5 1), (20, .v (.slice (.some (Addr.mk g 0 .none)) (List.length (q :: r)) d1)), (21, .bp 5 1), (22, .v (.slice (.some (Addr.mk g 0 .none)) (List.length (q :: r)) d1))] [] [(5, .box 28 [.slice A1 (List.length acc) c1, .slice (.some (Addr.mk g 0 .none)) (List.length (q :: r)) d1, .int .i64 dn, .bool un]), (10, .own (arr (.slice A1 (List.length acc) c1) 3 1 (List.length acc) (intC acc))), (11, .box 59 (.int .i64 (Mv.a q) :: .int .i64 (Mv.b q) :: .int .i64 (Mv.n q) :: List.append (List.append [] (List.flatten (List.map Mv.cells r))) rest))] [(5, .some (ρ1 5)), (10, .some (ρ1 10)), (11, .some (ρ1 11))] (by first | exact Ext.refl _ | assumption | exact Ext.trans (by assumption) (by assumption) | exact Ext.trans (by assumption) (Ext.trans (by assumption) (by assumption))) (fun h => rfl) ⟨⟨rfl, rfl⟩, trivial⟩ rfl (by kernel_rfl) ?_
      refine J.aone (i := 4) (by kernel_rfl) (Op1.indexB (key := 11) rfl rfl rfl rfl rfl ⟨_,_,_,_,_,rfl,rfl,rfl⟩ rfl (congrArg some hρ1) rfl (by decide) h' ⟨fun _ => ⟨Ext.refl _, ⟨rfl, rfl⟩, trivial⟩, ?_⟩)
      refine J.takeTo true [5] 4 32 [(2, .v (.slice .none 0 0)), (3, .v (.slice .none 0 0)), (5, .bp 5 0), (19, .bp 5 1), (20, .v (.slice (.some (Addr.mk g 0 .none)) (List.length (q :: r)) d1)), (21, .bp 5 1), (22, .v (.slice (.some (Addr.mk g 0 .none)) (List.length (q :: r)) d1)), (23, .bp 11 0), (24, .bp 11 0)] [] [(5, .box 28 [.slice A1 (List.length acc) c1, .slice (.some (Addr.mk g 0 .none)) (List.length (q :: r)) d1, .int .i64 dn, .bool un]), (10, .own (arr (.slice A1 (List.length acc) c1) 3 1 (List.length acc) (intC acc))), (11, .box 59 (.int .i64 (Mv.a q) :: .int .i64 (Mv.b q) :: .int .i64 (Mv.n q) :: List.append (List.append [] (List.flatten (List.map Mv.cells r))) rest))] [(5, .some (ρ1 5)), (10, .some (ρ1 10)), (11, .some (ρ1 11))] (by first | exact Ext.refl _ | assumption | exact Ext.trans (by assumption) (by assumption) | exact Ext.trans (by assumption) (Ext.trans (by assumption) (by assumption))) (fun h => rfl) ⟨⟨rfl, rfl⟩, trivial⟩ rfl (by kernel_rfl) ?_
      refine J.aone (i := 6) (by kernel_rfl) (Op1.loadB (v := .int .i64 q.a) rfl rfl rfl rfl rfl rfl rfl rfl ⟨fun _ => ⟨Ext.refl _, ⟨rfl, rfl⟩, trivial⟩, ?_⟩)
      refine J.aone (i := 7) (by kernel_rfl) (Op1.indexB (key := 11) rfl rfl rfl rfl rfl ⟨_,_,_,_,_,rfl,rfl,rfl⟩ rfl (congrArg some hρ1) rfl (by decide) h' ⟨fun _ => ⟨Ext.refl _, ⟨rfl, rfl⟩, trivial⟩, ?_⟩)
      refine J.takeTo true [8] 1 32 [(2, .v (.slice .none 0 0)), (3, .v (.slice .none 0 0)), (5, .bp 5 0), (19, .bp 5 1), (20, .v (.slice (.some (Addr.mk g 0 .none)) (List.length (q :: r)) d1)), (21, .bp 5 1), (22, .v (.slice (.some (Addr.mk g 0 .none)) (List.length (q :: r)) d1)), (23, .bp 11 0), (24, .bp 11 0), (25, .v (.int .i64 (Mv.a q))), (26, .bp 11 0), (27, .bp 11 1)] [] [(5, .box 28 [.slice A1 (List.length acc) c1, .slice (.some (Addr.mk g 0 .none)) (List.length (q :: r)) d1, .int .i64 dn, .bool un]), (10, .own (arr (.slice A1 (List.length acc) c1) 3 1 (List.length acc) (intC acc))), (11, .box 59 (.int .i64 (Mv.a q) :: .int .i64 (Mv.b q) :: .int .i64 (Mv.n q) :: List.append (List.append [] (List.flatten (List.map Mv.cells r))) rest))] [(5, .some (ρ1 5)), (10, .some (ρ1 10)), (11, .some (ρ1 11))] (by first | exact Ext.refl _ | assumption | exact Ext.trans (by assumption) (by assumption) | exact Ext.trans (by assumption) (Ext.trans (by assumption) (by assumption))) (fun h => rfl) ⟨⟨rfl, rfl⟩, trivial⟩ rfl (by kernel_rfl) ?_
      refine J.aone (i := 9) (by kernel_rfl) (Op1.storeB (cells' := mvC (⟨q.a, q.a, q.n⟩ :: r) ++ rest) rfl rfl rfl rfl rfl rfl rfl ⟨_, rfl, rfl⟩ ?_ rfl rfl ⟨fun _ => ⟨Ext.refl _, ⟨rfl, rfl⟩, trivial⟩, ?_⟩)
      · show 0 + 1 + 1 ≤ (mvC (q :: r) ++ rest).length
        simp [mvC_len]; omega
      refine J.adone' (by kernel_rfl) ?_
      refine J.boxArr (xs := mvC (⟨q.a, q.a, q.n⟩ :: r)) (rest := rest) (n := (q :: r).length) (size := 3) (cap := d1) 11 rfl (congrArg some hρ1) hnc hcm (by rw [mvC_len]; rfl) (by rw [mvC_len] at hl2 ⊢; exact hl2) ?_
      refine J.join 10 11 rfl rfl rfl ?_
      refine J.to 1 [] 32 [(2, .v (.slice .none 0 0)), (3, .v (.slice .none 0 0)), (5, .bp 5 0)] [] [(5, .box 28 [.slice A1 (List.length acc) c1, .slice (.some (Addr.mk g 0 .none)) (List.length (q :: r)) d1, .int .i64 dn, .bool un]), (10, .own (star (arr (.slice A1 (List.length acc) c1) 3 1 (List.length acc) (intC acc)) (arr (.slice (.some (Addr.mk g 0 .none)) (List.length (q :: r)) d1) 59 3 (List.length (q :: r)) (mvC (Mv.mk (Mv.a q) (Mv.a q) (Mv.n q) :: r)))))] [(5, .some (ρ1 5)), (10, .some (ρ1 10))] (by kernel_rfl) ?_
      refine J.any [5] [] [] trivial fun ρ2 _ => ?_
      refine J.takeTo true [0, 1, 2, 3, 4, 5] 0 32 [(5, .bp 5 0), (28, .bp 5 0), (29, .v (.slice A1 (List.length acc) c1)), (30, .bp 5 1), (31, .v (.slice (.some (Addr.mk g 0 .none)) (List.length (q :: r)) d1)), (2, .v (.slice A1 (List.length acc) c1)), (3, .v (.slice (.some (Addr.mk g 0 .none)) (List.length (q :: r)) d1))] [] [(5, .box 28 [.slice A1 (List.length acc) c1, .slice (.some (Addr.mk g 0 .none)) (List.length (q :: r)) d1, .int .i64 dn, .bool un]), (10, .own (star (arr (.slice A1 (List.length acc) c1) 3 1 (List.length acc) (intC acc)) (arr (.slice (.some (Addr.mk g 0 .none)) (List.length (q :: r)) d1) 59 3 (List.length (q :: r)) (mvC (Mv.mk (Mv.a q) (Mv.a q) (Mv.n q) :: r)))))] [(5, .some (ρ2 5)), (10, .some (ρ2 10))] (by first | exact Ext.refl _ | assumption | exact Ext.trans (by assumption) (by assumption) | exact Ext.trans (by assumption) (Ext.trans (by assumption) (by assumption))) (fun h => rfl) ⟨⟨rfl, rfl⟩, trivial⟩ rfl (by kernel_rfl) ?_
      refine J.adone' (by kernel_rfl) ?_
      refine J.to 0 [] 32 [(2, .v (.slice A1 (List.length acc) c1)), (3, .v (.slice (.some (Addr.mk g 0 .none)) (List.length (q :: r)) d1))] [] [(5, .box 28 [.slice A1 (List.length acc) c1, .slice (.some (Addr.mk g 0 .none)) (List.length (q :: r)) d1, .int .i64 dn, .bool un]), (10, .own (star (arr (.slice A1 (List.length acc) c1) 3 1 (List.length acc) (intC acc)) (arr (.slice (.some (Addr.mk g 0 .none)) (List.length (q :: r)) d1) 59 3 (List.length (q :: r)) (mvC (Mv.mk (Mv.a q) (Mv.a q) (Mv.n q) :: r)))))] [(5, .some (ρ2 5)), (10, .some (ρ2 10))] (by kernel_rfl) ?_
      exact J.ret ⟨_, rfl, .inr ⟨10, _, rfl, fun L hL => ⟨acc, ⟨q.a, q.a, q.n⟩ :: r, _, _, rfl, ⟨hs.a0, hs.a1, hs.m⟩, hL⟩⟩⟩
    · refine J.to 3 [false] 32 [(2, .v (.slice .none 0 0)), (3, .v (.slice .none 0 0)), (5, .bp 5 0)] [] [(5, .box 28 [.slice A1 (List.length acc) c1, .slice B1 (List.length mv) d1, .int .i64 dn, .bool un]), (10, .own (sgOwn (.slice A1 (List.length acc) c1) (.slice B1 (List.length mv) d1) (Sg.mk acc mv dn un)))] [] (by kernel_rfl) ?_
      refine J.any [5] [] [] trivial fun ρ2 _ => ?_
      refine J.takeTo true [0, 1, 2, 3, 4, 5] 0 32 [(5, .bp 5 0), (28, .bp 5 0), (29, .v (.slice A1 (List.length acc) c1)), (30, .bp 5 1), (31, .v (.slice B1 (List.length mv) d1)), (2, .v (.slice A1 (List.length acc) c1)), (3, .v (.slice B1 (List.length mv) d1))] [] [(5, .box 28 [.slice A1 (List.length acc) c1, .slice B1 (List.length mv) d1, .int .i64 dn, .bool un]), (10, .own (sgOwn (.slice A1 (List.length acc) c1) (.slice B1 (List.length mv) d1) (Sg.mk acc mv dn un)))] [(5, .some (ρ2 5)), (10, .some (ρ2 10))] (by first | exact Ext.refl _ | assumption | exact Ext.trans (by assumption) (by assumption) | exact Ext.trans (by assumption) (Ext.trans (by assumption) (by assumption))) (fun h => rfl) ⟨⟨rfl, rfl⟩, trivial⟩ rfl (by kernel_rfl) ?_
      refine J.adone' (by kernel_rfl) ?_
      refine J.to 0 [] 32 [(2, .v (.slice A1 (List.length acc) c1)), (3, .v (.slice B1 (List.length mv) d1))] [] [(5, .box 28 [.slice A1 (List.length acc) c1, .slice B1 (List.length mv) d1, .int .i64 dn, .bool un]), (10, .own (sgOwn (.slice A1 (List.length acc) c1) (.slice B1 (List.length mv) d1) (Sg.mk acc mv dn un)))] [(5, .some (ρ2 5)), (10, .some (ρ2 10))] (by kernel_rfl) ?_
      exact J.ret ⟨_, rfl, .inr ⟨10, _, rfl, fun L hL => ⟨acc, mv, _, _, rfl, hs', hL⟩⟩⟩
  · refine J.to 9 [false] 32 [(2, .v (.slice .none 0 0)), (3, .v (.slice .none 0 0)), (5, .bp 5 0)] [] [(5, .box 28 [.slice A1 (List.length acc) c1, .slice B1 (List.length mv) d1, .int .i64 dn, .bool un]), (10, .own (sgOwn (.slice A1 (List.length acc) c1) (.slice B1 (List.length mv) d1) (Sg.mk acc mv dn un)))] [] (by kernel_rfl) ?_
    refine J.any [5] [] [] trivial fun ρ2 _ => ?_
    refine J.takeTo true [0, 1, 2, 3, 4, 5] 0 32 [(5, .bp 5 0), (28, .bp 5 0), (29, .v (.slice A1 (List.length acc) c1)), (30, .bp 5 1), (31, .v (.slice B1 (List.length mv) d1)), (2, .v (.slice A1 (List.length acc) c1)), (3, .v (.slice B1 (List.length mv) d1))] [] [(5, .box 28 [.slice A1 (List.length acc) c1, .slice B1 (List.length mv) d1, .int .i64 dn, .bool un]), (10, .own (sgOwn (.slice A1 (List.length acc) c1) (.slice B1 (List.length mv) d1) (Sg.mk acc mv dn un)))] [(5, .some (ρ2 5)), (10, .some (ρ2 10))] (by first | exact Ext.refl _ | assumption | exact Ext.trans (by assumption) (by assumption) | exact Ext.trans (by assumption) (Ext.trans (by assumption) (by assumption))) (fun h => rfl) ⟨⟨rfl, rfl⟩, trivial⟩ rfl (by kernel_rfl) ?_
    refine J.adone' (by kernel_rfl) ?_
    refine J.to 0 [] 32 [(2, .v (.slice A1 (List.length acc) c1)), (3, .v (.slice B1 (List.length mv) d1))] [] [(5, .box 28 [.slice A1 (List.length acc) c1, .slice B1 (List.length mv) d1, .int .i64 dn, .bool un]), (10, .own (sgOwn (.slice A1 (List.length acc) c1) (.slice B1 (List.length mv) d1) (Sg.mk acc mv dn un)))] [(5, .some (ρ2 5)), (10, .some (ρ2 10))] (by kernel_rfl) ?_
    exact J.ret ⟨_, rfl, .inr ⟨10, _, rfl, fun L hL => ⟨acc, mv, _, _, rfl, hs', hL⟩⟩⟩

theorem drawGood_ok (v : Value) (xs : List Int) (U : Hp) (hv : Rd rB U v xs) (hb : ∀ x ∈ xs, 0 ≤ x ∧ x ≤ 255) :
    OCall Try.prog 34 #[v] U fun r U' L => ∃ (s : Sg) (va vm : Value), r = .agg #[va, vm, .int .i64 s.done, .bool s.und] ∧ Fine s ∧ sgOwn va vm s L := by
  obtain ⟨A, c, rfl, hc, hA⟩ := hv
  refine OCall.of (args := [.slice A xs.length c]) E_ok mix Try.func34 (by kernel_rfl) rfl Try.ntmps34 (Nat.le_of_ble_eq_true rfl) fun F w0 => ?_
  refine J.to 14 [] 9 [(2, .bp 2 0), (7, .bp 6 0)] [] [(2, .box 28 [.slice .none 0 0, .slice .none 0 0, .int .i64 0, .bool false]), (6, .box 55 [.slice A (List.length xs) c, .int .i64 0, .int .u64 0])] [] (by kernel_rfl) ?_
  refine J.one (Op1.bcall [(120, 6), (121, 8)] (args := [.bp 120 0]) (ML := [(120, .box 55 (curC A xs.length c 0 0))]) rfl rfl rfl rfl rfl rfl rfl rfl rfl rfl (fun q hq => by simp at hq; rcases hq with rfl | rfl <;> rfl) (fun q hq => by simp at hq; subst hq; rfl)
    (saga_ok A c xs 0 0 U ⟨hA, hb⟩ (by decide) (by decide)) fun v U1 ML hx1 ⟨s, va, vm, p1, sd1, hv, hs, hp1, hML⟩ => ?_)
  subst hv; subst hML
  refine J.own' (α := ∃ x : Option Addr × Nat × Option Addr × Nat, va = .slice x.1 s.acc.length x.2.1 ∧ vm = .slice x.2.2.1 s.mv.length x.2.2.2) (p' := fun _ => sgOwn va vm s) 8 rfl (fun h h1 => ⟨sgOwn_slice h1, h1⟩) ?_
  rintro ⟨⟨A1, c1, B1, d1⟩, rfl, rfl⟩
  dsimp only
  refine J.to 2 [] 9 [(2, .bp 2 0)] [] [(8, .own (sgOwn (.slice A1 (List.length (Sg.acc s)) c1) (.slice B1 (List.length (Sg.mv s)) d1) s)), (2, .box 28 [.slice A1 (List.length (Sg.acc s)) c1, .slice B1 (List.length (Sg.mv s)) d1, .int .i64 (Sg.done s), .bool (Sg.und s)])] [] (by kernel_rfl) ?_
  exact J.ret ⟨_, rfl, .inr ⟨8, _, rfl, fun L hL => ⟨s, _, _, rfl, hs, hL⟩⟩⟩
theorem drawStep_ok (v : Value) (xs : List Int) (U : Hp) (hv : Rd rB U v xs) (hb : ∀ x ∈ xs, 0 ≤ x ∧ x ≤ 255) :
    OCall Try.prog 15 #[v] U fun r U' L => ∃ (s : Sg) (va vm : Value), r = .agg #[va, vm, .int .i64 s.done, .bool s.und] ∧ Fine s ∧ sgOwn va vm s L := by
  refine OCall.of (args := [v]) E_ok mix Try.func15 (by kernel_rfl) rfl Try.ntmps15 (Nat.le_of_ble_eq_true rfl) fun F w0 => ?_
  refine J.to 7 [] 5 [(2, .bp 2 0), (3, .v v)] [] [(2, .box 28 [.slice .none 0 0, .slice .none 0 0, .int .i64 0, .bool false])] [] (by kernel_rfl) ?_
  refine J.one (Op1.ocall rfl rfl rfl rfl rfl rfl rfl (drawGood_ok v xs U hv hb) fun v U1 hx1 => ?_)
  refine J.own' (α := Σ' (s : Sg) (x : Option Addr × Nat × Option Addr × Nat), v = .agg #[.slice x.1 s.acc.length x.2.1, .slice x.2.2.1 s.mv.length x.2.2.2, .int .i64 s.done, .bool s.und] ∧ Fine s) (p' := fun y => sgOwn (.slice y.2.1.1 y.1.acc.length y.2.1.2.1) (.slice y.2.1.2.2.1 y.1.mv.length y.2.1.2.2.2) y.1) 4 rfl
    (fun h ⟨s, va, vm, e, hs, h1⟩ => let ⟨x, e1, e2⟩ := sgOwn_slice h1; ⟨⟨s, x, by rw [e, e1, e2], hs⟩, e1 ▸ e2 ▸ h1⟩) ?_
  rintro ⟨s, ⟨A1, c1, B1, d1⟩, rfl, hs⟩
  dsimp only
  refine J.to 2 [] 5 [(2, .bp 2 0)] [] [(4, .own (sgOwn (.slice A1 (List.length (Sg.acc s)) c1) (.slice B1 (List.length (Sg.mv s)) d1) s)), (2, .box 28 [.slice A1 (List.length (Sg.acc s)) c1, .slice B1 (List.length (Sg.mv s)) d1, .int .i64 (Sg.done s), .bool (Sg.und s)])] [] (by kernel_rfl) ?_
  exact J.ret ⟨_, rfl, .inr ⟨4, _, rfl, fun L hL => ⟨s, _, _, rfl, hs, hL⟩⟩⟩

theorem implNew_ok (va vm : Value) (acc : List Int) (mv : List Mv) (U : Hp) (ha : Rd rInt U va acc) (hm : Rd rMv U vm mv) (hb : acc.length < 2^40) (hb2 : mv.length < 2^40) :
    OCall Try.prog 7 #[va, vm] U fun r U' L => ∃ va' vm', r = .tuple #[.agg #[va', vm', .int .i64 (newS acc mv).1.done, .bool (newS acc mv).1.und], .bool (newS acc mv).2] ∧ sgOwn va' vm' (newS acc mv).1 L := by
  obtain ⟨B, c, rfl, hc, hB⟩ := hm
  obtain ⟨A, ca, rfl, hca, hA⟩ := ha
  refine OCall.of (args := [.slice A acc.length ca, .slice B mv.length c]) E_ok mix Try.func7 (by kernel_rfl) rfl Try.ntmps7 (Nat.le_of_ble_eq_true rfl) fun F w0 => ?_
  refine J.to 17 [] 16 [(4, .bp 4 0), (5, .v (.bool false)), (6, .bp 6 0), (10, .v (.agg (Array.mk [.slice A (List.length acc) ca, .slice B (List.length mv) c, .int .i64 0, .bool false])))] [(5, .some false)] [(4, .box 28 [.slice .none 0 0, .slice .none 0 0, .int .i64 0, .bool false]), (6, .box 28 [.slice A (List.length acc) ca, .slice B (List.length mv) c, .int .i64 0, .bool false])] [] (by kernel_rfl) ?_
  refine J.one (Op1.call rfl rfl rfl rfl rfl rfl rfl rfl (implGood_ok _ _ ⟨acc, mv, 0, false⟩ U ⟨A, ca, rfl, hca, hA⟩ ⟨B, c, rfl, hc, hB⟩ hb hb2) fun v U1 hx1 hv => ?_); subst hv
  refine J.to 2 [] 16 [(4, .bp 4 0), (5, .v (.bool false)), (6, .bp 6 0), (12, .v (.bool !Sg.good (Sg.mk acc mv 0 false)))] [(5, .some false)] [(4, .box 28 [.slice .none 0 0, .slice .none 0 0, .int .i64 0, .bool false]), (6, .box 28 [.slice A (List.length acc) ca, .slice B (List.length mv) c, .int .i64 0, .bool false])] [] (by kernel_rfl) ?_
  refine J.br rfl rfl (fun h1 => ?_) (fun h1 => ?_)
  · refine J.to 7 [true] 16 [(4, .bp 4 0), (6, .bp 6 0), (5, .v (.bool false))] [(5, .some false)] [(6, .box 28 [.slice A (List.length acc) ca, .slice B (List.length mv) c, .int .i64 0, .bool false]), (4, .box 28 [.slice .none 0 0, .slice .none 0 0, .int .i64 0, .bool false])] [] (by kernel_rfl) ?_
    have h1 : (Sg.mk acc mv 0 false).good = false := by simpa using h1
    have e : newS acc mv = (Sg.zero, false) := by simp [newS, h1]
    exact J.ret ⟨_, rfl, .inl ⟨_, _, by rw [e]; rfl, by rw [e]; exact zeroOwn⟩⟩
  have h1 : (Sg.mk acc mv 0 false).good = true := by simpa using h1
  have e : newS acc mv = (⟨acc, mv, 0, false⟩, true) := by simp [newS, h1]
  refine J.to 5 [false] 16 [(4, .bp 4 0), (5, .v (.bool false)), (14, .v (.agg (Array.mk [.slice A (List.length acc) ca, .slice B (List.length mv) c, .int .i64 0, .bool false])))] [(5, .some false)] [(4, .box 28 [.slice .none 0 0, .slice .none 0 0, .int .i64 0, .bool false])] [] (by kernel_rfl) ?_
  refine J.one (Op1.ocall rfl rfl rfl rfl rfl rfl rfl (cloneSaga_ok _ _ ⟨acc, mv, 0, false⟩ U1 ⟨A, ca, rfl, hca, hA.mono hx1⟩ ⟨B, c, rfl, hc, hB.mono hx1⟩ hb hb2) fun v U2 hx2 => ?_)
  refine J.sg 15 rfl fun A2 c2 B2 d2 e2 => ?_
  subst e2
  dsimp only
  refine J.to 3 [] 16 [(4, .bp 4 0), (5, .v (.bool true))] [(5, .some true)] [(15, .own (sgOwn (.slice A2 (List.length acc) c2) (.slice B2 (List.length mv) d2) (Sg.mk acc mv 0 false))), (4, .box 28 [.slice A2 (List.length acc) c2, .slice B2 (List.length mv) d2, .int .i64 0, .bool false])] [] (by kernel_rfl) ?_
  exact J.ret ⟨_, rfl, .inr ⟨15, _, rfl, fun L hL => ⟨.slice A2 acc.length c2, .slice B2 mv.length d2, by rw [e]; rfl, by rw [e]; exact hL⟩⟩⟩

theorem isOver_ok (va vm : Value) (s : Sg) (al : Bool) (U : Hp) (ha : Rd rInt U va s.acc) (hm : Rd rMv U vm s.mv) (hb : s.acc.length < 2^40) (hb2 : s.mv.length < 2^40) (hg : s.good = true) (hal : (!s.und && (s.done == s.mv.length)) = al) :
    PCall Try.prog 12 #[.agg #[va, vm, .int .i64 s.done, .bool s.und]] U fun r U' => r = .tuple #[.bool (al || (s.und && (s.done == 0))), .bool al, .bool true] := by
  obtain ⟨B, c, rfl, hc, hB⟩ := hm
  obtain ⟨A, ca, rfl, hca, hA⟩ := ha
  refine OCall.of (args := [.agg #[.slice A s.acc.length ca, .slice B s.mv.length c, .int .i64 s.done, .bool s.und]]) E_ok mix Try.func12 (by kernel_rfl) rfl Try.ntmps12 (Nat.le_of_ble_eq_true rfl) fun F w0 => ?_
  refine J.to 11 [] 31 [(1, .bp 1 0), (2, .v (.bool false)), (3, .v (.bool false)), (4, .v (.bool false)), (6, .v (.agg (Array.mk [.slice A (List.length (Sg.acc s)) ca, .slice B (List.length (Sg.mv s)) c, .int .i64 (Sg.done s), .bool (Sg.und s)])))] [(2, .some false), (3, .some false), (4, .some false)] [(1, .box 28 [.slice A (List.length (Sg.acc s)) ca, .slice B (List.length (Sg.mv s)) c, .int .i64 (Sg.done s), .bool (Sg.und s)])] [] (by kernel_rfl) ?_
  refine J.one (Op1.call rfl rfl rfl rfl rfl rfl rfl rfl (implGood_ok _ _ s U ⟨A, ca, rfl, hca, hA⟩ ⟨B, c, rfl, hc, hB⟩ hb hb2) fun v U1 hx1 hv => ?_)
  rw [hg] at hv; subst hv
  refine J.to 10 [false] 31 [(1, .bp 1 0), (2, .v (.bool false)), (3, .v (.bool false)), (4, .v (.bool false)), (12, .v (.bool !Sg.und s))] [(2, .some false), (3, .some false), (4, .some false)] [(1, .box 28 [.slice A (List.length (Sg.acc s)) ca, .slice B (List.length (Sg.mv s)) c, .int .i64 (Sg.done s), .bool (Sg.und s)])] [] (by kernel_rfl) ?_
  refine J.br rfl rfl (fun h1 => ?_) (fun h1 => ?_)
  · refine J.to 13 [] 31 [(1, .bp 1 0), (2, .v (.bool false)), (3, .v (.bool false)), (4, .v (.bool false)), (5, .v (.bool (Sg.done s == (↑(List.length (Sg.mv s)) : Int)))), (21, .v (.bool (Sg.done s == (↑(List.length (Sg.mv s)) : Int))))] [(2, .some false), (3, .some false), (4, .some false)] [(1, .box 28 [.slice A (List.length (Sg.acc s)) ca, .slice B (List.length (Sg.mv s)) c, .int .i64 (Sg.done s), .bool (Sg.und s)])] [] (by kernel_rfl) ?_
    have h1 : s.und = false := by simpa using h1
    rw [h1] at hal ⊢
    rw [show (s.done == (s.mv.length : Int)) = al from hal]
    refine J.br rfl rfl (fun h2 => ?_) (fun h2 => ?_)
    · refine J.to 13 [] 31 [(2, .v (.bool true)), (3, .v (.bool al)), (4, .v (.bool true))] [(2, .some true), (4, .some true)] [] [] (by kernel_rfl) ?_
      subst h2
      exact J.ret ⟨_, rfl, .inl rfl⟩
    · refine J.to 13 [] 31 [(2, .v (.bool false)), (3, .v (.bool al)), (4, .v (.bool true))] [(2, .some false), (4, .some true)] [] [] (by kernel_rfl) ?_
      subst h2
      refine J.to 0 [] 31 [(2, .v (.bool false)), (3, .v (.bool false)), (4, .v (.bool true))] [(2, .some false), (4, .some true)] [] [] (by kernel_rfl) ?_
      exact J.ret ⟨_, rfl, .inl rfl⟩
  · refine J.to 16 [] 31 [(1, .bp 1 0), (2, .v (.bool false)), (3, .v (.bool false)), (4, .v (.bool false)), (5, .v (.bool false)), (21, .v (.bool false)), (24, .v (.bool (Sg.und s)))] [(2, .some false), (3, .some false), (4, .some false), (5, .some false), (21, .some false)] [(1, .box 28 [.slice A (List.length (Sg.acc s)) ca, .slice B (List.length (Sg.mv s)) c, .int .i64 (Sg.done s), .bool (Sg.und s)])] [] (by kernel_rfl) ?_
    have h1 : s.und = true := by simpa using h1
    rw [h1] at hal ⊢
    obtain rfl : false = al := hal
    refine J.br rfl rfl (fun h2 => ?_) (fun h2 => by cases h2)
    refine J.to 10 [] 31 [(2, .v (.bool (Sg.done s == 0))), (3, .v (.bool false)), (4, .v (.bool true))] [(3, .some false), (4, .some true)] [] [] (by kernel_rfl) ?_
    exact J.ret ⟨_, rfl, .inl rfl⟩

def sumW (l : List Int) : Int := l.foldl (fun a n => wr (a + n)) 0
theorem sumW_aux : ∀ (l : List Int) (a : Int), l.all accOk = true → 0 ≤ a → a + 1000000 * l.length < 2^62 → l.foldl (fun a n => wr (a + n)) a = a + l.sum
  | [], a, _, _, _ => by simp
  | n :: l, a, h, h0, h1 => by
    simp only [List.all_cons, Bool.and_eq_true, accOk, inB_iff] at h
    simp only [List.length_cons] at h1
    rw [List.foldl_cons, wr_id (by omega), sumW_aux l (a + n) h.2 (by omega) (by omega), List.sum_cons]
    omega
theorem sumW_eq {l : List Int} (h : l.all accOk = true) (h1 : l.length ≤ 8) : sumW l = l.sum := by
  rw [sumW, sumW_aux l 0 h (by decide) (by omega), Int.zero_add]

theorem sumIn_ok (va vm : Value) (s : Sg) (U : Hp) (ha : Rd rInt U va s.acc) (hm : Rd rMv U vm s.mv) (hb : s.acc.length < 2^40) (hb2 : s.mv.length < 2^40) (hg : s.good = true) :
    PCall Try.prog 13 #[.agg #[va, vm, .int .i64 s.done, .bool s.und]] U fun r U' => r = .tuple #[.int .i64 (sumW s.acc), .bool true] := by
  obtain ⟨B, c, rfl, hc, hB⟩ := hm
  obtain ⟨A, ca, rfl, hca, hA⟩ := ha
  refine OCall.of (args := [.agg #[.slice A s.acc.length ca, .slice B s.mv.length c, .int .i64 s.done, .bool s.und]]) E_ok mix Try.func13 (by kernel_rfl) rfl Try.ntmps13 (Nat.le_of_ble_eq_true rfl) fun F w0 => ?_
  refine J.to 10 [] 22 [(1, .bp 1 0), (2, .v (.int .i64 0)), (3, .v (.bool false)), (7, .v (.agg (Array.mk [.slice A (List.length (Sg.acc s)) ca, .slice B (List.length (Sg.mv s)) c, .int .i64 (Sg.done s), .bool (Sg.und s)])))] [(3, .some false)] [(1, .box 28 [.slice A (List.length (Sg.acc s)) ca, .slice B (List.length (Sg.mv s)) c, .int .i64 (Sg.done s), .bool (Sg.und s)])] [] (by kernel_rfl) ?_
  refine J.one (Op1.call rfl rfl rfl rfl rfl rfl rfl rfl (implGood_ok _ _ s U ⟨A, ca, rfl, hca, hA⟩ ⟨B, c, rfl, hc, hB⟩ hb hb2) fun v U1 hx1 hv => ?_)
  rw [hg] at hv; subst hv
  refine J.to 17 [false] 22 [(2, .v (.int .i64 0)), (3, .v (.bool false)), (4, .v (.int .i64 0)), (11, .v (.slice A (List.length (Sg.acc s)) ca)), (12, .v (.int .i64 (↑(List.length (Sg.acc s)) : Int))), (13, .v (.int .i64 0))] [(3, .some false)] [] [] (by kernel_rfl) ?_
  refine J.loopK 22 [] (fun i : Nat => [(4, .v (.int .i64 ((s.acc.take i).foldl (fun a n => wr (a + n)) 0))), (11, .v (.slice A s.acc.length ca)), (12, .v (.int .i64 s.acc.length)), (13, .v (.int .i64 i))]) (fun i => [])
    (fun i U' => i ≤ s.acc.length ∧ Arr rInt U' A s.acc) (fun i => s.acc.length - i) 0 ⟨Nat.zero_le _, hA.mono hx1⟩ (by kernel_rfl) fun i U' ⟨i1, hA⟩ hx => ?_
  refine J.to 5 [] 22 [(4, .v (.int .i64 (List.foldl (fun a n => wr (a + n)) 0 (List.take i (Sg.acc s))))), (11, .v (.slice A (List.length (Sg.acc s)) ca)), (12, .v (.int .i64 (↑(List.length (Sg.acc s)) : Int))), (13, .v (.int .i64 (↑i : Int))), (14, .v (.bool (Decidable.decide ((↑i : Int) < (↑(List.length (Sg.acc s)) : Int)))))] [] [] [] (by kernel_rfl) ?_
  refine J.br rfl rfl (fun hb => ?_) (fun hb => ?_)
  · refine J.to 6 [true] 22 [(4, .v (.int .i64 (List.foldl (fun a n => wr (a + n)) 0 (List.take i (Sg.acc s))))), (11, .v (.slice A (List.length (Sg.acc s)) ca)), (12, .v (.int .i64 (↑(List.length (Sg.acc s)) : Int))), (13, .v (.int .i64 (↑i : Int)))] [] [] [] (by kernel_rfl) ?_
    replace hb : (i : Int) < s.acc.length := of_decide_eq_true hb
    refine J.one (Op1.index (r := rInt) rfl rfl rfl rfl rfl ⟨_, _, _, _, _, rfl, rfl, rfl⟩ rfl rfl hA (by omega) hb fun q b o' cs hq hcs => ?_)
    subst hcs
    obtain ⟨hi, g1⟩ := get_of rfl hq
    refine J.to 14 [] 22 [(11, .v (.slice A (List.length (Sg.acc s)) ca)), (12, .v (.int .i64 (↑(List.length (Sg.acc s)) : Int))), (4, .v (.int .i64 (IntKind.wrap .i64 (List.foldl (fun a n => wr (a + n)) 0 (List.take i (Sg.acc s)) + q)))), (13, .v (.int .i64 (IntKind.wrap .i64 ((↑i : Int) + 1))))] [] [] [] (by kernel_rfl) ?_
    rw [show IntKind.wrap .i64 ((i : Int) + 1) = ((i + 1 : Nat) : Int) from wr_id (by omega), show IntKind.wrap .i64 ((s.acc.take i).foldl (fun a n => wr (a + n)) 0 + q) = (s.acc.take (i + 1)).foldl (fun a n => wr (a + n)) 0 by rw [List.take_succ_eq_append_getElem hi, List.foldl_append, g1]; rfl]
    exact J.againK (i + 1) (by kernel_rfl) ⟨by omega, hA⟩ (by omega)
  · refine J.to 8 [false] 22 [(2, .v (.int .i64 (List.foldl (fun a n => wr (a + n)) 0 (List.take i (Sg.acc s))))), (3, .v (.bool true))] [(3, .some true)] [] [] (by kernel_rfl) ?_
    replace hb : ¬ (i : Int) < s.acc.length := of_decide_eq_false hb
    obtain rfl : i = s.acc.length := by omega
    rw [List.take_length]
    exact J.ret ⟨_, rfl, .inl rfl⟩

theorem numberOf_ok (v : Value) (xs : List Int) (U : Hp) (hv : Rd rB U v xs) (hb : xs.length ≤ 9223372036854775807) : PCall Try.prog 11 #[v] U fun r U' => ∃ n, r = .int .i64 n := by
  obtain ⟨A, c, rfl, hc, hA⟩ := hv
  refine OCall.of (args := [.slice A xs.length c]) E_ok mix Try.func11 (by kernel_rfl) rfl Try.ntmps11 (Nat.le_of_ble_eq_true rfl) fun F w0 => ?_
  refine J.to 16 [] 20 [(2, .v (.int .i64 0)), (3, .v (.int .i64 0)), (6, .v (.slice A (List.length xs) c)), (7, .v (.int .i64 (↑(List.length xs) : Int))), (8, .v (.int .i64 0))] [] [] [] (by kernel_rfl) ?_
  refine J.loopK 20 [] (fun x : Nat × Int => [(3, .v (.int .i64 x.2)), (6, .v (.slice A xs.length c)), (7, .v (.int .i64 xs.length)), (8, .v (.int .i64 x.1))]) (fun i => [])
    (fun i U' => i.1 ≤ xs.length ∧ Arr rB U' A xs) (fun i => xs.length - i.1) (0, 0) ⟨Nat.zero_le _, hA⟩ (by kernel_rfl) ?_
  rintro ⟨i, m⟩ U' ⟨i1, hA⟩ hx
  simp only at i1
  refine J.to 5 [] 20 [(3, .v (.int .i64 m)), (6, .v (.slice A (List.length xs) c)), (7, .v (.int .i64 (↑(List.length xs) : Int))), (8, .v (.int .i64 (↑i : Int))), (9, .v (.bool (Decidable.decide ((↑i : Int) < (↑(List.length xs) : Int)))))] [] [] [] (by kernel_rfl) ?_
  refine J.br rfl rfl (fun hb => ?_) (fun hb => ?_)
  · refine J.to 6 [true] 20 [(3, .v (.int .i64 m)), (6, .v (.slice A (List.length xs) c)), (7, .v (.int .i64 (↑(List.length xs) : Int))), (8, .v (.int .i64 (↑i : Int)))] [] [] [] (by kernel_rfl) ?_
    replace hb : (i : Int) < xs.length := of_decide_eq_true hb
    refine J.one (Op1.index (r := rB) rfl rfl rfl rfl rfl ⟨_, _, _, _, _, rfl, rfl, rfl⟩ rfl rfl hA (by omega) hb fun q b o' cs hq hcs => ?_)
    subst hcs
    refine J.to 9 [] 20 [(3, .v (.int .i64 m)), (6, .v (.slice A (List.length xs) c)), (7, .v (.int .i64 (↑(List.length xs) : Int))), (8, .v (.int .i64 (↑i : Int))), (16, .v (.int .i64 (IntKind.wrap .i64 (IntKind.wrap .i64 (31 * m) + IntKind.wrap .i64 q))))] [] [] [] (by kernel_rfl) ?_
    refine J.one (Op1.bin rfl rfl rfl rfl rfl rfl rfl (fun w => run_rem (by decide) w) ?_)
    refine J.to 7 [] 20 [(6, .v (.slice A (List.length xs) c)), (7, .v (.int .i64 (↑(List.length xs) : Int))), (3, .v (.int .i64 (Int.tmod (IntKind.wrap .i64 (IntKind.wrap .i64 (31 * m) + IntKind.wrap .i64 q)) 1000003))), (8, .v (.int .i64 (IntKind.wrap .i64 ((↑i : Int) + 1))))] [] [] [] (by kernel_rfl) ?_
    rw [show IntKind.wrap .i64 ((i : Int) + 1) = ((i + 1 : Nat) : Int) from wr_id (by omega)]
    exact J.againK (i + 1, (IntKind.wrap .i64 (IntKind.wrap .i64 (31 * m) + IntKind.wrap .i64 q)).tmod 1000003) (by kernel_rfl) ⟨by simp only; omega, hA⟩ (by simp only; omega)
  · refine J.to 7 [false] 20 [(2, .v (.int .i64 m))] [] [] [] (by kernel_rfl) ?_
    exact J.ret ⟨_, rfl, .inl ⟨m, rfl⟩⟩

theorem sameInts_ok (va vb : Value) (l : List Int) (U : Hp) (ha : Rd rInt U va l) (hb' : Rd rInt U vb l) (hl : l.length < 2^40) : PCall Try.prog 14 #[va, vb] U fun r U' => r = .bool true := by
  obtain ⟨A, c, rfl, hc, hA⟩ := ha
  obtain ⟨B, d, rfl, hd, hB⟩ := hb'
  refine OCall.of (args := [.slice A l.length c, .slice B l.length d]) E_ok mix Try.func14 (by kernel_rfl) rfl Try.ntmps14 (Nat.le_of_ble_eq_true rfl) fun F w0 => ?_
  refine J.to 13 [] 26 [(0, .v (.slice A (List.length l) c)), (1, .v (.slice B (List.length l) d)), (4, .v (.bool false)), (10, .v (.bool ((↑(List.length l) : Int) != (↑(List.length l) : Int))))] [(4, .some false)] [] [] (by kernel_rfl) ?_
  refine J.br rfl rfl (fun h => by simp at h) (fun _ => ?_)
  refine J.to 10 [false] 26 [(0, .v (.slice A (List.length l) c)), (1, .v (.slice B (List.length l) d)), (4, .v (.bool false)), (12, .v (.int .i64 (↑(List.length l) : Int))), (13, .v (.int .i64 0))] [(4, .some false)] [] [] (by kernel_rfl) ?_
  refine J.loopK 26 [] (fun i : Nat => [(0, .v (.slice A l.length c)), (1, .v (.slice B l.length d)), (12, .v (.int .i64 l.length)), (13, .v (.int .i64 i))]) (fun i => [])
    (fun i U' => i ≤ l.length ∧ Arr rInt U' A l ∧ Arr rInt U' B l) (fun i => l.length - i) 0 ⟨Nat.zero_le _, hA, hB⟩ (by kernel_rfl) fun i U' ⟨i1, hA, hB⟩ hx => ?_
  refine J.to 5 [] 26 [(0, .v (.slice A (List.length l) c)), (1, .v (.slice B (List.length l) d)), (12, .v (.int .i64 (↑(List.length l) : Int))), (13, .v (.int .i64 (↑i : Int))), (14, .v (.bool (Decidable.decide ((↑i : Int) < (↑(List.length l) : Int)))))] [] [] [] (by kernel_rfl) ?_
  refine J.br rfl rfl (fun hb => ?_) (fun hb => ?_)
  · refine J.to 10 [true] 26 [(0, .v (.slice A (List.length l) c)), (1, .v (.slice B (List.length l) d)), (12, .v (.int .i64 (↑(List.length l) : Int))), (13, .v (.int .i64 (↑i : Int))), (5, .v (.int .i64 (↑i : Int)))] [] [] [] (by kernel_rfl) ?_
    replace hb : (i : Int) < l.length := of_decide_eq_true hb
    refine J.any [] [] [] trivial fun ρ1 _ => ?_
    refine J.takeTo true [0, 1, 4, 5] 5 26 [(0, .v (.slice A (List.length l) c)), (1, .v (.slice B (List.length l) d)), (5, .v (.int .i64 (↑i : Int))), (12, .v (.int .i64 (↑(List.length l) : Int))), (13, .v (.int .i64 (↑i : Int))), (16, .v (.slice A (List.length l) c)), (17, .v (.int .i64 (↑i : Int))), (20, .v (.slice B (List.length l) d)), (21, .v (.int .i64 (↑i : Int)))] [] [] [] (by first | exact Ext.refl _ | assumption | exact Ext.trans (by assumption) (by assumption) | exact Ext.trans (by assumption) (Ext.trans (by assumption) (by assumption))) (fun h => rfl) trivial rfl (by kernel_rfl) ?_
    refine J.aidx (r := rInt) 2 rfl rfl rfl (by kernel_rfl) rfl (.inr ⟨Ext.refl _, trivial⟩) rfl ⟨_, _, _, _, _, rfl, rfl, rfl⟩ rfl rfl hA (by omega) hb fun q b o' cs hq hcs => ?_
    subst hcs
    refine J.takeTo true [3] 3 26 [(0, .v (.slice A (List.length l) c)), (1, .v (.slice B (List.length l) d)), (5, .v (.int .i64 (↑i : Int))), (12, .v (.int .i64 (↑(List.length l) : Int))), (13, .v (.int .i64 (↑i : Int))), (16, .v (.slice A (List.length l) c)), (17, .v (.int .i64 (↑i : Int))), (18, .win b o' [.int .i64 q] 0), (20, .v (.slice B (List.length l) d)), (21, .v (.int .i64 (↑i : Int))), (19, .v (.int .i64 q))] [] [] [] (by first | exact Ext.refl _ | assumption | exact Ext.trans (by assumption) (by assumption) | exact Ext.trans (by assumption) (Ext.trans (by assumption) (by assumption))) (fun h => rfl) trivial rfl (by kernel_rfl) ?_
    refine J.aidx (r := rInt) 6 rfl rfl rfl (by kernel_rfl) rfl (.inr ⟨Ext.refl _, trivial⟩) rfl ⟨_, _, _, _, _, rfl, rfl, rfl⟩ rfl rfl hB (by omega) hb fun q2 b2 o2 cs hq2 hcs => ?_
    subst hcs
    obtain rfl : q = q2 := Option.some.inj (hq.symm.trans hq2)
    refine J.takeTo true [7, 8] 0 26 [(0, .v (.slice A (List.length l) c)), (1, .v (.slice B (List.length l) d)), (5, .v (.int .i64 (↑i : Int))), (12, .v (.int .i64 (↑(List.length l) : Int))), (13, .v (.int .i64 (↑i : Int))), (16, .v (.slice A (List.length l) c)), (17, .v (.int .i64 (↑i : Int))), (18, .win b o' [.int .i64 q] 0), (19, .v (.int .i64 q)), (20, .v (.slice B (List.length l) d)), (21, .v (.int .i64 (↑i : Int))), (22, .win b2 o2 [.int .i64 q] 0), (23, .v (.int .i64 q)), (24, .v (.bool (q != q)))] [] [] [] (by first | exact Ext.refl _ | assumption | exact Ext.trans (by assumption) (by assumption) | exact Ext.trans (by assumption) (Ext.trans (by assumption) (by assumption))) (fun h => rfl) trivial rfl (by kernel_rfl) ?_
    refine J.adone' (by kernel_rfl) ?_
    refine J.to 0 [] 26 [(0, .v (.slice A (List.length l) c)), (1, .v (.slice B (List.length l) d)), (12, .v (.int .i64 (↑(List.length l) : Int))), (13, .v (.int .i64 (↑i : Int))), (24, .v (.bool (q != q)))] [] [] [] (by kernel_rfl) ?_
    refine J.br rfl rfl (fun h => by simp at h) (fun _ => ?_)
    refine J.to 7 [false] 26 [(0, .v (.slice A (List.length l) c)), (1, .v (.slice B (List.length l) d)), (12, .v (.int .i64 (↑(List.length l) : Int))), (13, .v (.int .i64 (IntKind.wrap .i64 ((↑i : Int) + 1))))] [] [] [] (by kernel_rfl) ?_
    rw [show IntKind.wrap .i64 ((i : Int) + 1) = ((i + 1 : Nat) : Int) from wr_id (by omega)]
    exact J.againK (i + 1) (by kernel_rfl) ⟨by omega, hA, hB⟩ (by omega)
  · refine J.to 6 [false] 26 [(4, .v (.bool true))] [(4, .some true)] [] [] (by kernel_rfl) ?_
    exact J.ret ⟨_, rfl, .inl rfl⟩
end Go.Rx
end

section
open Go Go.Rx Go.Proofs
set_option maxHeartbeats 1000000
namespace Go.Rx
theorem mv_same (q : Mv) (w : World) : (Op.eqFields 9999 #[.int .i64 q.a, .int .i64 q.b, .int .i64 q.n] #[.int .i64 q.a, .int .i64 q.b, .int .i64 q.n] (Try.prog.fieldsOf 59).toList).run Try.prog w = .ok true w := by
  unfold Program.fieldsOf
  rw [Try.underlying59]
  have int : ∀ n w, (Op.equalIn 9999 3 (.int .i64 n) (.int .i64 n)).run Try.prog w = .ok true w := fun n w => by
    rw [run_equalIn_int w 9998 3 .i64 .i64 n n Try.underlying3]; simp
  refine (eqF_cons (cs := [.int .i64 q.a, .int .i64 q.b, .int .i64 q.n]) (ds := [.int .i64 q.a, .int .i64 q.b, .int .i64 q.n]) E_ok (by decide) rfl rfl (int q.a w)).trans ?_
  refine (eqF_cons (cs := [.int .i64 q.a, .int .i64 q.b, .int .i64 q.n]) (ds := [.int .i64 q.a, .int .i64 q.b, .int .i64 q.n]) E_ok (by decide) rfl rfl (int q.b w)).trans ?_
  exact (eqF_cons (cs := [.int .i64 q.a, .int .i64 q.b, .int .i64 q.n]) (ds := [.int .i64 q.a, .int .i64 q.b, .int .i64 q.n]) E_ok (by decide) rfl rfl (int q.n w)).trans rfl

theorem sameSagas_ok (va vm va' vm' : Value) (s : Sg) (U : Hp) (ha : Rd rInt U va s.acc) (hm : Rd rMv U vm s.mv) (ha' : Rd rInt U va' s.acc) (hm' : Rd rMv U vm' s.mv) (hb : s.acc.length < 2^40) (hb2 : s.mv.length < 2^40) :
    PCall Try.prog 9 #[.agg #[va, vm, .int .i64 s.done, .bool s.und], .agg #[va', vm', .int .i64 s.done, .bool s.und]] U fun r U' => r = .bool true := by
  obtain ⟨B, c, rfl, hc, hB⟩ := hm
  obtain ⟨B', c', rfl, hc', hB'⟩ := hm'
  obtain ⟨A, d, rfl, hd, hA⟩ := ha
  obtain ⟨A', d', rfl, hd', hA'⟩ := ha'
  refine OCall.of (args := [.agg #[.slice A s.acc.length d, .slice B s.mv.length c, .int .i64 s.done, .bool s.und], .agg #[.slice A' s.acc.length d', .slice B' s.mv.length c', .int .i64 s.done, .bool s.und]]) E_ok mix Try.func9 (by kernel_rfl) rfl Try.ntmps9 (Nat.le_of_ble_eq_true rfl) fun F w0 => ?_
  refine J.to 17 [] 53 [(2, .bp 2 0), (3, .bp 3 0), (4, .v (.bool false)), (7, .v (.slice B (List.length (Sg.mv s)) c)), (13, .v (.bool ((↑(List.length (Sg.mv s)) : Int) != (↑(List.length (Sg.mv s)) : Int))))] [(4, .some false)] [(2, .box 28 [.slice A (List.length (Sg.acc s)) d, .slice B (List.length (Sg.mv s)) c, .int .i64 (Sg.done s), .bool (Sg.und s)]), (3, .box 28 [.slice A' (List.length (Sg.acc s)) d', .slice B' (List.length (Sg.mv s)) c', .int .i64 (Sg.done s), .bool (Sg.und s)])] [] (by kernel_rfl) ?_
  refine J.br rfl rfl (fun h => by simp at h) (fun _ => ?_)
  refine J.to 7 [] 53 [(2, .bp 2 0), (3, .bp 3 0), (4, .v (.bool false)), (14, .bp 2 2), (20, .v (.bool (Sg.done s != Sg.done s)))] [(4, .some false)] [(2, .box 28 [.slice A (List.length (Sg.acc s)) d, .slice B (List.length (Sg.mv s)) c, .int .i64 (Sg.done s), .bool (Sg.und s)]), (3, .box 28 [.slice A' (List.length (Sg.acc s)) d', .slice B' (List.length (Sg.mv s)) c', .int .i64 (Sg.done s), .bool (Sg.und s)])] [] (by kernel_rfl) ?_
  refine J.br rfl rfl (fun h => by simp at h) (fun _ => ?_)
  refine J.to 7 [] 53 [(2, .bp 2 0), (3, .bp 3 0), (4, .v (.bool false)), (21, .bp 2 3), (27, .v (.bool !Sg.und s == Sg.und s))] [(4, .some false)] [(2, .box 28 [.slice A (List.length (Sg.acc s)) d, .slice B (List.length (Sg.mv s)) c, .int .i64 (Sg.done s), .bool (Sg.und s)]), (3, .box 28 [.slice A' (List.length (Sg.acc s)) d', .slice B' (List.length (Sg.mv s)) c', .int .i64 (Sg.done s), .bool (Sg.und s)])] [] (by kernel_rfl) ?_
  refine J.br rfl rfl (fun h => by simp at h) (fun _ => ?_)
  refine J.to 4 [] 53 [(2, .bp 2 0), (3, .bp 3 0), (4, .v (.bool false)), (21, .bp 2 3), (27, .v (.bool false)), (29, .v (.slice A (List.length (Sg.acc s)) d)), (31, .v (.slice A' (List.length (Sg.acc s)) d'))] [(4, .some false), (27, .some false)] [(2, .box 28 [.slice A (List.length (Sg.acc s)) d, .slice B (List.length (Sg.mv s)) c, .int .i64 (Sg.done s), .bool (Sg.und s)]), (3, .box 28 [.slice A' (List.length (Sg.acc s)) d', .slice B' (List.length (Sg.mv s)) c', .int .i64 (Sg.done s), .bool (Sg.und s)])] [] (by kernel_rfl) ?_
  refine J.one (Op1.call rfl rfl rfl rfl rfl rfl rfl rfl (sameInts_ok _ _ s.acc U ⟨A, d, rfl, hd, hA⟩ ⟨A', d', rfl, hd', hA'⟩ hb) fun v U1 hx1 hv => ?_); subst hv
  refine J.to 14 [false] 53 [(2, .bp 2 0), (3, .bp 3 0), (4, .v (.bool false)), (37, .v (.int .i64 (↑(List.length (Sg.mv s)) : Int))), (38, .v (.int .i64 0))] [(4, .some false)] [(2, .box 28 [.slice A (List.length (Sg.acc s)) d, .slice B (List.length (Sg.mv s)) c, .int .i64 (Sg.done s), .bool (Sg.und s)]), (3, .box 28 [.slice A' (List.length (Sg.acc s)) d', .slice B' (List.length (Sg.mv s)) c', .int .i64 (Sg.done s), .bool (Sg.und s)])] [] (by kernel_rfl) ?_
  refine J.loopK 53 [] (fun i : Nat => [(2, .bp 2 0), (3, .bp 3 0), (37, .v (.int .i64 s.mv.length)), (38, .v (.int .i64 i))]) (fun i => [(2, .box 28 [.slice A s.acc.length d, .slice B s.mv.length c, .int .i64 s.done, .bool s.und]), (3, .box 28 [.slice A' s.acc.length d', .slice B' s.mv.length c', .int .i64 s.done, .bool s.und])])
    (fun i U' => i ≤ s.mv.length ∧ Arr rMv U' B s.mv ∧ Arr rMv U' B' s.mv) (fun i => s.mv.length - i) 0 ⟨Nat.zero_le _, hB.mono hx1, hB'.mono hx1⟩ (by kernel_rfl) fun i U' ⟨i1, hB, hB'⟩ hx => ?_
  refine J.to 5 [] 53 [(2, .bp 2 0), (3, .bp 3 0), (37, .v (.int .i64 (↑(List.length (Sg.mv s)) : Int))), (38, .v (.int .i64 (↑i : Int))), (39, .v (.bool (Decidable.decide ((↑i : Int) < (↑(List.length (Sg.mv s)) : Int)))))] [] [(2, .box 28 [.slice A (List.length (Sg.acc s)) d, .slice B (List.length (Sg.mv s)) c, .int .i64 (Sg.done s), .bool (Sg.und s)]), (3, .box 28 [.slice A' (List.length (Sg.acc s)) d', .slice B' (List.length (Sg.mv s)) c', .int .i64 (Sg.done s), .bool (Sg.und s)])] [] (by kernel_rfl) ?_
  refine J.br rfl rfl (fun hb => ?_) (fun hb => ?_)
  · refine J.to 10 [true] 53 [(2, .bp 2 0), (3, .bp 3 0), (37, .v (.int .i64 (↑(List.length (Sg.mv s)) : Int))), (38, .v (.int .i64 (↑i : Int))), (5, .v (.int .i64 (↑i : Int)))] [] [(2, .box 28 [.slice A (List.length (Sg.acc s)) d, .slice B (List.length (Sg.mv s)) c, .int .i64 (Sg.done s), .bool (Sg.und s)]), (3, .box 28 [.slice A' (List.length (Sg.acc s)) d', .slice B' (List.length (Sg.mv s)) c', .int .i64 (Sg.done s), .bool (Sg.und s)])] [] (by kernel_rfl) ?_
    replace hb : (i : Int) < s.mv.length := of_decide_eq_true hb
    refine J.any [2, 3] [] [] trivial fun ρ1 _ => ?_
    refine J.takeTo true [0, 1, 2, 5, 6, 7] 5 53 [(2, .bp 2 0), (3, .bp 3 0), (5, .v (.int .i64 (↑i : Int))), (37, .v (.int .i64 (↑(List.length (Sg.mv s)) : Int))), (38, .v (.int .i64 (↑i : Int))), (41, .bp 2 1), (42, .v (.slice B (List.length (Sg.mv s)) c)), (43, .v (.int .i64 (↑i : Int))), (46, .bp 3 1), (47, .v (.slice B' (List.length (Sg.mv s)) c')), (48, .v (.int .i64 (↑i : Int)))] [] [(2, .box 28 [.slice A (List.length (Sg.acc s)) d, .slice B (List.length (Sg.mv s)) c, .int .i64 (Sg.done s), .bool (Sg.und s)]), (3, .box 28 [.slice A' (List.length (Sg.acc s)) d', .slice B' (List.length (Sg.mv s)) c', .int .i64 (Sg.done s), .bool (Sg.und s)])] [(2, .some (ρ1 2)), (3, .some (ρ1 3))] (by first | exact Ext.refl _ | assumption | exact Ext.trans (by assumption) (by assumption) | exact Ext.trans (by assumption) (Ext.trans (by assumption) (by assumption))) (fun h => rfl) ⟨⟨rfl, rfl⟩, ⟨⟨rfl, rfl⟩, trivial⟩⟩ rfl (by kernel_rfl) ?_
    refine J.aidx (r := rMv) 3 rfl rfl rfl (by kernel_rfl) rfl (.inr ⟨Ext.refl _, ⟨rfl, rfl⟩, ⟨rfl, rfl⟩, trivial⟩) rfl ⟨_, _, _, _, _, rfl, rfl, rfl⟩ rfl rfl hB (by omega) hb fun q b o' cs hq hcs => ?_
    subst hcs
    refine J.takeTo true [4] 3 53 [(2, .bp 2 0), (3, .bp 3 0), (5, .v (.int .i64 (↑i : Int))), (37, .v (.int .i64 (↑(List.length (Sg.mv s)) : Int))), (38, .v (.int .i64 (↑i : Int))), (41, .bp 2 1), (42, .v (.slice B (List.length (Sg.mv s)) c)), (43, .v (.int .i64 (↑i : Int))), (44, .win b o' [.int .i64 (Mv.a q), .int .i64 (Mv.b q), .int .i64 (Mv.n q)] 0), (46, .bp 3 1), (47, .v (.slice B' (List.length (Sg.mv s)) c')), (48, .v (.int .i64 (↑i : Int))), (45, .v (.agg (Array.mk [.int .i64 (Mv.a q), .int .i64 (Mv.b q), .int .i64 (Mv.n q)])))] [] [(2, .box 28 [.slice A (List.length (Sg.acc s)) d, .slice B (List.length (Sg.mv s)) c, .int .i64 (Sg.done s), .bool (Sg.und s)]), (3, .box 28 [.slice A' (List.length (Sg.acc s)) d', .slice B' (List.length (Sg.mv s)) c', .int .i64 (Sg.done s), .bool (Sg.und s)])] [(2, .some (ρ1 2)), (3, .some (ρ1 3))] (by first | exact Ext.refl _ | assumption | exact Ext.trans (by assumption) (by assumption) | exact Ext.trans (by assumption) (Ext.trans (by assumption) (by assumption))) (fun h => rfl) ⟨⟨rfl, rfl⟩, ⟨⟨rfl, rfl⟩, trivial⟩⟩ rfl (by kernel_rfl) ?_
    refine J.aidx (r := rMv) 8 rfl rfl rfl (by kernel_rfl) rfl (.inr ⟨Ext.refl _, ⟨rfl, rfl⟩, ⟨rfl, rfl⟩, trivial⟩) rfl ⟨_, _, _, _, _, rfl, rfl, rfl⟩ rfl rfl hB' (by omega) hb fun q2 b2 o2 cs hq2 hcs => ?_
    subst hcs
    obtain rfl : q = q2 := Option.some.inj (hq.symm.trans hq2)
    refine J.takeTo true [9] 1 53 [(2, .bp 2 0), (3, .bp 3 0), (5, .v (.int .i64 (↑i : Int))), (37, .v (.int .i64 (↑(List.length (Sg.mv s)) : Int))), (38, .v (.int .i64 (↑i : Int))), (41, .bp 2 1), (42, .v (.slice B (List.length (Sg.mv s)) c)), (43, .v (.int .i64 (↑i : Int))), (44, .win b o' [.int .i64 (Mv.a q), .int .i64 (Mv.b q), .int .i64 (Mv.n q)] 0), (45, .v (.agg (Array.mk [.int .i64 (Mv.a q), .int .i64 (Mv.b q), .int .i64 (Mv.n q)]))), (46, .bp 3 1), (47, .v (.slice B' (List.length (Sg.mv s)) c')), (48, .v (.int .i64 (↑i : Int))), (49, .win b2 o2 [.int .i64 (Mv.a q), .int .i64 (Mv.b q), .int .i64 (Mv.n q)] 0), (50, .v (.agg (Array.mk [.int .i64 (Mv.a q), .int .i64 (Mv.b q), .int .i64 (Mv.n q)])))] [] [(2, .box 28 [.slice A (List.length (Sg.acc s)) d, .slice B (List.length (Sg.mv s)) c, .int .i64 (Sg.done s), .bool (Sg.und s)]), (3, .box 28 [.slice A' (List.length (Sg.acc s)) d', .slice B' (List.length (Sg.mv s)) c', .int .i64 (Sg.done s), .bool (Sg.und s)])] [(2, .some (ρ1 2)), (3, .some (ρ1 3))] (by first | exact Ext.refl _ | assumption | exact Ext.trans (by assumption) (by assumption) | exact Ext.trans (by assumption) (Ext.trans (by assumption) (by assumption))) (fun h => rfl) ⟨⟨rfl, rfl⟩, ⟨⟨rfl, rfl⟩, trivial⟩⟩ rfl (by kernel_rfl) ?_
    refine J.aone (i := 10) (by kernel_rfl) (Op1.bin rfl rfl rfl rfl rfl rfl rfl (fun w => run_neS (by kernel_rfl) (by kernel_rfl) (by kernel_rfl) w (mv_same q w)) ⟨fun _ => ⟨Ext.refl _, ⟨rfl, rfl⟩, ⟨rfl, rfl⟩, trivial⟩, ?_⟩)
    refine J.adone' (by kernel_rfl) ?_
    refine J.to 7 [false] 53 [(2, .bp 2 0), (3, .bp 3 0), (37, .v (.int .i64 (↑(List.length (Sg.mv s)) : Int))), (38, .v (.int .i64 (IntKind.wrap .i64 ((↑i : Int) + 1))))] [] [(2, .box 28 [.slice A (List.length (Sg.acc s)) d, .slice B (List.length (Sg.mv s)) c, .int .i64 (Sg.done s), .bool (Sg.und s)]), (3, .box 28 [.slice A' (List.length (Sg.acc s)) d', .slice B' (List.length (Sg.mv s)) c', .int .i64 (Sg.done s), .bool (Sg.und s)])] [(2, .some (ρ1 2)), (3, .some (ρ1 3))] (by kernel_rfl) ?_
    rw [show IntKind.wrap .i64 ((i : Int) + 1) = ((i + 1 : Nat) : Int) from wr_id (by omega)]
    exact J.againK (i + 1) (by kernel_rfl) ⟨by omega, hB, hB'⟩ (by omega)
  · refine J.to 6 [false] 53 [(4, .v (.bool true))] [(4, .some true)] [] [] (by kernel_rfl) ?_
    exact J.ret ⟨_, rfl, .inl rfl⟩

theorem J.sg3 {C : Ctx} {σ : Sym} {U : Hp} {st : List Rx.Item} (k : Nat) {v dn un n ok : Value} {s : Sg} (hk : σ.M k = .own (fun L => ∃ va' vm', v = .tuple #[.agg #[va', vm', dn, un], n, ok] ∧ sgOwn va' vm' s L))
    (h : ∀ A c B d, v = .tuple #[.agg #[.slice A s.acc.length c, .slice B s.mv.length d, dn, un], n, ok] → J C st { σ with M := upd σ.M k (.own (sgOwn (.slice A s.acc.length c) (.slice B s.mv.length d) s)) } U) : J C st σ U := by
  refine J.own' (α := Σ' x : Option Addr × Nat × Option Addr × Nat, v = .tuple #[.agg #[.slice x.1 s.acc.length x.2.1, .slice x.2.2.1 s.mv.length x.2.2.2, dn, un], n, ok]) (p' := fun x => sgOwn (.slice x.1.1 s.acc.length x.1.2.1) (.slice x.1.2.2.1 s.mv.length x.1.2.2.2) s) k hk
    (fun h ⟨a, b, e, h1⟩ => let ⟨x, e1, e2⟩ := sgOwn_slice h1; ⟨⟨x, by rw [e, e1, e2]⟩, e1 ▸ e2 ▸ h1⟩) ?_
  rintro ⟨⟨A2, c2, B2, d2⟩, e⟩
  exact h A2 c2 B2 d2 e

theorem good_len {s : Sg} (h : s.good = true) : s.acc.length < 2^40 ∧ s.mv.length < 2^40 := form_len (good_parts h).1
theorem good_sum {s : Sg} (h : s.good = true) : sumW s.acc = s.acc.sum := by
  obtain ⟨p1, p2, -⟩ := form_parts (good_parts h).1
  exact sumW_eq p1 (by omega)

theorem undone_ok (v1 v2 : Value) (xs ys : List Int) (U : Hp) (h1 : Rd rB U v1 xs) (h2 : Rd rB U v2 ys) (hb1 : ∀ x ∈ xs, 0 ≤ x ∧ x ≤ 255) (hb2 : ∀ x ∈ ys, 0 ≤ x ∧ x ≤ 255) (hl1 : xs.length ≤ 9223372036854775807) (hl2 : ys.length ≤ 9223372036854775807) :
    PCall Try.prog 3 #[v1, v2] U fun r _ => r = .bool true := by
  obtain ⟨A, c, rfl, hc, hA⟩ := h1
  obtain ⟨B, d, rfl, hd, hB⟩ := h2
  refine OCall.of (args := [.slice A xs.length c, .slice B ys.length d]) E_ok mix Try.func3 (by kernel_rfl) rfl Try.ntmps3 (Nat.le_of_ble_eq_true rfl) fun F w0 => ?_
  refine J.to 14 [] 210 [(0, .v (.slice A (List.length xs) c)), (1, .v (.slice B (List.length ys) d)), (4, .v (.bool false)), (31, .v (.int .i64 (↑(List.length xs) : Int))), (35, .v (.bool (Decidable.decide (IntKind.wrap .i64 ((↑(List.length xs) : Int) + (↑(List.length ys) : Int)) > 1048576))))] [(4, .some false)] [] [] (by kernel_rfl) ?_
  refine J.br rfl rfl (fun h => ?_) (fun h => ?_)
  · refine J.to 5 [true] 210 [(0, .v (.slice A (List.length xs) c)), (1, .v (.slice B (List.length ys) d)), (31, .v (.int .i64 (↑(List.length xs) : Int))), (4, .v (.bool true))] [(4, .some true)] [] [] (by kernel_rfl) ?_
    exact J.ret ⟨_, rfl, .inl rfl⟩
  refine J.to 5 [false] 210 [(1, .v (.slice B (List.length ys) d)), (4, .v (.bool false)), (31, .v (.int .i64 (↑(List.length xs) : Int))), (37, .v (.slice A (List.length xs) c))] [(4, .some false)] [] [] (by kernel_rfl) ?_
  refine J.one (Op1.ocall rfl rfl rfl rfl rfl rfl rfl (drawNew_ok _ xs U ⟨A, c, rfl, hc, hA⟩ hb1) fun v U1 hx1 => ?_)
  refine J.own' (α := Σ' (acc : List Int) (mv : List Mv) (x : Option Addr × Nat × Option Addr × Nat), v = .tuple #[.slice x.1 acc.length x.2.1, .slice x.2.2.1 mv.length x.2.2.2] ∧ Fine ⟨acc, mv, 0, false⟩) (p' := fun y => sgOwn (.slice y.2.2.1.1 y.1.length y.2.2.1.2.1) (.slice y.2.2.1.2.2.1 y.2.1.length y.2.2.1.2.2.2) ⟨y.1, y.2.1, 0, false⟩) 38 rfl
    (fun h ⟨acc, mv, va, vm, e, hs, h1⟩ => let ⟨x, e1, e2⟩ := sgOwn_slice h1; ⟨⟨acc, mv, x, by rw [e, e1, e2], hs⟩, e1 ▸ e2 ▸ h1⟩) ?_
  rintro ⟨acc, mv, ⟨A1, c1, B1, d1⟩, rfl, hs⟩
  dsimp only
  refine J.pub (k := 38) rfl fun U2 L2 hx2 hl2 hp2 => ?_
  obtain ⟨ra, rm⟩ := sgOwn_rd hp2 hl2
  simp only at ra rm
  have la : acc.length ≤ 8 := hs.a1
  have lm : mv.length ≤ 40 := hs.m
  refine J.to 10 [] 210 [(1, .v (.slice B (List.length ys) d)), (4, .v (.bool false)), (31, .v (.int .i64 (↑(List.length xs) : Int))), (36, .v (.tuple (Array.mk [.slice A1 (List.length acc) c1, .slice B1 (List.length mv) d1]))), (5, .v (.slice A1 (List.length acc) c1)), (6, .v (.slice B1 (List.length mv) d1)), (42, .v (.slice A1 (List.length acc) c1)), (43, .v (.slice B1 (List.length mv) d1))] [(4, .some false)] [] [] (by kernel_rfl) ?_
  refine J.one (Op1.ocall rfl rfl rfl rfl rfl rfl rfl (implNew_ok _ _ acc mv U2 ra rm (by omega) (by omega)) fun v U3 hx3 => ?_)
  refine J.sg2 44 rfl fun A3 c3 B3 d3 e3 => ?_
  subst e3
  refine J.pub (k := 44) rfl fun U4 L4 hx4 hl4 hp4 => ?_
  obtain ⟨ra4, rm4⟩ := sgOwn_rd hp4 hl4
  refine J.to 11 [] 210 [(1, .v (.slice B (List.length ys) d)), (4, .v (.bool false)), (5, .v (.slice A1 (List.length acc) c1)), (6, .v (.slice B1 (List.length mv) d1)), (31, .v (.int .i64 (↑(List.length xs) : Int))), (36, .v (.tuple (Array.mk [.slice A1 (List.length acc) c1, .slice B1 (List.length mv) d1]))), (7, .bp 7 0), (8, .v (.bool (Prod.snd (newS acc mv)))), (48, .v (.slice A1 (List.length acc) c1)), (49, .v (.slice B1 (List.length mv) d1))] [(4, .some false)] [(7, .box 28 [.slice A3 (List.length (Sg.acc (Prod.fst (newS acc mv)))) c3, .slice B3 (List.length (Sg.mv (Prod.fst (newS acc mv)))) d3, .int .i64 (Sg.done (Prod.fst (newS acc mv))), .bool (Sg.und (Prod.fst (newS acc mv)))])] [] (by kernel_rfl) ?_
  refine J.one (Op1.ocall rfl rfl rfl rfl rfl rfl rfl (specNew_o _ _ acc mv U4 (ra.mono (hx3.trans hx4)) (rm.mono (hx3.trans hx4)) (by omega) (by omega)) fun v U5 hx5 => ?_)
  refine J.sg2 50 rfl fun A5 c5 B5 d5 e5 => ?_
  subst e5
  refine J.pub (k := 50) rfl fun U6 L6 hx6 hl6 hp6 => ?_
  obtain ⟨ra6, rm6⟩ := sgOwn_rd hp6 hl6
  have ra4' := ra4.mono (hx5.trans hx6)
  have rm4' := rm4.mono (hx5.trans hx6)
  have hln : (newS acc mv).1.acc.length ≤ 8 ∧ (newS acc mv).1.mv.length ≤ 40 := by
    unfold newS
    split
    · exact ⟨la, lm⟩
    · simp [Sg.zero]
  have hgn : (newS acc mv).2 = true → (newS acc mv).1 = ⟨acc, mv, 0, false⟩ ∧ (Sg.mk acc mv 0 false).good = true := by
    intro h
    unfold newS at h ⊢
    split at h
    · rename_i hg; rw [if_pos hg]; exact ⟨rfl, hg⟩
    · cases h
  refine J.to 14 [] 210 [(1, .v (.slice B (List.length ys) d)), (4, .v (.bool false)), (5, .v (.slice A1 (List.length acc) c1)), (6, .v (.slice B1 (List.length mv) d1)), (7, .bp 7 0), (8, .v (.bool (Prod.snd (newS acc mv)))), (31, .v (.int .i64 (↑(List.length xs) : Int))), (36, .v (.tuple (Array.mk [.slice A1 (List.length acc) c1, .slice B1 (List.length mv) d1]))), (9, .bp 9 0), (10, .v (.bool (Prod.snd (newS acc mv)))), (56, .v (.bool !Prod.snd (newS acc mv) == Prod.snd (newS acc mv)))] [(4, .some false)] [(7, .box 28 [.slice A3 (List.length (Sg.acc (Prod.fst (newS acc mv)))) c3, .slice B3 (List.length (Sg.mv (Prod.fst (newS acc mv)))) d3, .int .i64 (Sg.done (Prod.fst (newS acc mv))), .bool (Sg.und (Prod.fst (newS acc mv)))]), (9, .box 28 [.slice A5 (List.length (Sg.acc (Prod.fst (newS acc mv)))) c5, .slice B5 (List.length (Sg.mv (Prod.fst (newS acc mv)))) d5, .int .i64 (Sg.done (Prod.fst (newS acc mv))), .bool (Sg.und (Prod.fst (newS acc mv)))])] [] (by kernel_rfl) ?_
  refine J.br rfl rfl (fun h => by simp at h) (fun _ => ?_)
  refine J.to 2 [] 210 [(1, .v (.slice B (List.length ys) d)), (4, .v (.bool false)), (5, .v (.slice A1 (List.length acc) c1)), (6, .v (.slice B1 (List.length mv) d1)), (7, .bp 7 0), (8, .v (.bool (Prod.snd (newS acc mv)))), (9, .bp 9 0), (10, .v (.bool (Prod.snd (newS acc mv)))), (31, .v (.int .i64 (↑(List.length xs) : Int))), (36, .v (.tuple (Array.mk [.slice A1 (List.length acc) c1, .slice B1 (List.length mv) d1]))), (56, .v (.bool false)), (57, .v (.agg (Array.mk [.slice A3 (List.length (Sg.acc (Prod.fst (newS acc mv)))) c3, .slice B3 (List.length (Sg.mv (Prod.fst (newS acc mv)))) d3, .int .i64 (Sg.done (Prod.fst (newS acc mv))), .bool (Sg.und (Prod.fst (newS acc mv)))]))), (58, .v (.agg (Array.mk [.slice A5 (List.length (Sg.acc (Prod.fst (newS acc mv)))) c5, .slice B5 (List.length (Sg.mv (Prod.fst (newS acc mv)))) d5, .int .i64 (Sg.done (Prod.fst (newS acc mv))), .bool (Sg.und (Prod.fst (newS acc mv)))])))] [(4, .some false), (56, .some false)] [(7, .box 28 [.slice A3 (List.length (Sg.acc (Prod.fst (newS acc mv)))) c3, .slice B3 (List.length (Sg.mv (Prod.fst (newS acc mv)))) d3, .int .i64 (Sg.done (Prod.fst (newS acc mv))), .bool (Sg.und (Prod.fst (newS acc mv)))]), (9, .box 28 [.slice A5 (List.length (Sg.acc (Prod.fst (newS acc mv)))) c5, .slice B5 (List.length (Sg.mv (Prod.fst (newS acc mv)))) d5, .int .i64 (Sg.done (Prod.fst (newS acc mv))), .bool (Sg.und (Prod.fst (newS acc mv)))])] [] (by kernel_rfl) ?_
  refine J.one (Op1.call rfl rfl rfl rfl rfl rfl rfl rfl (sameSagas_ok _ _ _ _ (newS acc mv).1 U6 ra4' rm4' ra6 rm6 (by omega) (by omega)) fun v U7 hx7 hv => ?_); subst hv
  refine J.to 10 [false] 210 [(1, .v (.slice B (List.length ys) d)), (4, .v (.bool false)), (5, .v (.slice A1 (List.length acc) c1)), (6, .v (.slice B1 (List.length mv) d1)), (7, .bp 7 0), (9, .bp 9 0), (10, .v (.bool (Prod.snd (newS acc mv)))), (31, .v (.int .i64 (↑(List.length xs) : Int))), (36, .v (.tuple (Array.mk [.slice A1 (List.length acc) c1, .slice B1 (List.length mv) d1]))), (62, .v (.bool (Prod.snd (newS acc mv))))] [(4, .some false)] [(7, .box 28 [.slice A3 (List.length (Sg.acc (Prod.fst (newS acc mv)))) c3, .slice B3 (List.length (Sg.mv (Prod.fst (newS acc mv)))) d3, .int .i64 (Sg.done (Prod.fst (newS acc mv))), .bool (Sg.und (Prod.fst (newS acc mv)))]), (9, .box 28 [.slice A5 (List.length (Sg.acc (Prod.fst (newS acc mv)))) c5, .slice B5 (List.length (Sg.mv (Prod.fst (newS acc mv)))) d5, .int .i64 (Sg.done (Prod.fst (newS acc mv))), .bool (Sg.und (Prod.fst (newS acc mv)))])] [] (by kernel_rfl) ?_
  have hB7 : Ext U U7 := hx1.trans (hx2.trans (hx3.trans (hx4.trans (hx5.trans (hx6.trans hx7)))))
  refine J.cutK 210 [] (fun x : Unit => [(1, .v (.slice B ys.length d))]) (fun x => []) (fun _ U' => Ext U7 U') ?_ ?_
  · generalize hn : newS acc mv = t at *
    obtain ⟨t, tb⟩ := t
    refine J.br rfl rfl (fun hok => ?_) (fun hok => ?_)
    · obtain ⟨e, hg⟩ := hgn hok
      simp only at e
      subst e
      refine J.to 2 [true] 210 [(1, .v (.slice B (List.length ys) d)), (4, .v (.bool false)), (5, .v (.slice A1 (List.length acc) c1)), (6, .v (.slice B1 (List.length mv) d1)), (7, .bp 7 0), (9, .bp 9 0), (10, .v (.bool tb)), (31, .v (.int .i64 (↑(List.length xs) : Int))), (36, .v (.tuple (Array.mk [.slice A1 (List.length acc) c1, .slice B1 (List.length mv) d1])))] [(4, .some false)] [(7, .box 28 [.slice A3 (List.length acc) c3, .slice B3 (List.length mv) d3, .int .i64 0, .bool false]), (9, .box 28 [.slice A5 (List.length acc) c5, .slice B5 (List.length mv) d5, .int .i64 0, .bool false])] [] (by kernel_rfl) ?_
      have ra7 : Rd rInt U7 (.slice A3 acc.length c3) acc := ra4'.mono hx7
      have rm7 : Rd rMv U7 (.slice B3 mv.length d3) mv := rm4'.mono hx7
      refine J.cutK 210 [] (fun x : Sg × Nat × (Option Addr × Nat) × (Option Addr × Nat) => [(1, .v (.slice B ys.length d)), (5, .v (.slice A1 acc.length c1)), (6, .v (.slice B1 mv.length d1)), (7, .bp 7 0), (11, .bp 11 0), (12, .v (.int .i64 x.2.1)), (13, .v (.bool true))])
        (fun x => [(7, .box 28 [.slice A3 acc.length c3, .slice B3 mv.length d3, .int .i64 0, .bool false]), (11, .box 28 [.slice x.2.2.1.1 x.1.acc.length x.2.2.1.2, .slice x.2.2.2.1 x.1.mv.length x.2.2.2.2, .int .i64 x.1.done, .bool x.1.und])])
        (fun x U' => x.1.good = true ∧ x.1.acc.sum = acc.sum ∧ x.2.1 ≤ 2 * mv.length + 1 ∧ x.1.mv = mv ∧ (((x.1.und = true ∧ x.1.done = 0) ∧ x.1.acc = acc) ∨ (x.1.und = false ∧ x.1.done = mv.length)) ∧ Rd rInt U' (.slice x.2.2.1.1 x.1.acc.length x.2.2.1.2) x.1.acc ∧ Rd rMv U' (.slice x.2.2.2.1 x.1.mv.length x.2.2.2.2) x.1.mv ∧ Ext U7 U') ?_ ?_
      · refine J.any [7] [] [] trivial fun ρ1 _ => ?_
        refine J.takeTo true [0, 1, 3, 4, 5] 12 210 [(1, .v (.slice B (List.length ys) d)), (4, .v (.bool false)), (5, .v (.slice A1 (List.length acc) c1)), (6, .v (.slice B1 (List.length mv) d1)), (7, .bp 7 0), (9, .bp 9 0), (10, .v (.bool tb)), (31, .v (.int .i64 (↑(List.length xs) : Int))), (36, .v (.tuple (Array.mk [.slice A1 (List.length acc) c1, .slice B1 (List.length mv) d1]))), (64, .v (.agg (Array.mk [.slice A3 (List.length acc) c3, .slice B3 (List.length mv) d3, .int .i64 0, .bool false]))), (65, .v (.slice B (List.length ys) d)), (67, .v (.slice B1 (List.length mv) d1)), (68, .v (.int .i64 (↑(List.length mv) : Int))), (69, .v (.int .i64 (IntKind.wrap .i64 ((↑(List.length mv) : Int) + 2))))] [(4, .some false)] [(7, .box 28 [.slice A3 (List.length acc) c3, .slice B3 (List.length mv) d3, .int .i64 0, .bool false]), (9, .box 28 [.slice A5 (List.length acc) c5, .slice B5 (List.length mv) d5, .int .i64 0, .bool false])] [(7, .some (ρ1 7)), (9, .some (ρ1 9))] (by first | exact Ext.refl _ | assumption | exact Ext.trans (by assumption) (by assumption) | exact Ext.trans (by assumption) (Ext.trans (by assumption) (by assumption))) (fun h => rfl) ⟨⟨rfl, rfl⟩, trivial⟩ rfl (by kernel_rfl) ?_
        refine J.atwo (i := 2) (j := 13) (by kernel_rfl) (Op1.call rfl rfl rfl rfl rfl rfl rfl rfl (numberOf_ok _ ys U7 ⟨B, d, rfl, hd, hB.mono hB7⟩ (by omega)) fun v U8 hx8 ⟨n, hv⟩ => ⟨fun _ => ⟨hx8, ⟨rfl, rfl⟩, trivial⟩, ?_⟩) (Op1.step rfl rfl rfl ⟨fun _ => ⟨Ext.refl _, ⟨rfl, rfl⟩, trivial⟩, ?_⟩)
        · subst hv
          refine J.abin 6 rfl rfl rfl (by kernel_rfl) rfl (.inr ⟨hx8, ⟨rfl, rfl⟩, trivial⟩) rfl rfl rfl (fun w => run_rem (by rw [show IntKind.wrap .i64 ((mv.length : Int) + 2) = (mv.length : Int) + 2 from wr_id (by omega)]; omega) w) ?_
          refine J.takeTo false [7] 9 210 [(1, .v (.slice B (List.length ys) d)), (4, .v (.bool false)), (5, .v (.slice A1 (List.length acc) c1)), (6, .v (.slice B1 (List.length mv) d1)), (7, .bp 7 0), (9, .bp 9 0), (10, .v (.bool tb)), (31, .v (.int .i64 (↑(List.length xs) : Int))), (36, .v (.tuple (Array.mk [.slice A1 (List.length acc) c1, .slice B1 (List.length mv) d1]))), (64, .v (.agg (Array.mk [.slice A3 (List.length acc) c3, .slice B3 (List.length mv) d3, .int .i64 0, .bool false]))), (65, .v (.slice B (List.length ys) d)), (66, .v (.int .i64 n)), (67, .v (.slice B1 (List.length mv) d1)), (68, .v (.int .i64 (↑(List.length mv) : Int))), (69, .v (.int .i64 (IntKind.wrap .i64 ((↑(List.length mv) : Int) + 2)))), (70, .v (.int .i64 (Int.tmod n (IntKind.wrap .i64 ((↑(List.length mv) : Int) + 2))))), (71, .v (.int .i64 (IntKind.wrap .i64 (Int.tmod n (IntKind.wrap .i64 ((↑(List.length mv) : Int) + 2)) - 1))))] [(4, .some false)] [(7, .box 28 [.slice A3 (List.length acc) c3, .slice B3 (List.length mv) d3, .int .i64 0, .bool false]), (9, .box 28 [.slice A5 (List.length acc) c5, .slice B5 (List.length mv) d5, .int .i64 0, .bool false])] [(7, .some (ρ1 7)), (9, .some (ρ1 9))] (by first | exact Ext.refl _ | assumption | exact Ext.trans (by assumption) (by assumption) | exact Ext.trans (by assumption) (Ext.trans (by assumption) (by assumption))) (fun h => by cases h) ⟨⟨rfl, rfl⟩, trivial⟩ rfl (by kernel_rfl) ?_
          generalize IntKind.wrap .i64 (n.tmod (IntKind.wrap .i64 ((mv.length : Int) + 2)) - 1) = fl
          have hrun := run_new (acc := acc) (mv := mv) fl hg
          generalize hr : runS ⟨acc, mv, 0, false⟩ fl = r at hrun
          obtain ⟨x, m, xb⟩ := r
          obtain ⟨q1, q2, q3, q4, q5, q6⟩ := hrun
          simp only at q1 q2 q3 q4 q5 q6
          subst q1
          refine J.atwo (i := 8) (j := 13) (by kernel_rfl) (Op1.ocall rfl rfl rfl rfl rfl rfl rfl (implRun_ok _ _ ⟨acc, mv, 0, false⟩ fl U8 (ra7.mono hx8) (rm7.mono hx8) (by simp only; omega) (by simp only; omega)) fun v U9 hx9 => ⟨fun _ => ⟨hx8.trans hx9, ⟨rfl, rfl⟩, trivial⟩, ?_⟩) (Op1.step rfl rfl rfl ⟨fun _ => ⟨hx8, ⟨rfl, rfl⟩, trivial⟩, ?_⟩)
          · rw [hr]
            dsimp only
            refine J.sg3 72 rfl fun A9 c9 B9 d9 e9 => ?_
            subst e9
            refine J.pub (k := 72) rfl fun U10 L10 hx10 hl10 hp10 => ?_
            obtain ⟨ra10, rm10⟩ := sgOwn_rd hp10 hl10
            refine J.takeTo false [9, 10, 11, 12] 4 210 [(1, .v (.slice B (List.length ys) d)), (4, .v (.bool false)), (5, .v (.slice A1 (List.length acc) c1)), (6, .v (.slice B1 (List.length mv) d1)), (7, .bp 7 0), (9, .bp 9 0), (10, .v (.bool tb)), (31, .v (.int .i64 (↑(List.length xs) : Int))), (36, .v (.tuple (Array.mk [.slice A1 (List.length acc) c1, .slice B1 (List.length mv) d1]))), (64, .v (.agg (Array.mk [.slice A3 (List.length acc) c3, .slice B3 (List.length mv) d3, .int .i64 0, .bool false]))), (65, .v (.slice B (List.length ys) d)), (66, .v (.int .i64 n)), (67, .v (.slice B1 (List.length mv) d1)), (68, .v (.int .i64 (↑(List.length mv) : Int))), (69, .v (.int .i64 (IntKind.wrap .i64 ((↑(List.length mv) : Int) + 2)))), (70, .v (.int .i64 (Int.tmod n (IntKind.wrap .i64 ((↑(List.length mv) : Int) + 2))))), (71, .v (.int .i64 fl)), (72, .v (.tuple (Array.mk [.agg (Array.mk [.slice A9 (List.length (Sg.acc x)) c9, .slice B9 (List.length (Sg.mv x)) d9, .int .i64 (Sg.done x), .bool (Sg.und x)]), .int .i64 (↑m : Int), .bool true]))), (63, .v (.tuple (Array.mk [.agg (Array.mk [.slice A9 (List.length (Sg.acc x)) c9, .slice B9 (List.length (Sg.mv x)) d9, .int .i64 (Sg.done x), .bool (Sg.und x)]), .int .i64 (↑m : Int), .bool true]))), (73, .v (.agg (Array.mk [.slice A9 (List.length (Sg.acc x)) c9, .slice B9 (List.length (Sg.mv x)) d9, .int .i64 (Sg.done x), .bool (Sg.und x)]))), (74, .v (.int .i64 (↑m : Int))), (75, .v (.bool true))] [(4, .some false), (75, .some true)] [(7, .box 28 [.slice A3 (List.length acc) c3, .slice B3 (List.length mv) d3, .int .i64 0, .bool false]), (9, .box 28 [.slice A5 (List.length acc) c5, .slice B5 (List.length mv) d5, .int .i64 0, .bool false])] [(7, .some (ρ1 7)), (9, .some (ρ1 9))] (by first | exact Ext.refl _ | assumption | exact Ext.trans (by assumption) (by assumption) | exact Ext.trans (by assumption) (Ext.trans (by assumption) (by assumption))) (fun h => by cases h) ⟨⟨rfl, rfl⟩, trivial⟩ rfl (by kernel_rfl) ?_
            refine J.aone (i := 13) (by kernel_rfl) (Op1.step rfl rfl rfl ⟨fun _ => ⟨hx8.trans (hx9.trans hx10), ⟨rfl, rfl⟩, trivial⟩, ?_⟩)
            refine J.aone (i := 14) (by kernel_rfl) (Op1.step rfl rfl rfl ⟨fun _ => ⟨hx8.trans (hx9.trans hx10), ⟨rfl, rfl⟩, trivial⟩, ?_⟩)
            refine J.takeTo false [15, 16] 0 210 [(1, .v (.slice B (List.length ys) d)), (4, .v (.bool false)), (5, .v (.slice A1 (List.length acc) c1)), (6, .v (.slice B1 (List.length mv) d1)), (7, .bp 7 0), (9, .bp 9 0), (10, .v (.bool tb)), (11, .bp 11 0), (31, .v (.int .i64 (↑(List.length xs) : Int))), (36, .v (.tuple (Array.mk [.slice A1 (List.length acc) c1, .slice B1 (List.length mv) d1]))), (63, .v (.tuple (Array.mk [.agg (Array.mk [.slice A9 (List.length (Sg.acc x)) c9, .slice B9 (List.length (Sg.mv x)) d9, .int .i64 (Sg.done x), .bool (Sg.und x)]), .int .i64 (↑m : Int), .bool true]))), (64, .v (.agg (Array.mk [.slice A3 (List.length acc) c3, .slice B3 (List.length mv) d3, .int .i64 0, .bool false]))), (65, .v (.slice B (List.length ys) d)), (66, .v (.int .i64 n)), (67, .v (.slice B1 (List.length mv) d1)), (68, .v (.int .i64 (↑(List.length mv) : Int))), (69, .v (.int .i64 (IntKind.wrap .i64 ((↑(List.length mv) : Int) + 2)))), (70, .v (.int .i64 (Int.tmod n (IntKind.wrap .i64 ((↑(List.length mv) : Int) + 2))))), (71, .v (.int .i64 fl)), (72, .v (.tuple (Array.mk [.agg (Array.mk [.slice A9 (List.length (Sg.acc x)) c9, .slice B9 (List.length (Sg.mv x)) d9, .int .i64 (Sg.done x), .bool (Sg.und x)]), .int .i64 (↑m : Int), .bool true]))), (73, .v (.agg (Array.mk [.slice A9 (List.length (Sg.acc x)) c9, .slice B9 (List.length (Sg.mv x)) d9, .int .i64 (Sg.done x), .bool (Sg.und x)]))), (74, .v (.int .i64 (↑m : Int))), (75, .v (.bool true)), (12, .v (.int .i64 (↑m : Int))), (13, .v (.bool true))] [(4, .some false), (75, .some true), (13, .some true)] [(7, .box 28 [.slice A3 (List.length acc) c3, .slice B3 (List.length mv) d3, .int .i64 0, .bool false]), (9, .box 28 [.slice A5 (List.length acc) c5, .slice B5 (List.length mv) d5, .int .i64 0, .bool false]), (11, .box 28 [.slice A9 (List.length (Sg.acc x)) c9, .slice B9 (List.length (Sg.mv x)) d9, .int .i64 (Sg.done x), .bool (Sg.und x)])] [(7, .some (ρ1 7)), (9, .some (ρ1 9))] (by first | exact Ext.refl _ | assumption | exact Ext.trans (by assumption) (by assumption) | exact Ext.trans (by assumption) (Ext.trans (by assumption) (by assumption))) (fun h => by cases h) ⟨⟨rfl, rfl⟩, trivial⟩ rfl (by kernel_rfl) ?_
            refine J.adone' (by kernel_rfl) ?_
            refine J.to 0 [] 210 [(1, .v (.slice B (List.length ys) d)), (4, .v (.bool false)), (5, .v (.slice A1 (List.length acc) c1)), (6, .v (.slice B1 (List.length mv) d1)), (7, .bp 7 0), (9, .bp 9 0), (10, .v (.bool tb)), (11, .bp 11 0), (12, .v (.int .i64 (↑m : Int))), (13, .v (.bool true)), (31, .v (.int .i64 (↑(List.length xs) : Int))), (36, .v (.tuple (Array.mk [.slice A1 (List.length acc) c1, .slice B1 (List.length mv) d1])))] [(4, .some false), (13, .some true)] [(7, .box 28 [.slice A3 (List.length acc) c3, .slice B3 (List.length mv) d3, .int .i64 0, .bool false]), (9, .box 28 [.slice A5 (List.length acc) c5, .slice B5 (List.length mv) d5, .int .i64 0, .bool false]), (11, .box 28 [.slice A9 (List.length (Sg.acc x)) c9, .slice B9 (List.length (Sg.mv x)) d9, .int .i64 (Sg.done x), .bool (Sg.und x)])] [(7, .some (ρ1 7)), (9, .some (ρ1 9))] (by kernel_rfl) ?_
            exact J.againK (x, m, (A9, c9), (B9, d9)) (by kernel_rfl) ⟨q2, q3, q4, q5, q6, ra10, rm10, hx8.trans (hx9.trans hx10)⟩ (by simp)
          · refine J.aone (i := 8) (by kernel_rfl) (Op1.ocall rfl rfl rfl rfl rfl rfl rfl (implRun_ok _ _ ⟨acc, mv, 0, false⟩ fl U8 (ra7.mono hx8) (rm7.mono hx8) (by simp only; omega) (by simp only; omega)) fun v U9 hx9 => ⟨fun _ => ⟨hx8.trans hx9, ⟨rfl, rfl⟩, trivial⟩, ?_⟩)
            rw [hr]
            dsimp only
            refine J.sg3 72 rfl fun A9 c9 B9 d9 e9 => ?_
            subst e9
            refine J.pub (k := 72) rfl fun U10 L10 hx10 hl10 hp10 => ?_
            obtain ⟨ra10, rm10⟩ := sgOwn_rd hp10 hl10
            refine J.takeTo false [9, 10, 11, 12] 3 210 [(1, .v (.slice B (List.length ys) d)), (4, .v (.bool false)), (5, .v (.slice A1 (List.length acc) c1)), (6, .v (.slice B1 (List.length mv) d1)), (7, .bp 7 0), (9, .bp 9 0), (10, .v (.bool tb)), (11, .bp 11 0), (31, .v (.int .i64 (↑(List.length xs) : Int))), (36, .v (.tuple (Array.mk [.slice A1 (List.length acc) c1, .slice B1 (List.length mv) d1]))), (64, .v (.agg (Array.mk [.slice A3 (List.length acc) c3, .slice B3 (List.length mv) d3, .int .i64 0, .bool false]))), (65, .v (.slice B (List.length ys) d)), (66, .v (.int .i64 n)), (67, .v (.slice B1 (List.length mv) d1)), (68, .v (.int .i64 (↑(List.length mv) : Int))), (69, .v (.int .i64 (IntKind.wrap .i64 ((↑(List.length mv) : Int) + 2)))), (70, .v (.int .i64 (Int.tmod n (IntKind.wrap .i64 ((↑(List.length mv) : Int) + 2))))), (71, .v (.int .i64 fl)), (72, .v (.tuple (Array.mk [.agg (Array.mk [.slice A9 (List.length (Sg.acc x)) c9, .slice B9 (List.length (Sg.mv x)) d9, .int .i64 (Sg.done x), .bool (Sg.und x)]), .int .i64 (↑m : Int), .bool true]))), (63, .v (.tuple (Array.mk [.agg (Array.mk [.slice A9 (List.length (Sg.acc x)) c9, .slice B9 (List.length (Sg.mv x)) d9, .int .i64 (Sg.done x), .bool (Sg.und x)]), .int .i64 (↑m : Int), .bool true]))), (73, .v (.agg (Array.mk [.slice A9 (List.length (Sg.acc x)) c9, .slice B9 (List.length (Sg.mv x)) d9, .int .i64 (Sg.done x), .bool (Sg.und x)]))), (74, .v (.int .i64 (↑m : Int))), (75, .v (.bool true))] [(4, .some false), (75, .some true)] [(7, .box 28 [.slice A3 (List.length acc) c3, .slice B3 (List.length mv) d3, .int .i64 0, .bool false]), (9, .box 28 [.slice A5 (List.length acc) c5, .slice B5 (List.length mv) d5, .int .i64 0, .bool false]), (11, .box 28 [.slice .none 0 0, .slice .none 0 0, .int .i64 0, .bool false])] [(7, .some (ρ1 7)), (9, .some (ρ1 9))] (by first | exact Ext.refl _ | assumption | exact Ext.trans (by assumption) (by assumption) | exact Ext.trans (by assumption) (Ext.trans (by assumption) (by assumption))) (fun h => by cases h) ⟨⟨rfl, rfl⟩, trivial⟩ rfl (by kernel_rfl) ?_
            refine J.aone (i := 14) (by kernel_rfl) (Op1.step rfl rfl rfl ⟨fun _ => ⟨hx8.trans (hx9.trans hx10), ⟨rfl, rfl⟩, trivial⟩, ?_⟩)
            refine J.takeTo false [15, 16] 0 210 [(1, .v (.slice B (List.length ys) d)), (4, .v (.bool false)), (5, .v (.slice A1 (List.length acc) c1)), (6, .v (.slice B1 (List.length mv) d1)), (7, .bp 7 0), (9, .bp 9 0), (10, .v (.bool tb)), (11, .bp 11 0), (31, .v (.int .i64 (↑(List.length xs) : Int))), (36, .v (.tuple (Array.mk [.slice A1 (List.length acc) c1, .slice B1 (List.length mv) d1]))), (63, .v (.tuple (Array.mk [.agg (Array.mk [.slice A9 (List.length (Sg.acc x)) c9, .slice B9 (List.length (Sg.mv x)) d9, .int .i64 (Sg.done x), .bool (Sg.und x)]), .int .i64 (↑m : Int), .bool true]))), (64, .v (.agg (Array.mk [.slice A3 (List.length acc) c3, .slice B3 (List.length mv) d3, .int .i64 0, .bool false]))), (65, .v (.slice B (List.length ys) d)), (66, .v (.int .i64 n)), (67, .v (.slice B1 (List.length mv) d1)), (68, .v (.int .i64 (↑(List.length mv) : Int))), (69, .v (.int .i64 (IntKind.wrap .i64 ((↑(List.length mv) : Int) + 2)))), (70, .v (.int .i64 (Int.tmod n (IntKind.wrap .i64 ((↑(List.length mv) : Int) + 2))))), (71, .v (.int .i64 fl)), (72, .v (.tuple (Array.mk [.agg (Array.mk [.slice A9 (List.length (Sg.acc x)) c9, .slice B9 (List.length (Sg.mv x)) d9, .int .i64 (Sg.done x), .bool (Sg.und x)]), .int .i64 (↑m : Int), .bool true]))), (73, .v (.agg (Array.mk [.slice A9 (List.length (Sg.acc x)) c9, .slice B9 (List.length (Sg.mv x)) d9, .int .i64 (Sg.done x), .bool (Sg.und x)]))), (74, .v (.int .i64 (↑m : Int))), (75, .v (.bool true)), (12, .v (.int .i64 (↑m : Int))), (13, .v (.bool true))] [(4, .some false), (75, .some true), (13, .some true)] [(7, .box 28 [.slice A3 (List.length acc) c3, .slice B3 (List.length mv) d3, .int .i64 0, .bool false]), (9, .box 28 [.slice A5 (List.length acc) c5, .slice B5 (List.length mv) d5, .int .i64 0, .bool false]), (11, .box 28 [.slice A9 (List.length (Sg.acc x)) c9, .slice B9 (List.length (Sg.mv x)) d9, .int .i64 (Sg.done x), .bool (Sg.und x)])] [(7, .some (ρ1 7)), (9, .some (ρ1 9))] (by first | exact Ext.refl _ | assumption | exact Ext.trans (by assumption) (by assumption) | exact Ext.trans (by assumption) (Ext.trans (by assumption) (by assumption))) (fun h => by cases h) ⟨⟨rfl, rfl⟩, trivial⟩ rfl (by kernel_rfl) ?_
            refine J.adone' (by kernel_rfl) ?_
            refine J.to 0 [] 210 [(1, .v (.slice B (List.length ys) d)), (4, .v (.bool false)), (5, .v (.slice A1 (List.length acc) c1)), (6, .v (.slice B1 (List.length mv) d1)), (7, .bp 7 0), (9, .bp 9 0), (10, .v (.bool tb)), (11, .bp 11 0), (12, .v (.int .i64 (↑m : Int))), (13, .v (.bool true)), (31, .v (.int .i64 (↑(List.length xs) : Int))), (36, .v (.tuple (Array.mk [.slice A1 (List.length acc) c1, .slice B1 (List.length mv) d1])))] [(4, .some false), (13, .some true)] [(7, .box 28 [.slice A3 (List.length acc) c3, .slice B3 (List.length mv) d3, .int .i64 0, .bool false]), (9, .box 28 [.slice A5 (List.length acc) c5, .slice B5 (List.length mv) d5, .int .i64 0, .bool false]), (11, .box 28 [.slice A9 (List.length (Sg.acc x)) c9, .slice B9 (List.length (Sg.mv x)) d9, .int .i64 (Sg.done x), .bool (Sg.und x)])] [(7, .some (ρ1 7)), (9, .some (ρ1 9))] (by kernel_rfl) ?_
            exact J.againK (x, m, (A9, c9), (B9, d9)) (by kernel_rfl) ⟨q2, q3, q4, q5, q6, ra10, rm10, hx8.trans (hx9.trans hx10)⟩ (by simp)
        · refine J.aone (i := 2) (by kernel_rfl) (Op1.call rfl rfl rfl rfl rfl rfl rfl rfl (numberOf_ok _ ys U7 ⟨B, d, rfl, hd, hB.mono hB7⟩ (by omega)) fun v U8 hx8 ⟨n, hv⟩ => ⟨fun _ => ⟨hx8, ⟨rfl, rfl⟩, trivial⟩, ?_⟩)
          subst hv
          refine J.abin 6 rfl rfl rfl (by kernel_rfl) rfl (.inr ⟨hx8, ⟨rfl, rfl⟩, trivial⟩) rfl rfl rfl (fun w => run_rem (by rw [show IntKind.wrap .i64 ((mv.length : Int) + 2) = (mv.length : Int) + 2 from wr_id (by omega)]; omega) w) ?_
          refine J.takeTo false [7] 8 210 [(1, .v (.slice B (List.length ys) d)), (4, .v (.bool false)), (5, .v (.slice A1 (List.length acc) c1)), (6, .v (.slice B1 (List.length mv) d1)), (7, .bp 7 0), (9, .bp 9 0), (10, .v (.bool tb)), (11, .bp 11 0), (31, .v (.int .i64 (↑(List.length xs) : Int))), (36, .v (.tuple (Array.mk [.slice A1 (List.length acc) c1, .slice B1 (List.length mv) d1]))), (64, .v (.agg (Array.mk [.slice A3 (List.length acc) c3, .slice B3 (List.length mv) d3, .int .i64 0, .bool false]))), (65, .v (.slice B (List.length ys) d)), (66, .v (.int .i64 n)), (67, .v (.slice B1 (List.length mv) d1)), (68, .v (.int .i64 (↑(List.length mv) : Int))), (69, .v (.int .i64 (IntKind.wrap .i64 ((↑(List.length mv) : Int) + 2)))), (70, .v (.int .i64 (Int.tmod n (IntKind.wrap .i64 ((↑(List.length mv) : Int) + 2))))), (71, .v (.int .i64 (IntKind.wrap .i64 (Int.tmod n (IntKind.wrap .i64 ((↑(List.length mv) : Int) + 2)) - 1))))] [(4, .some false)] [(7, .box 28 [.slice A3 (List.length acc) c3, .slice B3 (List.length mv) d3, .int .i64 0, .bool false]), (9, .box 28 [.slice A5 (List.length acc) c5, .slice B5 (List.length mv) d5, .int .i64 0, .bool false]), (11, .box 28 [.slice .none 0 0, .slice .none 0 0, .int .i64 0, .bool false])] [(7, .some (ρ1 7)), (9, .some (ρ1 9))] (by first | exact Ext.refl _ | assumption | exact Ext.trans (by assumption) (by assumption) | exact Ext.trans (by assumption) (Ext.trans (by assumption) (by assumption))) (fun h => by cases h) ⟨⟨rfl, rfl⟩, trivial⟩ rfl (by kernel_rfl) ?_
          generalize IntKind.wrap .i64 (n.tmod (IntKind.wrap .i64 ((mv.length : Int) + 2)) - 1) = fl
          have hrun := run_new (acc := acc) (mv := mv) fl hg
          generalize hr : runS ⟨acc, mv, 0, false⟩ fl = r at hrun
          obtain ⟨x, m, xb⟩ := r
          obtain ⟨q1, q2, q3, q4, q5, q6⟩ := hrun
          simp only at q1 q2 q3 q4 q5 q6
          subst q1
          refine J.aone (i := 8) (by kernel_rfl) (Op1.ocall rfl rfl rfl rfl rfl rfl rfl (implRun_ok _ _ ⟨acc, mv, 0, false⟩ fl U8 (ra7.mono hx8) (rm7.mono hx8) (by simp only; omega) (by simp only; omega)) fun v U9 hx9 => ⟨fun _ => ⟨hx8.trans hx9, ⟨rfl, rfl⟩, trivial⟩, ?_⟩)
          rw [hr]
          dsimp only
          refine J.sg3 72 rfl fun A9 c9 B9 d9 e9 => ?_
          subst e9
          refine J.pub (k := 72) rfl fun U10 L10 hx10 hl10 hp10 => ?_
          obtain ⟨ra10, rm10⟩ := sgOwn_rd hp10 hl10
          refine J.takeTo false [9, 10, 11, 12] 3 210 [(1, .v (.slice B (List.length ys) d)), (4, .v (.bool false)), (5, .v (.slice A1 (List.length acc) c1)), (6, .v (.slice B1 (List.length mv) d1)), (7, .bp 7 0), (9, .bp 9 0), (10, .v (.bool tb)), (11, .bp 11 0), (31, .v (.int .i64 (↑(List.length xs) : Int))), (36, .v (.tuple (Array.mk [.slice A1 (List.length acc) c1, .slice B1 (List.length mv) d1]))), (64, .v (.agg (Array.mk [.slice A3 (List.length acc) c3, .slice B3 (List.length mv) d3, .int .i64 0, .bool false]))), (65, .v (.slice B (List.length ys) d)), (66, .v (.int .i64 n)), (67, .v (.slice B1 (List.length mv) d1)), (68, .v (.int .i64 (↑(List.length mv) : Int))), (69, .v (.int .i64 (IntKind.wrap .i64 ((↑(List.length mv) : Int) + 2)))), (70, .v (.int .i64 (Int.tmod n (IntKind.wrap .i64 ((↑(List.length mv) : Int) + 2))))), (71, .v (.int .i64 fl)), (72, .v (.tuple (Array.mk [.agg (Array.mk [.slice A9 (List.length (Sg.acc x)) c9, .slice B9 (List.length (Sg.mv x)) d9, .int .i64 (Sg.done x), .bool (Sg.und x)]), .int .i64 (↑m : Int), .bool true]))), (63, .v (.tuple (Array.mk [.agg (Array.mk [.slice A9 (List.length (Sg.acc x)) c9, .slice B9 (List.length (Sg.mv x)) d9, .int .i64 (Sg.done x), .bool (Sg.und x)]), .int .i64 (↑m : Int), .bool true]))), (73, .v (.agg (Array.mk [.slice A9 (List.length (Sg.acc x)) c9, .slice B9 (List.length (Sg.mv x)) d9, .int .i64 (Sg.done x), .bool (Sg.und x)]))), (74, .v (.int .i64 (↑m : Int))), (75, .v (.bool true))] [(4, .some false), (75, .some true)] [(7, .box 28 [.slice A3 (List.length acc) c3, .slice B3 (List.length mv) d3, .int .i64 0, .bool false]), (9, .box 28 [.slice A5 (List.length acc) c5, .slice B5 (List.length mv) d5, .int .i64 0, .bool false]), (11, .box 28 [.slice .none 0 0, .slice .none 0 0, .int .i64 0, .bool false])] [(7, .some (ρ1 7)), (9, .some (ρ1 9))] (by first | exact Ext.refl _ | assumption | exact Ext.trans (by assumption) (by assumption) | exact Ext.trans (by assumption) (Ext.trans (by assumption) (by assumption))) (fun h => by cases h) ⟨⟨rfl, rfl⟩, trivial⟩ rfl (by kernel_rfl) ?_
          refine J.aone (i := 14) (by kernel_rfl) (Op1.step rfl rfl rfl ⟨fun _ => ⟨hx8.trans (hx9.trans hx10), ⟨rfl, rfl⟩, trivial⟩, ?_⟩)
          refine J.takeTo false [15, 16] 0 210 [(1, .v (.slice B (List.length ys) d)), (4, .v (.bool false)), (5, .v (.slice A1 (List.length acc) c1)), (6, .v (.slice B1 (List.length mv) d1)), (7, .bp 7 0), (9, .bp 9 0), (10, .v (.bool tb)), (11, .bp 11 0), (31, .v (.int .i64 (↑(List.length xs) : Int))), (36, .v (.tuple (Array.mk [.slice A1 (List.length acc) c1, .slice B1 (List.length mv) d1]))), (63, .v (.tuple (Array.mk [.agg (Array.mk [.slice A9 (List.length (Sg.acc x)) c9, .slice B9 (List.length (Sg.mv x)) d9, .int .i64 (Sg.done x), .bool (Sg.und x)]), .int .i64 (↑m : Int), .bool true]))), (64, .v (.agg (Array.mk [.slice A3 (List.length acc) c3, .slice B3 (List.length mv) d3, .int .i64 0, .bool false]))), (65, .v (.slice B (List.length ys) d)), (66, .v (.int .i64 n)), (67, .v (.slice B1 (List.length mv) d1)), (68, .v (.int .i64 (↑(List.length mv) : Int))), (69, .v (.int .i64 (IntKind.wrap .i64 ((↑(List.length mv) : Int) + 2)))), (70, .v (.int .i64 (Int.tmod n (IntKind.wrap .i64 ((↑(List.length mv) : Int) + 2))))), (71, .v (.int .i64 fl)), (72, .v (.tuple (Array.mk [.agg (Array.mk [.slice A9 (List.length (Sg.acc x)) c9, .slice B9 (List.length (Sg.mv x)) d9, .int .i64 (Sg.done x), .bool (Sg.und x)]), .int .i64 (↑m : Int), .bool true]))), (73, .v (.agg (Array.mk [.slice A9 (List.length (Sg.acc x)) c9, .slice B9 (List.length (Sg.mv x)) d9, .int .i64 (Sg.done x), .bool (Sg.und x)]))), (74, .v (.int .i64 (↑m : Int))), (75, .v (.bool true)), (12, .v (.int .i64 (↑m : Int))), (13, .v (.bool true))] [(4, .some false), (75, .some true), (13, .some true)] [(7, .box 28 [.slice A3 (List.length acc) c3, .slice B3 (List.length mv) d3, .int .i64 0, .bool false]), (9, .box 28 [.slice A5 (List.length acc) c5, .slice B5 (List.length mv) d5, .int .i64 0, .bool false]), (11, .box 28 [.slice A9 (List.length (Sg.acc x)) c9, .slice B9 (List.length (Sg.mv x)) d9, .int .i64 (Sg.done x), .bool (Sg.und x)])] [(7, .some (ρ1 7)), (9, .some (ρ1 9))] (by first | exact Ext.refl _ | assumption | exact Ext.trans (by assumption) (by assumption) | exact Ext.trans (by assumption) (Ext.trans (by assumption) (by assumption))) (fun h => by cases h) ⟨⟨rfl, rfl⟩, trivial⟩ rfl (by kernel_rfl) ?_
          refine J.adone' (by kernel_rfl) ?_
          refine J.to 0 [] 210 [(1, .v (.slice B (List.length ys) d)), (4, .v (.bool false)), (5, .v (.slice A1 (List.length acc) c1)), (6, .v (.slice B1 (List.length mv) d1)), (7, .bp 7 0), (9, .bp 9 0), (10, .v (.bool tb)), (11, .bp 11 0), (12, .v (.int .i64 (↑m : Int))), (13, .v (.bool true)), (31, .v (.int .i64 (↑(List.length xs) : Int))), (36, .v (.tuple (Array.mk [.slice A1 (List.length acc) c1, .slice B1 (List.length mv) d1])))] [(4, .some false), (13, .some true)] [(7, .box 28 [.slice A3 (List.length acc) c3, .slice B3 (List.length mv) d3, .int .i64 0, .bool false]), (9, .box 28 [.slice A5 (List.length acc) c5, .slice B5 (List.length mv) d5, .int .i64 0, .bool false]), (11, .box 28 [.slice A9 (List.length (Sg.acc x)) c9, .slice B9 (List.length (Sg.mv x)) d9, .int .i64 (Sg.done x), .bool (Sg.und x)])] [(7, .some (ρ1 7)), (9, .some (ρ1 9))] (by kernel_rfl) ?_
          exact J.againK (x, m, (A9, c9), (B9, d9)) (by kernel_rfl) ⟨q2, q3, q4, q5, q6, ra10, rm10, hx8.trans (hx9.trans hx10)⟩ (by simp)
      rintro ⟨x, m, ⟨A9, c9⟩, B9, d9⟩ U10 ⟨q2, q3, q4, q5, q6, ra10, rm10, hx10⟩ hy10
      simp only at q2 q3 q4 q5 q6 ra10 rm10
      dsimp only
      have hlen := good_len q2
      refine J.to 3 [] 210 [(1, .v (.slice B (List.length ys) d)), (5, .v (.slice A1 (List.length acc) c1)), (6, .v (.slice B1 (List.length mv) d1)), (7, .bp 7 0), (11, .bp 11 0), (12, .v (.int .i64 (↑m : Int))), (13, .v (.bool true)), (77, .v (.agg (Array.mk [.slice A9 (List.length (Sg.acc x)) c9, .slice B9 (List.length (Sg.mv x)) d9, .int .i64 (Sg.done x), .bool (Sg.und x)])))] [] [(7, .box 28 [.slice A3 (List.length acc) c3, .slice B3 (List.length mv) d3, .int .i64 0, .bool false]), (11, .box 28 [.slice A9 (List.length (Sg.acc x)) c9, .slice B9 (List.length (Sg.mv x)) d9, .int .i64 (Sg.done x), .bool (Sg.und x)])] [] (by kernel_rfl) ?_
      refine J.one (Op1.call rfl rfl rfl rfl rfl rfl rfl rfl (isOver_ok _ _ x (!x.und && (x.done == x.mv.length)) U10 ra10 rm10 hlen.1 hlen.2 q2 rfl) fun v U11 hx11 hv => ?_); subst hv
      refine J.to 11 [] 210 [(1, .v (.slice B (List.length ys) d)), (5, .v (.slice A1 (List.length acc) c1)), (6, .v (.slice B1 (List.length mv) d1)), (11, .bp 11 0), (12, .v (.int .i64 (↑m : Int))), (13, .v (.bool true)), (14, .v (.bool (!Sg.und x && Sg.done x == (↑(List.length (Sg.mv x)) : Int) || Sg.und x && Sg.done x == 0))), (15, .v (.bool (!Sg.und x && Sg.done x == (↑(List.length (Sg.mv x)) : Int)))), (16, .v (.bool true)), (83, .v (.agg (Array.mk [.slice A3 (List.length acc) c3, .slice B3 (List.length mv) d3, .int .i64 0, .bool false])))] [(16, .some true)] [(11, .box 28 [.slice A9 (List.length (Sg.acc x)) c9, .slice B9 (List.length (Sg.mv x)) d9, .int .i64 (Sg.done x), .bool (Sg.und x)])] [] (by kernel_rfl) ?_
      refine J.one (Op1.call rfl rfl rfl rfl rfl rfl rfl rfl (sumIn_ok _ _ ⟨acc, mv, 0, false⟩ U11 (ra7.mono (hx10.trans hx11)) (rm7.mono (hx10.trans hx11)) (by simp only; omega) (by simp only; omega) hg) fun v U12 hx12 hv => ?_); subst hv
      refine J.to 9 [] 210 [(1, .v (.slice B (List.length ys) d)), (5, .v (.slice A1 (List.length acc) c1)), (6, .v (.slice B1 (List.length mv) d1)), (11, .bp 11 0), (12, .v (.int .i64 (↑m : Int))), (13, .v (.bool true)), (14, .v (.bool (!Sg.und x && Sg.done x == (↑(List.length (Sg.mv x)) : Int) || Sg.und x && Sg.done x == 0))), (15, .v (.bool (!Sg.und x && Sg.done x == (↑(List.length (Sg.mv x)) : Int)))), (16, .v (.bool true)), (17, .v (.int .i64 (sumW acc))), (18, .v (.bool true)), (88, .v (.agg (Array.mk [.slice A9 (List.length (Sg.acc x)) c9, .slice B9 (List.length (Sg.mv x)) d9, .int .i64 (Sg.done x), .bool (Sg.und x)])))] [(16, .some true), (18, .some true)] [(11, .box 28 [.slice A9 (List.length (Sg.acc x)) c9, .slice B9 (List.length (Sg.mv x)) d9, .int .i64 (Sg.done x), .bool (Sg.und x)])] [] (by kernel_rfl) ?_
      refine J.one (Op1.call rfl rfl rfl rfl rfl rfl rfl rfl (sumIn_ok _ _ x U12 (ra10.mono (hx11.trans hx12)) (rm10.mono (hx11.trans hx12)) hlen.1 hlen.2 q2) fun v U13 hx13 hv => ?_); subst hv
      rw [good_sum q2, q3, ← good_sum hg]
      have hxx : Ext U7 U13 := hx10.trans (hx11.trans (hx12.trans hx13))
      obtain ⟨xa, xm, xd, xu⟩ := x
      simp only at q2 q3 q5 q6 ra10 rm10
      subst q5
      dsimp only
      generalize hal : (!xu && (xd == (xm.length : Int))) = al
      rcases q6 with ⟨⟨rfl, rfl⟩, rfl⟩ | ⟨rfl, rfl⟩
      · obtain rfl : false = al := hal
        refine J.to 33 [] 210 [(1, .v (.slice B (List.length ys) d)), (5, .v (.slice A1 (List.length xa) c1)), (6, .v (.slice B1 (List.length xm) d1)), (11, .bp 11 0), (12, .v (.int .i64 (↑m : Int))), (15, .v (.bool false)), (115, .v (.bool (sumW xa != sumW xa)))] [] [(11, .box 28 [.slice A9 (List.length xa) c9, .slice B9 (List.length xm) d9, .int .i64 0, .bool true])] [] (by kernel_rfl) ?_
        refine J.br rfl rfl (fun h => by simp at h) (fun _ => ?_)
        refine J.to 8 [] 210 [(1, .v (.slice B (List.length ys) d)), (5, .v (.slice A1 (List.length xa) c1)), (6, .v (.slice B1 (List.length xm) d1)), (11, .bp 11 0), (15, .v (.bool false)), (123, .v (.bool (Decidable.decide ((↑m : Int) > IntKind.wrap .i64 (IntKind.wrap .i64 (2 * (↑(List.length xm) : Int)) + 1)))))] [] [(11, .box 28 [.slice A9 (List.length xa) c9, .slice B9 (List.length xm) d9, .int .i64 0, .bool true])] [] (by kernel_rfl) ?_
        refine J.br rfl rfl (fun h => ?_) (fun _ => ?_)
        · replace h := of_decide_eq_true h
          rw [show IntKind.wrap .i64 (2 * (xm.length : Int)) = 2 * (xm.length : Int) from wr_id (by omega), show IntKind.wrap .i64 (2 * (xm.length : Int) + 1) = 2 * (xm.length : Int) + 1 from wr_id (by omega)] at h
          omega
        refine J.to 21 [false] 210 [(1, .v (.slice B (List.length ys) d)), (6, .v (.slice B1 (List.length xm) d1)), (11, .bp 11 0), (15, .v (.bool false)), (136, .v (.bool true)), (138, .v (.slice A9 (List.length xa) c9)), (139, .v (.slice A1 (List.length xa) c1))] [(136, .some true)] [(11, .box 28 [.slice A9 (List.length xa) c9, .slice B9 (List.length xm) d9, .int .i64 0, .bool true])] [] (by kernel_rfl) ?_
        refine J.one (Op1.call rfl rfl rfl rfl rfl rfl rfl rfl (sameInts_ok _ _ xa U13 (ra10.mono (hx11.trans (hx12.trans hx13))) (ra.mono (hx3.trans (hx4.trans (hx5.trans (hx6.trans (hx7.trans hxx)))))) hlen.1) fun v U14 hx14 hv => ?_); subst hv
        refine J.to 15 [false] 210 [(1, .v (.slice B (List.length ys) d))] [] [] [] (by kernel_rfl) ?_
        exact J.againK () (by kernel_rfl) (hxx.trans hx14) (by simp)
      · obtain rfl : true = al := by rw [← hal]; simp
        refine J.to 33 [] 210 [(1, .v (.slice B (List.length ys) d)), (5, .v (.slice A1 (List.length acc) c1)), (6, .v (.slice B1 (List.length xm) d1)), (11, .bp 11 0), (12, .v (.int .i64 (↑m : Int))), (15, .v (.bool true)), (115, .v (.bool (sumW acc != sumW acc)))] [] [(11, .box 28 [.slice A9 (List.length xa) c9, .slice B9 (List.length xm) d9, .int .i64 (↑(List.length xm) : Int), .bool false])] [] (by kernel_rfl) ?_
        refine J.br rfl rfl (fun h => by simp at h) (fun _ => ?_)
        refine J.to 8 [] 210 [(1, .v (.slice B (List.length ys) d)), (5, .v (.slice A1 (List.length acc) c1)), (6, .v (.slice B1 (List.length xm) d1)), (11, .bp 11 0), (15, .v (.bool true)), (123, .v (.bool (Decidable.decide ((↑m : Int) > IntKind.wrap .i64 (IntKind.wrap .i64 (2 * (↑(List.length xm) : Int)) + 1)))))] [] [(11, .box 28 [.slice A9 (List.length xa) c9, .slice B9 (List.length xm) d9, .int .i64 (↑(List.length xm) : Int), .bool false])] [] (by kernel_rfl) ?_
        refine J.br rfl rfl (fun h => ?_) (fun _ => ?_)
        · replace h := of_decide_eq_true h
          rw [show IntKind.wrap .i64 (2 * (xm.length : Int)) = 2 * (xm.length : Int) from wr_id (by omega), show IntKind.wrap .i64 (2 * (xm.length : Int) + 1) = 2 * (xm.length : Int) + 1 from wr_id (by omega)] at h
          omega
        refine J.to 35 [false] 210 [(1, .v (.slice B (List.length ys) d)), (152, .v (.bool ((↑(List.length xm) : Int) != (↑(List.length xm) : Int))))] [] [] [] (by kernel_rfl) ?_
        refine J.br rfl rfl (fun h => by simp at h) (fun _ => ?_)
        refine J.to 2 [false] 210 [(1, .v (.slice B (List.length ys) d))] [] [] [] (by kernel_rfl) ?_
        exact J.againK () (by kernel_rfl) hxx (by simp)
    · refine J.to 2 [false] 210 [(1, .v (.slice B (List.length ys) d)), (4, .v (.bool false)), (9, .bp 9 0)] [(4, .some false)] [(9, .box 28 [.slice A5 (List.length (Sg.acc t)) c5, .slice B5 (List.length (Sg.mv t)) d5, .int .i64 (Sg.done t), .bool (Sg.und t)])] [] (by kernel_rfl) ?_
      exact J.againK () (by kernel_rfl) (Ext.refl _) (by simp)
  rintro ⟨⟩ U20 hx20 hy20
  refine J.to 3 [] 210 [(1, .v (.slice B (List.length ys) d)), (153, .v (.slice B (List.length ys) d))] [] [] [] (by kernel_rfl) ?_
  refine J.one (Op1.ocall rfl rfl rfl rfl rfl rfl rfl (drawStep_ok _ ys U20 ⟨B, d, rfl, hd, hB.mono (hB7.trans hx20)⟩ hb2) fun v U21 hx21 => ?_)
  refine J.own' (α := Σ' (s : Sg) (x : Option Addr × Nat × Option Addr × Nat), v = .agg #[.slice x.1 s.acc.length x.2.1, .slice x.2.2.1 s.mv.length x.2.2.2, .int .i64 s.done, .bool s.und] ∧ Fine s) (p' := fun y => sgOwn (.slice y.2.1.1 y.1.acc.length y.2.1.2.1) (.slice y.2.1.2.2.1 y.1.mv.length y.2.1.2.2.2) y.1) 154 rfl
    (fun h ⟨s, va, vm, e, hs, h1⟩ => let ⟨x, e1, e2⟩ := sgOwn_slice h1; ⟨⟨s, x, by rw [e, e1, e2], hs⟩, e1 ▸ e2 ▸ h1⟩) ?_
  rintro ⟨u, ⟨A21, c21, B21, d21⟩, rfl, hu⟩
  dsimp only
  refine J.pub (k := 154) rfl fun U22 L22 hx22 hl22 hp22 => ?_
  obtain ⟨ra22, rm22⟩ := sgOwn_rd hp22 hl22
  have ua : u.acc.length ≤ 8 := hu.a1
  have um : u.mv.length ≤ 40 := hu.m
  refine J.to 6 [] 210 [(1, .v (.slice B (List.length ys) d)), (21, .bp 21 0), (156, .v (.agg (Array.mk [.slice A21 (List.length (Sg.acc u)) c21, .slice B21 (List.length (Sg.mv u)) d21, .int .i64 (Sg.done u), .bool (Sg.und u)])))] [] [(21, .box 28 [.slice A21 (List.length (Sg.acc u)) c21, .slice B21 (List.length (Sg.mv u)) d21, .int .i64 (Sg.done u), .bool (Sg.und u)])] [] (by kernel_rfl) ?_
  refine J.one (Op1.ocall rfl rfl rfl rfl rfl rfl rfl (implStep_ok _ _ u U22 ra22 rm22 (by omega) (by omega)) fun v U23 hx23 => ?_)
  rw [implStep_eq]
  have hlen := specStep_len u
  have hz : (specStep u).2 = false → (specStep u).1 = Sg.zero := by
    unfold specStep
    split
    · split <;> simp
    · simp
  have hok : (specStep u).2 = true → (specStep u).1 = u.step.1 ∧ u.good = true ∧ u.step.1.good = true := by
    unfold specStep
    split
    · rename_i h1
      split
      · rename_i h2
        simp only [Bool.and_eq_true] at h2
        exact fun _ => ⟨rfl, h1, h2.2⟩
      · simp
    · simp
  generalize ht : specStep u = t at hlen hz hok
  obtain ⟨t, tb⟩ := t
  simp only at hlen hz hok
  refine J.sg2 157 rfl fun A23 c23 B23 d23 e23 => ?_
  subst e23
  refine J.pub (k := 157) rfl fun U24 L24 hx24 hl24 hp24 => ?_
  obtain ⟨ra24, rm24⟩ := sgOwn_rd hp24 hl24
  simp only at ra24 rm24
  refine J.to 10 [] 210 [(1, .v (.slice B (List.length ys) d)), (21, .bp 21 0), (22, .bp 22 0), (23, .v (.bool tb)), (161, .v (.agg (Array.mk [.slice A21 (List.length (Sg.acc u)) c21, .slice B21 (List.length (Sg.mv u)) d21, .int .i64 (Sg.done u), .bool (Sg.und u)])))] [] [(21, .box 28 [.slice A21 (List.length (Sg.acc u)) c21, .slice B21 (List.length (Sg.mv u)) d21, .int .i64 (Sg.done u), .bool (Sg.und u)]), (22, .box 28 [.slice A23 (List.length (Sg.acc t)) c23, .slice B23 (List.length (Sg.mv t)) d23, .int .i64 (Sg.done t), .bool (Sg.und t)])] [] (by kernel_rfl) ?_
  refine J.one (Op1.call rfl rfl rfl rfl rfl rfl rfl rfl (specStep_ok _ _ u U24 (ra22.mono (hx23.trans hx24)) (rm22.mono (hx23.trans hx24)) (by omega) (by omega)) fun v U25 hx25 ⟨va25, vm25, hv, ra25, rm25⟩ => ?_); subst hv
  rw [ht] at ra25 rm25 ⊢
  obtain ⟨A25, c25, rfl, hc25, hA25⟩ := ra25
  obtain ⟨B25, d25, rfl, hd25, hB25⟩ := rm25
  simp only at hA25 hB25 hc25 hd25
  dsimp only
  refine J.to 9 [] 210 [(1, .v (.slice B (List.length ys) d)), (21, .bp 21 0), (22, .bp 22 0), (23, .v (.bool tb)), (24, .bp 24 0), (25, .v (.bool tb))] [] [(21, .box 28 [.slice A21 (List.length (Sg.acc u)) c21, .slice B21 (List.length (Sg.mv u)) d21, .int .i64 (Sg.done u), .bool (Sg.und u)]), (22, .box 28 [.slice A23 (List.length (Sg.acc t)) c23, .slice B23 (List.length (Sg.mv t)) d23, .int .i64 (Sg.done t), .bool (Sg.und t)]), (24, .box 28 [.slice A25 (List.length (Sg.acc t)) c25, .slice B25 (List.length (Sg.mv t)) d25, .int .i64 (Sg.done t), .bool (Sg.und t)])] [] (by kernel_rfl) ?_
  refine J.any [21, 22, 24] [] [] trivial fun ρ1 _ => ?_
  refine J.takeTo true [0, 1, 2, 3] 12 210 [(1, .v (.slice B (List.length ys) d)), (21, .bp 21 0), (22, .bp 22 0), (23, .v (.bool tb)), (24, .bp 24 0), (25, .v (.bool tb)), (165, .v (.bool tb)), (166, .v (.bool tb)), (167, .v (.bool !tb == tb)), (168, .v (.bool !tb == tb))] [] [(21, .box 28 [.slice A21 (List.length (Sg.acc u)) c21, .slice B21 (List.length (Sg.mv u)) d21, .int .i64 (Sg.done u), .bool (Sg.und u)]), (22, .box 28 [.slice A23 (List.length (Sg.acc t)) c23, .slice B23 (List.length (Sg.mv t)) d23, .int .i64 (Sg.done t), .bool (Sg.und t)]), (24, .box 28 [.slice A25 (List.length (Sg.acc t)) c25, .slice B25 (List.length (Sg.mv t)) d25, .int .i64 (Sg.done t), .bool (Sg.und t)])] [(21, .some (ρ1 21)), (22, .some (ρ1 22)), (24, .some (ρ1 24))] (by first | exact Ext.refl _ | assumption | exact Ext.trans (by assumption) (by assumption) | exact Ext.trans (by assumption) (Ext.trans (by assumption) (by assumption))) (fun h => rfl) ⟨⟨rfl, rfl⟩, ⟨⟨rfl, rfl⟩, ⟨⟨rfl, rfl⟩, trivial⟩⟩⟩ rfl (by kernel_rfl) ?_
  refine J.brAt 168 rfl (fun h => by simp at h) (fun _ => ?_)
  refine J.takeTo true [4, 5] 10 210 [(1, .v (.slice B (List.length ys) d)), (21, .bp 21 0), (22, .bp 22 0), (23, .v (.bool tb)), (24, .bp 24 0), (25, .v (.bool tb)), (165, .v (.bool tb)), (166, .v (.bool tb)), (167, .v (.bool !tb == tb)), (168, .v (.bool false)), (169, .v (.agg (Array.mk [.slice A23 (List.length (Sg.acc t)) c23, .slice B23 (List.length (Sg.mv t)) d23, .int .i64 (Sg.done t), .bool (Sg.und t)]))), (170, .v (.agg (Array.mk [.slice A25 (List.length (Sg.acc t)) c25, .slice B25 (List.length (Sg.mv t)) d25, .int .i64 (Sg.done t), .bool (Sg.und t)])))] [(168, .some false)] [(21, .box 28 [.slice A21 (List.length (Sg.acc u)) c21, .slice B21 (List.length (Sg.mv u)) d21, .int .i64 (Sg.done u), .bool (Sg.und u)]), (22, .box 28 [.slice A23 (List.length (Sg.acc t)) c23, .slice B23 (List.length (Sg.mv t)) d23, .int .i64 (Sg.done t), .bool (Sg.und t)]), (24, .box 28 [.slice A25 (List.length (Sg.acc t)) c25, .slice B25 (List.length (Sg.mv t)) d25, .int .i64 (Sg.done t), .bool (Sg.und t)])] [(21, .some (ρ1 21)), (22, .some (ρ1 22)), (24, .some (ρ1 24))] (by first | exact Ext.refl _ | assumption | exact Ext.trans (by assumption) (by assumption) | exact Ext.trans (by assumption) (Ext.trans (by assumption) (by assumption))) (fun h => rfl) ⟨⟨rfl, rfl⟩, ⟨⟨rfl, rfl⟩, ⟨⟨rfl, rfl⟩, trivial⟩⟩⟩ rfl (by kernel_rfl) ?_
  refine J.aone (i := 6) (by kernel_rfl) (Op1.call rfl rfl rfl rfl rfl rfl rfl rfl (sameSagas_ok _ _ _ _ t U25 (ra24.mono hx25) (rm24.mono hx25) ⟨A25, c25, rfl, hc25, hA25⟩ ⟨B25, d25, rfl, hd25, hB25⟩ (by omega) (by omega)) fun v U26 hx26 hv => ⟨fun _ => ⟨hx26, ⟨rfl, rfl⟩, ⟨rfl, rfl⟩, ⟨rfl, rfl⟩, trivial⟩, ?_⟩)
  subst hv
  refine J.takeTo false [7, 8, 9, 10, 12] 4 210 [(1, .v (.slice B (List.length ys) d)), (21, .bp 21 0), (22, .bp 22 0), (23, .v (.bool tb)), (24, .bp 24 0), (25, .v (.bool tb)), (165, .v (.bool tb)), (166, .v (.bool tb)), (167, .v (.bool !tb == tb)), (168, .v (.bool false)), (169, .v (.agg (Array.mk [.slice A23 (List.length (Sg.acc t)) c23, .slice B23 (List.length (Sg.mv t)) d23, .int .i64 (Sg.done t), .bool (Sg.und t)]))), (170, .v (.agg (Array.mk [.slice A25 (List.length (Sg.acc t)) c25, .slice B25 (List.length (Sg.mv t)) d25, .int .i64 (Sg.done t), .bool (Sg.und t)]))), (171, .v (.bool true)), (172, .v (.bool false)), (173, .v (.bool false)), (174, .v (.bool false)), (175, .v (.agg (Array.mk [.slice A21 (List.length (Sg.acc u)) c21, .slice B21 (List.length (Sg.mv u)) d21, .int .i64 (Sg.done u), .bool (Sg.und u)]))), (177, .v (.agg (Array.mk [.slice A21 (List.length (Sg.acc u)) c21, .slice B21 (List.length (Sg.mv u)) d21, .int .i64 (Sg.done u), .bool (Sg.und u)])))] [(168, .some false), (172, .some false), (173, .some false), (174, .some false)] [(21, .box 28 [.slice A21 (List.length (Sg.acc u)) c21, .slice B21 (List.length (Sg.mv u)) d21, .int .i64 (Sg.done u), .bool (Sg.und u)]), (22, .box 28 [.slice A23 (List.length (Sg.acc t)) c23, .slice B23 (List.length (Sg.mv t)) d23, .int .i64 (Sg.done t), .bool (Sg.und t)]), (24, .box 28 [.slice A25 (List.length (Sg.acc t)) c25, .slice B25 (List.length (Sg.mv t)) d25, .int .i64 (Sg.done t), .bool (Sg.und t)])] [(21, .some (ρ1 21)), (22, .some (ρ1 22)), (24, .some (ρ1 24))] (by first | exact Ext.refl _ | assumption | exact Ext.trans (by assumption) (by assumption) | exact Ext.trans (by assumption) (Ext.trans (by assumption) (by assumption))) (fun h => by cases h) ⟨⟨rfl, rfl⟩, ⟨⟨rfl, rfl⟩, ⟨⟨rfl, rfl⟩, trivial⟩⟩⟩ rfl (by kernel_rfl) ?_
  have hx22' : Ext U22 U26 := hx23.trans (hx24.trans (hx25.trans hx26))
  refine J.aone (i := 11) (by kernel_rfl) (Op1.call rfl rfl rfl rfl rfl rfl rfl rfl (implGood_ok _ _ u U26 (ra22.mono hx22') (rm22.mono hx22') (by omega) (by omega)) fun v U27 hx27 hv => ⟨fun _ => ⟨hx26.trans hx27, ⟨rfl, rfl⟩, ⟨rfl, rfl⟩, ⟨rfl, rfl⟩, trivial⟩, ?_⟩)
  subst hv
  refine J.aone (i := 13) (by kernel_rfl) (Op1.call rfl rfl rfl rfl rfl rfl rfl rfl (specGood_ok _ _ u U27 (ra22.mono (hx22'.trans hx27)) (rm22.mono (hx22'.trans hx27)) (by omega) (by omega)) fun v U28 hx28 hv => ⟨fun _ => ⟨hx26.trans (hx27.trans hx28), ⟨rfl, rfl⟩, ⟨rfl, rfl⟩, ⟨rfl, rfl⟩, trivial⟩, ?_⟩)
  subst hv
  refine J.takeTo false [14, 15] 0 210 [(1, .v (.slice B (List.length ys) d)), (21, .bp 21 0), (22, .bp 22 0), (23, .v (.bool tb)), (24, .bp 24 0), (25, .v (.bool tb)), (165, .v (.bool tb)), (166, .v (.bool tb)), (167, .v (.bool !tb == tb)), (168, .v (.bool false)), (169, .v (.agg (Array.mk [.slice A23 (List.length (Sg.acc t)) c23, .slice B23 (List.length (Sg.mv t)) d23, .int .i64 (Sg.done t), .bool (Sg.und t)]))), (170, .v (.agg (Array.mk [.slice A25 (List.length (Sg.acc t)) c25, .slice B25 (List.length (Sg.mv t)) d25, .int .i64 (Sg.done t), .bool (Sg.und t)]))), (171, .v (.bool true)), (172, .v (.bool false)), (173, .v (.bool false)), (174, .v (.bool false)), (175, .v (.agg (Array.mk [.slice A21 (List.length (Sg.acc u)) c21, .slice B21 (List.length (Sg.mv u)) d21, .int .i64 (Sg.done u), .bool (Sg.und u)]))), (176, .v (.bool (Sg.good u))), (177, .v (.agg (Array.mk [.slice A21 (List.length (Sg.acc u)) c21, .slice B21 (List.length (Sg.mv u)) d21, .int .i64 (Sg.done u), .bool (Sg.und u)]))), (178, .v (.bool (Sg.good u))), (179, .v (.bool !Sg.good u == Sg.good u)), (180, .v (.bool !Sg.good u == Sg.good u))] [(168, .some false), (172, .some false), (173, .some false), (174, .some false)] [(21, .box 28 [.slice A21 (List.length (Sg.acc u)) c21, .slice B21 (List.length (Sg.mv u)) d21, .int .i64 (Sg.done u), .bool (Sg.und u)]), (22, .box 28 [.slice A23 (List.length (Sg.acc t)) c23, .slice B23 (List.length (Sg.mv t)) d23, .int .i64 (Sg.done t), .bool (Sg.und t)]), (24, .box 28 [.slice A25 (List.length (Sg.acc t)) c25, .slice B25 (List.length (Sg.mv t)) d25, .int .i64 (Sg.done t), .bool (Sg.und t)])] [(21, .some (ρ1 21)), (22, .some (ρ1 22)), (24, .some (ρ1 24))] (by first | exact Ext.refl _ | assumption | exact Ext.trans (by assumption) (by assumption) | exact Ext.trans (by assumption) (Ext.trans (by assumption) (by assumption))) (fun h => by cases h) ⟨⟨rfl, rfl⟩, ⟨⟨rfl, rfl⟩, ⟨⟨rfl, rfl⟩, trivial⟩⟩⟩ rfl (by kernel_rfl) ?_
  refine J.adone' (by kernel_rfl) ?_
  refine J.to 0 [] 210 [(1, .v (.slice B (List.length ys) d)), (21, .bp 21 0), (22, .bp 22 0), (23, .v (.bool tb)), (180, .v (.bool !Sg.good u == Sg.good u))] [] [(21, .box 28 [.slice A21 (List.length (Sg.acc u)) c21, .slice B21 (List.length (Sg.mv u)) d21, .int .i64 (Sg.done u), .bool (Sg.und u)]), (22, .box 28 [.slice A23 (List.length (Sg.acc t)) c23, .slice B23 (List.length (Sg.mv t)) d23, .int .i64 (Sg.done t), .bool (Sg.und t)]), (24, .box 28 [.slice A25 (List.length (Sg.acc t)) c25, .slice B25 (List.length (Sg.mv t)) d25, .int .i64 (Sg.done t), .bool (Sg.und t)])] [(21, .some (ρ1 21)), (22, .some (ρ1 22)), (24, .some (ρ1 24))] (by kernel_rfl) ?_
  refine J.br rfl rfl (fun h => by simp at h) (fun _ => ?_)
  refine J.to 8 [false] 210 [(1, .v (.slice B (List.length ys) d)), (21, .bp 21 0), (22, .bp 22 0), (182, .v (.bool !tb))] [] [(21, .box 28 [.slice A21 (List.length (Sg.acc u)) c21, .slice B21 (List.length (Sg.mv u)) d21, .int .i64 (Sg.done u), .bool (Sg.und u)]), (22, .box 28 [.slice A23 (List.length (Sg.acc t)) c23, .slice B23 (List.length (Sg.mv t)) d23, .int .i64 (Sg.done t), .bool (Sg.und t)]), (24, .box 28 [.slice A25 (List.length (Sg.acc t)) c25, .slice B25 (List.length (Sg.mv t)) d25, .int .i64 (Sg.done t), .bool (Sg.und t)])] [(21, .some (ρ1 21)), (22, .some (ρ1 22)), (24, .some (ρ1 24))] (by kernel_rfl) ?_
  refine J.br rfl rfl (fun h => ?_) (fun h => ?_)
  · have h : tb = false := by simpa using h
    rw [hz h]
    refine J.to 9 [true] 210 [(1, .v (.slice B (List.length ys) d)), (21, .bp 21 0), (22, .bp 22 0), (4, .v (.bool true))] [(4, .some true)] [(21, .box 28 [.slice A21 (List.length (Sg.acc u)) c21, .slice B21 (List.length (Sg.mv u)) d21, .int .i64 (Sg.done u), .bool (Sg.und u)]), (22, .box 28 [.slice A23 0 c23, .slice B23 0 d23, .int .i64 (Sg.done Sg.zero), .bool false]), (24, .box 28 [.slice A25 0 c25, .slice B25 0 d25, .int .i64 (Sg.done Sg.zero), .bool false])] [(21, .some (ρ1 21)), (22, .some (ρ1 22)), (24, .some (ρ1 24))] (by kernel_rfl) ?_
    exact J.ret ⟨_, rfl, .inl rfl⟩
  have h : tb = true := by simpa using h
  obtain ⟨rfl, hg, hg'⟩ := hok h
  refine J.to 5 [false] 210 [(1, .v (.slice B (List.length ys) d)), (22, .bp 22 0), (188, .v (.agg (Array.mk [.slice A21 (List.length (Sg.acc u)) c21, .slice B21 (List.length (Sg.mv u)) d21, .int .i64 (Sg.done u), .bool (Sg.und u)])))] [] [(21, .box 28 [.slice A21 (List.length (Sg.acc u)) c21, .slice B21 (List.length (Sg.mv u)) d21, .int .i64 (Sg.done u), .bool (Sg.und u)]), (22, .box 28 [.slice A23 (List.length (Sg.acc (Prod.fst (Sg.step u)))) c23, .slice B23 (List.length (Sg.mv (Prod.fst (Sg.step u)))) d23, .int .i64 (Sg.done (Prod.fst (Sg.step u))), .bool (Sg.und (Prod.fst (Sg.step u)))]), (24, .box 28 [.slice A25 (List.length (Sg.acc (Prod.fst (Sg.step u)))) c25, .slice B25 (List.length (Sg.mv (Prod.fst (Sg.step u)))) d25, .int .i64 (Sg.done (Prod.fst (Sg.step u))), .bool (Sg.und (Prod.fst (Sg.step u)))])] [(21, .some (ρ1 21)), (22, .some (ρ1 22)), (24, .some (ρ1 24))] (by kernel_rfl) ?_
  have hx28' : Ext U24 U28 := hx25.trans (hx26.trans (hx27.trans hx28))
  refine J.one (Op1.call rfl rfl rfl rfl rfl rfl rfl rfl (sumIn_ok _ _ u U28 (ra22.mono (hx22'.trans (hx27.trans hx28))) (rm22.mono (hx22'.trans (hx27.trans hx28))) (by omega) (by omega) hg) fun v U29 hx29 hv => ?_); subst hv
  refine J.to 9 [] 210 [(1, .v (.slice B (List.length ys) d)), (22, .bp 22 0), (26, .v (.int .i64 (sumW (Sg.acc u)))), (27, .v (.bool true)), (193, .v (.agg (Array.mk [.slice A23 (List.length (Sg.acc (Prod.fst (Sg.step u)))) c23, .slice B23 (List.length (Sg.mv (Prod.fst (Sg.step u)))) d23, .int .i64 (Sg.done (Prod.fst (Sg.step u))), .bool (Sg.und (Prod.fst (Sg.step u)))])))] [(27, .some true)] [(21, .box 28 [.slice A21 (List.length (Sg.acc u)) c21, .slice B21 (List.length (Sg.mv u)) d21, .int .i64 (Sg.done u), .bool (Sg.und u)]), (22, .box 28 [.slice A23 (List.length (Sg.acc (Prod.fst (Sg.step u)))) c23, .slice B23 (List.length (Sg.mv (Prod.fst (Sg.step u)))) d23, .int .i64 (Sg.done (Prod.fst (Sg.step u))), .bool (Sg.und (Prod.fst (Sg.step u)))]), (24, .box 28 [.slice A25 (List.length (Sg.acc (Prod.fst (Sg.step u)))) c25, .slice B25 (List.length (Sg.mv (Prod.fst (Sg.step u)))) d25, .int .i64 (Sg.done (Prod.fst (Sg.step u))), .bool (Sg.und (Prod.fst (Sg.step u)))])] [(21, .some (ρ1 21)), (22, .some (ρ1 22)), (24, .some (ρ1 24))] (by kernel_rfl) ?_
  refine J.one (Op1.call rfl rfl rfl rfl rfl rfl rfl rfl (sumIn_ok _ _ u.step.1 U29 (ra24.mono (hx28'.trans hx29)) (rm24.mono (hx28'.trans hx29)) (by omega) (by omega) hg') fun v U30 hx30 hv => ?_); subst hv
  rw [good_sum hg', step_sum hg, ← good_sum hg]
  refine J.to 18 [] 210 [(22, .bp 22 0), (206, .v (.bool (sumW (Sg.acc u) == sumW (Sg.acc u))))] [] [(21, .box 28 [.slice A21 (List.length (Sg.acc u)) c21, .slice B21 (List.length (Sg.mv u)) d21, .int .i64 (Sg.done u), .bool (Sg.und u)]), (22, .box 28 [.slice A23 (List.length (Sg.acc (Prod.fst (Sg.step u)))) c23, .slice B23 (List.length (Sg.mv (Prod.fst (Sg.step u)))) d23, .int .i64 (Sg.done (Prod.fst (Sg.step u))), .bool (Sg.und (Prod.fst (Sg.step u)))]), (24, .box 28 [.slice A25 (List.length (Sg.acc (Prod.fst (Sg.step u)))) c25, .slice B25 (List.length (Sg.mv (Prod.fst (Sg.step u)))) d25, .int .i64 (Sg.done (Prod.fst (Sg.step u))), .bool (Sg.und (Prod.fst (Sg.step u)))])] [(21, .some (ρ1 21)), (22, .some (ρ1 22)), (24, .some (ρ1 24))] (by kernel_rfl) ?_
  refine J.br rfl rfl (fun _ => ?_) (fun h => by simp at h)
  refine J.to 1 [] 210 [(206, .v (.bool true)), (207, .v (.agg (Array.mk [.slice A23 (List.length (Sg.acc (Prod.fst (Sg.step u)))) c23, .slice B23 (List.length (Sg.mv (Prod.fst (Sg.step u)))) d23, .int .i64 (Sg.done (Prod.fst (Sg.step u))), .bool (Sg.und (Prod.fst (Sg.step u)))])))] [(206, .some true)] [(21, .box 28 [.slice A21 (List.length (Sg.acc u)) c21, .slice B21 (List.length (Sg.mv u)) d21, .int .i64 (Sg.done u), .bool (Sg.und u)]), (22, .box 28 [.slice A23 (List.length (Sg.acc (Prod.fst (Sg.step u)))) c23, .slice B23 (List.length (Sg.mv (Prod.fst (Sg.step u)))) d23, .int .i64 (Sg.done (Prod.fst (Sg.step u))), .bool (Sg.und (Prod.fst (Sg.step u)))]), (24, .box 28 [.slice A25 (List.length (Sg.acc (Prod.fst (Sg.step u)))) c25, .slice B25 (List.length (Sg.mv (Prod.fst (Sg.step u)))) d25, .int .i64 (Sg.done (Prod.fst (Sg.step u))), .bool (Sg.und (Prod.fst (Sg.step u)))])] [(21, .some (ρ1 21)), (22, .some (ρ1 22)), (24, .some (ρ1 24))] (by kernel_rfl) ?_
  refine J.one (Op1.call rfl rfl rfl rfl rfl rfl rfl rfl (implGood_ok _ _ u.step.1 U30 (ra24.mono (hx28'.trans (hx29.trans hx30))) (rm24.mono (hx28'.trans (hx29.trans hx30))) (by omega) (by omega)) fun v U31 hx31 hv => ?_)
  rw [hg'] at hv; subst hv
  refine J.to 3 [] 210 [(4, .v (.bool true))] [(4, .some true)] [(21, .box 28 [.slice A21 (List.length (Sg.acc u)) c21, .slice B21 (List.length (Sg.mv u)) d21, .int .i64 (Sg.done u), .bool (Sg.und u)]), (22, .box 28 [.slice A23 (List.length (Sg.acc (Prod.fst (Sg.step u)))) c23, .slice B23 (List.length (Sg.mv (Prod.fst (Sg.step u)))) d23, .int .i64 (Sg.done (Prod.fst (Sg.step u))), .bool (Sg.und (Prod.fst (Sg.step u)))]), (24, .box 28 [.slice A25 (List.length (Sg.acc (Prod.fst (Sg.step u)))) c25, .slice B25 (List.length (Sg.mv (Prod.fst (Sg.step u)))) d25, .int .i64 (Sg.done (Prod.fst (Sg.step u))), .bool (Sg.und (Prod.fst (Sg.step u)))])] [(21, .some (ρ1 21)), (22, .some (ρ1 22)), (24, .some (ρ1 24))] (by kernel_rfl) ?_
  exact J.ret ⟨_, rfl, .inl rfl⟩
end Go.Rx
end

section
open Go Go.Rx Go.Proofs
namespace Go.Proofs.Ytdefhkboeagkbaa.fnUndone
open Go.ChangeShapes Go.WideShapes Go.ChangeAt Go.RowKit Go.Rx
theorem datB : Dat Try.prog 22 rB.slice (fun xs => xs.length ≤ 9223372036854775807 ∧ ∀ x ∈ xs, 0 ≤ x ∧ x ≤ 255) :=
  (Dat.slice Try.underlying22 (by kernel_rfl) (by decide) (Dat.int Try.underlying5 (by kernel_rfl))).map id rfl (fun _ _ _ h => h) (fun x h => ⟨h.1, fun y hy => by
    have := h.2 y hy
    simp only [Lit.wf, Bool.and_eq_true, decide_eq_true_eq] at this
    exact this⟩)
theorem own : ownKnob Try.prog.godebug = none := by kernel_rfl
theorem laidOut : laidOutB Try.prog = true := by kernel_rfl
set_option maxRecDepth 100000 in
theorem lifted (os : Os) (started : os.Started) (H : Type) (enc : TypeId × Value → H) :
    ReturnsInHanded {} Try.checked os 3 .any (Rows.fnUndoneSpec.pre6 enc Try.prog Try.f3 Rows.fnUndoneRow.domain false) (Rows.fnUndoneSpec.post enc Try.prog Try.f3 false true false false) := by
  refine returnsInHanded_of_change_sized (C := Try.checked) own started (by kernel_rfl) Try.func3
    (ChangeSpec.witness6 (enc := enc) (C := Try.checked) false ⟨#[], #[.slice none 0 0, .slice none 0 0], []⟩ 8 (by kernel_rfl) (by kernel_rfl) (by kernel_rfl) (by kernel_rfl)) ?_
  intro W base args ds gs before hval0 hW hcnd hsz0 _
  have hval : ∀ (j : Nat) t v, Try.f3.params[j]? = some t → args[j]? = some v → Value.okWide Try.prog W .any base t v := hval0
  have hW' := hW
  obtain ⟨p, q, hA0, hV, rfl, hfz, hnd⟩ := hW
  have hA : DataW.TrodAll enc Try.prog W 0 (fun _ => true) true Try.f3.params.toList args.toList ds p := hA0
  rw [Try.params3] at hA hval
  obtain ⟨v0, vs0, d0, ds0, p0, q0, hargs, rfl, rfl, h0, r0⟩ := trodAll_cons hA
  obtain ⟨v1, vs1, d1, ds1, p1, q1, rfl, rfl, rfl, h1, r1⟩ := trodAll_cons r0
  obtain ⟨rfl, rfl, rfl⟩ := trodAll_nil r1
  obtain rfl : args = #[v0, v1] := by cases args; simp_all
  obtain ⟨rfl, rfl⟩ := trodVars_none hV
  have k0 := h0
  have k1 := h1
  have lt0 : ∀ x ∈ p0, x.block < W.heap.size := by obtain ⟨m, hm⟩ := k0; exact DataW.trod_lt m _ _ _ hm
  have lt1 : ∀ x ∈ p1, x.block < W.heap.size := by obtain ⟨m, hm⟩ := k1; exact DataW.trod_lt m _ _ _ hm
  obtain ⟨A0, n0, c0, rfl⟩ := okWide_slice Try.underlying22 (hval 0 22 v0 rfl rfl)
  obtain ⟨A1, n1, c1, rfl⟩ := okWide_slice Try.underlying22 (hval 1 22 v1 rfl rfl)
  obtain ⟨fuel, hf⟩ := h0
  obtain ⟨fuel', hf'⟩ := h1
  obtain ⟨xs, ⟨u0, e0, ra0⟩, l0, b0⟩ := datB.out hf
  obtain ⟨ys, ⟨u1, e1, ra1⟩, l1, b1⟩ := datB.out hf'
  obtain rfl : u0 = .slice A0 n0 c0 := (List.cons.inj e0).1.symm
  obtain rfl : u1 = .slice A1 n1 c1 := (List.cons.inj e1).1.symm
  clear hA0 hval0 hsz0 hval hf hf'
  refine ((undone_ok _ _ xs ys (World.hp W) ra0 ra1 b0 b1 l0 l1).below).mono fun e W' ⟨v, U', he, hv, bel⟩ => ?_
  subst he; subst hv
  exact ⟨_, rfl, _, _, _, [], _, [], hW', trodAll_mk1 (shut_bool Try.underlying4 _), (trodAll_cons_mk (Below.trod laidOut (by kernel_rfl) (of_decide_eq_true (by kernel_rfl)) k0 bel lt0) (trodAll_cons_mk (Below.trod laidOut (by kernel_rfl) (of_decide_eq_true (by kernel_rfl)) k1 bel lt1) trodAll_mk0)), rfl, bel.frame _, fun h => by cases h⟩
theorem over : Rows.fnUndoneRow.holds Try.pinned (OpenSpec.ofChange Rows.fnUndoneSpec) :=
  OpenClaim.holds_of_wide 3 Try.f3 rfl rfl rfl rfl rfl rfl rfl ⟨rfl, rfl, rfl, rfl, rfl⟩ rfl rfl rfl rfl rfl (by kernel_rfl) Try.func3 (by kernel_rfl)
    (of_decide_eq_true (by kernel_rfl)) (by unfold Func.isWrapper; first | (rw [if_pos (by decide +kernel)]; kernel_rfl) | (rw [if_neg (by decide +kernel)]; exact ⟨rfl, rfl⟩))
    (fun os started H enc _ => lifted os started H enc)
theorem proved : Rows.FnUndoneSaid := over
end Go.Proofs.Ytdefhkboeagkbaa.fnUndone
end
