/- What the program's functions on sagas and the laws' own functions compute, at whatever heap they read. -/
import Derived.Test.YtdefhkboeagkbaaSg1
import Derived.Test.YtdefhkboeagkbaaRx2
import Derived.RangeFuncNested
import Derived.RangeFuncCalls
import Derived.RangeFuncLeaves
import Derived.Shelf.Abstract
import Derived.WalkKit
import Derived.OwnWalkIn
import Derived.TacticsInMore
import Derived.LoopNIn
import Derived.LoopIn
import Derived.Test.YtdefhkboeagkbaaProg
set_option linter.unusedVariables false
set_option linter.unusedSimpArgs false
set_option linter.unusedSectionVars false
section
open Go Go.Rx Go.Proofs
set_option maxHeartbeats 1000000
namespace Go.Rx
theorem form_may {s : Sg} (hf : s.form = true) {q : Mv} (hq : q ∈ s.mv) : May s.acc q := by
  simp only [Sg.form, accB, Bool.and_eq_true, inB_iff, decide_eq_true_eq] at hf
  obtain ⟨⟨⟨⟨hacc, hal⟩, hml⟩, hd⟩, hmv⟩ := hf
  obtain ⟨m1, m2, m3, m4, m5⟩ := mvB_some (by omega) (List.all_eq_true.1 hmv q hq)
  exact ⟨hacc, m1, m2, m3, m4, m5⟩

theorem moved_ok (v : Value) (l : List Int) (m : Mv) (U : Hp) (hl : Rd rInt U v l) (hb : l.length < 2^40) (hmay : May l m) :
    OCall Try.prog 42 #[v, m.val] U fun r U' L => ∃ v', r = .tuple #[v', .bool (doOk l m)] ∧ arr v' 3 1 (doL l m).length (intC (doL l m)) L :=
  (moved_own v l m U hl hb hmay).mono fun r U' L _ ⟨v', e, h⟩ => ⟨v', e, by rw [doL_len]; exact h⟩

theorem stepM_ok (va vm : Value) (s : Sg) (U : Hp) (hf : s.form = true) :
    BCall Try.prog 33 [.bp 104 0] [(104, .box 28 [va, vm, .int .i64 s.done, .bool s.und]), (105, .own (sgOwn va vm s))] U fun r U' ML => ∃ va' vm', r = .bool s.step.2 ∧
      ML = [(104, .box 28 [va', vm', .int .i64 s.step.1.done, .bool s.step.1.und]), (105, .own (sgOwn va' vm' s.step.1))] := by
  have hf0 := hf
  simp only [Sg.form, accB, Bool.and_eq_true, inB_iff, decide_eq_true_eq] at hf
  obtain ⟨⟨⟨⟨hacc, hal⟩, hml⟩, hd⟩, hmv⟩ := hf
  refine BCall.of (args := [.bp 104 0]) E_ok mix Try.func33 (by kernel_rfl) rfl Try.ntmps33 (Nat.le_of_ble_eq_true rfl) rfl fun F w0 ρ => ?_
  refine J.own' (α := (∃ A c, va = .slice A s.acc.length c) ∧ ∃ A c, vm = .slice A s.mv.length c) (p' := fun _ => sgOwn va vm s) 105 rfl (fun h ⟨a, b, h1, h2, h3, h4⟩ => ⟨⟨arr_slice h1, arr_slice h2⟩, a, b, h1, h2, h3, h4⟩) ?_
  rintro ⟨⟨A, ca, rfl⟩, B, cb, rfl⟩
  refine J.lend 105 rfl fun L hL hdj => ?_
  obtain ⟨⟨A', ca', eA, hca, hA⟩, ⟨B', cb', eB, hcb, hB⟩⟩ := sgOwn_rd hL (Hp.un_r hdj)
  simp only [Value.slice.injEq] at eA eB
  obtain ⟨rfl, -, rfl⟩ := eA
  obtain ⟨rfl, -, rfl⟩ := eB
  have back : ∀ (σ : Sym) (U' : Hp) (V : Sg) (s' : List Rx.Item) (C : Ctx), σ.M 105 = .none → C.U0 = U → Ext (Hp.un U L) U' →
      (Ext U (Hp.less U' L) → J C s' { σ with K := fun t => (σ.K t).unwin, M := upd σ.M 105 (.own (sgOwn (.slice A s.acc.length ca) (.slice B s.mv.length cb) s)) } (Hp.less U' L)) → J C s' σ U' :=
    fun σ U' V s' C hk hU hx h => J.unlend 105 hk hL hx hdj (hU ▸ Ext.refl _) h
  cases hu : s.und with
  | true =>
    refine J.to 7 [] 104 [(0, .bp 104 0), (2, .v (.bool false))] [(2, .some false)] [(104, .box 28 [.slice A (List.length (Sg.acc s)) ca, .slice B (List.length (Sg.mv s)) cb, .int .i64 (Sg.done s), .bool true])] [(104, .some (ρ 104))] (by kernel_rfl) ?_
    refine J.any [104] [] [(104, ρ 104)] ⟨rfl, trivial⟩ fun ρ1 ⟨hρ1, _⟩ => ?_
    refine J.takeTo true [0, 1, 2, 3, 4, 5, 6, 7, 8, 9, 10, 11] 19 104 [(0, .bp 104 0), (2, .v (.bool false)), (6, .bp 104 0), (7, .bp 104 0), (8, .bp 104 3), (9, .v (.bool true)), (10, .v (.bool true)), (11, .bp 104 0), (12, .bp 104 0), (13, .bp 104 2), (14, .v (.int .i64 (Sg.done s))), (15, .v (.bool (Sg.done s == 0))), (16, .v (.bool (Sg.done s == 0))), (17, .v (.bool (Sg.done s == 0)))] [(2, .some false), (9, .some true), (10, .some true)] [(104, .box 28 [.slice A (List.length (Sg.acc s)) ca, .slice B (List.length (Sg.mv s)) cb, .int .i64 (Sg.done s), .bool true])] [(104, .some (ρ1 104))] (by first | exact Ext.refl _ | assumption | exact Ext.trans (by assumption) (by assumption)) (fun h => rfl) ⟨⟨rfl, rfl⟩, trivial⟩ rfl (by kernel_rfl) ?_
    refine J.brAt 17 rfl (fun h1 => ?_) (fun h1 => ?_)
    · refine J.takeTo true [12, 13, 14, 15, 16, 17, 18, 19, 20, 21, 22, 23, 24, 25, 26, 27, 28, 29, 30] 0 104 [(0, .bp 104 0), (2, .v (.bool false)), (6, .bp 104 0), (7, .bp 104 0), (8, .bp 104 3), (9, .v (.bool true)), (10, .v (.bool true)), (11, .bp 104 0), (12, .bp 104 0), (13, .bp 104 2), (14, .v (.int .i64 (Sg.done s))), (15, .v (.bool (Sg.done s == 0))), (16, .v (.bool (Sg.done s == 0))), (17, .v (.bool true)), (18, .v (.tuple (Array.mk []))), (19, .v (.tuple (Array.mk []))), (20, .v (.tuple (Array.mk []))), (21, .v (.tuple (Array.mk []))), (22, .v (.tuple (Array.mk []))), (23, .v (.tuple (Array.mk []))), (24, .v (.tuple (Array.mk []))), (25, .v (.tuple (Array.mk []))), (26, .v (.tuple (Array.mk []))), (27, .v (.tuple (Array.mk []))), (28, .v (.tuple (Array.mk []))), (29, .v (.tuple (Array.mk []))), (30, .v (.tuple (Array.mk []))), (31, .v (.tuple (Array.mk []))), (32, .v (.tuple (Array.mk []))), (33, .v (.tuple (Array.mk []))), (34, .v (.tuple (Array.mk []))), (35, .v (.bool true)), (5, .v (.bool true))] [(2, .some false), (9, .some true), (10, .some true), (17, .some true), (35, .some true), (5, .some true)] [(104, .box 28 [.slice A (List.length (Sg.acc s)) ca, .slice B (List.length (Sg.mv s)) cb, .int .i64 (Sg.done s), .bool true])] [(104, .some (ρ1 104))] (by first | exact Ext.refl _ | assumption | exact Ext.trans (by assumption) (by assumption)) (fun h => rfl) ⟨⟨rfl, rfl⟩, trivial⟩ rfl (by kernel_rfl) ?_
      refine J.adone' (by kernel_rfl) ?_
      refine J.to 5 [true] 104 [(0, .bp 104 0), (2, .v (.bool false))] [(2, .some false)] [(104, .box 28 [.slice A (List.length (Sg.acc s)) ca, .slice B (List.length (Sg.mv s)) cb, .int .i64 (Sg.done s), .bool true])] [(104, .some (ρ1 104))] (by kernel_rfl) ?_
      refine back _ _ s _ _ rfl rfl (Ext.refl _) fun hx => ?_
      have h1 : s.done = 0 := by simpa using h1
      have e : s.step = (s, false) := by simp [Sg.step, hu, h1]
      refine J.retB [(104, .box 28 [.slice A s.acc.length ca, .slice B s.mv.length cb, .int .i64 s.done, .bool true]), (105, .own (sgOwn (.slice A s.acc.length ca) (.slice B s.mv.length cb) s))] rfl
        ⟨⟨rfl, .inl (congrArg some hρ1)⟩, ⟨rfl, .inr ⟨_, rfl⟩⟩, trivial⟩ ⟨.slice A s.acc.length ca, .slice B s.mv.length cb, ?_, ?_⟩
      · rw [e]; rfl
      · rw [e, hu]
    · refine J.takeTo true [12, 13, 14, 15, 16, 17, 18, 19, 20, 21, 22, 23, 24, 25, 26, 27, 28, 29, 30] 0 104 [(0, .bp 104 0), (2, .v (.bool false)), (6, .bp 104 0), (7, .bp 104 0), (8, .bp 104 3), (9, .v (.bool true)), (10, .v (.bool true)), (11, .bp 104 0), (12, .bp 104 0), (13, .bp 104 2), (14, .v (.int .i64 (Sg.done s))), (15, .v (.bool (Sg.done s == 0))), (16, .v (.bool (Sg.done s == 0))), (17, .v (.bool false)), (18, .bp 104 0), (19, .bp 104 0), (20, .bp 104 3), (21, .v (.bool true)), (22, .v (.bool false)), (23, .v (.bool false)), (24, .v (.tuple (Array.mk []))), (25, .v (.tuple (Array.mk []))), (26, .v (.tuple (Array.mk []))), (27, .v (.tuple (Array.mk []))), (28, .v (.tuple (Array.mk []))), (29, .v (.tuple (Array.mk []))), (30, .v (.tuple (Array.mk []))), (31, .v (.tuple (Array.mk []))), (32, .v (.tuple (Array.mk []))), (33, .v (.tuple (Array.mk []))), (34, .v (.bool false)), (35, .v (.bool false)), (5, .v (.bool false))] [(2, .some false), (9, .some true), (10, .some true), (17, .some false), (21, .some true), (22, .some false), (23, .some false), (34, .some false), (35, .some false), (5, .some false)] [(104, .box 28 [.slice A (List.length (Sg.acc s)) ca, .slice B (List.length (Sg.mv s)) cb, .int .i64 (Sg.done s), .bool true])] [(104, .some (ρ1 104))] (by first | exact Ext.refl _ | assumption | exact Ext.trans (by assumption) (by assumption)) (fun h => rfl) ⟨⟨rfl, rfl⟩, trivial⟩ rfl (by kernel_rfl) ?_
      refine J.adone' (by kernel_rfl) ?_
      refine J.to 22 [false, true] 104 [(0, .bp 104 0), (2, .v (.bool false))] [(2, .some false)] [(104, .box 28 [.slice A (List.length (Sg.acc s)) ca, .slice B (List.length (Sg.mv s)) cb, .int .i64 (IntKind.wrap .i64 (Sg.done s - 1)), .bool true])] [(104, .some (ρ1 104))] (by kernel_rfl) ?_
      have h1 : s.done ≠ 0 := by simpa using h1
      have ew : IntKind.wrap .i64 (s.done - 1) = s.done - 1 := wr_id (by omega)
      rw [ew]
      refine J.any [104] [0, 17, 18, 19, 20, 21, 22] [(104, ρ1 104)] ⟨rfl, trivial⟩ fun ρ2 ⟨hρ2, _⟩ => ?_
      refine J.takeTo true [0, 1, 2, 3, 4, 5, 6, 7, 8, 9, 10, 11, 12] 10 104 [(0, .bp 104 0), (2, .v (.bool false)), (49, .bp 104 0), (50, .bp 104 0), (51, .bp 104 0), (52, .bp 104 0), (53, .v (.slice A (List.length (Sg.acc s)) ca)), (54, .bp 104 0), (55, .bp 104 0), (56, .bp 104 1), (57, .v (.slice B (List.length (Sg.mv s)) cb)), (58, .bp 104 0), (59, .bp 104 0), (60, .bp 104 2), (61, .v (.int .i64 (Sg.done s - 1)))] [(2, .some false)] [(104, .box 28 [.slice A (List.length (Sg.acc s)) ca, .slice B (List.length (Sg.mv s)) cb, .int .i64 (Sg.done s - 1), .bool true])] [(104, .some (ρ2 104))] (by first | exact Ext.refl _ | assumption | exact Ext.trans (by assumption) (by assumption)) (fun h => rfl) ⟨⟨rfl, rfl⟩, trivial⟩ rfl (by kernel_rfl) ?_
      refine J.aone (i := 13) (by kernel_rfl) (Op1.index (r := rMv) rfl rfl rfl rfl rfl ⟨_, _, _, _, _, rfl, rfl, rfl⟩ rfl rfl hB (by omega) (by omega) fun q b o' cs hq hcs => ⟨fun _ => ⟨Ext.refl _, ⟨rfl, rfl⟩, trivial⟩, ?_⟩)
      subst hcs
      have hq' : s.mv.getD (s.done - 1).toNat ⟨0, 0, 0⟩ = q := by
        rw [List.getD_eq_getElem?_getD, hq]; rfl
      have hmay := form_may hf0 (List.mem_of_getElem? hq)
      refine J.takeTo true [14] 8 104 [(0, .bp 104 0), (2, .v (.bool false)), (49, .bp 104 0), (50, .bp 104 0), (51, .bp 104 0), (52, .bp 104 0), (53, .v (.slice A (List.length (Sg.acc s)) ca)), (54, .bp 104 0), (55, .bp 104 0), (56, .bp 104 1), (57, .v (.slice B (List.length (Sg.mv s)) cb)), (58, .bp 104 0), (59, .bp 104 0), (60, .bp 104 2), (61, .v (.int .i64 (Sg.done s - 1))), (62, .win b o' [.int .i64 (Mv.a q), .int .i64 (Mv.b q), .int .i64 (Mv.n q)] 0), (63, .v (.agg (Array.mk [.int .i64 (Mv.a q), .int .i64 (Mv.b q), .int .i64 (Mv.n q)])))] [(2, .some false)] [(104, .box 28 [.slice A (List.length (Sg.acc s)) ca, .slice B (List.length (Sg.mv s)) cb, .int .i64 (Sg.done s - 1), .bool true])] [(104, .some (ρ2 104))] (by first | exact Ext.refl _ | assumption | exact Ext.trans (by assumption) (by assumption)) (fun h => rfl) ⟨⟨rfl, rfl⟩, trivial⟩ rfl (by kernel_rfl) ?_
      refine J.aone (i := 15) (by kernel_rfl) (Op1.call rfl rfl rfl rfl rfl rfl rfl rfl (back_ok q _) fun v U5 hx5 hv => ⟨fun _ => ⟨hx5, ⟨rfl, rfl⟩, trivial⟩, ?_⟩); subst hv
      refine J.aone (i := 16) (by kernel_rfl) (Op1.ocall rfl rfl rfl rfl rfl rfl rfl (moved_ok _ s.acc q.back _ ⟨A, ca, rfl, hca, hA.mono hx5⟩ (by omega) hmay.back) fun v U6 hx6 => ⟨fun _ => ⟨hx5.trans hx6, ⟨rfl, rfl⟩, trivial⟩, ?_⟩)
      refine J.own' (α := Σ' v', v = .tuple #[v', .bool (doOk s.acc q.back)]) (p' := fun x => arr x.1 3 1 (doL s.acc q.back).length (intC (doL s.acc q.back))) 65 rfl (fun h ⟨v', e, h1⟩ => ⟨⟨v', e⟩, h1⟩) ?_
      rintro ⟨v', rfl⟩
      refine J.arrS 65 rfl fun A2 c2 e2 => ?_
      subst e2
      refine J.to 0 [] 104 [(0, .bp 104 0), (2, .v (.bool false)), (49, .bp 104 0), (50, .bp 104 0), (51, .bp 104 0), (52, .bp 104 0), (53, .v (.slice A (List.length (Sg.acc s)) ca)), (54, .bp 104 0), (55, .bp 104 0), (56, .bp 104 1), (57, .v (.slice B (List.length (Sg.mv s)) cb)), (58, .bp 104 0), (59, .bp 104 0), (60, .bp 104 2), (61, .v (.int .i64 (Sg.done s - 1))), (62, .win b o' [.int .i64 (Mv.a q), .int .i64 (Mv.b q), .int .i64 (Mv.n q)] 0), (63, .v (.agg (Array.mk [.int .i64 (Mv.a q), .int .i64 (Mv.b q), .int .i64 (Mv.n q)]))), (64, .v (.agg (Array.mk [.int .i64 (Mv.a (Mv.back q)), .int .i64 (Mv.b (Mv.back q)), .int .i64 (Mv.n (Mv.back q))]))), (65, .v (.tuple (Array.mk [.slice A2 (List.length (doL (Sg.acc s) (Mv.back q))) c2, .bool (doOk (Sg.acc s) (Mv.back q))])))] [(2, .some false)] [(65, .own (arr (.slice A2 (List.length (doL (Sg.acc s) (Mv.back q))) c2) 3 1 (List.length (doL (Sg.acc s) (Mv.back q))) (intC (doL (Sg.acc s) (Mv.back q))))), (104, .box 28 [.slice A (List.length (Sg.acc s)) ca, .slice B (List.length (Sg.mv s)) cb, .int .i64 (Sg.done s - 1), .bool true])] [(104, .some (ρ2 104))] (by kernel_rfl) ?_
      refine J.takeTo false [17, 18, 19, 20, 21] 1 104 [(0, .bp 104 0), (2, .v (.bool false)), (49, .bp 104 0), (50, .bp 104 0), (51, .bp 104 0), (52, .bp 104 0), (53, .v (.slice A (List.length (Sg.acc s)) ca)), (54, .bp 104 0), (55, .bp 104 0), (56, .bp 104 1), (57, .v (.slice B (List.length (Sg.mv s)) cb)), (58, .bp 104 0), (59, .bp 104 0), (60, .bp 104 2), (61, .v (.int .i64 (Sg.done s - 1))), (62, .win b o' [.int .i64 (Mv.a q), .int .i64 (Mv.b q), .int .i64 (Mv.n q)] 0), (63, .v (.agg (Array.mk [.int .i64 (Mv.a q), .int .i64 (Mv.b q), .int .i64 (Mv.n q)]))), (64, .v (.agg (Array.mk [.int .i64 (Mv.a (Mv.back q)), .int .i64 (Mv.b (Mv.back q)), .int .i64 (Mv.n (Mv.back q))]))), (65, .v (.tuple (Array.mk [.slice A2 (List.length (doL (Sg.acc s) (Mv.back q))) c2, .bool (doOk (Sg.acc s) (Mv.back q))]))), (48, .v (.tuple (Array.mk [.slice A2 (List.length (doL (Sg.acc s) (Mv.back q))) c2, .bool (doOk (Sg.acc s) (Mv.back q))]))), (66, .v (.slice A2 (List.length (doL (Sg.acc s) (Mv.back q))) c2)), (68, .bp 104 0), (69, .bp 104 0)] [(2, .some false)] [(65, .own (arr (.slice A2 (List.length (doL (Sg.acc s) (Mv.back q))) c2) 3 1 (List.length (doL (Sg.acc s) (Mv.back q))) (intC (doL (Sg.acc s) (Mv.back q))))), (104, .box 28 [.slice A (List.length (Sg.acc s)) ca, .slice B (List.length (Sg.mv s)) cb, .int .i64 (Sg.done s - 1), .bool true])] [(104, .some (ρ2 104))] (by first | exact Ext.refl _ | assumption | exact Ext.trans (by assumption) (by assumption)) (fun h => by cases h) ⟨⟨rfl, rfl⟩, trivial⟩ rfl (by kernel_rfl) ?_
      refine J.aone (i := 22) (by kernel_rfl) (Op1.step rfl rfl rfl ⟨nofun, ?_⟩)
      refine J.adone' (by kernel_rfl) ?_
      refine back _ _ s _ _ rfl rfl (hx5.trans hx6) fun hx => ?_
      refine J.to 4 [] 104 [(0, .bp 104 0), (2, .v (.bool true))] [(2, .some true)] [(65, .own (arr (.slice A2 (List.length (doL (Sg.acc s) (Mv.back q))) c2) 3 1 (List.length (doL (Sg.acc s) (Mv.back q))) (intC (doL (Sg.acc s) (Mv.back q))))), (104, .box 28 [.slice A2 (List.length (doL (Sg.acc s) (Mv.back q))) c2, .slice B (List.length (Sg.mv s)) cb, .int .i64 (Sg.done s - 1), .bool true]), (105, .own (sgOwn (.slice A (List.length (Sg.acc s)) ca) (.slice B (List.length (Sg.mv s)) cb) s))] [(104, .some (ρ2 104))] (by kernel_rfl) ?_
      refine J.split 105 106 rfl rfl rfl ?_
      refine J.join 65 106 rfl rfl rfl ?_
      refine J.free 105 ?_
      refine J.own (k := 65) (k' := 105) (p := sgOwn (.slice A2 (doL s.acc q.back).length c2) (.slice B s.mv.length cb) ⟨doL s.acc q.back, s.mv, s.done - 1, true⟩) rfl (.inr rfl) (fun _ h => h) ?_
      refine J.to 0 [] 104 [(0, .bp 104 0), (2, .v (.bool true))] [(2, .some true)] [(104, .box 28 [.slice A2 (List.length (doL (Sg.acc s) (Mv.back q))) c2, .slice B (List.length (Sg.mv s)) cb, .int .i64 (Sg.done s - 1), .bool true]), (105, .own (sgOwn (.slice A2 (List.length (doL (Sg.acc s) (Mv.back q))) c2) (.slice B (List.length (Sg.mv s)) cb) (Sg.mk (doL (Sg.acc s) (Mv.back q)) (Sg.mv s) (Sg.done s - 1) true)))] [(104, .some (ρ2 104))] (by kernel_rfl) ?_
      have e : s.step = (⟨doL s.acc q.back, s.mv, s.done - 1, true⟩, true) := by
        simp only [Sg.step, hu, h1, hq', if_true, if_false]
        rw [show wr (s.done - 1) = s.done - 1 from ew]
      refine J.retB [(104, .box 28 [.slice A2 (doL s.acc q.back).length c2, .slice B s.mv.length cb, .int .i64 (s.done - 1), .bool true]), (105, .own (sgOwn (.slice A2 (doL s.acc q.back).length c2) (.slice B s.mv.length cb) ⟨doL s.acc q.back, s.mv, s.done - 1, true⟩))] rfl
        ⟨⟨rfl, .inl (congrArg some (hρ2.trans hρ1))⟩, ⟨rfl, .inr ⟨_, rfl⟩⟩, trivial⟩ ⟨.slice A2 (doL s.acc q.back).length c2, .slice B s.mv.length cb, ?_, ?_⟩
      · rw [e]; rfl
      · rw [e]
  | false =>
    refine J.to 7 [] 104 [(0, .bp 104 0), (2, .v (.bool false))] [(2, .some false)] [(104, .box 28 [.slice A (List.length (Sg.acc s)) ca, .slice B (List.length (Sg.mv s)) cb, .int .i64 (Sg.done s), .bool false])] [(104, .some (ρ 104))] (by kernel_rfl) ?_
    refine J.any [104] [] [(104, ρ 104)] ⟨rfl, trivial⟩ fun ρ1 ⟨hρ1, _⟩ => ?_
    refine J.takeTo true [0, 1, 2, 3, 4, 5, 6, 7, 8, 9, 10, 11, 12, 13, 14, 15, 16, 17, 18, 19, 20, 21, 22, 23, 24, 25, 26, 27, 28, 29, 30] 0 104 [(0, .bp 104 0), (2, .v (.bool false)), (6, .bp 104 0), (7, .bp 104 0), (8, .bp 104 3), (9, .v (.bool false)), (10, .v (.bool false)), (11, .v (.tuple (Array.mk []))), (12, .v (.tuple (Array.mk []))), (13, .v (.tuple (Array.mk []))), (14, .v (.tuple (Array.mk []))), (15, .v (.tuple (Array.mk []))), (16, .v (.bool false)), (17, .v (.bool false)), (18, .bp 104 0), (19, .bp 104 0), (20, .bp 104 3), (21, .v (.bool false)), (22, .v (.bool true)), (23, .v (.bool true)), (24, .bp 104 0), (25, .bp 104 0), (26, .bp 104 2), (27, .v (.int .i64 (Sg.done s))), (28, .bp 104 0), (29, .bp 104 0), (30, .bp 104 1), (31, .v (.slice B (List.length (Sg.mv s)) cb)), (32, .v (.int .i64 (↑(List.length (Sg.mv s)) : Int))), (33, .v (.bool (Sg.done s == (↑(List.length (Sg.mv s)) : Int)))), (34, .v (.bool (Sg.done s == (↑(List.length (Sg.mv s)) : Int)))), (35, .v (.bool (Sg.done s == (↑(List.length (Sg.mv s)) : Int)))), (5, .v (.bool (Sg.done s == (↑(List.length (Sg.mv s)) : Int))))] [(2, .some false), (9, .some false), (10, .some false), (16, .some false), (17, .some false), (21, .some false), (22, .some true), (23, .some true)] [(104, .box 28 [.slice A (List.length (Sg.acc s)) ca, .slice B (List.length (Sg.mv s)) cb, .int .i64 (Sg.done s), .bool false])] [(104, .some (ρ1 104))] (by first | exact Ext.refl _ | assumption | exact Ext.trans (by assumption) (by assumption)) (fun h => rfl) ⟨⟨rfl, rfl⟩, trivial⟩ rfl (by kernel_rfl) ?_
    refine J.adone' (by kernel_rfl) ?_
    refine J.to 0 [] 104 [(0, .bp 104 0), (2, .v (.bool false)), (5, .v (.bool (Sg.done s == (↑(List.length (Sg.mv s)) : Int))))] [(2, .some false)] [(104, .box 28 [.slice A (List.length (Sg.acc s)) ca, .slice B (List.length (Sg.mv s)) cb, .int .i64 (Sg.done s), .bool false])] [(104, .some (ρ1 104))] (by kernel_rfl) ?_
    refine J.br rfl rfl (fun h1 => ?_) (fun h1 => ?_)
    · refine J.to 5 [true] 104 [(0, .bp 104 0), (2, .v (.bool false))] [(2, .some false)] [(104, .box 28 [.slice A (List.length (Sg.acc s)) ca, .slice B (List.length (Sg.mv s)) cb, .int .i64 (Sg.done s), .bool false])] [(104, .some (ρ1 104))] (by kernel_rfl) ?_
      refine back _ _ s _ _ rfl rfl (Ext.refl _) fun hx => ?_
      have h1 : s.done = s.mv.length := by simpa using h1
      have e : s.step = (s, false) := by simp [Sg.step, hu, h1]
      refine J.retB [(104, .box 28 [.slice A s.acc.length ca, .slice B s.mv.length cb, .int .i64 s.done, .bool false]), (105, .own (sgOwn (.slice A s.acc.length ca) (.slice B s.mv.length cb) s))] rfl
        ⟨⟨rfl, .inl (congrArg some hρ1)⟩, ⟨rfl, .inr ⟨_, rfl⟩⟩, trivial⟩ ⟨.slice A s.acc.length ca, .slice B s.mv.length cb, ?_, ?_⟩
      · rw [e]; rfl
      · rw [e, hu]
    · refine J.to 13 [false, false] 104 [(0, .bp 104 0), (2, .v (.bool false))] [(2, .some false)] [(104, .box 28 [.slice A (List.length (Sg.acc s)) ca, .slice B (List.length (Sg.mv s)) cb, .int .i64 (Sg.done s), .bool false])] [(104, .some (ρ1 104))] (by kernel_rfl) ?_
      have h1 : s.done ≠ s.mv.length := by simpa using h1
      refine J.any [104] [15, 16, 17, 18, 19] [(104, ρ1 104)] ⟨rfl, trivial⟩ fun ρ2 ⟨hρ2, _⟩ => ?_
      refine J.takeTo true [0, 1, 2, 3, 4, 5, 6, 7, 8, 9, 10, 11] 8 104 [(0, .bp 104 0), (2, .v (.bool false)), (71, .bp 104 0), (72, .bp 104 0), (73, .bp 104 0), (74, .v (.slice A (List.length (Sg.acc s)) ca)), (75, .bp 104 0), (76, .bp 104 0), (77, .bp 104 1), (78, .v (.slice B (List.length (Sg.mv s)) cb)), (79, .bp 104 0), (80, .bp 104 0), (81, .bp 104 2), (82, .v (.int .i64 (Sg.done s)))] [(2, .some false)] [(104, .box 28 [.slice A (List.length (Sg.acc s)) ca, .slice B (List.length (Sg.mv s)) cb, .int .i64 (Sg.done s), .bool false])] [(104, .some (ρ2 104))] (by first | exact Ext.refl _ | assumption | exact Ext.trans (by assumption) (by assumption)) (fun h => rfl) ⟨⟨rfl, rfl⟩, trivial⟩ rfl (by kernel_rfl) ?_
      refine J.aone (i := 12) (by kernel_rfl) (Op1.index (r := rMv) rfl rfl rfl rfl rfl ⟨_, _, _, _, _, rfl, rfl, rfl⟩ rfl rfl hB (by omega) (by omega) fun q b o' cs hq hcs => ⟨fun _ => ⟨Ext.refl _, ⟨rfl, rfl⟩, trivial⟩, ?_⟩)
      subst hcs
      have hq' : s.mv.getD s.done.toNat ⟨0, 0, 0⟩ = q := by
        rw [List.getD_eq_getElem?_getD, hq]; rfl
      have hmay := form_may hf0 (List.mem_of_getElem? hq)
      refine J.takeTo true [13] 6 104 [(0, .bp 104 0), (2, .v (.bool false)), (71, .bp 104 0), (72, .bp 104 0), (73, .bp 104 0), (74, .v (.slice A (List.length (Sg.acc s)) ca)), (75, .bp 104 0), (76, .bp 104 0), (77, .bp 104 1), (78, .v (.slice B (List.length (Sg.mv s)) cb)), (79, .bp 104 0), (80, .bp 104 0), (81, .bp 104 2), (82, .v (.int .i64 (Sg.done s))), (83, .win b o' [.int .i64 (Mv.a q), .int .i64 (Mv.b q), .int .i64 (Mv.n q)] 0), (84, .v (.agg (Array.mk [.int .i64 (Mv.a q), .int .i64 (Mv.b q), .int .i64 (Mv.n q)])))] [(2, .some false)] [(104, .box 28 [.slice A (List.length (Sg.acc s)) ca, .slice B (List.length (Sg.mv s)) cb, .int .i64 (Sg.done s), .bool false])] [(104, .some (ρ2 104))] (by first | exact Ext.refl _ | assumption | exact Ext.trans (by assumption) (by assumption)) (fun h => rfl) ⟨⟨rfl, rfl⟩, trivial⟩ rfl (by kernel_rfl) ?_
      refine J.aone (i := 14) (by kernel_rfl) (Op1.ocall rfl rfl rfl rfl rfl rfl rfl (moved_ok _ s.acc q _ ⟨A, ca, rfl, hca, hA⟩ (by omega) hmay) fun v U6 hx6 => ⟨fun _ => ⟨hx6, ⟨rfl, rfl⟩, trivial⟩, ?_⟩)
      refine J.own' (α := Σ' v', v = .tuple #[v', .bool (doOk s.acc q)]) (p' := fun x => arr x.1 3 1 (doL s.acc q).length (intC (doL s.acc q))) 85 rfl (fun h ⟨v', e, h1⟩ => ⟨⟨v', e⟩, h1⟩) ?_
      rintro ⟨v', rfl⟩
      refine J.arrS 85 rfl fun A2 c2 e2 => ?_
      subst e2
      refine J.to 0 [] 104 [(0, .bp 104 0), (2, .v (.bool false)), (71, .bp 104 0), (72, .bp 104 0), (73, .bp 104 0), (74, .v (.slice A (List.length (Sg.acc s)) ca)), (75, .bp 104 0), (76, .bp 104 0), (77, .bp 104 1), (78, .v (.slice B (List.length (Sg.mv s)) cb)), (79, .bp 104 0), (80, .bp 104 0), (81, .bp 104 2), (82, .v (.int .i64 (Sg.done s))), (83, .win b o' [.int .i64 (Mv.a q), .int .i64 (Mv.b q), .int .i64 (Mv.n q)] 0), (84, .v (.agg (Array.mk [.int .i64 (Mv.a q), .int .i64 (Mv.b q), .int .i64 (Mv.n q)]))), (85, .v (.tuple (Array.mk [.slice A2 (List.length (doL (Sg.acc s) q)) c2, .bool (doOk (Sg.acc s) q)])))] [(2, .some false)] [(85, .own (arr (.slice A2 (List.length (doL (Sg.acc s) q)) c2) 3 1 (List.length (doL (Sg.acc s) q)) (intC (doL (Sg.acc s) q)))), (104, .box 28 [.slice A (List.length (Sg.acc s)) ca, .slice B (List.length (Sg.mv s)) cb, .int .i64 (Sg.done s), .bool false])] [(104, .some (ρ2 104))] (by kernel_rfl) ?_
      refine J.takeTo false [15, 16, 17, 18, 19] 0 104 [(0, .bp 104 0), (2, .v (.bool false)), (71, .bp 104 0), (72, .bp 104 0), (73, .bp 104 0), (74, .v (.slice A (List.length (Sg.acc s)) ca)), (75, .bp 104 0), (76, .bp 104 0), (77, .bp 104 1), (78, .v (.slice B (List.length (Sg.mv s)) cb)), (79, .bp 104 0), (80, .bp 104 0), (81, .bp 104 2), (82, .v (.int .i64 (Sg.done s))), (83, .win b o' [.int .i64 (Mv.a q), .int .i64 (Mv.b q), .int .i64 (Mv.n q)] 0), (84, .v (.agg (Array.mk [.int .i64 (Mv.a q), .int .i64 (Mv.b q), .int .i64 (Mv.n q)]))), (85, .v (.tuple (Array.mk [.slice A2 (List.length (doL (Sg.acc s) q)) c2, .bool (doOk (Sg.acc s) q)]))), (70, .v (.tuple (Array.mk [.slice A2 (List.length (doL (Sg.acc s) q)) c2, .bool (doOk (Sg.acc s) q)]))), (86, .v (.slice A2 (List.length (doL (Sg.acc s) q)) c2)), (87, .v (.bool (doOk (Sg.acc s) q))), (3, .v (.slice A2 (List.length (doL (Sg.acc s) q)) c2)), (4, .v (.bool (doOk (Sg.acc s) q)))] [(2, .some false)] [(85, .own (arr (.slice A2 (List.length (doL (Sg.acc s) q)) c2) 3 1 (List.length (doL (Sg.acc s) q)) (intC (doL (Sg.acc s) q)))), (104, .box 28 [.slice A (List.length (Sg.acc s)) ca, .slice B (List.length (Sg.mv s)) cb, .int .i64 (Sg.done s), .bool false])] [(104, .some (ρ2 104))] (by first | exact Ext.refl _ | assumption | exact Ext.trans (by assumption) (by assumption)) (fun h => by cases h) ⟨⟨rfl, rfl⟩, trivial⟩ rfl (by kernel_rfl) ?_
      refine J.adone' (by kernel_rfl) ?_
      refine J.to 6 [] 104 [(0, .bp 104 0), (2, .v (.bool false)), (3, .v (.slice A2 (List.length (doL (Sg.acc s) q)) c2)), (89, .v (.bool !doOk (Sg.acc s) q))] [(2, .some false)] [(85, .own (arr (.slice A2 (List.length (doL (Sg.acc s) q)) c2) 3 1 (List.length (doL (Sg.acc s) q)) (intC (doL (Sg.acc s) q)))), (104, .box 28 [.slice A (List.length (Sg.acc s)) ca, .slice B (List.length (Sg.mv s)) cb, .int .i64 (Sg.done s), .bool false])] [(104, .some (ρ2 104))] (by kernel_rfl) ?_
      refine J.br rfl rfl (fun h3 => ?_) (fun h3 => ?_)
      · refine J.to 12 [true] 104 [(0, .bp 104 0), (3, .v (.slice A2 (List.length (doL (Sg.acc s) q)) c2)), (2, .v (.bool true))] [(2, .some true)] [(85, .own (arr (.slice A2 (List.length (doL (Sg.acc s) q)) c2) 3 1 (List.length (doL (Sg.acc s) q)) (intC (doL (Sg.acc s) q)))), (104, .box 28 [.slice A (List.length (Sg.acc s)) ca, .slice B (List.length (Sg.mv s)) cb, .int .i64 (Sg.done s), .bool true])] [(104, .some (ρ2 104))] (by kernel_rfl) ?_
        refine back _ _ s _ _ rfl rfl hx6 fun hx => ?_
        have h3 : doOk s.acc q = false := by simpa using h3
        have e : s.step = ({ s with und := true }, true) := by simp only [Sg.step, hu, h1, hq', h3, if_false, Bool.false_eq_true]
        refine J.retB [(104, .box 28 [.slice A s.acc.length ca, .slice B s.mv.length cb, .int .i64 s.done, .bool true]), (105, .own (sgOwn (.slice A s.acc.length ca) (.slice B s.mv.length cb) s))] rfl
          ⟨⟨rfl, .inl (congrArg some (hρ2.trans hρ1))⟩, ⟨rfl, .inr ⟨_, rfl⟩⟩, trivial⟩ ⟨.slice A s.acc.length ca, .slice B s.mv.length cb, ?_, ?_⟩
        · rw [e]; rfl
        · rw [e]; rfl
      · have h3 : doOk s.acc q = true := by simpa using h3
        have ew : IntKind.wrap .i64 (s.done + 1) = s.done + 1 := wr_id (by omega)
        refine J.to 25 [false] 104 [(2, .v (.bool true))] [(2, .some true)] [(85, .own (arr (.slice A2 (List.length (doL (Sg.acc s) q)) c2) 3 1 (List.length (doL (Sg.acc s) q)) (intC (doL (Sg.acc s) q)))), (104, .box 28 [.slice A2 (List.length (doL (Sg.acc s) q)) c2, .slice B (List.length (Sg.mv s)) cb, .int .i64 (IntKind.wrap .i64 (Sg.done s + 1)), .bool false])] [(104, .some (ρ2 104))] (by kernel_rfl) ?_
        rw [ew]
        refine back _ _ s _ _ rfl rfl hx6 fun hx => ?_
        refine J.to 0 [] 104 [(2, .v (.bool true))] [(2, .some true)] [(85, .own (arr (.slice A2 (List.length (doL (Sg.acc s) q)) c2) 3 1 (List.length (doL (Sg.acc s) q)) (intC (doL (Sg.acc s) q)))), (104, .box 28 [.slice A2 (List.length (doL (Sg.acc s) q)) c2, .slice B (List.length (Sg.mv s)) cb, .int .i64 (Sg.done s + 1), .bool false]), (105, .own (sgOwn (.slice A (List.length (Sg.acc s)) ca) (.slice B (List.length (Sg.mv s)) cb) s))] [(104, .some (ρ2 104))] (by kernel_rfl) ?_
        refine J.split 105 106 rfl rfl rfl ?_
        refine J.join 85 106 rfl rfl rfl ?_
        refine J.free 105 ?_
        refine J.own (k := 85) (k' := 105) (p := sgOwn (.slice A2 (doL s.acc q).length c2) (.slice B s.mv.length cb) ⟨doL s.acc q, s.mv, s.done + 1, false⟩) rfl (.inr rfl) (fun _ h => h) ?_
        refine J.to 0 [] 104 [(2, .v (.bool true))] [(2, .some true)] [(104, .box 28 [.slice A2 (List.length (doL (Sg.acc s) q)) c2, .slice B (List.length (Sg.mv s)) cb, .int .i64 (Sg.done s + 1), .bool false]), (105, .own (sgOwn (.slice A2 (List.length (doL (Sg.acc s) q)) c2) (.slice B (List.length (Sg.mv s)) cb) (Sg.mk (doL (Sg.acc s) q) (Sg.mv s) (Sg.done s + 1) false)))] [(104, .some (ρ2 104))] (by kernel_rfl) ?_
        have e : s.step = (⟨doL s.acc q, s.mv, s.done + 1, false⟩, true) := by
          simp only [Sg.step, hu, h1, hq', h3, if_true, if_false, Bool.false_eq_true]
          rw [show wr (s.done + 1) = s.done + 1 from ew]
        refine J.retB [(104, .box 28 [.slice A2 (doL s.acc q).length c2, .slice B s.mv.length cb, .int .i64 (s.done + 1), .bool false]), (105, .own (sgOwn (.slice A2 (doL s.acc q).length c2) (.slice B s.mv.length cb) ⟨doL s.acc q, s.mv, s.done + 1, false⟩))] rfl
          ⟨⟨rfl, .inl (congrArg some (hρ2.trans hρ1))⟩, ⟨rfl, .inr ⟨_, rfl⟩⟩, trivial⟩ ⟨.slice A2 (doL s.acc q).length c2, .slice B s.mv.length cb, ?_, ?_⟩
        · rw [e]; rfl
        · rw [e]
end Go.Rx
end

section
open Go Go.Rx Go.Proofs
set_option maxHeartbeats 1000000
namespace Go.Rx
theorem indexMv_ok (f : FuncId) (caps : List Value) (p : Mv → Bool) (v : Value) (l : List Mv) (U : Hp) (hl : Rd rMv U v l) (hb : l.length < 2^62)
    (hf : ∀ x ∈ l, ∀ U', Ext U U' → PCall Try.prog f ([x.val] ++ caps).toArray U' fun r _ => r = .bool (p x)) :
    PCall Try.prog 64 #[v, .func (.func f) #[] caps.toArray] U fun r U' => ∃ n, r = .int .i64 n ∧ decide (n ≥ 0) = l.any p := by
  obtain ⟨A, c, rfl, hc, hA⟩ := hl
  refine OCall.of (args := [.slice A l.length c, .func (.func f) #[] caps.toArray]) E_ok mix Try.func64 (by kernel_rfl) rfl Try.ntmps64 (Nat.le_of_ble_eq_true rfl) fun F w0 => ?_
  refine J.to 12 [] 19 [(0, .v (.slice A (List.length l) c)), (1, .v (.func (.func f) (Array.mk []) (Array.mk caps))), (4, .v (.int .i64 0)), (7, .v (.int .i64 (↑(List.length l) : Int))), (8, .v (.int .i64 0))] [] [] [] (by kernel_rfl) ?_
  refine J.loopK 19 [] (fun i : Nat => [(0, .v (.slice A l.length c)), (1, .v (.func (.func f) #[] caps.toArray)), (7, .v (.int .i64 l.length)), (8, .v (.int .i64 i))]) (fun _ => [])
    (fun i U' => i ≤ l.length ∧ (l.take i).any p = false ∧ Arr rMv U' A l) (fun i => l.length - i) 0 ⟨Nat.zero_le _, rfl, hA⟩ (by kernel_rfl) fun i U' ⟨h1, h2, hA⟩ hx => ?_
  refine J.to 5 [] 19 [(0, .v (.slice A (List.length l) c)), (1, .v (.func (.func f) (Array.mk []) (Array.mk caps))), (7, .v (.int .i64 (↑(List.length l) : Int))), (8, .v (.int .i64 (↑i : Int))), (9, .v (.bool (Decidable.decide ((↑i : Int) < (↑(List.length l) : Int)))))] [] [] [] (by kernel_rfl) ?_
  refine J.br rfl rfl (fun hb => ?_) (fun hb => ?_)
  · refine J.to 14 [true] 19 [(0, .v (.slice A (List.length l) c)), (1, .v (.func (.func f) (Array.mk []) (Array.mk caps))), (7, .v (.int .i64 (↑(List.length l) : Int))), (8, .v (.int .i64 (↑i : Int))), (5, .v (.int .i64 (↑i : Int))), (11, .v (.func (.func f) (Array.mk []) (Array.mk caps))), (12, .v (.slice A (List.length l) c)), (13, .v (.int .i64 (↑i : Int)))] [] [] [] (by kernel_rfl) ?_
    replace hb : (i : Int) < l.length := of_decide_eq_true hb
    have hlt : i < l.length := by omega
    refine J.one (Op1.index (r := rMv) rfl rfl rfl rfl rfl ⟨_, _, _, _, _, rfl, rfl, rfl⟩ rfl rfl hA (by omega) hb fun q b o' cs hq hcs => ?_)
    subst hcs
    have hq' : l[i] = q := by
      have := (List.getElem?_eq_some_iff.1 hq).2
      simpa using this
    have htake : l.take (i + 1) = l.take i ++ [q] := by rw [← hq', List.take_succ_eq_append_getElem hlt]
    refine J.to 1 [] 19 [(0, .v (.slice A (List.length l) c)), (1, .v (.func (.func f) (Array.mk []) (Array.mk caps))), (5, .v (.int .i64 (↑i : Int))), (7, .v (.int .i64 (↑(List.length l) : Int))), (8, .v (.int .i64 (↑i : Int))), (11, .v (.func (.func f) (Array.mk []) (Array.mk caps))), (15, .v (.agg (Array.mk [.int .i64 (Mv.a q), .int .i64 (Mv.b q), .int .i64 (Mv.n q)])))] [] [] [] (by kernel_rfl) ?_
    refine J.one (Op1.vcallP rfl rfl rfl rfl rfl rfl rfl rfl rfl (hf q (hq' ▸ List.getElem_mem hlt) U' hx) fun v U2 hx2 hv => ?_)
    subst hv
    refine J.to 1 [] 19 [(0, .v (.slice A (List.length l) c)), (1, .v (.func (.func f) (Array.mk []) (Array.mk caps))), (5, .v (.int .i64 (↑i : Int))), (7, .v (.int .i64 (↑(List.length l) : Int))), (8, .v (.int .i64 (↑i : Int))), (16, .v (.bool (p q)))] [] [] [] (by kernel_rfl) ?_
    refine J.br rfl rfl (fun hb => ?_) (fun hb => ?_)
    · refine J.to 6 [true] 19 [(0, .v (.slice A (List.length l) c)), (1, .v (.func (.func f) (Array.mk []) (Array.mk caps))), (7, .v (.int .i64 (↑(List.length l) : Int))), (8, .v (.int .i64 (↑i : Int))), (4, .v (.int .i64 (↑i : Int)))] [] [] [] (by kernel_rfl) ?_
      refine J.ret ⟨_, rfl, .inl ⟨i, rfl, ?_⟩⟩
      have : l.any p = true := List.any_eq_true.2 ⟨q, hq' ▸ List.getElem_mem hlt, hb⟩
      rw [this]; simp
    · refine J.to 7 [false] 19 [(0, .v (.slice A (List.length l) c)), (1, .v (.func (.func f) (Array.mk []) (Array.mk caps))), (7, .v (.int .i64 (↑(List.length l) : Int))), (8, .v (.int .i64 (IntKind.wrap .i64 ((↑i : Int) + 1))))] [] [] [] (by kernel_rfl) ?_
      rw [show IntKind.wrap .i64 ((i : Int) + 1) = ((i + 1 : Nat) : Int) from wr_id (by omega)]
      refine J.againK (i + 1) (by kernel_rfl) ⟨by omega, ?_, hA.mono hx2⟩ (by omega)
      rw [htake, List.any_append, h2]
      simp [hb]
  · refine J.to 6 [false] 19 [(4, .v (.int .i64 (-1)))] [] [] [] (by kernel_rfl) ?_
    replace hb : ¬ (i : Int) < l.length := of_decide_eq_false hb
    obtain rfl : i = l.length := by omega
    refine J.ret ⟨_, rfl, .inl ⟨-1, rfl, ?_⟩⟩
    rw [List.take_length] at h2
    rw [h2]; simp

theorem containsMv_ok (f : FuncId) (caps : List Value) (p : Mv → Bool) (v : Value) (l : List Mv) (U : Hp) (hl : Rd rMv U v l) (hb : l.length < 2^62)
    (hf : ∀ x ∈ l, ∀ U', Ext U U' → PCall Try.prog f ([x.val] ++ caps).toArray U' fun r _ => r = .bool (p x)) :
    PCall Try.prog 36 #[v, .func (.func f) #[] caps.toArray] U fun r U' => r = .bool (l.any p) := by
  refine OCall.of (args := [v, .func (.func f) #[] caps.toArray]) E_ok mix Try.func36 (by kernel_rfl) rfl Try.ntmps36 (Nat.le_of_ble_eq_true rfl) fun F w0 => ?_
  refine J.to 8 [] 9 [(4, .v (.bool false)), (5, .v v), (6, .v (.func (.func f) (Array.mk []) (Array.mk caps)))] [(4, .some false)] [] [] (by kernel_rfl) ?_
  refine J.one (Op1.call rfl rfl rfl rfl rfl rfl rfl rfl (indexMv_ok f caps p v l U hl hb hf) fun v U1 hx ⟨n, hv, hn⟩ => ?_); subst hv
  refine J.to 3 [] 9 [(4, .v (.bool (Decidable.decide (n ≥ 0))))] [] [] [] (by kernel_rfl) ?_
  refine J.ret ⟨_, rfl, .inl ?_⟩
  show Value.bool (decide (n ≥ 0)) = _
  rw [hn]

theorem notMove_ok (m : Mv) (g n : Nat) (A : Option Addr) (ca : Nat) (vm dn un : Value) (U : Hp) (hc : ∀ (j : Nat) c, [Value.slice A n ca, vm, dn, un][j]? = some c → U.cell? g j = some c) :
    PCall Try.prog 37 #[m.val, .pointer (some ⟨g, 0, none⟩)] U fun v U' => v = .bool (!mvB n m) := by
  refine OCall.of (args := [m.val, .pointer (some ⟨g, 0, none⟩)]) E_ok mix Try.func37 (by kernel_rfl) rfl Try.ntmps37 (Nat.le_of_ble_eq_true rfl) fun F w0 => ?_
  refine J.win 1 [Value.slice A n ca, vm, dn, un] rfl (fun j c hj => by rw [Nat.zero_add]; exact hc j c hj) ?_
  refine J.to 11 [] 10 [(3, .v (.bool false)), (4, .v (.agg (Array.mk [.int .i64 (Mv.a m), .int .i64 (Mv.b m), .int .i64 (Mv.n m)]))), (7, .v (.int .i64 (↑n : Int)))] [(3, .some false)] [] [] (by kernel_rfl) ?_
  refine J.one (Op1.call rfl rfl rfl rfl rfl rfl rfl rfl (moveOk_ok m n _) fun v U1 hx hv => ?_); subst hv
  refine J.to 3 [] 10 [(3, .v (.bool !mvB (↑n : Int) m))] [] [] [] (by kernel_rfl) ?_
  exact J.ret ⟨_, rfl, .inl rfl⟩
end Go.Rx
end

section
namespace Go.Proofs
open Go.RowKit Go.Shelf
attribute [local go_sem] Oper.semAt_some
set_option maxRecDepth 100000 in
set_option maxHeartbeats 2000000 in

theorem back1_in (A : Option Addr) (l Bs b off len cap : Nat) (hA : 0 < len → A = some ⟨b, off, none⟩) (cell : Nat → Value × Value × Value) (J : Nat → World → Prop) (Jx : World → Prop) (hlen : len < 2 ^ 40)
    (hJ : ∀ k W, J k W → W.cell? ⟨Bs, 0, none⟩ = some (.slice A len cap) ∧ ∀ j, j < len → W.cell? ⟨b, off + j * 3, none⟩ = some (cell j).1 ∧ W.cell? ⟨b, off + j * 3 + 1, none⟩ = some (cell j).2.1 ∧ W.cell? ⟨b, off + j * 3 + 2, none⟩ = some (cell j).2.2)
    (hY : ∀ k W, J (k + 1) W → k < len → YieldAt Fence.wide 0 Try.prog l #[.int .i64 (k : Int), .agg #[(cell k).1, (cell k).2.1, (cell k).2.2]] W fun e W' =>
      (e = .returned (.bool true) ∧ J k W') ∨ (e = .returned (.bool false) ∧ Jx W'))
    (W : World) (h0 : J len W) :
    CallsIn Fence.wide 1 Try.prog 68 #[.func (.yield l) #[] #[], .pointer (some ⟨Bs, 0, none⟩)] W fun e W' => (∃ v, e = .returned v) ∧ (J 0 W' ∨ Jx W') := by
  refine callsIn_of_wp Try.func68 rfl trivial ?_ rfl
  simp only [Try.ntmps68, List.size_toArray, List.length_cons, List.length_nil, Nat.reduceAdd, Nat.reduceSub, Array.replicate_succ, Array.replicate_zero, List.push_toArray, List.append_toArray, List.nil_append, List.cons_append]
  have hBs := (hJ len W h0).1
  have h40 : len ≤ 1099511627776 := by omega
  gi_wp2
  gi_loopw [3] (fun i wr => ∃ k : Nat, k ≤ len ∧ i = .int .i64 ((k : Int) - 1) ∧ J k wr)
    (fun i _ => (intOf i + 1).toNat)
  case atStart => exact ⟨len, Nat.le_refl _, by first | rfl | skip, h0⟩
  case round =>
    obtain ⟨k, hk, rfl, hJs⟩ := hrel
    cases k with
    | zero =>
      gi_wp2
      go_end0
      exact ⟨⟨_, rfl⟩, .inl hJs⟩
    | succ k =>
      obtain ⟨hs, hcs⟩ := hJ _ _ hJs
      obtain rfl := hA (by omega)
      obtain ⟨c0, c1, c2⟩ := hcs k (by omega)
      obtain ⟨fn, tmps, assign, body, hy, hR⟩ := hY k wr hJs (by omega)
      have e1 : ((k + 1 : Nat) : Int) - 1 = (k : Int) := by omega
      have hlt : k < len := by omega
      clear hcs
      rw [e1]
      clear e1
      gi_wp2
      refine hR.mono ?_
      rintro e W3 (⟨rfl, hJ3⟩ | ⟨rfl, hJx3⟩)
      · gi_wp2
        go_roundw
        case rel => exact ⟨k, by omega, by first | rfl | go_num, hJ3⟩
        case measure => simp [intOf]
      · gi_wp2
        refine bodyPost_ret (results_none rfl _ _ _) rfl ?_
        exact ⟨⟨_, rfl⟩, .inr hJx3⟩
end Go.Proofs
end

section
open Go Go.Rx Go.Proofs
set_option maxHeartbeats 1000000
namespace Go.Rx
theorem backward_ok (A : Option Addr) (n c : Nat) (U : Hp) : PCall Try.prog 41 #[.slice A n c] U fun r U' => ∃ g, r = .func (.func 68) #[] #[.pointer (some ⟨g, 0, none⟩)] ∧ U'.cell? g 0 = some (.slice A n c) := by
  refine OCall.of (args := [.slice A n c]) E_ok mix Try.func41 (by kernel_rfl) rfl Try.ntmps41 (Nat.le_of_ble_eq_true rfl) fun F w0 => ?_
  refine J.to 10 [] 4 [(2, .clo 68 [1])] [] [(1, .box 24 [.slice A n c])] [] (by kernel_rfl) ?_
  refine J.pubBox 1 rfl fun g U1 hx1 hc1 => ?_
  refine J.to 0 [] 4 [(2, .v (.func (.func 68) (Array.mk []) (Array.mk [.pointer (.some (Addr.mk g 0 .none))])))] [] [] [] (by kernel_rfl) ?_
  exact J.ret ⟨_, rfl, .inl ⟨g, rfl, hc1 0 _ rfl⟩⟩

def ends (U F : Hp) (w : World) (R : Value → Hp → Prop) (e : Ending) (w' : World) : Prop := ∃ v U' L G, e = .returned v ∧ Ext U U' ∧ R v U' ∧ Joins (fam U' F G (upd noHs 0 L)) w' ∧ Same w w'

def seqs : List Code → Code → Code
  | [], z => z
  | x :: r, z => .seq x (seqs r z)
theorem kont_cs {P : Program} {R : Act → World → Prop} {I : Act → World → Prop} : ∀ {xs : List Code} {e : Exit} {a : Act} {w : World}, kont P (xs.map .c ++ [.i I]) R e a w → e = .normal ∨ (e = .ret ∧ R a w)
  | _, .normal, _, _, _ => .inl rfl
  | [], .ret, _, _, h => .inr ⟨rfl, h⟩
  | [], .exit _, _, _, h => (h : False).elim
  | [], .goto _, _, _, h => (h : False).elim
  | [], .panic _, _, _, h => (h : False).elim
  | [], .outgrown, _, _, h => (h : False).elim
  | x :: xs, .ret, _, _, h => kont_cs (xs := xs) h
  | x :: xs, .exit _, _, _, h => kont_cs (xs := xs) h
  | x :: xs, .goto _, _, _, h => kont_cs (xs := xs) h
  | x :: xs, .panic _, _, _, h => kont_cs (xs := xs) h
  | x :: xs, .outgrown, _, _, h => kont_cs (xs := xs) h
theorem wp_seqs {P : Program} {R : Act → World → Prop} {I : Act → World → Prop} {z : Code} {Q : Exit → Act → World → Prop} (hI : ∀ a w, I a w → z.wp P Q a w) (hR : ∀ a w, R a w → Q .ret a w) :
    ∀ {xs : List Code} {a : Act} {w : World}, kont P (xs.map .c ++ [.i I]) R .normal a w → (seqs xs z).wp P Q a w
  | [], a, w, h => hI a w h
  | x :: xs, a, w, h => by
    have h1 : x.wp P (kont P (xs.map .c ++ [.i I]) R) a w := h
    refine wp_seq (wp_mono h1 fun e a w q => ?_)
    rcases kont_cs q with rfl | ⟨rfl, hr⟩
    · exact wp_seqs hI hR q
    · exact hR a w hr

def onlyStores (ops : Array Oper) : Bool := ops.toList.all fun o => (match o.op with | .store .. => true | _ => false) && o.guard.isNone && o.dst.isNone
theorem ops_ds {P : Program} {ops : Array Oper} {Q Q' : Exit → Act → World → Prop} {ds : List Deferred} (hd : onlyStores ops = true) (hq : ∀ a w, Q .normal a w → a.defers = [] → Q' .normal { a with defers := ds } w)
    (hp : ∀ c a w, ¬ Q (.panic c) a w) (ho : ∀ a w, ¬ Q .outgrown a w) : ∀ (r : List Nat) (a : Act) (w : World), a.defers = [] → wpOps P ops Q r a w → wpOps P ops Q' r { a with defers := ds } w
  | [], a, w, h0, h => hq a w h h0
  | i :: r, a, w, h0, h => by
    simp only [wpOps] at h ⊢
    cases hi : ops[i]? with
    | none => simp only [hi] at h ⊢; exact ops_ds hd hq hp ho r a w h0 h
    | some o =>
      have hst := List.all_eq_true.1 hd o (Array.mem_toList_iff.2 (Array.mem_of_getElem? hi))
      simp only [Bool.and_eq_true, Option.isNone_iff_eq_none] at hst
      obtain ⟨⟨hs, hg⟩, hdst⟩ := hst
      have hw : ∀ a' : Act, Region.wanted o (yielded ops a'.tmps) = true := fun a' => by unfold Region.wanted; rw [hg]
      simp only [hi, hw, if_true] at h ⊢
      rcases h with h | ⟨-, a', w', h⟩
      · left
        unfold Oper.wp at h ⊢
        have e : ({ a with defers := ds } : Act).eval = a.eval := by funext x; cases x <;> rfl
        rw [e]
        split at hs
        · rename_i t p x hop
          have hex : execOp a.eval o = (do Instr.storeAt t (a.eval p) (a.eval x); pure .skip : Sem Next) := by simp only [execOp, hop]
          rw [hex, Sem.run_bind] at h ⊢
          generalize (Instr.storeAt t (a.eval p) (a.eval x)).run P w = res at h ⊢
          cases res with
          | ok u w' =>
            have h' : wpOps P ops Q r (a.put o.dst undef) w' := h
            show wpOps P ops Q' r (({ a with defers := ds } : Act).put o.dst undef) w'
            rw [hdst] at h' ⊢
            exact ops_ds hd hq hp ho r a w' h0 h'
          | halt x w' =>
            cases x with
            | panic v => exact (hp _ _ _ h).elim
            | _ => exact h
        · cases hs
      · exact (ho _ _ h).elim

theorem fold2 (t : Array Value) (i j : Nat) (x y : Value) : ((#[i, j] : Array Nat).zip #[x, y]).foldl (fun tmps (p : Nat × Value) => match p with | (t, a) => tmps.setIfInBounds t a) t = (t.setIfInBounds i x).setIfInBounds j y := by
  rw [← Array.foldl_toList, Array.toList_zip]; rfl
def gM (n : Nat) (A : Option Addr) (c : Nat) (D L : Nat) (r : Loop) : List (Nat × Res) := [(2, .box 4 [.bool false]), (4, .box 23 [.slice A n c]), (55, .own fun h => h = Hp.one D (.deferred (some []))), (56, .own fun h => h = Hp.one L (.loop r))]

def gPost (C : Ctx) (PL : List (Nat × Option Nat)) (U : Hp) (l : List Int) (q : Mv) (D L : Nat) (r : Loop) : Exit → Act → World → Prop
  | .normal, a, w => doOk l q.back = true ∧ ∃ A c U', Ext U U' ∧ Rd rInt U' (.slice A l.length c) (doL l q.back) ∧ Hd C (nfSym 55 [] [] (gM l.length A c D L r) PL) U' a w
  | .ret, a, w => doOk l q.back = false ∧ ∃ n A c U', Ext U U' ∧ Hd C (nfSym 55 [] [] (gM n A c D L r) PL) U' a w
  | _, _, _ => False

theorem doL_all {l : List Int} {m : Mv} (h : May l m) (ho : doOk l m = true) : (doL l m).all accOk = true := by
  have hab : m.a.toNat ≠ m.b.toNat := by have := h.ne; have := h.a; have := h.b; omega
  have ga := all_get h.acc m.a.toNat
  have gb := all_get h.acc m.b.toNat
  have hn := h.n
  unfold doOk at ho
  rw [doL_get h, doL_get h, if_neg hab, if_pos rfl, if_pos rfl] at ho
  simp only [Bool.and_eq_true, decide_eq_true_eq] at ho
  refine List.all_eq_true.2 fun x hx => ?_
  obtain ⟨i, hi, e⟩ := List.mem_iff_getElem.1 hx
  have e2 := doL_get h i
  rw [List.getD_eq_getElem?_getD, List.getElem?_eq_getElem hi, Option.getD_some, e] at e2
  rw [accOk_iff, e2]
  have gi := all_get h.acc i
  split
  · rename_i e3; subst e3; omega
  · split
    · rename_i e3; subst e3; omega
    · exact gi

def gAt (C : Ctx) (PL : List (Nat × Option Nat)) (s : Sg) (U2 : Hp) (a1 : Act) (D L : Nat) (r : Loop) (k : Nat) (W : World) : Prop :=
  ∃ l A c U', Hd C (nfSym 55 [(2, .bp 2 0), (4, .bp 4 0)] [] (gM l.length A c D L r) PL) U' { a1 with defers := [] } W ∧ Ext U2 U' ∧ l.length = s.acc.length ∧ Rd rInt U' (.slice A l.length c) l ∧ undo s.mv s.done.toNat s.acc = undo s.mv k l ∧ l.all accOk = true
def gOut (C : Ctx) (PL : List (Nat × Option Nat)) (s : Sg) (a1 : Act) (D L : Nat) (r : Loop) (W : World) : Prop :=
  undo s.mv s.done.toNat s.acc = false ∧ ∃ n A c U', Hd C (nfSym 55 [(2, .bp 2 0), (4, .bp 4 0)] [] (gM n A c D L r) PL) U' { a1 with defers := [] } W

theorem range_back (C : Ctx) (hCP : C.P = Try.prog) (asg bdy : Code) (Q : Exit → Act → World → Prop) (a1 : Act) (w1 : World) (s : Sg) (hal : s.acc.length ≤ 8) (hd0 : 0 ≤ s.done ∧ s.done ≤ s.mv.length) (hb2 : s.mv.length < 2^40) (hmv : s.mv.all (mvB s.acc.length) = true) (hacc : s.acc.all accOk = true)
    (b2 b4 g2 : Nat) (A : Option Addr) (ca : Nat) (B : Option Addr) (c : Nat) (U2 : Hp) (hA : Rd rInt U2 (.slice A s.acc.length ca) s.acc) (hB : Arr rMv U2 B s.mv) (hc2 : U2.cell? g2 0 = some (.slice B s.done.toNat c))
    (h0 : Hd C (nfSym 55 [(2, .bp 2 0), (4, .bp 4 0)] [] [(2, .box 4 [.bool false]), (4, .box 23 [.slice A s.acc.length ca])] [(2, some b2), (4, some b4)]) U2 a1 w1)
    (hT42 : a1.eval (.tmp 42) = .func (.func 68) #[] #[.pointer (some ⟨g2, 0, none⟩)]) (hT2 : a1.tmps[2]? = some (.pointer (some ⟨b2, 0, none⟩))) (hT4 : a1.tmps[4]? = some (.pointer (some ⟨b4, 0, none⟩)))
    (hasg : ∀ L D r (q : Mv) U' n A c a0 W, Hd C (nfSym 55 [(2, .bp 2 0), (4, .bp 4 0), (44, .v q.val)] [] (gM n A c D L r) [(2, some b2), (4, some b4)]) U' a0 W →
      asg.wpIn (rnd L) 0 Try.prog (Exit.then (fun a w => Hd C (nfSym 55 [(2, .bp 2 0), (4, .bp 4 0), (6, .bp 6 0)] [] ((6, .box 59 q.cells) :: gM n A c D L r) [(2, some b2), (4, some b4)]) U' a w) (fun _ _ _ => False)) a0 W)
    (hbdy : ∀ L D r (q : Mv) U' (l : List Int) A c a0 W, mvB s.acc.length q = true → l.all accOk = true → l.length = s.acc.length → Rd rInt U' (.slice A l.length c) l → Hd C (nfSym 55 [(2, .bp 2 0), (4, .bp 4 0), (6, .bp 6 0)] [] ((6, .box 59 q.cells) :: gM l.length A c D L r) [(2, some b2), (4, some b4)]) U' a0 W →
      bdy.wpIn (rnd L) 0 Try.prog (gPost C [(2, some b2), (4, some b4)] U' l q D L r) a0 W)
    (hdone : ∀ D L r W, gAt C [(2, some b2), (4, some b4)] s U2 a1 D L r 0 W → Q .normal { a1 with defers := [{ target := .collected D, args := #[] }] } W)
    (hstop : ∀ D L r W, gOut C [(2, some b2), (4, some b4)] s a1 D L r W → Q .ret { a1 with defers := [{ target := .collected D, args := #[] }] } W) :
    (Code.rangeFunc (.tmp 42) #[43, 44] asg bdy).wpIn Fence.wide 1 Try.prog Q a1 w1 := by
  have hdf : a1.defers = [] := h0.1.defers
  have hsz : a1.tmps.size = 55 := h0.1.size
  have he1 : ({ a1 with defers := [] } : Act) = a1 := by rw [← hdf]
  refine wpIn_rangeFunc (F := Fence.wide) (n := 1) fun fn _ => ?_
  obtain ⟨rec, hrec⟩ : ∃ rec : LoopState → Option Code → Loop, rec = fun st pe => { state := st, pending := pe, fn, tmps := a1.tmps, params := #[43, 44], assign := asg, body := bdy, defers := w1.heap.size } := ⟨_, rfl⟩
  obtain ⟨W1, hW1⟩ : ∃ W1, (w1.alloc (.deferred (some []))).alloc (.loop (rec .ready none)) = W1 := ⟨_, rfl⟩
  have hst : Hd C (nfSym 55 [(2, .bp 2 0), (4, .bp 4 0)] [] (gM s.acc.length A ca w1.heap.size (w1.heap.size + 1) (rec .ready none)) [(2, some b2), (4, some b4)]) U2 { a1 with defers := [] } W1 := by
    rw [he1]
    have h1 := h0.newObj 55 rfl (.deferred (some []))
    have h2 := h1.newObj 56 rfl (.loop (rec .ready none))
    rw [World.size_alloc] at h2
    rw [hW1] at h2
    exact h2.prune (by kernel_rfl)
  refine ⟨w1.heap.size + 1, [{ target := .collected w1.heap.size, args := #[] }], W1, { target := .fn (.func 68) #[.pointer (some ⟨g2, 0, none⟩)], args := #[.func (.yield (w1.heap.size + 1)) #[] #[]] }, W1, 68,
    #[.func (.yield (w1.heap.size + 1)) #[] #[]] ++ #[.pointer (some ⟨g2, 0, none⟩)], W1, ?_, ?_, ?_, ?_, fun _ => Nat.le_refl _, ?_⟩
  · rw [← hW1, hrec]; exact run_enterLoop_outer _ _ _ _ _
  · simp only [resolve, hT42]
    simp [go_sem]
  · intro f' _; trivial
  · simp only [invoke]
    exact entr_of Try.func68 rfl rfl _ _
  · generalize hD : w1.heap.size = D at *
    generalize hL : D + 1 = L at *
    obtain ⟨b, o, hAB, hcs⟩ : ∃ b o, (0 < s.done.toNat → B = some ⟨b, o, none⟩) ∧ ∀ (j : Nat) m, s.mv[j]? = some m → ∀ (i : Nat) c, m.cells[i]? = some c → U2.cell? b (o + j * 3 + i) = some c := by
      rcases hB with h | ⟨b, o, e, h⟩
      · refine ⟨0, 0, fun h1 => ?_, fun j m hj => by rw [h] at hj; simp at hj⟩
        rw [h] at hd0; simp at hd0; omega
      · refine ⟨b, o, fun _ => e, fun j m hj i c hc => ?_⟩
        obtain ⟨cs, h1, h2⟩ := h j m hj
        cases h1
        exact h2 i c hc
    have refr : ∀ {σ : Sym} {U' : Hp} {a : Act} {W : World} {n A c r}, Hd C σ U' a W → (∀ k, σ.pin k = ofL none [(2, some b2), (4, some b4)] k) → EntK σ.M (gM n A c D L r) → Hd C (nfSym 55 [(2, .bp 2 0), (4, .bp 4 0)] [] (gM n A c D L r) [(2, some b2), (4, some b4)]) U' { a1 with defers := [] } W := by
      intro σ U' a W n A c r hh hp hm
      have h1 := hh.frame (a' := { a1 with defers := [] }) 55 [(2, .bp 2 0), (4, .bp 4 0)] hsz rfl (fun p hp' => by
        simp only [List.mem_cons, List.not_mem_nil, or_false] at hp'
        rcases hp' with rfl | rfl
        · exact .inr ⟨_, hT2, fun ρ hρ => by show _ = _; rw [hρ 2 b2 (by rw [hp]; rfl)]⟩
        · exact .inr ⟨_, hT4, fun ρ hρ => by show _ = _; rw [hρ 4 b4 (by rw [hp]; rfl)]⟩)
      have h2 := Hd.weakF (σ := ⟨55, ofL .unk [(2, .bp 2 0), (4, .bp 4 0)], fun _ => none, σ.M, σ.pin⟩) (KL := [(2, .bp 2 0), (4, .bp 4 0)]) (DL := []) (ML := gM n A c D L r) (by intro p hp; simp only [List.mem_cons, List.not_mem_nil, or_false] at hp; rcases hp with rfl | rfl <;> rfl) (by simp) hm.mem h1
      obtain ⟨ρ, hs, G, hS⟩ := h2.1.sat
      exact ⟨⟨h2.1.size, h2.1.defers, h2.1.run, fun t b h => (by cases h), ρ, hs, G, hS.K, hS.M, hS.J, fun k g h => hS.pin k g ((hp k).trans h)⟩, h2.2⟩
    refine (callsIn_wide (n := 0)).2 ((callsIn_wide (n := 1)).1 (CallsIn.mono (back1_in B L g2 b o s.done.toNat c hAB (fun j => (.int .i64 (s.mv.getD j ⟨0, 0, 0⟩).a, .int .i64 (s.mv.getD j ⟨0, 0, 0⟩).b, .int .i64 (s.mv.getD j ⟨0, 0, 0⟩).n))
      (gAt C [(2, some b2), (4, some b4)] s U2 a1 D L (rec .ready none)) (gOut C [(2, some b2), (4, some b4)] s a1 D L (rec .done (some .ret))) (by omega) ?hJ ?hY W1 ?h0) ?fin))
    case hJ =>
      rintro k W ⟨l, A', c', U', hh, hx, -⟩
      obtain ⟨ρ, hs, G, hS⟩ := hh.1.sat
      refine ⟨hS.u (hx.cell hc2), fun j hj => ?_⟩
      have hjm : s.mv[j]? = some (s.mv.getD j ⟨0, 0, 0⟩) := by
        have : j < s.mv.length := by omega
        rw [List.getD_eq_getElem?_getD, List.getElem?_eq_getElem this]; rfl
      exact ⟨hS.u (hx.cell (hcs j _ hjm 0 _ rfl)), hS.u (hx.cell (hcs j _ hjm 1 _ rfl)), hS.u (hx.cell (hcs j _ hjm 2 _ rfl))⟩
    case h0 => exact ⟨s.acc, A, ca, U2, hst, Ext.refl _, rfl, hA, rfl, hacc⟩
    case hY =>
      rintro k W ⟨l, A', c', U', hh, hx, hl, hrd, hun, hac⟩ hk
      have hqm : mvB s.acc.length (s.mv.getD k ⟨0, 0, 0⟩) = true := by
        have : k < s.mv.length := by omega
        rw [List.getD_eq_getElem?_getD, List.getElem?_eq_getElem this]
        exact List.all_eq_true.1 hmv _ (List.getElem_mem this)
      generalize hq : s.mv.getD k ⟨0, 0, 0⟩ = q at *
      obtain ⟨m1, m2, m3, m4, m5⟩ := mvB_some (by omega) hqm
      have hlo := hh.obj (k := 56) rfl
      have hy := run_yield (P := Try.prog) (args := #[.int .i64 (k : Int), .agg #[.int .i64 q.a, .int .i64 q.b, .int .i64 q.n]]) hlo (by rw [hrec]; rfl)
      rw [hrec] at hy
      refine ⟨fn, _, asg, bdy, hy, roundIn_of_wpIn trivial ?_⟩
      refine wpIn_mono (hasg L D (rec .ready none) q U' l.length A' c' _ W ?_) ?_
      · have h1 := hh.frame (a' := { tmps := (a1.tmps.setIfInBounds 43 (.int .i64 (k : Int))).setIfInBounds 44 q.val, defers := [] }) 55 [(2, .bp 2 0), (4, .bp 4 0), (44, .v q.val)] (by simpa using hsz) rfl (fun p hp' => by
          simp only [List.mem_cons, List.not_mem_nil, or_false] at hp'
          rcases hp' with rfl | rfl | rfl
          · exact .inr ⟨_, by simpa using hT2, fun ρ hρ => by show _ = _; rw [hρ 2 b2 rfl]⟩
          · exact .inr ⟨_, by simpa using hT4, fun ρ hρ => by show _ = _; rw [hρ 4 b4 rfl]⟩
          · exact .inr ⟨q.val, by simp [hsz], fun ρ hρ => rfl⟩)
        dsimp only
        rw [fold2]
        exact h1.prune (by kernel_rfl)
      · intro e a w q1
        cases e with
        | normal =>
          have q1 : Hd C (nfSym 55 [(2, .bp 2 0), (4, .bp 4 0), (6, .bp 6 0)] [] ((6, .box 59 q.cells) :: gM l.length A' c' D L (rec .ready none)) [(2, some b2), (4, some b4)]) U' a w := q1
          have hlo2 := q1.obj (k := 56) rfl
          refine ⟨_, run_beginRound hlo2 (by rw [hrec]), ?_⟩
          have q2 := (q1.putObj (k := 56) rfl (.loop (rec .busy none)))
          refine wpIn_mono (hbdy L D (rec .busy none) q U' l A' c' a _ hqm hac hl hrd (by rw [hrec] at q2 ⊢; exact q2.prune (by kernel_rfl))) ?_
          intro e a3 w3 q3
          cases e with
          | normal =>
            obtain ⟨hok, A3, c3, U3, hx3, hrd3, hh3⟩ := q3
            have hlo3 := hh3.obj (k := 56) rfl
            refine ⟨_, _, run_endRound none hlo3, .inl ⟨rfl, doL l q.back, A3, c3, U3, ?_, hx.trans hx3, by rw [doL_len]; exact hl, by rw [doL_len]; exact hrd3, ?_, doL_all ⟨hac, by simp only [Mv.back]; omega, by simp only [Mv.back]; omega, fun e => m3 e.symm, ⟨m4, m5⟩⟩ hok⟩⟩
            · rw [doL_len]
              have q4 := (hh3.putObj (k := 56) rfl (.loop (rec .ready none)))
              rw [hrec] at q4 ⊢
              exact refr q4 (fun k => rfl) (EntK.ofMap (by kernel_rfl))
            · rw [hun, undo, hq, hok, Bool.true_and]
          | ret =>
            obtain ⟨hok, n3, A3, c3, U3, hx3, hh3⟩ := q3
            have hlo3 := hh3.obj (k := 56) rfl
            refine ⟨_, _, run_endRound (some .ret) hlo3, .inr ⟨rfl, ?_, n3, A3, c3, U3, ?_⟩⟩
            · rw [hun, undo, hq, hok, Bool.false_and]
            · have q4 := (hh3.putObj (k := 56) rfl (.loop (rec .done (some .ret))))
              rw [hrec] at q4 ⊢
              exact refr q4 (fun k => rfl) (EntK.ofMap (by kernel_rfl))
          | _ => exact (q3 : False).elim
        | _ => exact (q1 : False).elim
    case fin =>
      rintro e W2 ⟨⟨v, rfl⟩, hg | hg⟩
      · obtain ⟨l, A', c', U', hh, hx, hl, hrd, hun, hac⟩ := hg
        have hlo := hh.obj (k := 56) rfl
        refine ⟨none, _, by have := run_endLoop (P := Try.prog) hlo (by rw [hrec]; simp); rw [hrec] at this; exact this, ?_⟩
        have q4 := (hh.putObj (k := 56) rfl (.loop (rec .exhausted none)))
        rw [hdf]
        refine hdone D L (rec .exhausted none) _ ⟨l, A', c', U', ?_, hx, hl, hrd, hun, hac⟩
        rw [hrec] at q4 ⊢
        exact refr q4 (fun k => rfl) (EntK.ofMap (by kernel_rfl))
      · obtain ⟨hun, n3, A', c', U', hh⟩ := hg
        have hlo := hh.obj (k := 56) rfl
        refine ⟨some .ret, _, by have := run_endLoop (P := Try.prog) hlo (by rw [hrec]; simp); rw [hrec] at this; exact this, ?_⟩
        have q4 := (hh.putObj (k := 56) rfl (.loop (rec .exhausted (some .ret))))
        rw [hdf]
        refine wpIn_ret (hstop D L (rec .exhausted (some .ret)) _ ⟨hun, n3, A', c', U', ?_⟩)
        rw [hrec] at q4 ⊢
        exact refr q4 (fun k => rfl) (EntK.ofMap (by kernel_rfl))

theorem moved_pub (v : Value) (l : List Int) (m : Mv) (U : Hp) (hl : Rd rInt U v l) (hb : l.length < 2^40) (hmay : May l m) :
    PCall Try.prog 42 #[v, m.val] U fun r U' => ∃ v', r = .tuple #[v', .bool (doOk l m)] ∧ Rd rInt U' v' (doL l m) :=
  (moved_own v l m U hl hb hmay).pub fun r U' L U'' _ _ h2 ⟨v', e, ha⟩ => ⟨v', e, int_rd (by rw [doL_len]; exact ha) h2⟩

theorem good_leave (s : Sg) (U F : Hp) (w : World) (b : Bool) (hb : b = s.good) (D : Nat) (PL : List (Nat × Option Nat)) (U' : Hp) (a : Act) (W : World)
    (hh : Hd ⟨Try.prog, E, E_ok, F, U, w, Try.f18, PostO E Try.f18 (fun r U' L => r = .bool s.good), mix⟩ (nfSym 55 [(2, .bp 2 0)] [] [(2, .box 4 [.bool b]), (55, .own fun h => h = Hp.one D (.deferred (some [])))] PL) U' { a with defers := [] } W) :
    LeavesInM Fence.wide 1 Try.prog Try.f18 a.tmps (ends U F w fun r U' => r = .bool s.good) [{ target := .collected D, args := #[] }] .returning W := by
  have ho := hh.obj (k := 55) rfl
  have h2 := hh.putObj (k := 55) rfl (.deferred none)
  obtain ⟨hd, v, hr, v', U3, L, G, e, h1, h2, h3, h4⟩ := fin_body E_ok mix (⟨_, U', h2, [.bool b], rfl, .inl (by rw [hb]; rfl)⟩ : Fin ⟨Try.prog, E, E_ok, F, U, w, Try.f18, PostO E Try.f18 (fun r U' L => r = .bool s.good), mix⟩ _ _)
  exact ⟨(by intro h; cases h), .inl ⟨D, _, rfl, run_takeDeferred ho, v, hr, v', U3, L, G, e, h1, h2, h3, h4⟩⟩

theorem implGood_ok (va vm : Value) (s : Sg) (U : Hp) (ha : Rd rInt U va s.acc) (hm : Rd rMv U vm s.mv) (hb : s.acc.length < 2^40) (hb2 : s.mv.length < 2^40) :
    PCall Try.prog 18 #[.agg #[va, vm, .int .i64 s.done, .bool s.und]] U fun r U' => r = .bool s.good := by
  obtain ⟨B, c, rfl, hc, hB⟩ := hm
  obtain ⟨A, ca, rfl, hca, hA⟩ := ha
  refine ⟨entr_of Try.func18 rfl rfl, fun w F hw => ?_⟩
  show Calls _ _ _ _ (ends U F w fun r U' => r = .bool s.good)
  refine (callsIn_wide (n := 1)).1 (callsIn_of_wp_marks Try.func18 rfl trivial (wpIn_wide.2 ?_))
  have h0 := initO (args := [.agg #[.slice A s.acc.length ca, .slice B s.mv.length c, .int .i64 s.done, .bool s.und]]) (R := fun r U' L => r = .bool s.good) (fn := Try.f18) E_ok mix Try.ntmps18 (Nat.le_of_ble_eq_true rfl) hw
  generalize hC : (⟨Try.prog, E, E_ok, F, U, w, Try.f18, PostO E Try.f18 (fun r U' L => r = .bool s.good), mix⟩ : Ctx) = C at h0
  have hCP : C.P = Try.prog := by rw [← hC]
  let cells1 : List Value := [.slice A s.acc.length ca, .slice B s.mv.length c, .int .i64 s.done, .bool s.und]
  refine wp_seqs (P := Try.prog) (xs := [_, _, _, _]) (z := .seq (.seq _ (.block 0 (.rangeFunc _ _ _ _))) (.seq _ .ret)) (R := Fin C) (Q := bodyPostM Fence.wide 1 Try.prog Try.f18 (ends U F w fun r U' => r = .bool s.good))
    (I := fun a w => s.form = true ∧ ∃ g U', Ext U U' ∧ Hd C (nfSym 55 [(1, .win g 0 cells1 0), (2, .bp 2 0), (4, .bp 4 0)] [] [(2, .box 4 [.bool false]), (4, .box 23 [.slice A s.acc.length ca])] []) U' a w)
    ?hI ?hR (hCP ▸ J.out (C := C) (U := U) (s := _) ?hJ _ _ h0)
  case hJ =>
    subst hC
    refine J.to 8 [] 55 [(1, .bp 1 0), (2, .bp 2 0), (10, .v (.slice B (List.length (Sg.mv s)) c)), (11, .clo 37 [1])] [] [(1, .box 28 [.slice A (List.length (Sg.acc s)) ca, .slice B (List.length (Sg.mv s)) c, .int .i64 (Sg.done s), .bool (Sg.und s)]), (2, .box 4 [.bool false])] [] (by kernel_rfl) ?_
    refine J.pubBox 1 rfl fun g U1 hx1 hc1 => ?_
    refine J.to 0 [] 55 [(1, .win g 0 [.slice A (List.length (Sg.acc s)) ca, .slice B (List.length (Sg.mv s)) c, .int .i64 (Sg.done s), .bool (Sg.und s)] 0), (2, .bp 2 0), (10, .v (.slice B (List.length (Sg.mv s)) c)), (11, .v (.func (.func 37) (Array.mk []) (Array.mk [.pointer (.some (Addr.mk g 0 .none))])))] [] [(2, .box 4 [.bool false])] [] (by kernel_rfl) ?_
    refine J.one (Op1.call rfl rfl rfl rfl rfl rfl rfl rfl (containsMv_ok 37 [.pointer (some ⟨g, 0, none⟩)] (fun m => !mvB s.acc.length m) _ s.mv U1 ⟨B, c, rfl, hc, hB.mono hx1⟩ (by omega) fun x _ U2 hx2 => notMove_ok x g s.acc.length A ca _ _ _ U2 fun j c hj => hx2.cell (hc1 j c hj)) fun v U2 hx2 hv => ?_); subst hv
    refine J.to 6 [] 55 [(1, .win g 0 [.slice A (List.length (Sg.acc s)) ca, .slice B (List.length (Sg.mv s)) c, .int .i64 (Sg.done s), .bool (Sg.und s)] 0), (2, .bp 2 0), (10, .v (.slice B (List.length (Sg.mv s)) c)), (3, .v (.bool (List.any (Sg.mv s) fun m => !mvB (↑(List.length (Sg.acc s)) : Int) m))), (13, .win g 0 [.slice A (List.length (Sg.acc s)) ca, .slice B (List.length (Sg.mv s)) c, .int .i64 (Sg.done s), .bool (Sg.und s)] 0), (14, .v (.slice A (List.length (Sg.acc s)) ca))] [] [(2, .box 4 [.bool false])] [] (by kernel_rfl) ?_
    refine J.one (Op1.call rfl rfl rfl rfl rfl rfl rfl rfl (accountsOk_ok _ s.acc U2 ⟨A, ca, rfl, hca, hA.mono (hx1.trans hx2)⟩ (by omega)) fun v U3 hx3 hv => ?_); subst hv
    refine J.to 2 [] 55 [(1, .win g 0 [.slice A (List.length (Sg.acc s)) ca, .slice B (List.length (Sg.mv s)) c, .int .i64 (Sg.done s), .bool (Sg.und s)] 0), (2, .bp 2 0), (3, .v (.bool (List.any (Sg.mv s) fun m => !mvB (↑(List.length (Sg.acc s)) : Int) m))), (10, .v (.slice B (List.length (Sg.mv s)) c)), (13, .win g 0 [.slice A (List.length (Sg.acc s)) ca, .slice B (List.length (Sg.mv s)) c, .int .i64 (Sg.done s), .bool (Sg.und s)] 0), (17, .v (.bool !accB (Sg.acc s)))] [] [(2, .box 4 [.bool false])] [] (by kernel_rfl) ?_
    have no : s.form = false → Value.bool false = Value.bool s.good := fun h => by rw [form_false h]
    refine J.br rfl rfl (fun h1 => ?_) (fun h1 => ?_)
    · refine J.to 23 [true] 55 [(1, .win g 0 [.slice A (List.length (Sg.acc s)) ca, .slice B (List.length (Sg.mv s)) c, .int .i64 (Sg.done s), .bool (Sg.und s)] 0), (2, .bp 2 0)] [] [(2, .box 4 [.bool false])] [] (by kernel_rfl) ?_
      refine J.ret ⟨_, rfl, .inl (no ?_)⟩
      simp at h1
      simp [Sg.form, h1]
    refine J.to 6 [] 55 [(1, .win g 0 [.slice A (List.length (Sg.acc s)) ca, .slice B (List.length (Sg.mv s)) c, .int .i64 (Sg.done s), .bool (Sg.und s)] 0), (2, .bp 2 0), (3, .v (.bool (List.any (Sg.mv s) fun m => !mvB (↑(List.length (Sg.acc s)) : Int) m))), (10, .v (.slice B (List.length (Sg.mv s)) c)), (13, .win g 0 [.slice A (List.length (Sg.acc s)) ca, .slice B (List.length (Sg.mv s)) c, .int .i64 (Sg.done s), .bool (Sg.und s)] 0), (23, .v (.bool (Decidable.decide ((↑(List.length (Sg.mv s)) : Int) > 20))))] [] [(2, .box 4 [.bool false])] [] (by kernel_rfl) ?_
    refine J.br rfl rfl (fun h2 => ?_) (fun h2 => ?_)
    · refine J.to 17 [true] 55 [(1, .win g 0 [.slice A (List.length (Sg.acc s)) ca, .slice B (List.length (Sg.mv s)) c, .int .i64 (Sg.done s), .bool (Sg.und s)] 0), (2, .bp 2 0)] [] [(2, .box 4 [.bool false])] [] (by kernel_rfl) ?_
      refine J.ret ⟨_, rfl, .inl (no ?_)⟩
      simp at h2
      simp [Sg.form]; omega
    refine J.to 3 [] 55 [(1, .win g 0 [.slice A (List.length (Sg.acc s)) ca, .slice B (List.length (Sg.mv s)) c, .int .i64 (Sg.done s), .bool (Sg.und s)] 0), (2, .bp 2 0), (13, .win g 0 [.slice A (List.length (Sg.acc s)) ca, .slice B (List.length (Sg.mv s)) c, .int .i64 (Sg.done s), .bool (Sg.und s)] 0), (26, .v (.bool (List.any (Sg.mv s) fun m => !mvB (↑(List.length (Sg.acc s)) : Int) m)))] [] [(2, .box 4 [.bool false])] [] (by kernel_rfl) ?_
    refine J.br rfl rfl (fun h3 => ?_) (fun h3 => ?_)
    · refine J.to 14 [true] 55 [(1, .win g 0 [.slice A (List.length (Sg.acc s)) ca, .slice B (List.length (Sg.mv s)) c, .int .i64 (Sg.done s), .bool (Sg.und s)] 0), (2, .bp 2 0)] [] [(2, .box 4 [.bool false])] [] (by kernel_rfl) ?_
      refine J.ret ⟨_, rfl, .inl (no ?_)⟩
      have : s.mv.all (mvB s.acc.length) = false := by
        obtain ⟨x, hx, hy⟩ := List.any_eq_true.1 h3
        rw [List.all_eq_false]
        exact ⟨x, hx, by simpa using hy⟩
      simp [Sg.form, this]
    refine J.to 5 [] 55 [(1, .win g 0 [.slice A (List.length (Sg.acc s)) ca, .slice B (List.length (Sg.mv s)) c, .int .i64 (Sg.done s), .bool (Sg.und s)] 0), (2, .bp 2 0), (13, .win g 0 [.slice A (List.length (Sg.acc s)) ca, .slice B (List.length (Sg.mv s)) c, .int .i64 (Sg.done s), .bool (Sg.und s)] 0), (26, .v (.bool false)), (28, .v (.int .i64 (Sg.done s))), (31, .v (.int .i64 (↑(List.length (Sg.mv s)) : Int)))] [(26, .some false)] [(2, .box 4 [.bool false])] [] (by kernel_rfl) ?_
    refine J.one (Op1.call rfl rfl rfl rfl rfl rfl rfl rfl (in_ok _ _ _ _) fun v U4 hx4 hv => ?_); subst hv
    refine J.to 3 [] 55 [(1, .win g 0 [.slice A (List.length (Sg.acc s)) ca, .slice B (List.length (Sg.mv s)) c, .int .i64 (Sg.done s), .bool (Sg.und s)] 0), (2, .bp 2 0), (34, .v (.bool !inB (Sg.done s) 0 (↑(List.length (Sg.mv s)) : Int)))] [] [(2, .box 4 [.bool false])] [] (by kernel_rfl) ?_
    refine J.br rfl rfl (fun h4 => ?_) (fun h4 => ?_)
    · refine J.to 5 [true] 55 [(1, .win g 0 [.slice A (List.length (Sg.acc s)) ca, .slice B (List.length (Sg.mv s)) c, .int .i64 (Sg.done s), .bool (Sg.und s)] 0), (2, .bp 2 0)] [] [(2, .box 4 [.bool false])] [] (by kernel_rfl) ?_
      refine J.ret ⟨_, rfl, .inl (no ?_)⟩
      simp at h4
      simp [Sg.form, h4]
    refine J.to 8 [false] 55 [(1, .win g 0 [.slice A (List.length (Sg.acc s)) ca, .slice B (List.length (Sg.mv s)) c, .int .i64 (Sg.done s), .bool (Sg.und s)] 0), (2, .bp 2 0), (4, .bp 4 0)] [] [(2, .box 4 [.bool false]), (4, .box 23 [.slice A (List.length (Sg.acc s)) ca])] [] (by kernel_rfl) ?_
    refine J.stop fun a w' hh => ⟨?_, g, U4, hx1.trans (hx2.trans (hx3.trans hx4)), hh.prune (by kernel_rfl)⟩
    have h1' : accB s.acc = true := by simpa using h1
    have h2' : s.mv.length ≤ 20 := by simp at h2; omega
    have h4' : inB s.done 0 s.mv.length = true := by simpa using h4
    have h3' : s.mv.all (mvB s.acc.length) = true := by
      refine List.all_eq_true.2 fun x hx => ?_
      cases hq : mvB s.acc.length x with
      | true => rfl
      | false =>
        have : s.mv.any (fun m => !mvB s.acc.length m) = true := List.any_eq_true.2 ⟨x, hx, by simp [hq]⟩
        rw [this] at h3; cases h3
    simp [Sg.form, h1', h2', h3', h4']
  case hR =>
    intro a w' hf
    subst hC
    obtain ⟨hd, v, hr, v', U', L, G, e, h1, h2, h3, h4⟩ := fin_body E_ok mix hf
    show LeavesInM _ _ _ _ _ _ a.defers _ _
    rw [hd]
    exact ⟨v, hr, v', U', L, G, e, h1, h2, h3, h4⟩
  case hI =>
    rintro a w' ⟨hform, g, U1, hx1, hh⟩
    have hd0 : 0 ≤ s.done ∧ s.done ≤ s.mv.length := by
      simp only [Sg.form, Bool.and_eq_true, inB_iff] at hform; omega
    have hal : s.acc.length ≤ 8 := by
      simp only [Sg.form, accB, Bool.and_eq_true, inB_iff] at hform; omega
    have hmv : s.mv.all (mvB s.acc.length) = true := by
      simp only [Sg.form, Bool.and_eq_true] at hform; exact hform.2
    have hacc : s.acc.all accOk = true := by
      simp only [Sg.form, accB, Bool.and_eq_true] at hform; exact hform.1.1.1.1
    obtain ⟨dn, hdn⟩ : ∃ n : Nat, s.done = n := ⟨s.done.toNat, by omega⟩
    refine wp_seq (wp_seq (wp_mono (hCP ▸ J.out (C := C) (U := U1) (s := [.c _, .i (fun (a : Act) (w : World) => ∃ (g2 : Nat) (U2 : Hp), Ext U1 U2 ∧ U2.cell? g2 0 = some (Value.slice B dn c) ∧ Hd C (nfSym 55 [(1, .win g 0 cells1 0), (2, .bp 2 0), (4, .bp 4 0), (42, .v (.func (.func 68) #[] #[.pointer (some ⟨g2, 0, none⟩)]))] [] [(2, .box 4 [.bool false]), (4, .box 23 [.slice A s.acc.length ca])] []) U2 a w)]) ?j5 _ _ hh) ?_))
    case j5 =>
      subst hC
      refine J.to 5 [] 55 [(1, .win g 0 [.slice A (List.length (Sg.acc s)) ca, .slice B (List.length (Sg.mv s)) c, .int .i64 (Sg.done s), .bool (Sg.und s)] 0), (2, .bp 2 0), (4, .bp 4 0), (38, .v (.slice B (List.length (Sg.mv s)) c)), (40, .v (.int .i64 (Sg.done s)))] [] [(2, .box 4 [.bool false]), (4, .box 23 [.slice A (List.length (Sg.acc s)) ca])] [] (by kernel_rfl) ?_
      refine J.one (Op1.slice 3 0 dn rfl rfl rfl rfl rfl ⟨_, _, _, _, _, rfl, rfl, rfl⟩ rfl rfl ⟨.i64, by rw [← hdn]; rfl⟩ (by omega) (by omega) ?_)
      have e1 : (if c = 0 then B else B.map (·.add (0 * 3))) = B := by
        split
        · rfl
        · cases B with
          | none => rfl
          | some b => obtain ⟨b1, b2, b3⟩ := b; cases b3 <;> simp [Addr.add]
      rw [e1, Nat.sub_zero, Nat.sub_zero]
      refine J.to 0 [] 55 [(1, .win g 0 [.slice A (List.length (Sg.acc s)) ca, .slice B (List.length (Sg.mv s)) c, .int .i64 (Sg.done s), .bool (Sg.und s)] 0), (2, .bp 2 0), (4, .bp 4 0), (41, .v (.slice B dn c))] [] [(2, .box 4 [.bool false]), (4, .box 23 [.slice A (List.length (Sg.acc s)) ca])] [] (by kernel_rfl) ?_
      refine J.one (Op1.call rfl rfl rfl rfl rfl rfl rfl rfl (backward_ok B dn c U1) fun v U2 hx2 ⟨g2, hv, hc2⟩ => ?_); subst hv
      refine J.to 1 [] 55 [(1, .win g 0 [.slice A (List.length (Sg.acc s)) ca, .slice B (List.length (Sg.mv s)) c, .int .i64 (Sg.done s), .bool (Sg.und s)] 0), (2, .bp 2 0), (4, .bp 4 0), (42, .v (.func (.func 68) (Array.mk []) (Array.mk [.pointer (.some (Addr.mk g2 0 .none))])))] [] [(2, .box 4 [.bool false]), (4, .box 23 [.slice A (List.length (Sg.acc s)) ca])] [] (by kernel_rfl) ?_
      exact J.stop fun a w' hh => ⟨g2, U2, hx2, hc2, hh.prune (by kernel_rfl)⟩
    intro e a1 w1 q
    rcases kont_cs (xs := []) q with rfl | ⟨rfl, hf⟩
    case inr =>
      subst hC
      obtain ⟨hd, v, hr, v', U', L, G, e, h1, h2, h3, h4⟩ := fin_body E_ok mix hf
      show LeavesInM _ _ _ _ _ _ a1.defers _ _
      rw [hd]
      exact ⟨v, hr, v', U', L, G, e, h1, h2, h3, h4⟩
    obtain ⟨g2, U2, hx2, hc2, hh2⟩ := q
    obtain ⟨ρ, hh3⟩ := hh2.pinned
    have hdf : a1.defers = [] := hh2.1.defers
    obtain ⟨hT42, hT1, hT2, hT4⟩ : a1.eval (.tmp 42) = .func (.func 68) #[] #[.pointer (some ⟨g2, 0, none⟩)] ∧ a1.tmps[1]? = some (.pointer (some ⟨g, 0, none⟩)) ∧ a1.tmps[2]? = some (.pointer (some ⟨ρ 2, 0, none⟩)) ∧ a1.tmps[4]? = some (.pointer (some ⟨ρ 4, 0, none⟩)) := by
      obtain ⟨ρ', hs, G, hS⟩ := hh3.1.sat
      have hρ : ∀ k, ρ' k = ρ k := fun k => hS.pin k _ rfl
      refine ⟨hS.evv (x := .tmp 42) rfl, ?_, ?_, ?_⟩
      · rcases hS.K 1 with h | ⟨y, hy, hi, -⟩
        · cases h
        · rw [hy, hi]
      · rcases hS.K 2 with h | ⟨y, hy, hi⟩
        · cases h
        · rw [hy, show y = _ from hi, hρ]
      · rcases hS.K 4 with h | ⟨y, hy, hi⟩
        · cases h
        · rw [hy, show y = _ from hi, hρ]
    have hsz : a1.tmps.size = 55 := hh2.1.size
    subst hC
    refine wp_block (wpIn_wide.1 (range_back _ rfl _ _ _ a1 w1 s hal hd0 hb2 hmv hacc (ρ 2) (ρ 4) g2 A ca B c U2 ⟨A, ca, rfl, hca, hA.mono (hx1.trans hx2)⟩ (hB.mono (hx1.trans hx2)) (by rw [hc2, hdn]; rfl) (hh3.prune (by kernel_rfl)) hT42 hT2 hT4 ?hasg ?hbdy ?hdone ?hstop))
    case hasg =>
      intro L D r q U' n A c a0 W hh
      refine J.rndRegion (C := ⟨Try.prog, E, E_ok, F, U, w, Try.f18, fun _ _ => False, mix⟩) (I := fun a W => Hd ⟨Try.prog, E, E_ok, F, U, w, Try.f18, PostO E Try.f18 (fun r U' L => r = .bool s.good), mix⟩ (nfSym 55 [(2, .bp 2 0), (4, .bp 4 0), (6, .bp 6 0)] [] ((6, .box 59 q.cells) :: gM n A c D L r) [(2, some (ρ 2)), (4, some (ρ 4))]) U' a W) (fun _ _ h => h) (by kernel_rfl) (fun a w h => h) ?_ hh
      refine J.to 3 [] 55 [(2, .bp 2 0), (4, .bp 4 0), (6, .bp 6 0)] [] [(2, .box 4 [.bool false]), (4, .box 23 [.slice A n c]), (55, .own fun h => h = Hp.one D (Obj.deferred (.some []))), (56, .own fun h => h = Hp.one L (Obj.loop r)), (6, .box 59 [.int .i64 (Mv.a q), .int .i64 (Mv.b q), .int .i64 (Mv.n q)])] [(2, .some (ρ 2)), (4, .some (ρ 4))] (by kernel_rfl) ?_
      exact J.stop fun a w hh => hh.prune (by kernel_rfl)
    case hbdy =>
      intro L D r q U' l A c a0 W hq hac hl hrd hh
      obtain ⟨m1, m2, m3, m4, m5⟩ := mvB_some (by omega) hq
      have hmay : May l q.back := ⟨hac, by simp only [Mv.back]; omega, by simp only [Mv.back]; omega, fun e => m3 e.symm, ⟨m4, m5⟩⟩
      obtain ⟨A', c', e, hcl, hAr⟩ := hrd
      obtain ⟨rfl, rfl⟩ : A = A' ∧ c = c' := by simpa using e
      refine wpIn_block (wpIn_seq (J.rndAny (C := ⟨Try.prog, E, E_ok, F, U, w, Try.f18, fun _ _ => False, mix⟩) [4, 6] [] [(2, ρ 2), (4, ρ 4)] (I := fun (a : Act) (W : World) => ∃ A' c' U'', Ext U' U'' ∧ Rd rInt U'' (Value.slice A' l.length c') (doL l q.back) ∧ Hd ⟨Try.prog, E, E_ok, F, U, w, Try.f18, PostO E Try.f18 (fun r U' L => r = .bool s.good), mix⟩ (nfSym 55 [(2, .bp 2 0), (4, .bp 4 0), (7, .v (.slice A' l.length c')), (8, .v (.bool (doOk l q.back)))] [] (gM l.length A c D L r) [(2, some (ρ 2)), (4, some (ρ 4))]) U'' a W) (fun _ _ h => h) (by kernel_rfl) ?hQ ⟨rfl, rfl, trivial⟩ (fun ρ1 ⟨hρ2, hρ4, _⟩ => ?hJ) hh))
      case hJ =>
        refine J.takeTo true [0, 1] 7 55 [(2, .bp 2 0), (4, .bp 4 0), (6, .bp 6 0), (46, .v (.slice A (List.length l) c)), (47, .v (.agg (Array.mk [.int .i64 (Mv.a q), .int .i64 (Mv.b q), .int .i64 (Mv.n q)])))] [] [(2, .box 4 [.bool false]), (4, .box 23 [.slice A (List.length l) c]), (6, .box 59 [.int .i64 (Mv.a q), .int .i64 (Mv.b q), .int .i64 (Mv.n q)]), (55, .own fun h => h = Hp.one D (Obj.deferred (.some []))), (56, .own fun h => h = Hp.one L (Obj.loop r))] [(2, .some (ρ1 2)), (4, .some (ρ1 4)), (6, .some (ρ1 6)), (55, .some (ρ1 55)), (56, .some (ρ1 56))] (by first | exact Ext.refl _ | assumption | exact Ext.trans (by assumption) (by assumption)) (fun h => rfl) ⟨⟨rfl, rfl⟩, ⟨⟨rfl, rfl⟩, trivial⟩⟩ rfl (by kernel_rfl) ?_
        refine J.aone (i := 2) (by kernel_rfl) (Op1.call rfl rfl rfl rfl rfl rfl rfl rfl (back_ok q _) fun v U3 hx3 hv => ⟨fun _ => ⟨hx3, ⟨rfl, rfl⟩, ⟨rfl, rfl⟩, trivial⟩, ?_⟩); subst hv
        refine J.aone (i := 3) (by kernel_rfl) (Op1.call rfl rfl rfl rfl rfl rfl rfl rfl (moved_pub _ l q.back _ ⟨A, c, rfl, hcl, hAr.mono hx3⟩ (by omega) hmay) fun v U4 hx4 ⟨v', hv, hrd⟩ => ⟨fun _ => ⟨hx3.trans hx4, ⟨rfl, rfl⟩, ⟨rfl, rfl⟩, trivial⟩, ?_⟩); subst hv
        obtain ⟨A2, c2, rfl, hc2, hA2⟩ := hrd
        refine J.takeTo false [4, 5, 6, 7, 8] 0 55 [(2, .bp 2 0), (4, .bp 4 0), (6, .bp 6 0), (46, .v (.slice A (List.length l) c)), (47, .v (.agg (Array.mk [.int .i64 (Mv.a q), .int .i64 (Mv.b q), .int .i64 (Mv.n q)]))), (48, .v (.agg (Array.mk [.int .i64 (Mv.a (Mv.back q)), .int .i64 (Mv.b (Mv.back q)), .int .i64 (Mv.n (Mv.back q))]))), (49, .v (.tuple (Array.mk [.slice A2 (List.length (doL l (Mv.back q))) c2, .bool (doOk l (Mv.back q))]))), (45, .v (.tuple (Array.mk [.slice A2 (List.length (doL l (Mv.back q))) c2, .bool (doOk l (Mv.back q))]))), (50, .v (.slice A2 (List.length (doL l (Mv.back q))) c2)), (51, .v (.bool (doOk l (Mv.back q)))), (7, .v (.slice A2 (List.length (doL l (Mv.back q))) c2)), (8, .v (.bool (doOk l (Mv.back q))))] [] [(2, .box 4 [.bool false]), (4, .box 23 [.slice A (List.length l) c]), (6, .box 59 [.int .i64 (Mv.a q), .int .i64 (Mv.b q), .int .i64 (Mv.n q)]), (55, .own fun h => h = Hp.one D (Obj.deferred (.some []))), (56, .own fun h => h = Hp.one L (Obj.loop r))] [(2, .some (ρ1 2)), (4, .some (ρ1 4)), (6, .some (ρ1 6)), (55, .some (ρ1 55)), (56, .some (ρ1 56))] (by first | exact Ext.refl _ | assumption | exact Ext.trans (by assumption) (by assumption)) (fun h => by cases h) ⟨⟨rfl, rfl⟩, ⟨⟨rfl, rfl⟩, trivial⟩⟩ rfl (by kernel_rfl) ?_
        refine J.adone' (by kernel_rfl) ?_
        refine J.stop fun a w hh => ⟨A2, c2, U4, hx3.trans hx4, ⟨A2, c2, by rw [doL_len], hc2, hA2⟩, ?_⟩
        have := hh.prune (n := 55) (KL := [(2, .bp 2 0), (4, .bp 4 0), (7, .v (.slice A2 (doL l q.back).length c2)), (8, .v (.bool (doOk l q.back)))]) (ML := gM l.length A c D L r) (PL := [(2, some (ρ1 2)), (4, some (ρ1 4))]) (by kernel_rfl)
        rw [hρ2, hρ4, doL_len] at this
        exact this
      case hQ =>
        rintro a W ⟨A2, c2, U3, hx3, hrd3, hh3⟩
        refine wpIn_seq (wpIn_seq (J.rndRegion (C := ⟨Try.prog, E, E_ok, F, U, w, Try.f18, fun _ _ => False, mix⟩) (I := fun a W => Hd ⟨Try.prog, E, E_ok, F, U, w, Try.f18, PostO E Try.f18 (fun r U' L => r = .bool s.good), mix⟩ (nfSym 55 [(2, .bp 2 0), (4, .bp 4 0), (7, .v (.slice A2 l.length c2)), (53, .v (.bool !(doOk l q.back)))] [] (gM l.length A c D L r) [(2, some (ρ 2)), (4, some (ρ 4))]) U3 a W) (fun _ _ h => h) (by kernel_rfl) ?hQ8 ?hJ8 hh3))
        case hJ8 =>
          refine J.to 3 [] 55 [(2, .bp 2 0), (4, .bp 4 0), (7, .v (.slice A2 (List.length l) c2)), (53, .v (.bool !doOk l (Mv.back q)))] [] [(2, .box 4 [.bool false]), (4, .box 23 [.slice A (List.length l) c]), (55, .own fun h => h = Hp.one D (Obj.deferred (.some []))), (56, .own fun h => h = Hp.one L (Obj.loop r))] [(2, .some (ρ 2)), (4, .some (ρ 4))] (by kernel_rfl) ?_
          exact J.stop fun a w hh => hh.prune (by kernel_rfl)
        case hQ8 =>
          intro a W hh8
          have he : a.eval (.tmp 53) = .bool !(doOk l q.back) := by
            obtain ⟨ρ', hs, G, hS⟩ := hh8.1.sat
            exact hS.evv (x := .tmp 53) rfl
          cases hok : doOk l q.back with
          | false =>
            rw [hok] at he
            refine wpIn_cond_true he (wpIn_seq (J.rndRegion (C := ⟨Try.prog, E, E_ok, F, U, w, Try.f18, fun _ _ => False, mix⟩) (I := fun a W => Hd ⟨Try.prog, E, E_ok, F, U, w, Try.f18, PostO E Try.f18 (fun r U' L => r = .bool s.good), mix⟩ (nfSym 55 [(2, .bp 2 0)] [] (gM l.length A c D L r) [(2, some (ρ 2)), (4, some (ρ 4))]) U3 a W) (fun _ _ h => h) (by kernel_rfl) ?_ ?_ hh8))
            · intro a W hh9
              exact wpIn_ret ⟨hok, l.length, A, c, U3, hx3, hh9.prune (by kernel_rfl)⟩
            · refine J.to 2 [] 55 [(2, .bp 2 0), (4, .bp 4 0)] [] [(4, .box 23 [.slice A (List.length l) c]), (55, .own fun h => h = Hp.one D (Obj.deferred (.some []))), (56, .own fun h => h = Hp.one L (Obj.loop r)), (2, .box 4 [.bool false])] [(2, .some (ρ 2)), (4, .some (ρ 4))] (by kernel_rfl) ?_
              exact J.stop fun a w hh => hh.prune (by kernel_rfl)
          | true =>
            rw [hok] at he
            refine wpIn_cond_false he (wpIn_skip (J.rndRegion (C := ⟨Try.prog, E, E_ok, F, U, w, Try.f18, fun _ _ => False, mix⟩) (I := fun a W => Hd ⟨Try.prog, E, E_ok, F, U, w, Try.f18, PostO E Try.f18 (fun r U' L => r = .bool s.good), mix⟩ (nfSym 55 [(2, .bp 2 0), (4, .bp 4 0)] [] (gM l.length A2 c2 D L r) [(2, some (ρ 2)), (4, some (ρ 4))]) U3 a W) (fun _ _ h => h) (by kernel_rfl) ?_ ?_ hh8))
            · intro a W hh9
              exact ⟨hok, A2, c2, U3, hx3, hrd3, hh9.prune (by kernel_rfl)⟩
            · refine J.to 3 [] 55 [(2, .bp 2 0), (4, .bp 4 0)] [] [(2, .box 4 [.bool false]), (55, .own fun h => h = Hp.one D (Obj.deferred (.some []))), (56, .own fun h => h = Hp.one L (Obj.loop r)), (4, .box 23 [.slice A2 (List.length l) c2])] [(2, .some (ρ 2)), (4, .some (ρ 4))] (by kernel_rfl) ?_
              exact J.stop fun a w hh => hh.prune (by kernel_rfl)
    case hdone =>
      rintro D L r W ⟨l, A', c', U', hh, hx, hl, hrd, hun, hac⟩
      refine wp_seq (wp_region (ops_ds (Q := kont Try.prog [.i fun a W => Hd ⟨Try.prog, E, E_ok, F, U, w, Try.f18, PostO E Try.f18 (fun r U' L => r = .bool s.good), mix⟩ (nfSym 55 [(2, .bp 2 0)] [] [(2, .box 4 [.bool true]), (55, .own fun h => h = Hp.one D (.deferred (some [])))] [(2, some (ρ 2)), (4, some (ρ 4))]) U' a W] (Fin _)) (by kernel_rfl) ?_ (fun c a w h => (h : False)) (fun a w h => kont_out h) _ { a1 with defers := [] } W rfl (J.out (C := ⟨Try.prog, E, E_ok, F, U, w, Try.f18, PostO E Try.f18 (fun r U' L => r = .bool s.good), mix⟩) (s := [.o _ _, .i _]) ?_ _ _ hh)))
      · rintro ⟨at9, ad9⟩ W hh9 hd9
        simp only at hd9
        subst hd9
        refine wp_ret (good_leave s U F w true (by rw [Sg.good, hform, hun]; rfl) D [(2, some (ρ 2)), (4, some (ρ 4))] U' _ W ?_)
        exact hh9
      · refine J.to 2 [] 55 [(2, .bp 2 0), (4, .bp 4 0)] [] [(4, .box 23 [.slice A' (List.length l) c']), (55, .own fun h => h = Hp.one D (Obj.deferred (.some []))), (56, .own fun h => h = Hp.one L (Obj.loop r)), (2, .box 4 [.bool true])] [(2, .some (ρ 2)), (4, .some (ρ 4))] (by kernel_rfl) ?_
        exact J.stop fun a w hh => hh.prune (by kernel_rfl)
    case hstop =>
      rintro D L r W ⟨hun, n, A', c', U', hh⟩
      exact good_leave s U F w false (by rw [Sg.good, hun, Bool.and_false]) D [(2, some (ρ 2)), (4, some (ρ 4))] U' a1 W (hh.prune (by kernel_rfl))
end Go.Rx
end

section
open Go Go.Rx Go.Proofs
set_option maxHeartbeats 1000000
namespace Go.Rx
def implStep (s : Sg) : Sg × Bool := if s.good then (if s.step.2 then (s.step.1, true) else (Sg.zero, false)) else (Sg.zero, false)
theorem zeroOwn : sgOwn (.slice none 0 0) (.slice none 0 0) Sg.zero Hp.emp :=
  ⟨Hp.emp, Hp.emp, ⟨rfl, .inl ⟨rfl, rfl, fun _ => rfl⟩⟩, ⟨rfl, .inl ⟨rfl, rfl, fun _ => rfl⟩⟩, fun _ => .inl rfl, rfl⟩

theorem sgOwn_slice {va vm : Value} {s : Sg} {h : Hp} (ho : sgOwn va vm s h) : ∃ x : Option Addr × Nat × Option Addr × Nat, va = .slice x.1 s.acc.length x.2.1 ∧ vm = .slice x.2.2.1 s.mv.length x.2.2.2 := by
  obtain ⟨a, b, h1, h2, -⟩ := ho
  obtain ⟨A, c, e⟩ := arr_slice h1
  obtain ⟨B, d, e'⟩ := arr_slice h2
  exact ⟨(A, c, B, d), e, e'⟩

theorem changedStep_ok (va vm : Value) (s : Sg) (U : Hp) (ha : Rd rInt U va s.acc) (hm : Rd rMv U vm s.mv) (hb : s.acc.length < 2^40) (hb2 : s.mv.length < 2^40) :
    OCall Try.prog 30 #[.agg #[va, vm, .int .i64 s.done, .bool s.und], .func (.func 33) #[] #[]] U fun r U' L => ∃ va' vm', r = .tuple #[.agg #[va', vm', .int .i64 (implStep s).1.done, .bool (implStep s).1.und], .bool (implStep s).2] ∧ sgOwn va' vm' (implStep s).1 L := by
  refine OCall.of (args := [.agg #[va, vm, .int .i64 s.done, .bool s.und], .func (.func 33) #[] #[]]) E_ok mix Try.func30 (by kernel_rfl) rfl Try.ntmps30 (Nat.le_of_ble_eq_true rfl) fun F w0 => ?_
  have zero : implStep s = (Sg.zero, false) → ∃ va' vm', Value.tuple #[.agg #[.slice none 0 0, .slice none 0 0, .int .i64 0, .bool false], .bool false] = .tuple #[.agg #[va', vm', .int .i64 (implStep s).1.done, .bool (implStep s).1.und], .bool (implStep s).2] ∧ sgOwn va' vm' (implStep s).1 Hp.emp := by
    intro e
    rw [e]
    exact ⟨_, _, rfl, zeroOwn⟩
  refine J.to 10 [] 18 [(1, .v (.func (.func 33) (Array.mk []) (Array.mk []))), (2, .bp 2 0), (4, .bp 4 0), (5, .v (.bool false)), (7, .v (.agg (Array.mk [va, vm, .int .i64 (Sg.done s), .bool (Sg.und s)])))] [(5, .some false)] [(2, .box 28 [va, vm, .int .i64 (Sg.done s), .bool (Sg.und s)]), (4, .box 28 [.slice .none 0 0, .slice .none 0 0, .int .i64 0, .bool false])] [] (by kernel_rfl) ?_
  refine J.one (Op1.call rfl rfl rfl rfl rfl rfl rfl rfl (implGood_ok va vm s U ha hm hb hb2) fun v U1 hx1 hv => ?_); subst hv
  refine J.to 2 [] 18 [(1, .v (.func (.func 33) (Array.mk []) (Array.mk []))), (2, .bp 2 0), (4, .bp 4 0), (5, .v (.bool false)), (9, .v (.bool !Sg.good s))] [(5, .some false)] [(2, .box 28 [va, vm, .int .i64 (Sg.done s), .bool (Sg.und s)]), (4, .box 28 [.slice .none 0 0, .slice .none 0 0, .int .i64 0, .bool false])] [] (by kernel_rfl) ?_
  refine J.br rfl rfl (fun h1 => ?_) (fun h1 => ?_)
  · refine J.to 7 [true] 18 [(1, .v (.func (.func 33) (Array.mk []) (Array.mk []))), (2, .bp 2 0), (4, .bp 4 0), (5, .v (.bool false))] [(5, .some false)] [(2, .box 28 [va, vm, .int .i64 (Sg.done s), .bool (Sg.und s)]), (4, .box 28 [.slice .none 0 0, .slice .none 0 0, .int .i64 0, .bool false])] [] (by kernel_rfl) ?_
    have h1 : s.good = false := by simpa using h1
    exact J.ret ⟨_, rfl, .inl (zero (by simp [implStep, h1]))⟩
  have h1 : s.good = true := by simpa using h1
  have hf : s.form = true := by simp only [Sg.good, Bool.and_eq_true] at h1; exact h1.1
  refine J.to 5 [false] 18 [(1, .v (.func (.func 33) (Array.mk []) (Array.mk []))), (4, .bp 4 0), (5, .v (.bool false)), (11, .v (.agg (Array.mk [va, vm, .int .i64 (Sg.done s), .bool (Sg.und s)])))] [(5, .some false)] [(4, .box 28 [.slice .none 0 0, .slice .none 0 0, .int .i64 0, .bool false])] [] (by kernel_rfl) ?_
  refine J.one (Op1.ocall rfl rfl rfl rfl rfl rfl rfl (cloneSaga_ok va vm s U1 (ha.mono hx1) (hm.mono hx1) hb hb2) fun v U2 hx2 => ?_)
  refine J.own' (α := Σ' x : Option Addr × Nat × Option Addr × Nat, v = .agg #[.slice x.1 s.acc.length x.2.1, .slice x.2.2.1 s.mv.length x.2.2.2, .int .i64 s.done, .bool s.und]) (p' := fun x => sgOwn (.slice x.1.1 s.acc.length x.1.2.1) (.slice x.1.2.2.1 s.mv.length x.1.2.2.2) s) 12 rfl
    (fun h ⟨a, b, e, h1⟩ => let ⟨x, e1, e2⟩ := sgOwn_slice h1; ⟨⟨x, by rw [e, e1, e2]⟩, e1 ▸ e2 ▸ h1⟩) ?_
  rintro ⟨⟨A2, c2, B2, d2⟩, rfl⟩
  dsimp only
  refine J.to 7 [] 18 [(4, .bp 4 0), (5, .v (.bool false)), (6, .bp 6 0), (13, .v (.func (.func 33) (Array.mk []) (Array.mk [])))] [(5, .some false)] [(4, .box 28 [.slice .none 0 0, .slice .none 0 0, .int .i64 0, .bool false]), (12, .own (sgOwn (.slice A2 (List.length (Sg.acc s)) c2) (.slice B2 (List.length (Sg.mv s)) d2) s)), (6, .box 28 [.slice A2 (List.length (Sg.acc s)) c2, .slice B2 (List.length (Sg.mv s)) d2, .int .i64 (Sg.done s), .bool (Sg.und s)])] [] (by kernel_rfl) ?_
  refine J.one (Op1.bcall [(104, 6), (105, 12)] (args := [.bp 104 0]) (ML := [(104, .box 28 [.slice A2 s.acc.length c2, .slice B2 s.mv.length d2, .int .i64 s.done, .bool s.und]), (105, .own (sgOwn (.slice A2 s.acc.length c2) (.slice B2 s.mv.length d2) s))]) rfl rfl rfl rfl rfl rfl rfl rfl rfl rfl (fun p hp => by simp at hp; rcases hp with rfl | rfl <;> rfl) (fun p hp => by simp at hp; rcases hp with rfl | rfl <;> rfl) (stepM_ok _ _ s U2 hf) fun v U3 ML hx3 ⟨va3, vm3, hv, hML⟩ => ?_)
  subst hv; subst hML
  refine J.own' (α := ∃ x : Option Addr × Nat × Option Addr × Nat, va3 = .slice x.1 s.step.1.acc.length x.2.1 ∧ vm3 = .slice x.2.2.1 s.step.1.mv.length x.2.2.2) (p' := fun _ => sgOwn va3 vm3 s.step.1) 12 rfl (fun h h1 => ⟨sgOwn_slice h1, h1⟩) ?_
  rintro ⟨⟨A3, c3, B3, d3⟩, rfl, rfl⟩
  dsimp only
  refine J.to 2 [] 18 [(4, .bp 4 0), (5, .v (.bool false)), (6, .bp 6 0), (15, .v (.bool !Prod.snd (Sg.step s)))] [(5, .some false)] [(4, .box 28 [.slice .none 0 0, .slice .none 0 0, .int .i64 0, .bool false]), (6, .box 28 [.slice A3 (List.length (Sg.acc (Prod.fst (Sg.step s)))) c3, .slice B3 (List.length (Sg.mv (Prod.fst (Sg.step s)))) d3, .int .i64 (Sg.done (Prod.fst (Sg.step s))), .bool (Sg.und (Prod.fst (Sg.step s)))]), (12, .own (sgOwn (.slice A3 (List.length (Sg.acc (Prod.fst (Sg.step s)))) c3) (.slice B3 (List.length (Sg.mv (Prod.fst (Sg.step s)))) d3) (Prod.fst (Sg.step s))))] [] (by kernel_rfl) ?_
  refine J.br rfl rfl (fun h2 => ?_) (fun h2 => ?_)
  · refine J.to 7 [true] 18 [(4, .bp 4 0), (6, .bp 6 0), (5, .v (.bool false))] [(5, .some false)] [(6, .box 28 [.slice A3 (List.length (Sg.acc (Prod.fst (Sg.step s)))) c3, .slice B3 (List.length (Sg.mv (Prod.fst (Sg.step s)))) d3, .int .i64 (Sg.done (Prod.fst (Sg.step s))), .bool (Sg.und (Prod.fst (Sg.step s)))]), (12, .own (sgOwn (.slice A3 (List.length (Sg.acc (Prod.fst (Sg.step s)))) c3) (.slice B3 (List.length (Sg.mv (Prod.fst (Sg.step s)))) d3) (Prod.fst (Sg.step s)))), (4, .box 28 [.slice .none 0 0, .slice .none 0 0, .int .i64 0, .bool false])] [] (by kernel_rfl) ?_
    have h2 : s.step.2 = false := by simpa using h2
    exact J.ret ⟨_, rfl, .inl (zero (by simp [implStep, h1, h2]))⟩
  · have h2 : s.step.2 = true := by simpa using h2
    have e : implStep s = (s.step.1, true) := by simp [implStep, h1, h2]
    refine J.to 8 [false] 18 [(4, .bp 4 0), (5, .v (.bool true))] [(5, .some true)] [(12, .own (sgOwn (.slice A3 (List.length (Sg.acc (Prod.fst (Sg.step s)))) c3) (.slice B3 (List.length (Sg.mv (Prod.fst (Sg.step s)))) d3) (Prod.fst (Sg.step s)))), (4, .box 28 [.slice A3 (List.length (Sg.acc (Prod.fst (Sg.step s)))) c3, .slice B3 (List.length (Sg.mv (Prod.fst (Sg.step s)))) d3, .int .i64 (Sg.done (Prod.fst (Sg.step s))), .bool (Sg.und (Prod.fst (Sg.step s)))])] [] (by kernel_rfl) ?_
    refine J.ret ⟨_, rfl, .inr ⟨12, _, rfl, fun L hL => ⟨.slice A3 s.step.1.acc.length c3, .slice B3 s.step.1.mv.length d3, ?_, ?_⟩⟩⟩
    · rw [e]; rfl
    · rw [e]; exact hL

theorem implStep_ok (va vm : Value) (s : Sg) (U : Hp) (ha : Rd rInt U va s.acc) (hm : Rd rMv U vm s.mv) (hb : s.acc.length < 2^40) (hb2 : s.mv.length < 2^40) :
    OCall Try.prog 16 #[.agg #[va, vm, .int .i64 s.done, .bool s.und]] U fun r U' L => ∃ va' vm', r = .tuple #[.agg #[va', vm', .int .i64 (implStep s).1.done, .bool (implStep s).1.und], .bool (implStep s).2] ∧ sgOwn va' vm' (implStep s).1 L := by
  refine OCall.of (args := [.agg #[va, vm, .int .i64 s.done, .bool s.und]]) E_ok mix Try.func16 (by kernel_rfl) rfl Try.ntmps16 (Nat.le_of_ble_eq_true rfl) fun F w0 => ?_
  refine J.to 9 [] 8 [(2, .bp 2 0), (3, .v (.bool false)), (4, .v (.agg (Array.mk [va, vm, .int .i64 (Sg.done s), .bool (Sg.und s)])))] [(3, .some false)] [(2, .box 28 [.slice .none 0 0, .slice .none 0 0, .int .i64 0, .bool false])] [] (by kernel_rfl) ?_
  refine J.one (Op1.ocall rfl rfl rfl rfl rfl rfl rfl (changedStep_ok va vm s U ha hm hb hb2) fun v U2 hx2 => ?_)
  generalize implStep s = t
  refine J.own' (α := Σ' x : Option Addr × Nat × Option Addr × Nat, v = .tuple #[.agg #[.slice x.1 t.1.acc.length x.2.1, .slice x.2.2.1 t.1.mv.length x.2.2.2, .int .i64 t.1.done, .bool t.1.und], .bool t.2]) (p' := fun x => sgOwn (.slice x.1.1 t.1.acc.length x.1.2.1) (.slice x.1.2.2.1 t.1.mv.length x.1.2.2.2) t.1) 5 rfl
    (fun h ⟨a, b, e, h1⟩ => let ⟨x, e1, e2⟩ := sgOwn_slice h1; ⟨⟨x, by rw [e, e1, e2]⟩, e1 ▸ e2 ▸ h1⟩) ?_
  rintro ⟨⟨A2, c2, B2, d2⟩, rfl⟩
  dsimp only
  refine J.to 5 [] 8 [(2, .bp 2 0), (3, .v (.bool (Prod.snd t)))] [] [(5, .own (sgOwn (.slice A2 (List.length (Sg.acc (Prod.fst t))) c2) (.slice B2 (List.length (Sg.mv (Prod.fst t))) d2) (Prod.fst t))), (2, .box 28 [.slice A2 (List.length (Sg.acc (Prod.fst t))) c2, .slice B2 (List.length (Sg.mv (Prod.fst t))) d2, .int .i64 (Sg.done (Prod.fst t)), .bool (Sg.und (Prod.fst t))])] [] (by kernel_rfl) ?_
  exact J.ret ⟨_, rfl, .inr ⟨5, _, rfl, fun L hL => ⟨_, _, rfl, hL⟩⟩⟩
end Go.Rx
end

section
open Go Go.Rx Go.Proofs
namespace Go.Rx
theorem doL_back {l : List Int} {m : Mv} (h : May l m) (ho : doOk l m = true) : doL (doL l m) m.back = l := by
  have hab : m.a.toNat ≠ m.b.toNat := by have := h.ne; have := h.a; have := h.b; omega
  have h2 : May (doL l m) m.back := ⟨doL_all h ho, by rw [doL_len]; exact h.b, by rw [doL_len]; exact h.a, h.ne.symm, h.n⟩
  refine List.ext_getElem (by rw [doL_len, doL_len]) fun i h3 h4 => ?_
  have e1 := doL_get h2 i
  have e2 := doL_get h i
  rw [List.getD_eq_getElem?_getD, List.getElem?_eq_getElem h3, Option.getD_some] at e1
  rw [e1, e2]
  have e3 : l.getD i 0 = l[i] := by rw [List.getD_eq_getElem?_getD, List.getElem?_eq_getElem h4, Option.getD_some]
  rw [e3]
  simp only [Mv.back]
  by_cases c1 : i = m.a.toNat
  · subst c1; simp only [if_true, if_neg hab]; omega
  · by_cases c2 : i = m.b.toNat
    · subst c2; simp only [if_neg c1, if_true]; omega
    · simp only [if_neg c2, if_neg c1]

theorem doOk_back {l : List Int} {m : Mv} (h : May l m) (ho : doOk l m = true) : doOk (doL l m) m.back = true := by
  unfold doOk
  rw [doL_back h ho]
  have ga := all_get h.acc m.back.a.toNat
  have gb := all_get h.acc m.back.b.toNat
  simp only [Bool.and_eq_true, decide_eq_true_eq]
  omega

theorem good_parts {s : Sg} (h : s.good = true) : s.form = true ∧ undo s.mv s.done.toNat s.acc = true := by
  simpa [Sg.good] using h
theorem form_parts {s : Sg} (h : s.form = true) : s.acc.all accOk = true ∧ (1 ≤ s.acc.length ∧ s.acc.length ≤ 8) ∧ s.mv.length ≤ 20 ∧ (0 ≤ s.done ∧ s.done ≤ s.mv.length) ∧ s.mv.all (mvB s.acc.length) = true := by
  simp only [Sg.form, accB, Bool.and_eq_true, inB_iff, decide_eq_true_eq] at h
  obtain ⟨⟨⟨⟨hacc, hal⟩, hml⟩, hd⟩, hmv⟩ := h
  exact ⟨hacc, by omega, hml, hd, hmv⟩
theorem form_of {acc acc' : List Int} {mv : List Mv} {d d' : Int} {u u' : Bool} (h : (Sg.mk acc mv d u).form = true) (ha : acc'.all accOk = true) (hl : acc'.length = acc.length) (hd : 0 ≤ d' ∧ d' ≤ mv.length) : (Sg.mk acc' mv d' u').form = true := by
  obtain ⟨-, h2, h3, -, h5⟩ := form_parts h
  simp only at h2 h3 h5
  simp only [Sg.form, accB, Bool.and_eq_true, inB_iff, decide_eq_true_eq, hl]
  exact ⟨⟨⟨⟨ha, by omega⟩, h3⟩, hd⟩, h5⟩
theorem getD_mem {mv : List Mv} {i : Nat} (h : i < mv.length) : mv.getD i ⟨0, 0, 0⟩ ∈ mv := by
  rw [List.getD_eq_getElem?_getD, List.getElem?_eq_getElem h]; exact List.getElem_mem h

theorem step_good {s : Sg} (h : s.good = true) (h2 : s.step.2 = true) : s.step.1.good = true := by
  obtain ⟨hf, hu⟩ := good_parts h
  obtain ⟨p1, p2, p3, p4, p5⟩ := form_parts hf
  obtain ⟨acc, mv, d, u⟩ := s
  simp only at *
  unfold Sg.step at h2 ⊢
  simp only at h2 ⊢
  cases u with
  | true =>
    simp only [if_true] at h2 ⊢
    by_cases hd : d = 0
    · rw [if_pos hd] at h2; cases h2
    · rw [if_neg hd]
      simp only
      rw [wr_id (by omega)]
      obtain ⟨k, rfl⟩ : ∃ k : Nat, d = (k : Int) + 1 := ⟨(d - 1).toNat, by omega⟩
      have e1 : ((k : Int) + 1).toNat = k + 1 := by omega
      have e2 : ((k : Int) + 1 - 1).toNat = k := by omega
      rw [e1, undo, Bool.and_eq_true] at hu
      have hmay := (form_may hf (getD_mem (show k < mv.length by omega))).back
      rw [e2]
      simp only [Sg.good, Bool.and_eq_true]
      refine ⟨form_of hf (doL_all hmay hu.1) (doL_len _ _) (by omega), ?_⟩
      rw [e2]; exact hu.2
  | false =>
    simp only [Bool.false_eq_true, if_false] at h2 ⊢
    by_cases hd : d = mv.length
    · rw [if_pos hd] at h2; cases h2
    · rw [if_neg hd] at h2 ⊢
      have hlt : d.toNat < mv.length := by omega
      have hmay := form_may hf (getD_mem hlt)
      cases ho : doOk acc (mv.getD d.toNat ⟨0, 0, 0⟩) with
      | false =>
        simp only [Bool.false_eq_true, if_false, Sg.good, Bool.and_eq_true]
        exact ⟨form_of hf p1 rfl p4, hu⟩
      | true =>
        simp only [if_true, Sg.good, Bool.and_eq_true]
        rw [wr_id (by omega)]
        refine ⟨form_of hf (doL_all hmay ho) (doL_len _ _) (by omega), ?_⟩
        rw [show (d + 1).toNat = d.toNat + 1 by omega, undo, doOk_back hmay ho, doL_back hmay ho, Bool.true_and]
        exact hu

theorem implStep_eq (s : Sg) : implStep s = specStep s := by
  unfold implStep specStep
  by_cases h : s.good = true
  · rw [if_pos h, if_pos h]
    by_cases h2 : s.step.2 = true
    · rw [if_pos h2, step_good h h2, h2]; rfl
    · rw [if_neg h2, if_neg]
      simp [h2]
  · rw [if_neg h, if_neg h]
end Go.Rx
end

section
open Go Go.Rx Go.Proofs
set_option maxHeartbeats 1000000
namespace Go.Rx
def szF (n : Nat) (left : Int) : Int := if wr (left - n) < 0 then -1 else wr (left - n)

theorem szIntS_ok (A : Option Addr) (n c : Nat) (left : Int) (U : Hp) : PCall Try.prog 49 #[.slice A n c, .int .i64 left] U fun r _ => r = .int .i64 (szF n left) := by
  refine OCall.of (args := [.slice A n c, .int .i64 left]) E_ok mix Try.func49 (by kernel_rfl) rfl Try.ntmps49 (Nat.le_of_ble_eq_true rfl) fun F w0 => ?_
  refine J.to 18 [] 12 [(4, .v (.int .i64 0)), (1, .v (.int .i64 (IntKind.wrap .i64 (left - (↑n : Int))))), (10, .v (.bool (Decidable.decide (IntKind.wrap .i64 (left - (↑n : Int)) < 0))))] [] [] [] (by kernel_rfl) ?_
  refine J.br rfl rfl (fun h => ?_) (fun h => ?_)
  · refine J.to 5 [true] 12 [(1, .v (.int .i64 (IntKind.wrap .i64 (left - (↑n : Int))))), (4, .v (.int .i64 (-1)))] [] [] [] (by kernel_rfl) ?_
    refine J.ret ⟨_, rfl, .inl ?_⟩
    have h : wr (left - n) < 0 := of_decide_eq_true h
    rw [szF, if_pos h]; rfl
  · refine J.to 7 [false] 12 [(4, .v (.int .i64 (IntKind.wrap .i64 (left - (↑n : Int)))))] [] [] [] (by kernel_rfl) ?_
    refine J.ret ⟨_, rfl, .inl ?_⟩
    have h : ¬ wr (left - n) < 0 := of_decide_eq_false h
    rw [szF, if_neg h]; rfl
theorem szMoveS_ok (A : Option Addr) (n c : Nat) (left : Int) (U : Hp) : PCall Try.prog 50 #[.slice A n c, .int .i64 left] U fun r _ => r = .int .i64 (szF n left) := by
  refine OCall.of (args := [.slice A n c, .int .i64 left]) E_ok mix Try.func50 (by kernel_rfl) rfl Try.ntmps50 (Nat.le_of_ble_eq_true rfl) fun F w0 => ?_
  refine J.to 18 [] 12 [(4, .v (.int .i64 0)), (1, .v (.int .i64 (IntKind.wrap .i64 (left - (↑n : Int))))), (10, .v (.bool (Decidable.decide (IntKind.wrap .i64 (left - (↑n : Int)) < 0))))] [] [] [] (by kernel_rfl) ?_
  refine J.br rfl rfl (fun h => ?_) (fun h => ?_)
  · refine J.to 5 [true] 12 [(1, .v (.int .i64 (IntKind.wrap .i64 (left - (↑n : Int))))), (4, .v (.int .i64 (-1)))] [] [] [] (by kernel_rfl) ?_
    refine J.ret ⟨_, rfl, .inl ?_⟩
    have h : wr (left - n) < 0 := of_decide_eq_true h
    rw [szF, if_pos h]; rfl
  · refine J.to 7 [false] 12 [(4, .v (.int .i64 (IntKind.wrap .i64 (left - (↑n : Int)))))] [] [] [] (by kernel_rfl) ?_
    refine J.ret ⟨_, rfl, .inl ?_⟩
    have h : ¬ wr (left - n) < 0 := of_decide_eq_false h
    rw [szF, if_neg h]; rfl
def szSg (n m : Nat) (left : Int) : Int := if szF n left < 0 then -1 else szF m (szF n left)
theorem szF_neg {n : Nat} {l : Int} (h : szF n l < 0) : szF n l = -1 := by
  unfold szF at h ⊢
  split at h
  · rename_i h1; rw [if_pos h1]
  · rename_i h1; omega
theorem szSaga_ok (A B : Option Addr) (n c m d : Nat) (dn : Int) (un : Bool) (left : Int) (U : Hp) : PCall Try.prog 20 #[.agg #[.slice A n c, .slice B m d, .int .i64 dn, .bool un], .int .i64 left] U fun r _ => r = .int .i64 (szSg n m left) := by
  refine OCall.of (args := [.agg #[.slice A n c, .slice B m d, .int .i64 dn, .bool un], .int .i64 left]) E_ok mix Try.func20 (by kernel_rfl) rfl Try.ntmps20 (Nat.le_of_ble_eq_true rfl) fun F w0 => ?_
  refine J.to 10 [] 18 [(1, .v (.int .i64 left)), (2, .bp 2 0), (4, .v (.int .i64 0)), (6, .v (.slice A n c)), (7, .v (.int .i64 left))] [] [(2, .box 46 [.slice A n c, .slice B m d, .int .i64 dn, .bool un])] [] (by kernel_rfl) ?_
  refine J.one (Op1.call rfl rfl rfl rfl rfl rfl rfl rfl (szIntS_ok _ _ _ _ _) fun v U1 hx1 hv => ?_); subst hv
  refine J.to 8 [] 18 [(2, .bp 2 0), (4, .v (.int .i64 0)), (1, .v (.int .i64 (szF n left))), (10, .v (.bool (Decidable.decide (szF n left < 0))))] [] [(2, .box 46 [.slice A n c, .slice B m d, .int .i64 dn, .bool un])] [] (by kernel_rfl) ?_
  refine J.br rfl rfl (fun h => ?_) (fun h => ?_)
  · refine J.to 5 [true] 18 [(1, .v (.int .i64 (szF n left))), (2, .bp 2 0), (4, .v (.int .i64 (-1)))] [] [(2, .box 46 [.slice A n c, .slice B m d, .int .i64 dn, .bool un])] [] (by kernel_rfl) ?_
    have h : szF n left < 0 := of_decide_eq_true h
    refine J.ret ⟨_, rfl, .inl ?_⟩
    rw [szSg, if_pos h]; rfl
  have h : ¬ szF n left < 0 := of_decide_eq_false h
  refine J.to 7 [false] 18 [(1, .v (.int .i64 (szF n left))), (4, .v (.int .i64 0)), (12, .v (.slice B m d)), (13, .v (.int .i64 (szF n left)))] [] [] [] (by kernel_rfl) ?_
  refine J.one (Op1.call rfl rfl rfl rfl rfl rfl rfl rfl (szMoveS_ok _ _ _ _ _) fun v U1 hx1 hv => ?_); subst hv
  refine J.to 8 [] 18 [(4, .v (.int .i64 0)), (1, .v (.int .i64 (szF m (szF n left)))), (16, .v (.bool (Decidable.decide (szF m (szF n left) < 0))))] [] [] [] (by kernel_rfl) ?_
  refine J.br rfl rfl (fun h2 => ?_) (fun h2 => ?_)
  · refine J.to 5 [true] 18 [(1, .v (.int .i64 (szF m (szF n left)))), (4, .v (.int .i64 (-1)))] [] [] [] (by kernel_rfl) ?_
    have h2 : szF m (szF n left) < 0 := of_decide_eq_true h2
    refine J.ret ⟨_, rfl, .inl ?_⟩
    rw [szSg, if_neg h, szF_neg h2]; rfl
  · refine J.to 7 [false] 18 [(4, .v (.int .i64 (szF m (szF n left))))] [] [] [] (by kernel_rfl) ?_
    refine J.ret ⟨_, rfl, .inl ?_⟩
    rw [szSg, if_neg h]; rfl

theorem eqMove_ok (a b : Mv) (U : Hp) : PCall Try.prog 70 #[a.val, b.val] U fun r _ => r = .bool (decide (a = b)) := by
  refine OCall.of (args := [a.val, b.val]) E_ok mix Try.func70 (by kernel_rfl) rfl Try.ntmps70 (Nat.le_of_ble_eq_true rfl) fun F w0 => ?_
  obtain ⟨a1, a2, a3⟩ := a
  obtain ⟨b1, b2, b3⟩ := b
  refine J.to 15 [] 20 [(2, .bp 2 0), (3, .bp 3 0), (4, .v (.bool false)), (9, .v (.bool (a1 != b1)))] [(4, .some false)] [(2, .box 59 [.int .i64 a1, .int .i64 a2, .int .i64 a3]), (3, .box 59 [.int .i64 b1, .int .i64 b2, .int .i64 b3])] [] (by kernel_rfl) ?_
  refine J.br rfl rfl (fun h1 => ?_) (fun h1 => ?_)
  · refine J.to 5 [true] 20 [(2, .bp 2 0), (3, .bp 3 0), (4, .v (.bool false))] [(4, .some false)] [(2, .box 59 [.int .i64 a1, .int .i64 a2, .int .i64 a3]), (3, .box 59 [.int .i64 b1, .int .i64 b2, .int .i64 b3])] [] (by kernel_rfl) ?_
    refine J.ret ⟨_, rfl, .inl ?_⟩
    have h1 : a1 ≠ b1 := by simpa using h1
    show Value.bool false = _
    simp [h1]
  have h1 : a1 = b1 := by simpa using h1
  refine J.to 11 [false] 20 [(2, .bp 2 0), (3, .bp 3 0), (4, .v (.bool false)), (14, .v (.bool (a2 != b2)))] [(4, .some false)] [(2, .box 59 [.int .i64 a1, .int .i64 a2, .int .i64 a3]), (3, .box 59 [.int .i64 b1, .int .i64 b2, .int .i64 b3])] [] (by kernel_rfl) ?_
  refine J.br rfl rfl (fun h2 => ?_) (fun h2 => ?_)
  · refine J.to 5 [true] 20 [(2, .bp 2 0), (3, .bp 3 0), (4, .v (.bool false))] [(4, .some false)] [(2, .box 59 [.int .i64 a1, .int .i64 a2, .int .i64 a3]), (3, .box 59 [.int .i64 b1, .int .i64 b2, .int .i64 b3])] [] (by kernel_rfl) ?_
    refine J.ret ⟨_, rfl, .inl ?_⟩
    have h2 : a2 ≠ b2 := by simpa using h2
    show Value.bool false = _
    simp [h2]
  have h2 : a2 = b2 := by simpa using h2
  refine J.to 11 [false] 20 [(4, .v (.bool false)), (19, .v (.bool (a3 != b3)))] [(4, .some false)] [] [] (by kernel_rfl) ?_
  refine J.br rfl rfl (fun h3 => ?_) (fun h3 => ?_)
  · refine J.to 5 [true] 20 [(4, .v (.bool false))] [(4, .some false)] [] [] (by kernel_rfl) ?_
    refine J.ret ⟨_, rfl, .inl ?_⟩
    have h3 : a3 ≠ b3 := by simpa using h3
    show Value.bool false = _
    simp [h3]
  have h3 : a3 = b3 := by simpa using h3
  refine J.to 6 [false] 20 [(4, .v (.bool true))] [(4, .some true)] [] [] (by kernel_rfl) ?_
  refine J.ret ⟨_, rfl, .inl ?_⟩
  show Value.bool true = _
  simp [h1, h2, h3]

theorem toMove_ok (a : Mv) (U : Hp) : PCall Try.prog 69 #[a.val] U fun r _ => r = a.val := by
  refine OCall.of (args := [a.val]) E_ok mix Try.func69 (by kernel_rfl) rfl Try.ntmps69 (Nat.le_of_ble_eq_true rfl) fun F w0 => ?_
  refine J.to 35 [] 14 [(2, .bp 2 0)] [] [(2, .box 59 [.int .i64 (Mv.a a), .int .i64 (Mv.b a), .int .i64 (Mv.n a)])] [] (by kernel_rfl) ?_
  exact J.ret ⟨_, rfl, .inl rfl⟩
end Go.Rx
end

section
open Go Go.Rx Go.Proofs
set_option maxHeartbeats 1000000
namespace Go.Rx
theorem get_of {α : Type} {l : List α} {i : Nat} {q : α} {n : Int} (hn : n = i) (hq : l[n.toNat]? = some q) : ∃ h : i < l.length, l[i] = q := by
  subst hn
  have := List.getElem?_eq_some_iff.1 hq
  simpa using this
theorem take_snoc {α : Type} {l : List α} {i : Nat} {q : α} (h : ∃ h : i < l.length, l[i] = q) : l.take (i + 1) = l.take i ++ [q] := by
  obtain ⟨h, e⟩ := h
  rw [← e, List.take_succ_eq_append_getElem h]
theorem ne_of_get {α : Type} {l m : List α} {i : Nat} {x y : α} (h : ∃ h : i < l.length, l[i] = x) (h' : ∃ h : i < m.length, m[i] = y) (hne : x ≠ y) : l ≠ m := by
  intro e; subst e
  obtain ⟨a, b⟩ := h
  obtain ⟨c, d⟩ := h'
  exact hne (b.symm.trans d)

theorem eqIntS_ok (va vb : Value) (l m : List Int) (U : Hp) (hl : Rd rInt U va l) (hm : Rd rInt U vb m) (hb : l.length < 2^40) :
    PCall Try.prog 53 #[va, vb] U fun r _ => r = .bool (decide (l = m)) := by
  obtain ⟨A, c, rfl, hc, hA⟩ := hl
  obtain ⟨B, d, rfl, hd, hB⟩ := hm
  refine OCall.of (args := [.slice A l.length c, .slice B m.length d]) E_ok mix Try.func53 (by kernel_rfl) rfl Try.ntmps53 (Nat.le_of_ble_eq_true rfl) fun F w0 => ?_
  refine J.to 13 [] 26 [(0, .v (.slice A (List.length l) c)), (1, .v (.slice B (List.length m) d)), (4, .v (.bool false)), (10, .v (.bool ((↑(List.length l) : Int) != (↑(List.length m) : Int))))] [(4, .some false)] [] [] (by kernel_rfl) ?_
  refine J.br rfl rfl (fun h1 => ?_) (fun h1 => ?_)
  · refine J.to 5 [true] 26 [(0, .v (.slice A (List.length l) c)), (1, .v (.slice B (List.length m) d)), (4, .v (.bool false))] [(4, .some false)] [] [] (by kernel_rfl) ?_
    refine J.ret ⟨_, rfl, .inl ?_⟩
    have h1 : l.length ≠ m.length := by simp at h1; omega
    have : l ≠ m := fun e => h1 (by rw [e])
    show Value.bool false = _
    simp [this]
  have h1 : l.length = m.length := by simp at h1; omega
  refine J.to 8 [false] 26 [(0, .v (.slice A (List.length l) c)), (1, .v (.slice B (List.length m) d)), (4, .v (.bool false)), (5, .v (.int .i64 0))] [(4, .some false)] [] [] (by kernel_rfl) ?_
  refine J.loopK 26 [] (fun i : Nat => [(0, .v (.slice A l.length c)), (1, .v (.slice B m.length d)), (5, .v (.int .i64 i))]) (fun _ => [])
    (fun i U' => i ≤ l.length ∧ l.take i = m.take i ∧ Arr rInt U' A l ∧ Arr rInt U' B m) (fun i => l.length - i) 0 ⟨Nat.zero_le _, rfl, hA, hB⟩ (by kernel_rfl) fun i U' ⟨i1, i2, hA, hB⟩ hx => ?_
  refine J.to 8 [] 26 [(0, .v (.slice A (List.length l) c)), (1, .v (.slice B (List.length m) d)), (5, .v (.int .i64 (↑i : Int))), (14, .v (.bool (Decidable.decide ((↑i : Int) < (↑(List.length l) : Int)))))] [] [] [] (by kernel_rfl) ?_
  refine J.br rfl rfl (fun hb => ?_) (fun hb => ?_)
  · refine J.to 5 [true] 26 [(0, .v (.slice A (List.length l) c)), (1, .v (.slice B (List.length m) d)), (5, .v (.int .i64 (↑i : Int)))] [] [] [] (by kernel_rfl) ?_
    replace hb : (i : Int) < l.length := of_decide_eq_true hb
    refine J.any [] [] [] trivial fun ρ1 _ => ?_
    refine J.takeTo true [0, 1, 4, 5] 5 26 [(0, .v (.slice A (List.length l) c)), (1, .v (.slice B (List.length m) d)), (5, .v (.int .i64 (↑i : Int))), (17, .v (.slice A (List.length l) c)), (18, .v (.int .i64 (↑i : Int))), (21, .v (.slice B (List.length m) d)), (22, .v (.int .i64 (↑i : Int)))] [] [] [] (by first | exact Ext.refl _ | assumption | exact Ext.trans (by assumption) (by assumption)) (fun h => rfl) trivial rfl (by kernel_rfl) ?_
    refine J.aidx (r := rInt) 2 rfl rfl rfl (by kernel_rfl) rfl (.inr ⟨Ext.refl _, trivial⟩) rfl ⟨_, _, _, _, _, rfl, rfl, rfl⟩ rfl rfl hA (by omega) hb fun q b o' cs hq hcs => ?_
    subst hcs
    have g1 := get_of rfl hq
    refine J.aidx (r := rInt) 6 rfl rfl rfl (by kernel_rfl) rfl (.inr ⟨Ext.refl _, trivial⟩) rfl ⟨_, _, _, _, _, rfl, rfl, rfl⟩ rfl rfl hB (by omega) (by omega) fun p b' o2 cs' hp hcs' => ?_
    subst hcs'
    have g2 := get_of rfl hp
    refine J.takeTo true [3, 7, 8] 0 26 [(0, .v (.slice A (List.length l) c)), (1, .v (.slice B (List.length m) d)), (5, .v (.int .i64 (↑i : Int))), (17, .v (.slice A (List.length l) c)), (18, .v (.int .i64 (↑i : Int))), (19, .win b o' [.int .i64 q] 0), (21, .v (.slice B (List.length m) d)), (22, .v (.int .i64 (↑i : Int))), (23, .win b' o2 [.int .i64 p] 0), (20, .v (.int .i64 q)), (24, .v (.int .i64 p)), (25, .v (.bool (q != p)))] [] [] [] (by first | exact Ext.refl _ | assumption | exact Ext.trans (by assumption) (by assumption)) (fun h => rfl) trivial rfl (by kernel_rfl) ?_
    refine J.adone' (by kernel_rfl) ?_
    refine J.to 0 [] 26 [(0, .v (.slice A (List.length l) c)), (1, .v (.slice B (List.length m) d)), (5, .v (.int .i64 (↑i : Int))), (25, .v (.bool (q != p)))] [] [] [] (by kernel_rfl) ?_
    refine J.br rfl rfl (fun h2 => ?_) (fun h2 => ?_)
    · refine J.to 5 [true] 26 [(0, .v (.slice A (List.length l) c)), (1, .v (.slice B (List.length m) d)), (5, .v (.int .i64 (↑i : Int))), (4, .v (.bool false))] [(4, .some false)] [] [] (by kernel_rfl) ?_
      refine J.ret ⟨_, rfl, .inl ?_⟩
      have h2 : q ≠ p := by simpa using h2
      show Value.bool false = _
      simp [ne_of_get g1 g2 h2]
    · refine J.to 8 [false] 26 [(0, .v (.slice A (List.length l) c)), (1, .v (.slice B (List.length m) d)), (5, .v (.int .i64 (IntKind.wrap .i64 ((↑i : Int) + 1))))] [] [] [] (by kernel_rfl) ?_
      have h2 : q = p := by simpa using h2
      rw [show IntKind.wrap .i64 ((i : Int) + 1) = ((i + 1 : Nat) : Int) from wr_id (by omega)]
      refine J.againK (i + 1) (by kernel_rfl) ⟨by omega, ?_, hA, hB⟩ (by omega)
      rw [take_snoc g1, take_snoc g2, i2, h2]
  · refine J.to 6 [false] 26 [(4, .v (.bool true))] [(4, .some true)] [] [] (by kernel_rfl) ?_
    replace hb : ¬ (i : Int) < l.length := of_decide_eq_false hb
    obtain rfl : i = l.length := by omega
    refine J.ret ⟨_, rfl, .inl ?_⟩
    rw [List.take_length, h1, List.take_length] at i2
    show Value.bool true = _
    simp [i2]
theorem eqMoveS_ok (va vb : Value) (l m : List Mv) (U : Hp) (hl : Rd rMv U va l) (hm : Rd rMv U vb m) (hb : l.length < 2^40) :
    PCall Try.prog 54 #[va, vb] U fun r _ => r = .bool (decide (l = m)) := by
  obtain ⟨A, c, rfl, hc, hA⟩ := hl
  obtain ⟨B, d, rfl, hd, hB⟩ := hm
  refine OCall.of (args := [.slice A l.length c, .slice B m.length d]) E_ok mix Try.func54 (by kernel_rfl) rfl Try.ntmps54 (Nat.le_of_ble_eq_true rfl) fun F w0 => ?_
  refine J.to 13 [] 27 [(0, .v (.slice A (List.length l) c)), (1, .v (.slice B (List.length m) d)), (4, .v (.bool false)), (10, .v (.bool ((↑(List.length l) : Int) != (↑(List.length m) : Int))))] [(4, .some false)] [] [] (by kernel_rfl) ?_
  refine J.br rfl rfl (fun h1 => ?_) (fun h1 => ?_)
  · refine J.to 5 [true] 27 [(0, .v (.slice A (List.length l) c)), (1, .v (.slice B (List.length m) d)), (4, .v (.bool false))] [(4, .some false)] [] [] (by kernel_rfl) ?_
    refine J.ret ⟨_, rfl, .inl ?_⟩
    have h1 : l.length ≠ m.length := by simp at h1; omega
    have : l ≠ m := fun e => h1 (by rw [e])
    show Value.bool false = _
    simp [this]
  have h1 : l.length = m.length := by simp at h1; omega
  refine J.to 8 [false] 27 [(0, .v (.slice A (List.length l) c)), (1, .v (.slice B (List.length m) d)), (4, .v (.bool false)), (5, .v (.int .i64 0))] [(4, .some false)] [] [] (by kernel_rfl) ?_
  refine J.loopK 27 [] (fun i : Nat => [(0, .v (.slice A l.length c)), (1, .v (.slice B m.length d)), (5, .v (.int .i64 i))]) (fun _ => [])
    (fun i U' => i ≤ l.length ∧ l.take i = m.take i ∧ Arr rMv U' A l ∧ Arr rMv U' B m) (fun i => l.length - i) 0 ⟨Nat.zero_le _, rfl, hA, hB⟩ (by kernel_rfl) fun i U' ⟨i1, i2, hA, hB⟩ hx => ?_
  refine J.to 8 [] 27 [(0, .v (.slice A (List.length l) c)), (1, .v (.slice B (List.length m) d)), (5, .v (.int .i64 (↑i : Int))), (14, .v (.bool (Decidable.decide ((↑i : Int) < (↑(List.length l) : Int)))))] [] [] [] (by kernel_rfl) ?_
  refine J.br rfl rfl (fun hb => ?_) (fun hb => ?_)
  · refine J.to 5 [true] 27 [(0, .v (.slice A (List.length l) c)), (1, .v (.slice B (List.length m) d)), (5, .v (.int .i64 (↑i : Int)))] [] [] [] (by kernel_rfl) ?_
    replace hb : (i : Int) < l.length := of_decide_eq_true hb
    refine J.any [] [] [] trivial fun ρ1 _ => ?_
    refine J.takeTo true [0, 1, 4, 5] 6 27 [(0, .v (.slice A (List.length l) c)), (1, .v (.slice B (List.length m) d)), (5, .v (.int .i64 (↑i : Int))), (17, .v (.slice A (List.length l) c)), (18, .v (.int .i64 (↑i : Int))), (21, .v (.slice B (List.length m) d)), (22, .v (.int .i64 (↑i : Int)))] [] [] [] (by first | exact Ext.refl _ | assumption | exact Ext.trans (by assumption) (by assumption)) (fun h => rfl) trivial rfl (by kernel_rfl) ?_
    refine J.aidx (r := rMv) 2 rfl rfl rfl (by kernel_rfl) rfl (.inr ⟨Ext.refl _, trivial⟩) rfl ⟨_, _, _, _, _, rfl, rfl, rfl⟩ rfl rfl hA (by omega) hb fun q b o' cs hq hcs => ?_
    subst hcs
    have g1 := get_of rfl hq
    refine J.aidx (r := rMv) 6 rfl rfl rfl (by kernel_rfl) rfl (.inr ⟨Ext.refl _, trivial⟩) rfl ⟨_, _, _, _, _, rfl, rfl, rfl⟩ rfl rfl hB (by omega) (by omega) fun p b' o2 cs' hp hcs' => ?_
    subst hcs'
    have g2 := get_of rfl hp
    refine J.takeTo true [3, 7] 2 27 [(0, .v (.slice A (List.length l) c)), (1, .v (.slice B (List.length m) d)), (5, .v (.int .i64 (↑i : Int))), (17, .v (.slice A (List.length l) c)), (18, .v (.int .i64 (↑i : Int))), (19, .win b o' [.int .i64 (Mv.a q), .int .i64 (Mv.b q), .int .i64 (Mv.n q)] 0), (21, .v (.slice B (List.length m) d)), (22, .v (.int .i64 (↑i : Int))), (23, .win b' o2 [.int .i64 (Mv.a p), .int .i64 (Mv.b p), .int .i64 (Mv.n p)] 0), (20, .v (.agg (Array.mk [.int .i64 (Mv.a q), .int .i64 (Mv.b q), .int .i64 (Mv.n q)]))), (24, .v (.agg (Array.mk [.int .i64 (Mv.a p), .int .i64 (Mv.b p), .int .i64 (Mv.n p)])))] [] [] [] (by first | exact Ext.refl _ | assumption | exact Ext.trans (by assumption) (by assumption)) (fun h => rfl) trivial rfl (by kernel_rfl) ?_
    refine J.aone (i := 8) (by kernel_rfl) (Op1.call rfl rfl rfl rfl rfl rfl rfl rfl (eqMove_ok q p _) fun v U2 hx2 hv => ⟨fun _ => ⟨hx2, trivial⟩, ?_⟩); subst hv
    refine J.takeTo false [9] 0 27 [(0, .v (.slice A (List.length l) c)), (1, .v (.slice B (List.length m) d)), (5, .v (.int .i64 (↑i : Int))), (17, .v (.slice A (List.length l) c)), (18, .v (.int .i64 (↑i : Int))), (19, .win b o' [.int .i64 (Mv.a q), .int .i64 (Mv.b q), .int .i64 (Mv.n q)] 0), (20, .v (.agg (Array.mk [.int .i64 (Mv.a q), .int .i64 (Mv.b q), .int .i64 (Mv.n q)]))), (21, .v (.slice B (List.length m) d)), (22, .v (.int .i64 (↑i : Int))), (23, .win b' o2 [.int .i64 (Mv.a p), .int .i64 (Mv.b p), .int .i64 (Mv.n p)] 0), (24, .v (.agg (Array.mk [.int .i64 (Mv.a p), .int .i64 (Mv.b p), .int .i64 (Mv.n p)]))), (25, .v (.bool (Decidable.decide (q = p)))), (26, .v (.bool !Decidable.decide (q = p)))] [] [] [] (by first | exact Ext.refl _ | assumption | exact Ext.trans (by assumption) (by assumption)) (fun h => by cases h) trivial rfl (by kernel_rfl) ?_
    refine J.adone' (by kernel_rfl) ?_
    refine J.to 0 [] 27 [(0, .v (.slice A (List.length l) c)), (1, .v (.slice B (List.length m) d)), (5, .v (.int .i64 (↑i : Int))), (26, .v (.bool !Decidable.decide (q = p)))] [] [] [] (by kernel_rfl) ?_
    refine J.br rfl rfl (fun h2 => ?_) (fun h2 => ?_)
    · refine J.to 5 [true] 27 [(0, .v (.slice A (List.length l) c)), (1, .v (.slice B (List.length m) d)), (5, .v (.int .i64 (↑i : Int))), (4, .v (.bool false))] [(4, .some false)] [] [] (by kernel_rfl) ?_
      refine J.ret ⟨_, rfl, .inl ?_⟩
      have h2 : q ≠ p := by simpa using h2
      show Value.bool false = _
      simp [ne_of_get g1 g2 h2]
    · refine J.to 8 [false] 27 [(0, .v (.slice A (List.length l) c)), (1, .v (.slice B (List.length m) d)), (5, .v (.int .i64 (IntKind.wrap .i64 ((↑i : Int) + 1))))] [] [] [] (by kernel_rfl) ?_
      have h2 : q = p := by simpa using h2
      rw [show IntKind.wrap .i64 ((i : Int) + 1) = ((i + 1 : Nat) : Int) from wr_id (by omega)]
      refine J.againK (i + 1) (by kernel_rfl) ⟨by omega, ?_, hA.mono hx2, hB.mono hx2⟩ (by omega)
      rw [take_snoc g1, take_snoc g2, i2, h2]
  · refine J.to 6 [false] 27 [(4, .v (.bool true))] [(4, .some true)] [] [] (by kernel_rfl) ?_
    replace hb : ¬ (i : Int) < l.length := of_decide_eq_false hb
    obtain rfl : i = l.length := by omega
    refine J.ret ⟨_, rfl, .inl ?_⟩
    rw [List.take_length, h1, List.take_length] at i2
    show Value.bool true = _
    simp [i2]

theorem eqSaga_ok (va vm vb vn : Value) (s t : Sg) (U : Hp) (ha : Rd rInt U va s.acc) (hm : Rd rMv U vm s.mv) (hb : Rd rInt U vb t.acc) (hn : Rd rMv U vn t.mv) (hl : s.acc.length < 2^40) (hl2 : s.mv.length < 2^40) :
    PCall Try.prog 22 #[.agg #[va, vm, .int .i64 s.done, .bool s.und], .agg #[vb, vn, .int .i64 t.done, .bool t.und]] U fun r _ => r = .bool (decide (s = t)) := by
  refine OCall.of (args := [.agg #[va, vm, .int .i64 s.done, .bool s.und], .agg #[vb, vn, .int .i64 t.done, .bool t.und]]) E_ok mix Try.func22 (by kernel_rfl) rfl Try.ntmps22 (Nat.le_of_ble_eq_true rfl) fun F w0 => ?_
  obtain ⟨a1, a2, a3, a4⟩ := s
  obtain ⟨b1, b2, b3, b4⟩ := t
  simp only at ha hm hb hn hl hl2
  refine J.to 13 [] 27 [(2, .bp 2 0), (3, .bp 3 0), (4, .v (.bool false)), (6, .v va), (8, .v vb)] [(4, .some false)] [(2, .box 28 [va, vm, .int .i64 a3, .bool a4]), (3, .box 28 [vb, vn, .int .i64 b3, .bool b4])] [] (by kernel_rfl) ?_
  refine J.one (Op1.call rfl rfl rfl rfl rfl rfl rfl rfl (eqIntS_ok _ _ _ _ _ ha hb hl) fun v U1 hx1 hv => ?_); subst hv
  refine J.to 2 [] 27 [(2, .bp 2 0), (3, .bp 3 0), (4, .v (.bool false)), (10, .v (.bool !Decidable.decide (a1 = b1)))] [(4, .some false)] [(2, .box 28 [va, vm, .int .i64 a3, .bool a4]), (3, .box 28 [vb, vn, .int .i64 b3, .bool b4])] [] (by kernel_rfl) ?_
  refine J.br rfl rfl (fun h1 => ?_) (fun h1 => ?_)
  · refine J.to 5 [true] 27 [(2, .bp 2 0), (3, .bp 3 0), (4, .v (.bool false))] [(4, .some false)] [(2, .box 28 [va, vm, .int .i64 a3, .bool a4]), (3, .box 28 [vb, vn, .int .i64 b3, .bool b4])] [] (by kernel_rfl) ?_
    refine J.ret ⟨_, rfl, .inl ?_⟩
    have h1 : a1 ≠ b1 := by simpa using h1
    show Value.bool false = _
    simp [h1]
  have h1 : a1 = b1 := by simpa using h1
  refine J.to 9 [false] 27 [(2, .bp 2 0), (3, .bp 3 0), (4, .v (.bool false)), (12, .v vm), (14, .v vn)] [(4, .some false)] [(2, .box 28 [va, vm, .int .i64 a3, .bool a4]), (3, .box 28 [vb, vn, .int .i64 b3, .bool b4])] [] (by kernel_rfl) ?_
  refine J.one (Op1.call rfl rfl rfl rfl rfl rfl rfl rfl (eqMoveS_ok _ _ _ _ _ (hm.mono hx1) (hn.mono hx1) hl2) fun v U1 hx1 hv => ?_); subst hv
  refine J.to 2 [] 27 [(2, .bp 2 0), (3, .bp 3 0), (4, .v (.bool false)), (16, .v (.bool !Decidable.decide (a2 = b2)))] [(4, .some false)] [(2, .box 28 [va, vm, .int .i64 a3, .bool a4]), (3, .box 28 [vb, vn, .int .i64 b3, .bool b4])] [] (by kernel_rfl) ?_
  refine J.br rfl rfl (fun h2 => ?_) (fun h2 => ?_)
  · refine J.to 5 [true] 27 [(2, .bp 2 0), (3, .bp 3 0), (4, .v (.bool false))] [(4, .some false)] [(2, .box 28 [va, vm, .int .i64 a3, .bool a4]), (3, .box 28 [vb, vn, .int .i64 b3, .bool b4])] [] (by kernel_rfl) ?_
    refine J.ret ⟨_, rfl, .inl ?_⟩
    have h2 : a2 ≠ b2 := by simpa using h2
    show Value.bool false = _
    simp [h2]
  have h2 : a2 = b2 := by simpa using h2
  refine J.to 11 [false] 27 [(2, .bp 2 0), (3, .bp 3 0), (4, .v (.bool false)), (21, .v (.bool (a3 != b3)))] [(4, .some false)] [(2, .box 28 [va, vm, .int .i64 a3, .bool a4]), (3, .box 28 [vb, vn, .int .i64 b3, .bool b4])] [] (by kernel_rfl) ?_
  refine J.br rfl rfl (fun h3 => ?_) (fun h3 => ?_)
  · refine J.to 5 [true] 27 [(2, .bp 2 0), (3, .bp 3 0), (4, .v (.bool false))] [(4, .some false)] [(2, .box 28 [va, vm, .int .i64 a3, .bool a4]), (3, .box 28 [vb, vn, .int .i64 b3, .bool b4])] [] (by kernel_rfl) ?_
    refine J.ret ⟨_, rfl, .inl ?_⟩
    have h3 : a3 ≠ b3 := by simpa using h3
    show Value.bool false = _
    simp [h3]
  have h3 : a3 = b3 := by simpa using h3
  refine J.to 11 [false] 27 [(4, .v (.bool false)), (26, .v (.bool !a4 == b4))] [(4, .some false)] [] [] (by kernel_rfl) ?_
  refine J.br rfl rfl (fun h4 => ?_) (fun h4 => ?_)
  · refine J.to 5 [true] 27 [(4, .v (.bool false))] [(4, .some false)] [] [] (by kernel_rfl) ?_
    refine J.ret ⟨_, rfl, .inl ?_⟩
    have h4 : a4 ≠ b4 := by simpa using h4
    show Value.bool false = _
    simp [h4]
  have h4 : a4 = b4 := by simpa using h4
  refine J.to 6 [false] 27 [(4, .v (.bool true))] [(4, .some true)] [] [] (by kernel_rfl) ?_
  refine J.ret ⟨_, rfl, .inl ?_⟩
  show Value.bool true = _
  simp [h1, h2, h3, h4]
end Go.Rx
end

section
open Go Go.Rx Go.Proofs
set_option maxHeartbeats 1000000
namespace Go.Rx
theorem fill1 {l : List Int} {zs : List Value} {i : Nat} {q : Int} (hz : zs.length = l.length) (h : ∃ h : i < l.length, l[i] = q) : putCells (intC (l.take i) ++ zs.drop i) (i * 1) [.int .i64 q] = intC (l.take (i + 1)) ++ zs.drop (i + 1) := by
  obtain ⟨hi, e⟩ := h
  have hlen : (intC (l.take i)).length = i := by simp [intC]; omega
  rw [putCells, putCells, Nat.mul_one, List.set_append_right _ _ (by omega), hlen, Nat.sub_self, List.drop_eq_getElem_cons (by omega), List.set_cons_zero, List.take_succ_eq_append_getElem hi, e]
  simp [intC]
theorem fill3 {l : List Mv} {zs : List Value} {i : Nat} {q : Mv} (hz : zs.length = l.length * 3) (h : ∃ h : i < l.length, l[i] = q) : putCells (mvC (l.take i) ++ zs.drop (i * 3)) (i * 3) q.cells = mvC (l.take (i + 1)) ++ zs.drop ((i + 1) * 3) := by
  obtain ⟨hi, e⟩ := h
  have hlen : (mvC (l.take i)).length = i * 3 := by rw [mvC_len]; simp; omega
  rw [show zs.drop (i * 3) = zs[i * 3]'(by omega) :: zs[i * 3 + 1]'(by omega) :: zs[i * 3 + 2]'(by omega) :: zs.drop ((i + 1) * 3) by
    rw [List.drop_eq_getElem_cons (by omega), List.drop_eq_getElem_cons (by omega), List.drop_eq_getElem_cons (by omega), show i * 3 + 1 + 1 + 1 = (i + 1) * 3 by omega]]
  simp only [Mv.cells, putCells]
  rw [List.set_append_right _ _ (by omega), hlen, Nat.sub_self, List.set_cons_zero, List.set_append_right _ _ (by omega), hlen, show i * 3 + 1 - i * 3 = 1 by omega, List.set_cons_succ, List.set_cons_zero, List.set_append_right _ _ (by omega), hlen, show i * 3 + 1 + 1 - i * 3 = 2 by omega, List.set_cons_succ, List.set_cons_succ, List.set_cons_zero, List.take_succ_eq_append_getElem hi, e]
  simp [mvC, Mv.cells]

theorem toIntS_ok (va : Value) (l : List Int) (U : Hp) (hl : Rd rInt U va l) (hb : l.length < 2^40) :
    OCall Try.prog 51 #[va] U fun r _ L => arr r 3 1 l.length (intC l) L := by
  obtain ⟨A, c, rfl, hc, hA⟩ := hl
  refine OCall.of (args := [.slice A l.length c]) E_ok mix Try.func51 (by kernel_rfl) rfl Try.ntmps51 (Nat.le_of_ble_eq_true rfl) fun F w0 => ?_
  refine J.to 8 [] 22 [(0, .v (.slice A (List.length l) c)), (2, .v (.slice .none 0 0)), (6, .v (.int .i64 (↑(List.length l) : Int)))] [] [] [] (by kernel_rfl) ?_
  refine J.one (Op1.make (size := 1) (bytes := 8) (zz := .int .i64 0) rfl rfl rfl rfl rfl ⟨_, _, _, _, _, rfl, rfl⟩ rfl rfl (by omega) (by omega) fun g0 => ?_)
  generalize hzs : (madeCells (Value.int .i64 0).cells (l.length * 1)).toList = zs
  have hz : zs.length = l.length := by rw [← hzs]; simp [size_madeCells]
  refine J.arrBox 7 rfl (by simp) fun g cap rest e0 hnc hcm hl1 hl2 => ?_
  simp only [Value.slice.injEq, Option.some.injEq, Addr.mk.injEq, and_true, true_and] at e0
  obtain ⟨rfl, rfl⟩ := e0
  obtain rfl : rest = [] := List.eq_nil_of_length_eq_zero (by omega)
  refine J.to 8 [] 22 [(0, .v (.slice A (List.length l) c)), (2, .v (.slice .none 0 0)), (3, .v (.slice (.some (Addr.mk g0 0 .none)) (List.length l) (List.length l))), (4, .v (.int .i64 0))] [] [(7, .box 3 (zs ++ []))] [(7, .some g0)] (by kernel_rfl) ?_
  refine J.loopK 22 [(7, some g0)] (fun i : Nat => [(0, .v (.slice A l.length c)), (3, .v (.slice (some ⟨g0, 0, none⟩) l.length l.length)), (4, .v (.int .i64 i))]) (fun i => [(7, .box 3 (intC (l.take i) ++ zs.drop i))])
    (fun i U' => i ≤ l.length ∧ Arr rInt U' A l) (fun i => l.length - i) 0 ⟨Nat.zero_le _, hA⟩ ?_ fun i U' ⟨i1, hA⟩ hx => ?_
  · rw [List.append_nil]; rfl
  refine J.to 8 [] 22 [(0, .v (.slice A (List.length l) c)), (3, .v (.slice (.some (Addr.mk g0 0 .none)) (List.length l) (List.length l))), (4, .v (.int .i64 (↑i : Int))), (11, .v (.bool (Decidable.decide ((↑i : Int) < (↑(List.length l) : Int)))))] [] [(7, .box 3 (intC (List.take i l) ++ List.drop i zs))] [(7, .some g0)] (by kernel_rfl) ?_
  refine J.br rfl rfl (fun hb => ?_) (fun hb => ?_)
  · refine J.to 9 [true] 22 [(0, .v (.slice A (List.length l) c)), (3, .v (.slice (.some (Addr.mk g0 0 .none)) (List.length l) (List.length l))), (4, .v (.int .i64 (↑i : Int))), (14, .v (.slice (.some (Addr.mk g0 0 .none)) (List.length l) (List.length l))), (15, .v (.int .i64 (↑i : Int))), (16, .v (.slice A (List.length l) c)), (17, .v (.int .i64 (↑i : Int)))] [] [(7, .box 3 (intC (List.take i l) ++ List.drop i zs))] [(7, .some g0)] (by kernel_rfl) ?_
    replace hb : (i : Int) < l.length := of_decide_eq_true hb
    refine J.one (Op1.index (r := rInt) rfl rfl rfl rfl rfl ⟨_, _, _, _, _, rfl, rfl, rfl⟩ rfl rfl hA (by omega) hb fun q b o' cs hq hcs => ?_)
    subst hcs
    have g1 := get_of rfl hq
    refine J.to 1 [] 22 [(0, .v (.slice A (List.length l) c)), (3, .v (.slice (.some (Addr.mk g0 0 .none)) (List.length l) (List.length l))), (4, .v (.int .i64 (↑i : Int))), (14, .v (.slice (.some (Addr.mk g0 0 .none)) (List.length l) (List.length l))), (15, .v (.int .i64 (↑i : Int))), (19, .v (.int .i64 q))] [] [(7, .box 3 (intC (List.take i l) ++ List.drop i zs))] [(7, .some g0)] (by kernel_rfl) ?_
    refine J.one (Op1.indexB (key := 7) rfl rfl rfl rfl rfl ⟨_,_,_,_,_,rfl,rfl,rfl⟩ rfl rfl rfl (by omega) hb ?_)
    rw [Int.toNat_natCast]
    refine J.one (Op1.storeB (cells' := intC (l.take (i + 1)) ++ zs.drop (i + 1)) rfl rfl rfl rfl rfl rfl rfl ⟨_, rfl, rfl⟩ ?_ rfl (fill1 hz g1) ?_)
    · show i * 1 + 1 ≤ (intC (l.take i) ++ zs.drop i).length
      simp [intC_len, hz]; omega
    refine J.to 7 [] 22 [(0, .v (.slice A (List.length l) c)), (3, .v (.slice (.some (Addr.mk g0 0 .none)) (List.length l) (List.length l))), (4, .v (.int .i64 (IntKind.wrap .i64 ((↑i : Int) + 1))))] [] [(7, .box 3 (intC (List.take (i + 1) l) ++ List.drop (i + 1) zs))] [(7, .some g0)] (by kernel_rfl) ?_
    rw [show IntKind.wrap .i64 ((i : Int) + 1) = ((i + 1 : Nat) : Int) from wr_id (by omega)]
    exact J.againK (i + 1) (by kernel_rfl) ⟨by omega, hA⟩ (by omega)
  · refine J.to 7 [false] 22 [(2, .v (.slice (.some (Addr.mk g0 0 .none)) (List.length l) (List.length l)))] [] [(7, .box 3 (intC (List.take i l) ++ List.drop i zs))] [(7, .some g0)] (by kernel_rfl) ?_
    replace hb : ¬ (i : Int) < l.length := of_decide_eq_false hb
    obtain rfl : i = l.length := by omega
    rw [List.take_length, show zs.drop l.length = [] from List.drop_eq_nil_of_le (by omega)]
    refine J.boxArr (xs := intC l) (rest := []) (n := l.length) (size := 1) (cap := l.length) 7 rfl rfl (Nat.le_refl _) hcm (by simp [intC_len]) (by simp [intC_len]) ?_
    refine J.ret ⟨_, rfl, .inr ⟨7, _, rfl, fun L hL => hL⟩⟩

theorem toMoveS_ok (va : Value) (l : List Mv) (U : Hp) (hl : Rd rMv U va l) (hb : l.length < 2^40) :
    OCall Try.prog 52 #[va] U fun r _ L => arr r 59 3 l.length (mvC l) L := by
  obtain ⟨A, c, rfl, hc, hA⟩ := hl
  refine OCall.of (args := [.slice A l.length c]) E_ok mix Try.func52 (by kernel_rfl) rfl Try.ntmps52 (Nat.le_of_ble_eq_true rfl) fun F w0 => ?_
  refine J.to 8 [] 23 [(0, .v (.slice A (List.length l) c)), (2, .v (.slice .none 0 0)), (6, .v (.int .i64 (↑(List.length l) : Int)))] [] [] [] (by kernel_rfl) ?_
  refine J.one (Op1.make (size := 3) (bytes := 24) (zz := .agg #[.int .i64 0, .int .i64 0, .int .i64 0]) rfl rfl rfl rfl rfl ⟨_, _, _, _, _, rfl, rfl⟩ rfl rfl (by omega) (by omega) fun g0 => ?_)
  generalize hzs : (madeCells (Value.agg #[.int .i64 0, .int .i64 0, .int .i64 0]).cells (l.length * 3)).toList = zs
  have hz : zs.length = l.length * 3 := by rw [← hzs]; simp [size_madeCells]
  refine J.arrBox 7 rfl (by simp) fun g cap rest e0 hnc hcm hl1 hl2 => ?_
  simp only [Value.slice.injEq, Option.some.injEq, Addr.mk.injEq, and_true, true_and] at e0
  obtain ⟨rfl, rfl⟩ := e0
  obtain rfl : rest = [] := List.eq_nil_of_length_eq_zero (by omega)
  refine J.to 8 [] 23 [(0, .v (.slice A (List.length l) c)), (2, .v (.slice .none 0 0)), (3, .v (.slice (.some (Addr.mk g0 0 .none)) (List.length l) (List.length l))), (4, .v (.int .i64 0))] [] [(7, .box 59 (zs ++ []))] [(7, .some g0)] (by kernel_rfl) ?_
  refine J.loopK 23 [(7, some g0)] (fun i : Nat => [(0, .v (.slice A l.length c)), (3, .v (.slice (some ⟨g0, 0, none⟩) l.length l.length)), (4, .v (.int .i64 i))]) (fun i => [(7, .box 59 (mvC (l.take i) ++ zs.drop (i * 3)))])
    (fun i U' => i ≤ l.length ∧ Arr rMv U' A l) (fun i => l.length - i) 0 ⟨Nat.zero_le _, hA⟩ ?_ fun i U' ⟨i1, hA⟩ hx => ?_
  · rw [List.append_nil]; rfl
  refine J.to 8 [] 23 [(0, .v (.slice A (List.length l) c)), (3, .v (.slice (.some (Addr.mk g0 0 .none)) (List.length l) (List.length l))), (4, .v (.int .i64 (↑i : Int))), (11, .v (.bool (Decidable.decide ((↑i : Int) < (↑(List.length l) : Int)))))] [] [(7, .box 59 (mvC (List.take i l) ++ List.drop (i * 3) zs))] [(7, .some g0)] (by kernel_rfl) ?_
  refine J.br rfl rfl (fun hb => ?_) (fun hb => ?_)
  · refine J.to 9 [true] 23 [(0, .v (.slice A (List.length l) c)), (3, .v (.slice (.some (Addr.mk g0 0 .none)) (List.length l) (List.length l))), (4, .v (.int .i64 (↑i : Int))), (14, .v (.slice (.some (Addr.mk g0 0 .none)) (List.length l) (List.length l))), (15, .v (.int .i64 (↑i : Int))), (16, .v (.slice A (List.length l) c)), (17, .v (.int .i64 (↑i : Int)))] [] [(7, .box 59 (mvC (List.take i l) ++ List.drop (i * 3) zs))] [(7, .some g0)] (by kernel_rfl) ?_
    replace hb : (i : Int) < l.length := of_decide_eq_true hb
    refine J.one (Op1.index (r := rMv) rfl rfl rfl rfl rfl ⟨_, _, _, _, _, rfl, rfl, rfl⟩ rfl rfl hA (by omega) hb fun q b o' cs hq hcs => ?_)
    subst hcs
    have g1 := get_of rfl hq
    refine J.to 1 [] 23 [(0, .v (.slice A (List.length l) c)), (3, .v (.slice (.some (Addr.mk g0 0 .none)) (List.length l) (List.length l))), (4, .v (.int .i64 (↑i : Int))), (14, .v (.slice (.some (Addr.mk g0 0 .none)) (List.length l) (List.length l))), (15, .v (.int .i64 (↑i : Int))), (19, .v (.agg (Array.mk [.int .i64 (Mv.a q), .int .i64 (Mv.b q), .int .i64 (Mv.n q)])))] [] [(7, .box 59 (mvC (List.take i l) ++ List.drop (i * 3) zs))] [(7, .some g0)] (by kernel_rfl) ?_
    refine J.one (Op1.call rfl rfl rfl rfl rfl rfl rfl rfl (toMove_ok q _) fun v U2 hx2 hv => ?_); subst hv
    refine J.to 0 [] 23 [(0, .v (.slice A (List.length l) c)), (3, .v (.slice (.some (Addr.mk g0 0 .none)) (List.length l) (List.length l))), (4, .v (.int .i64 (↑i : Int))), (14, .v (.slice (.some (Addr.mk g0 0 .none)) (List.length l) (List.length l))), (15, .v (.int .i64 (↑i : Int))), (20, .v (.agg (Array.mk [.int .i64 (Mv.a q), .int .i64 (Mv.b q), .int .i64 (Mv.n q)])))] [] [(7, .box 59 (mvC (List.take i l) ++ List.drop (i * 3) zs))] [(7, .some g0)] (by kernel_rfl) ?_
    refine J.one (Op1.indexB (key := 7) rfl rfl rfl rfl rfl ⟨_,_,_,_,_,rfl,rfl,rfl⟩ rfl rfl rfl (by omega) hb ?_)
    rw [Int.toNat_natCast]
    refine J.one (Op1.storeB (cells' := mvC (l.take (i + 1)) ++ zs.drop ((i + 1) * 3)) rfl rfl rfl rfl rfl rfl rfl ⟨_, rfl, rfl⟩ ?_ rfl (fill3 hz g1) ?_)
    · show i * 3 + 3 ≤ (mvC (l.take i) ++ zs.drop (i * 3)).length
      rw [List.length_append, mvC_len, List.length_drop, List.length_take, hz]; omega
    refine J.to 7 [] 23 [(0, .v (.slice A (List.length l) c)), (3, .v (.slice (.some (Addr.mk g0 0 .none)) (List.length l) (List.length l))), (4, .v (.int .i64 (IntKind.wrap .i64 ((↑i : Int) + 1))))] [] [(7, .box 59 (mvC (List.take (i + 1) l) ++ List.drop ((i + 1) * 3) zs))] [(7, .some g0)] (by kernel_rfl) ?_
    rw [show IntKind.wrap .i64 ((i : Int) + 1) = ((i + 1 : Nat) : Int) from wr_id (by omega)]
    exact J.againK (i + 1) (by kernel_rfl) ⟨by omega, hA.mono hx2⟩ (by omega)
  · refine J.to 7 [false] 23 [(2, .v (.slice (.some (Addr.mk g0 0 .none)) (List.length l) (List.length l)))] [] [(7, .box 59 (mvC (List.take i l) ++ List.drop (i * 3) zs))] [(7, .some g0)] (by kernel_rfl) ?_
    replace hb : ¬ (i : Int) < l.length := of_decide_eq_false hb
    obtain rfl : i = l.length := by omega
    rw [List.take_length, show zs.drop (l.length * 3) = [] from List.drop_eq_nil_of_le (by omega)]
    refine J.boxArr (xs := mvC l) (rest := []) (n := l.length) (size := 3) (cap := l.length) 7 rfl rfl (Nat.le_refl _) hcm (by rw [mvC_len]) (by rw [mvC_len]; rfl) ?_
    refine J.ret ⟨_, rfl, .inr ⟨7, _, rfl, fun L hL => hL⟩⟩

theorem toSaga_ok (va vm : Value) (s : Sg) (U : Hp) (ha : Rd rInt U va s.acc) (hm : Rd rMv U vm s.mv) (hb : s.acc.length < 2^40) (hb2 : s.mv.length < 2^40) :
    OCall Try.prog 21 #[.agg #[va, vm, .int .i64 s.done, .bool s.und]] U fun r _ L => ∃ va' vm', r = .agg #[va', vm', .int .i64 s.done, .bool s.und] ∧ sgOwn va' vm' s L := by
  refine OCall.of (args := [.agg #[va, vm, .int .i64 s.done, .bool s.und]]) E_ok mix Try.func21 (by kernel_rfl) rfl Try.ntmps21 (Nat.le_of_ble_eq_true rfl) fun F w0 => ?_
  refine J.to 13 [] 19 [(1, .bp 1 0), (2, .bp 2 0), (3, .bp 3 0), (5, .v va)] [] [(1, .box 46 [va, vm, .int .i64 (Sg.done s), .bool (Sg.und s)]), (2, .box 28 [.slice .none 0 0, .slice .none 0 0, .int .i64 0, .bool false]), (3, .box 28 [.slice .none 0 0, .slice .none 0 0, .int .i64 0, .bool false])] [] (by kernel_rfl) ?_
  refine J.one (Op1.ocall rfl rfl rfl rfl rfl rfl rfl (toIntS_ok va s.acc U ha hb) fun v1 U1 hx1 => ?_)
  refine J.arrS 6 rfl fun A1 c1 e1 => ?_
  subst e1
  refine J.to 7 [] 19 [(1, .bp 1 0), (2, .bp 2 0), (3, .bp 3 0), (9, .v vm)] [] [(1, .box 46 [va, vm, .int .i64 (Sg.done s), .bool (Sg.und s)]), (2, .box 28 [.slice .none 0 0, .slice .none 0 0, .int .i64 0, .bool false]), (6, .own fun L => arr (.slice A1 (List.length (Sg.acc s)) c1) 3 1 (List.length (Sg.acc s)) (intC (Sg.acc s)) L), (3, .box 28 [.slice A1 (List.length (Sg.acc s)) c1, .slice .none 0 0, .int .i64 0, .bool false])] [] (by kernel_rfl) ?_
  refine J.one (Op1.ocall rfl rfl rfl rfl rfl rfl rfl (toMoveS_ok vm s.mv U1 (hm.mono hx1) hb2) fun v2 U2 hx2 => ?_)
  refine J.arrS 10 rfl fun A2 c2 e2 => ?_
  subst e2
  refine J.to 22 [] 19 [(2, .bp 2 0)] [] [(6, .own fun L => arr (.slice A1 (List.length (Sg.acc s)) c1) 3 1 (List.length (Sg.acc s)) (intC (Sg.acc s)) L), (10, .own fun L => arr (.slice A2 (List.length (Sg.mv s)) c2) 59 3 (List.length (Sg.mv s)) (mvC (Sg.mv s)) L), (2, .box 28 [.slice A1 (List.length (Sg.acc s)) c1, .slice A2 (List.length (Sg.mv s)) c2, .int .i64 (Sg.done s), .bool (Sg.und s)])] [] (by kernel_rfl) ?_
  refine J.join 6 10 rfl rfl rfl ?_
  exact J.ret ⟨_, rfl, .inr ⟨6, _, rfl, fun L hL => ⟨_, _, rfl, hL⟩⟩⟩
end Go.Rx
end

section
open Go Go.Rx Go.Proofs
set_option maxHeartbeats 1000000
namespace Go.Rx
def intMarks (k : Int) (n : Nat) : List Int := (List.range n).map fun (i : Nat) => k + (i : Int)
theorem intMarks_len (k : Int) (n : Nat) : (intMarks k n).length = n := by simp [intMarks]
theorem intMarks_succ (k : Int) (n : Nat) : intMarks k (n + 1) = intMarks k n ++ [k + (n : Int)] := by simp [intMarks, List.range_succ]
theorem markFill {k : Int} {zs rest : List Value} {i : Nat} (h : i < zs.length) : putCells (intC (intMarks k i) ++ (zs.drop i ++ rest)) (i * 1) [.int .i64 (k + (i : Int))] = intC (intMarks k (i + 1)) ++ (zs.drop (i + 1) ++ rest) := by
  have hlen : (intC (intMarks k i)).length = i := by simp [intC, intMarks]
  rw [putCells, putCells, Nat.mul_one, List.set_append_right _ _ (by omega), hlen, Nat.sub_self, List.drop_eq_getElem_cons h, List.cons_append, List.set_cons_zero, intMarks_succ]
  simp [intC]

theorem markIntS_ok (v : Value) (n : Nat) (xs : List Value) (k : Int) (U : Hp) (hb : n < 2^40) (hk : 0 ≤ k ∧ k < 2^50) :
    BCall Try.prog 55 [.v v, .v (.int .i64 k)] [(19, .own (arr v 3 1 n xs))] U fun r _ ML => r = .int .i64 (k + n) ∧ ML = [(19, .own (arr v 3 1 n (intC (intMarks k n))))] := by
  refine BCall.of (args := [.v v, .v (.int .i64 k)]) E_ok mix Try.func55 (by kernel_rfl) rfl Try.ntmps55 (Nat.le_of_ble_eq_true rfl) rfl fun F w0 ρ => ?_
  refine J.arrS 19 rfl fun A c e => ?_
  subst e
  by_cases h0 : n = 0
  · subst h0
    refine J.to 10 [] 19 [(0, .v (.slice A 0 c)), (1, .v (.int .i64 k)), (4, .v (.int .i64 0)), (5, .v (.int .i64 0))] [] [(19, .own (arr (.slice A 0 c) 3 1 0 xs))] [(19, .some (ρ 19))] (by kernel_rfl) ?_
    refine J.loopK 19 [] (fun i : Unit => [(0, .v (.slice A 0 c)), (1, .v (.int .i64 k)), (5, .v (.int .i64 0))]) (fun i => [(19, .own (arr (.slice A 0 c) 3 1 0 xs))])
      (fun i U' => True) (fun i => 0) () trivial (by kernel_rfl) fun i U' _ hx => ?_
    refine J.to 15 [false] 19 [(4, .v (.int .i64 k))] [] [(19, .own (arr (.slice A 0 c) 3 1 0 xs))] [] (by kernel_rfl) ?_
    refine J.own' (α := Unit) (p' := fun _ => arr (.slice A 0 c) 3 1 0 (intC (intMarks k 0))) 19 rfl (fun h hh => ⟨⟨⟩, ?_⟩) fun _ => ?_
    · have : xs = [] := List.eq_nil_of_length_eq_zero (by have := hh.1; omega)
      subst this; exact hh
    exact J.retB [(19, .own (arr (.slice A 0 c) 3 1 0 (intC (intMarks k 0))))] rfl ⟨⟨rfl, .inr ⟨_, rfl⟩⟩, trivial⟩ ⟨by simp [resV], rfl⟩
  · refine J.arrBox 19 rfl ?_ fun g cap rest e0 hnc hcm hl1 hl2 => ?_
    · intro e; simp only [Value.slice.injEq] at e; omega
    simp only [Value.slice.injEq, true_and] at e0
    obtain ⟨rfl, rfl⟩ := e0
    refine J.to 10 [] 19 [(0, .v (.slice (.some (Addr.mk g 0 .none)) n c)), (1, .v (.int .i64 k)), (4, .v (.int .i64 0)), (5, .v (.int .i64 0))] [] [(19, .box 3 (xs ++ rest))] [(19, .some g)] (by kernel_rfl) ?_
    refine J.loopK 19 [(19, some g)] (fun i : Nat => [(0, .v (.slice (some ⟨g, 0, none⟩) n c)), (1, .v (.int .i64 (k + i))), (5, .v (.int .i64 i))]) (fun i => [(19, .box 3 (intC (intMarks k i) ++ (xs.drop i ++ rest)))])
      (fun i U' => i ≤ n) (fun i => n - i) 0 (Nat.zero_le _) ?_ fun i U' i1 hx => ?_
    · show _ = _
      simp only [Int.natCast_zero, Int.add_zero]; rfl
    refine J.to 8 [] 19 [(0, .v (.slice (.some (Addr.mk g 0 .none)) n c)), (1, .v (.int .i64 (k + (↑i : Int)))), (5, .v (.int .i64 (↑i : Int))), (9, .v (.bool (Decidable.decide ((↑i : Int) < (↑n : Int)))))] [] [(19, .box 3 (intC (intMarks k i) ++ (List.drop i xs ++ rest)))] [(19, .some g)] (by kernel_rfl) ?_
    refine J.br rfl rfl (fun hb => ?_) (fun hb => ?_)
    · refine J.to 9 [true] 19 [(0, .v (.slice (.some (Addr.mk g 0 .none)) n c)), (1, .v (.int .i64 (k + (↑i : Int)))), (5, .v (.int .i64 (↑i : Int))), (12, .v (.slice (.some (Addr.mk g 0 .none)) n c)), (13, .v (.int .i64 (↑i : Int))), (14, .v (.int .i64 (k + (↑i : Int))))] [] [(19, .box 3 (intC (intMarks k i) ++ (List.drop i xs ++ rest)))] [(19, .some g)] (by kernel_rfl) ?_
      replace hb : (i : Int) < n := of_decide_eq_true hb
      refine J.one (Op1.indexB (key := 19) rfl rfl rfl rfl rfl ⟨_,_,_,_,_,rfl,rfl,rfl⟩ rfl rfl rfl (by omega) hb ?_)
      rw [Int.toNat_natCast]
      refine J.one (Op1.storeB (cells' := intC (intMarks k (i + 1)) ++ (xs.drop (i + 1) ++ rest)) rfl rfl rfl rfl rfl rfl rfl ⟨_, rfl, rfl⟩ ?_ rfl (markFill (by omega)) ?_)
      · show i * 1 + 1 ≤ (intC (intMarks k i) ++ (xs.drop i ++ rest)).length
        simp [intC_len, intMarks_len]; omega
      refine J.to 12 [] 19 [(0, .v (.slice (.some (Addr.mk g 0 .none)) n c)), (1, .v (.int .i64 (IntKind.wrap .i64 (k + (↑i : Int) + 1)))), (5, .v (.int .i64 (IntKind.wrap .i64 ((↑i : Int) + 1))))] [] [(19, .box 3 (intC (intMarks k (i + 1)) ++ (List.drop (i + 1) xs ++ rest)))] [(19, .some g)] (by kernel_rfl) ?_
      rw [show IntKind.wrap .i64 ((i : Int) + 1) = ((i + 1 : Nat) : Int) from wr_id (by omega), show IntKind.wrap .i64 (k + (i : Int) + 1) = k + ((i + 1 : Nat) : Int) from (wr_id (by omega)).trans (by omega)]
      exact J.againK (i + 1) (by kernel_rfl) (by omega) (by omega)
    · refine J.to 7 [false] 19 [(4, .v (.int .i64 (k + (↑i : Int))))] [] [(19, .box 3 (intC (intMarks k i) ++ (List.drop i xs ++ rest)))] [(19, .some g)] (by kernel_rfl) ?_
      replace hb : ¬ (i : Int) < n := of_decide_eq_false hb
      obtain rfl : i = n := by omega
      rw [show xs.drop i = [] from List.drop_eq_nil_of_le (by omega), List.nil_append]
      refine J.boxArr (n := i) (size := 1) (cap := c) 19 rfl rfl hnc hcm (by simp [intC_len, intMarks_len]) (by simp [intC_len, intMarks_len]; omega) ?_
      exact J.retB [(19, .own (arr (.slice (some ⟨g, 0, none⟩) i c) 3 1 i (intC (intMarks k i))))] rfl ⟨⟨rfl, .inr ⟨_, rfl⟩⟩, trivial⟩ ⟨rfl, rfl⟩

theorem heldIntS_ok (v : Value) (l : List Int) (k : Int) (U : Hp) (hl : Rd rInt U v l) (hb : l.length < 2^40) (hk : 0 ≤ k ∧ k < 2^50) :
    PCall Try.prog 57 #[v, .int .i64 k] U fun r _ => r = .int .i64 (if l = intMarks k l.length then k + l.length else -1) := by
  obtain ⟨A, c, rfl, hc, hA⟩ := hl
  refine OCall.of (args := [.slice A l.length c, .int .i64 k]) E_ok mix Try.func57 (by kernel_rfl) rfl Try.ntmps57 (Nat.le_of_ble_eq_true rfl) fun F w0 => ?_
  refine J.to 10 [] 21 [(0, .v (.slice A (List.length l) c)), (1, .v (.int .i64 k)), (4, .v (.int .i64 0)), (5, .v (.int .i64 0))] [] [] [] (by kernel_rfl) ?_
  refine J.loopK 21 [] (fun i : Nat => [(0, .v (.slice A l.length c)), (1, .v (.int .i64 (k + i))), (5, .v (.int .i64 i))]) (fun i => [])
    (fun i U' => i ≤ l.length ∧ l.take i = intMarks k i ∧ Arr rInt U' A l) (fun i => l.length - i) 0 ⟨Nat.zero_le _, rfl, hA⟩ ?_ fun i U' ⟨i1, i2, hA⟩ hx => ?_
  · show _ = _
    simp only [Int.natCast_zero, Int.add_zero]; rfl
  refine J.to 8 [] 21 [(0, .v (.slice A (List.length l) c)), (1, .v (.int .i64 (k + (↑i : Int)))), (5, .v (.int .i64 (↑i : Int))), (9, .v (.bool (Decidable.decide ((↑i : Int) < (↑(List.length l) : Int)))))] [] [] [] (by kernel_rfl) ?_
  refine J.br rfl rfl (fun hb => ?_) (fun hb => ?_)
  · refine J.to 9 [true] 21 [(0, .v (.slice A (List.length l) c)), (1, .v (.int .i64 (k + (↑i : Int)))), (5, .v (.int .i64 (↑i : Int))), (12, .v (.slice A (List.length l) c)), (13, .v (.int .i64 (↑i : Int)))] [] [] [] (by kernel_rfl) ?_
    replace hb : (i : Int) < l.length := of_decide_eq_true hb
    refine J.one (Op1.index (r := rInt) rfl rfl rfl rfl rfl ⟨_, _, _, _, _, rfl, rfl, rfl⟩ rfl rfl hA (by omega) hb fun q b o' cs hq hcs => ?_)
    subst hcs
    have g1 := get_of rfl hq
    refine J.to 4 [] 21 [(0, .v (.slice A (List.length l) c)), (1, .v (.int .i64 (k + (↑i : Int)))), (5, .v (.int .i64 (↑i : Int))), (17, .v (.bool (q != k + (↑i : Int))))] [] [] [] (by kernel_rfl) ?_
    refine J.br rfl rfl (fun h2 => ?_) (fun h2 => ?_)
    · refine J.to 5 [true] 21 [(0, .v (.slice A (List.length l) c)), (1, .v (.int .i64 (k + (↑i : Int)))), (5, .v (.int .i64 (↑i : Int))), (4, .v (.int .i64 (-1)))] [] [] [] (by kernel_rfl) ?_
      refine J.ret ⟨_, rfl, .inl ?_⟩
      have h2 : q ≠ k + i := by simpa using h2
      rw [if_neg]
      · rfl
      · intro e
        obtain ⟨hi, e1⟩ := g1
        have e2 : l[i]? = some (k + i) := by rw [e]; simp [intMarks, hi]
        rw [List.getElem?_eq_getElem hi, e1] at e2
        simp only [Option.some.injEq] at e2
        exact h2 e2
    · have h2 : q = k + i := by simpa using h2
      refine J.to 13 [false] 21 [(0, .v (.slice A (List.length l) c)), (1, .v (.int .i64 (IntKind.wrap .i64 (k + (↑i : Int) + 1)))), (5, .v (.int .i64 (IntKind.wrap .i64 ((↑i : Int) + 1))))] [] [] [] (by kernel_rfl) ?_
      rw [show IntKind.wrap .i64 ((i : Int) + 1) = ((i + 1 : Nat) : Int) from wr_id (by omega), show IntKind.wrap .i64 (k + (i : Int) + 1) = k + ((i + 1 : Nat) : Int) from (wr_id (by omega)).trans (by omega)]
      refine J.againK (i + 1) (by kernel_rfl) ⟨by omega, ?_, hA⟩ (by omega)
      rw [take_snoc g1, i2, h2, intMarks_succ]
  · refine J.to 7 [false] 21 [(4, .v (.int .i64 (k + (↑i : Int))))] [] [] [] (by kernel_rfl) ?_
    replace hb : ¬ (i : Int) < l.length := of_decide_eq_false hb
    obtain rfl : i = l.length := by omega
    refine J.ret ⟨_, rfl, .inl ?_⟩
    rw [List.take_length] at i2
    rw [if_pos i2]; rfl

def mvMarks (k : Int) (n : Nat) : List Mv := (List.range n).map fun (i : Nat) => ⟨k + 3 * (i : Int), k + 3 * (i : Int) + 1, k + 3 * (i : Int) + 2⟩
theorem mvMarks_len (k : Int) (n : Nat) : (mvMarks k n).length = n := by simp [mvMarks]
theorem mvMarks_succ (k : Int) (n : Nat) : mvMarks k (n + 1) = mvMarks k n ++ [⟨k + 3 * (n : Int), k + 3 * (n : Int) + 1, k + 3 * (n : Int) + 2⟩] := by simp [mvMarks, List.range_succ]
theorem markFill3 {k : Int} {zs rest : List Value} {i : Nat} (h : (i + 1) * 3 ≤ zs.length) : putCells (mvC (mvMarks k i) ++ (zs.drop (i * 3) ++ rest)) (i * 3) [.int .i64 (k + 3 * (i : Int)), .int .i64 (k + 3 * (i : Int) + 1), .int .i64 (k + 3 * (i : Int) + 2)] = mvC (mvMarks k (i + 1)) ++ (zs.drop ((i + 1) * 3) ++ rest) := by
  have hlen : (mvC (mvMarks k i)).length = i * 3 := by rw [mvC_len, mvMarks_len]
  rw [show zs.drop (i * 3) = zs[i * 3]'(by omega) :: zs[i * 3 + 1]'(by omega) :: zs[i * 3 + 2]'(by omega) :: zs.drop ((i + 1) * 3) by
    rw [List.drop_eq_getElem_cons (by omega), List.drop_eq_getElem_cons (by omega), List.drop_eq_getElem_cons (by omega), show i * 3 + 1 + 1 + 1 = (i + 1) * 3 by omega]]
  simp only [putCells, List.cons_append]
  rw [List.set_append_right _ _ (by omega), hlen, Nat.sub_self, List.set_cons_zero, List.set_append_right _ _ (by omega), hlen, show i * 3 + 1 - i * 3 = 1 by omega, List.set_cons_succ, List.set_cons_zero, List.set_append_right _ _ (by omega), hlen, show i * 3 + 1 + 1 - i * 3 = 2 by omega, List.set_cons_succ, List.set_cons_succ, List.set_cons_zero, mvMarks_succ]
  simp [mvC, Mv.cells]

theorem markMoveS_ok (v : Value) (n : Nat) (xs : List Value) (k : Int) (U : Hp) (hb : n < 2^40) (hk : 0 ≤ k ∧ k < 2^50) :
    BCall Try.prog 56 [.v v, .v (.int .i64 k)] [(34, .own (arr v 59 3 n xs))] U fun r _ ML => r = .int .i64 (k + 3 * n) ∧ ML = [(34, .own (arr v 59 3 n (mvC (mvMarks k n))))] := by
  refine BCall.of (args := [.v v, .v (.int .i64 k)]) E_ok mix Try.func56 (by kernel_rfl) rfl Try.ntmps56 (Nat.le_of_ble_eq_true rfl) rfl fun F w0 ρ => ?_
  refine J.arrS 34 rfl fun A c e => ?_
  subst e
  by_cases h0 : n = 0
  · subst h0
    refine J.to 10 [] 34 [(0, .v (.slice A 0 c)), (1, .v (.int .i64 k)), (4, .v (.int .i64 0)), (5, .v (.int .i64 0))] [] [(34, .own (arr (.slice A 0 c) 59 3 0 xs))] [(34, .some (ρ 34))] (by kernel_rfl) ?_
    refine J.loopK 34 [] (fun i : Unit => [(0, .v (.slice A 0 c)), (1, .v (.int .i64 k)), (5, .v (.int .i64 0))]) (fun i => [(34, .own (arr (.slice A 0 c) 59 3 0 xs))])
      (fun i U' => True) (fun i => 0) () trivial (by kernel_rfl) fun i U' _ hx => ?_
    refine J.to 15 [false] 34 [(4, .v (.int .i64 k))] [] [(34, .own (arr (.slice A 0 c) 59 3 0 xs))] [] (by kernel_rfl) ?_
    refine J.own' (α := Unit) (p' := fun _ => arr (.slice A 0 c) 59 3 0 (mvC (mvMarks k 0))) 34 rfl (fun h hh => ⟨⟨⟩, ?_⟩) fun _ => ?_
    · have : xs = [] := List.eq_nil_of_length_eq_zero (by have := hh.1; omega)
      subst this; exact hh
    exact J.retB [(34, .own (arr (.slice A 0 c) 59 3 0 (mvC (mvMarks k 0))))] rfl ⟨⟨rfl, .inr ⟨_, rfl⟩⟩, trivial⟩ ⟨by simp [resV], rfl⟩
  · refine J.arrBox 34 rfl ?_ fun g cap rest e0 hnc hcm hl1 hl2 => ?_
    · intro e; simp only [Value.slice.injEq] at e; omega
    simp only [Value.slice.injEq, true_and] at e0
    obtain ⟨rfl, rfl⟩ := e0
    refine J.to 10 [] 34 [(0, .v (.slice (.some (Addr.mk g 0 .none)) n c)), (1, .v (.int .i64 k)), (4, .v (.int .i64 0)), (5, .v (.int .i64 0))] [] [(34, .box 59 (xs ++ rest))] [(34, .some g)] (by kernel_rfl) ?_
    refine J.loopK 34 [(34, some g)] (fun i : Nat => [(0, .v (.slice (some ⟨g, 0, none⟩) n c)), (1, .v (.int .i64 (k + 3 * i))), (5, .v (.int .i64 i))]) (fun i => [(34, .box 59 (mvC (mvMarks k i) ++ (xs.drop (i * 3) ++ rest)))])
      (fun i U' => i ≤ n) (fun i => n - i) 0 (Nat.zero_le _) ?_ fun i U' i1 hx => ?_
    · show _ = _
      simp only [Int.natCast_zero, Int.mul_zero, Int.add_zero]; rfl
    refine J.to 8 [] 34 [(0, .v (.slice (.some (Addr.mk g 0 .none)) n c)), (1, .v (.int .i64 (k + 3 * (↑i : Int)))), (5, .v (.int .i64 (↑i : Int))), (9, .v (.bool (Decidable.decide ((↑i : Int) < (↑n : Int)))))] [] [(34, .box 59 (mvC (mvMarks k i) ++ (List.drop (i * 3) xs ++ rest)))] [(34, .some g)] (by kernel_rfl) ?_
    refine J.br rfl rfl (fun hb => ?_) (fun hb => ?_)
    · refine J.to 9 [true] 34 [(0, .v (.slice (.some (Addr.mk g 0 .none)) n c)), (1, .v (.int .i64 (k + 3 * (↑i : Int)))), (5, .v (.int .i64 (↑i : Int))), (12, .v (.slice (.some (Addr.mk g 0 .none)) n c)), (13, .v (.int .i64 (↑i : Int))), (14, .v (.int .i64 (k + 3 * (↑i : Int))))] [] [(34, .box 59 (mvC (mvMarks k i) ++ (List.drop (i * 3) xs ++ rest)))] [(34, .some g)] (by kernel_rfl) ?_
      replace hb : (i : Int) < n := of_decide_eq_true hb
      have hL : (mvC (mvMarks k i) ++ (xs.drop (i * 3) ++ rest)).length = c * 3 := by
        simp only [List.length_append, mvC_len, mvMarks_len, List.length_drop]; omega
      have hF := markFill3 (k := k) (zs := xs) (rest := rest) (i := i) (by omega)
      generalize mvC (mvMarks k i) ++ (xs.drop (i * 3) ++ rest) = C0 at hF hL ⊢
      refine J.one (Op1.indexB (key := 34) rfl rfl rfl rfl rfl ⟨_,_,_,_,_,rfl,rfl,rfl⟩ rfl rfl rfl (by omega) hb ?_)
      rw [Int.toNat_natCast]
      refine J.to 1 [] 34 [(0, .v (.slice (.some (Addr.mk g 0 .none)) n c)), (1, .v (.int .i64 (k + 3 * (↑i : Int)))), (5, .v (.int .i64 (↑i : Int))), (14, .v (.int .i64 (k + 3 * (↑i : Int)))), (16, .bp 34 (i * 3 + 0))] [] [(34, .box 59 C0)] [(34, .some g)] (by kernel_rfl) ?_
      refine J.one (Op1.storeB (cells' := C0.set (i * 3) (.int .i64 (k + 3 * (i : Int)))) rfl rfl rfl rfl rfl rfl rfl ⟨_, rfl, rfl⟩ ?_ rfl rfl ?_)
      · show i * 3 + 1 ≤ _
        rw [hL]; omega
      refine J.to 12 [] 34 [(0, .v (.slice (.some (Addr.mk g 0 .none)) n c)), (5, .v (.int .i64 (↑i : Int))), (1, .v (.int .i64 (IntKind.wrap .i64 (k + 3 * (↑i : Int) + 1)))), (19, .v (.slice (.some (Addr.mk g 0 .none)) n c)), (20, .v (.int .i64 (↑i : Int))), (21, .v (.int .i64 (IntKind.wrap .i64 (k + 3 * (↑i : Int) + 1))))] [] [(34, .box 59 (List.set C0 (i * 3) (.int .i64 (k + 3 * (↑i : Int)))))] [(34, .some g)] (by kernel_rfl) ?_
      rw [show IntKind.wrap .i64 (k + 3 * (i : Int) + 1) = k + 3 * (i : Int) + 1 from wr_id (by omega)]
      refine J.one (Op1.indexB (key := 34) rfl rfl rfl rfl rfl ⟨_,_,_,_,_,rfl,rfl,rfl⟩ rfl rfl rfl (by omega) hb ?_)
      rw [Int.toNat_natCast]
      refine J.to 1 [] 34 [(0, .v (.slice (.some (Addr.mk g 0 .none)) n c)), (1, .v (.int .i64 (k + 3 * (↑i : Int) + 1))), (5, .v (.int .i64 (↑i : Int))), (21, .v (.int .i64 (k + 3 * (↑i : Int) + 1))), (23, .bp 34 (i * 3 + 1))] [] [(34, .box 59 (List.set C0 (i * 3) (.int .i64 (k + 3 * (↑i : Int)))))] [(34, .some g)] (by kernel_rfl) ?_
      refine J.one (Op1.storeB (cells' := (C0.set (i * 3) (.int .i64 (k + 3 * (i : Int)))).set (i * 3 + 1) (.int .i64 (k + 3 * (i : Int) + 1))) rfl rfl rfl rfl rfl rfl rfl ⟨_, rfl, rfl⟩ ?_ rfl rfl ?_)
      · show i * 3 + 1 + 1 ≤ _
        rw [List.length_set, hL]; omega
      refine J.to 12 [] 34 [(0, .v (.slice (.some (Addr.mk g 0 .none)) n c)), (5, .v (.int .i64 (↑i : Int))), (1, .v (.int .i64 (IntKind.wrap .i64 (k + 3 * (↑i : Int) + 1 + 1)))), (26, .v (.slice (.some (Addr.mk g 0 .none)) n c)), (27, .v (.int .i64 (↑i : Int))), (28, .v (.int .i64 (IntKind.wrap .i64 (k + 3 * (↑i : Int) + 1 + 1))))] [] [(34, .box 59 (List.set (List.set C0 (i * 3) (.int .i64 (k + 3 * (↑i : Int)))) (i * 3 + 1) (.int .i64 (k + 3 * (↑i : Int) + 1))))] [(34, .some g)] (by kernel_rfl) ?_
      rw [show IntKind.wrap .i64 (k + 3 * (i : Int) + 1 + 1) = k + 3 * (i : Int) + 2 from (wr_id (by omega)).trans (by omega)]
      refine J.one (Op1.indexB (key := 34) rfl rfl rfl rfl rfl ⟨_,_,_,_,_,rfl,rfl,rfl⟩ rfl rfl rfl (by omega) hb ?_)
      rw [Int.toNat_natCast]
      refine J.to 1 [] 34 [(0, .v (.slice (.some (Addr.mk g 0 .none)) n c)), (1, .v (.int .i64 (k + 3 * (↑i : Int) + 2))), (5, .v (.int .i64 (↑i : Int))), (28, .v (.int .i64 (k + 3 * (↑i : Int) + 2))), (30, .bp 34 (i * 3 + 2))] [] [(34, .box 59 (List.set (List.set C0 (i * 3) (.int .i64 (k + 3 * (↑i : Int)))) (i * 3 + 1) (.int .i64 (k + 3 * (↑i : Int) + 1))))] [(34, .some g)] (by kernel_rfl) ?_
      refine J.one (Op1.storeB (cells' := mvC (mvMarks k (i + 1)) ++ (xs.drop ((i + 1) * 3) ++ rest)) rfl rfl rfl rfl rfl rfl rfl ⟨_, rfl, rfl⟩ ?_ rfl hF ?_)
      · show i * 3 + 2 + 1 ≤ _
        rw [List.length_set, List.length_set, hL]; omega
      refine J.to 12 [] 34 [(0, .v (.slice (.some (Addr.mk g 0 .none)) n c)), (1, .v (.int .i64 (IntKind.wrap .i64 (k + 3 * (↑i : Int) + 2 + 1)))), (5, .v (.int .i64 (IntKind.wrap .i64 ((↑i : Int) + 1))))] [] [(34, .box 59 (mvC (mvMarks k (i + 1)) ++ (List.drop ((i + 1) * 3) xs ++ rest)))] [(34, .some g)] (by kernel_rfl) ?_
      rw [show IntKind.wrap .i64 ((i : Int) + 1) = ((i + 1 : Nat) : Int) from wr_id (by omega), show IntKind.wrap .i64 (k + 3 * (i : Int) + 2 + 1) = k + 3 * ((i + 1 : Nat) : Int) from (wr_id (by omega)).trans (by omega)]
      exact J.againK (i + 1) (by kernel_rfl) (by omega) (by omega)
    · refine J.to 7 [false] 34 [(4, .v (.int .i64 (k + 3 * (↑i : Int))))] [] [(34, .box 59 (mvC (mvMarks k i) ++ (List.drop (i * 3) xs ++ rest)))] [(34, .some g)] (by kernel_rfl) ?_
      replace hb : ¬ (i : Int) < n := of_decide_eq_false hb
      obtain rfl : i = n := by omega
      rw [show xs.drop (i * 3) = [] from List.drop_eq_nil_of_le (by omega), List.nil_append]
      refine J.boxArr (n := i) (size := 3) (cap := c) 34 rfl rfl hnc hcm (by rw [mvC_len, mvMarks_len]) (by rw [mvC_len, mvMarks_len]; omega) ?_
      exact J.retB [(34, .own (arr (.slice (some ⟨g, 0, none⟩) i c) 59 3 i (mvC (mvMarks k i))))] rfl ⟨⟨rfl, .inr ⟨_, rfl⟩⟩, trivial⟩ ⟨rfl, rfl⟩
end Go.Rx
end

section
open Go Go.Rx Go.Proofs
set_option maxHeartbeats 1000000
namespace Go.Rx
theorem heldMoveS_ok (v : Value) (l : List Mv) (k : Int) (U : Hp) (hl : Rd rMv U v l) (hb : l.length < 2^40) (hk : 0 ≤ k ∧ k < 2^50) :
    PCall Try.prog 58 #[v, .int .i64 k] U fun r _ => r = .int .i64 (if l = mvMarks k l.length then k + 3 * l.length else -1) := by
  obtain ⟨A, c, rfl, hc, hA⟩ := hl
  refine OCall.of (args := [.slice A l.length c, .int .i64 k]) E_ok mix Try.func58 (by kernel_rfl) rfl Try.ntmps58 (Nat.le_of_ble_eq_true rfl) fun F w0 => ?_
  refine J.to 10 [] 40 [(0, .v (.slice A (List.length l) c)), (1, .v (.int .i64 k)), (4, .v (.int .i64 0)), (5, .v (.int .i64 0))] [] [] [] (by kernel_rfl) ?_
  refine J.loopK 40 [] (fun i : Nat => [(0, .v (.slice A l.length c)), (1, .v (.int .i64 (k + 3 * i))), (5, .v (.int .i64 i))]) (fun i => [])
    (fun i U' => i ≤ l.length ∧ l.take i = mvMarks k i ∧ Arr rMv U' A l) (fun i => l.length - i) 0 ⟨Nat.zero_le _, rfl, hA⟩ ?_ fun i U' ⟨i1, i2, hA⟩ hx => ?_
  · show _ = _
    simp only [Int.natCast_zero, Int.mul_zero, Int.add_zero]; rfl
  refine J.to 8 [] 40 [(0, .v (.slice A (List.length l) c)), (1, .v (.int .i64 (k + 3 * (↑i : Int)))), (5, .v (.int .i64 (↑i : Int))), (9, .v (.bool (Decidable.decide ((↑i : Int) < (↑(List.length l) : Int)))))] [] [] [] (by kernel_rfl) ?_
  refine J.br rfl rfl (fun hb => ?_) (fun hb => ?_)
  · refine J.to 9 [true] 40 [(0, .v (.slice A (List.length l) c)), (1, .v (.int .i64 (k + 3 * (↑i : Int)))), (5, .v (.int .i64 (↑i : Int))), (12, .v (.slice A (List.length l) c)), (13, .v (.int .i64 (↑i : Int)))] [] [] [] (by kernel_rfl) ?_
    replace hb : (i : Int) < l.length := of_decide_eq_true hb
    have bad : ∀ q, (∃ h : i < l.length, l[i] = q) → q ≠ ⟨k + 3 * (i : Int), k + 3 * (i : Int) + 1, k + 3 * (i : Int) + 2⟩ → Value.int .i64 (-1) = .int .i64 (if l = mvMarks k l.length then k + 3 * l.length else -1) := by
      intro q g1 h2
      rw [if_neg]
      intro e
      obtain ⟨hi, e1⟩ := g1
      have e2 : l[i]? = some ⟨k + 3 * (i : Int), k + 3 * (i : Int) + 1, k + 3 * (i : Int) + 2⟩ := by rw [e]; simp [mvMarks, hi]
      rw [List.getElem?_eq_getElem hi, e1] at e2
      simp only [Option.some.injEq] at e2
      exact h2 e2
    refine J.one (Op1.index (r := rMv) rfl rfl rfl rfl rfl ⟨_, _, _, _, _, rfl, rfl, rfl⟩ rfl rfl hA (by omega) hb fun q b o' cs hq hcs => ?_)
    subst hcs
    have g1 := get_of rfl hq
    refine J.to 5 [] 40 [(0, .v (.slice A (List.length l) c)), (1, .v (.int .i64 (k + 3 * (↑i : Int)))), (5, .v (.int .i64 (↑i : Int))), (18, .v (.bool (Mv.a q != k + 3 * (↑i : Int))))] [] [] [] (by kernel_rfl) ?_
    refine J.br rfl rfl (fun h2 => ?_) (fun h2 => ?_)
    · refine J.to 5 [true] 40 [(0, .v (.slice A (List.length l) c)), (1, .v (.int .i64 (k + 3 * (↑i : Int)))), (5, .v (.int .i64 (↑i : Int))), (4, .v (.int .i64 (-1)))] [] [] [] (by kernel_rfl) ?_
      refine J.ret ⟨_, rfl, .inl ?_⟩
      have h2 : q.a ≠ k + 3 * i := by simpa using h2
      exact bad q g1 (fun e => h2 (by rw [e]))
    have h2 : q.a = k + 3 * i := by simpa using h2
    refine J.to 13 [false] 40 [(0, .v (.slice A (List.length l) c)), (5, .v (.int .i64 (↑i : Int))), (1, .v (.int .i64 (IntKind.wrap .i64 (k + 3 * (↑i : Int) + 1)))), (21, .v (.slice A (List.length l) c)), (22, .v (.int .i64 (↑i : Int)))] [] [] [] (by kernel_rfl) ?_
    rw [show IntKind.wrap .i64 (k + 3 * (i : Int) + 1) = k + 3 * (i : Int) + 1 from wr_id (by omega)]
    refine J.one (Op1.index (r := rMv) rfl rfl rfl rfl rfl ⟨_, _, _, _, _, rfl, rfl, rfl⟩ rfl rfl hA (by omega) hb fun q2 b2 o2 cs hq2 hcs => ?_)
    subst hcs
    obtain rfl : q = q2 := by rw [hq] at hq2; simpa using hq2
    refine J.to 5 [] 40 [(0, .v (.slice A (List.length l) c)), (1, .v (.int .i64 (k + 3 * (↑i : Int) + 1))), (5, .v (.int .i64 (↑i : Int))), (27, .v (.bool (Mv.b q != k + 3 * (↑i : Int) + 1)))] [] [] [] (by kernel_rfl) ?_
    refine J.br rfl rfl (fun h3 => ?_) (fun h3 => ?_)
    · refine J.to 5 [true] 40 [(0, .v (.slice A (List.length l) c)), (1, .v (.int .i64 (k + 3 * (↑i : Int) + 1))), (5, .v (.int .i64 (↑i : Int))), (4, .v (.int .i64 (-1)))] [] [] [] (by kernel_rfl) ?_
      refine J.ret ⟨_, rfl, .inl ?_⟩
      have h3 : q.b ≠ k + 3 * i + 1 := by simpa using h3
      exact bad q g1 (fun e => h3 (by rw [e]))
    have h3 : q.b = k + 3 * i + 1 := by simpa using h3
    refine J.to 13 [false] 40 [(0, .v (.slice A (List.length l) c)), (5, .v (.int .i64 (↑i : Int))), (1, .v (.int .i64 (IntKind.wrap .i64 (k + 3 * (↑i : Int) + 1 + 1)))), (30, .v (.slice A (List.length l) c)), (31, .v (.int .i64 (↑i : Int)))] [] [] [] (by kernel_rfl) ?_
    rw [show IntKind.wrap .i64 (k + 3 * (i : Int) + 1 + 1) = k + 3 * (i : Int) + 2 from (wr_id (by omega)).trans (by omega)]
    refine J.one (Op1.index (r := rMv) rfl rfl rfl rfl rfl ⟨_, _, _, _, _, rfl, rfl, rfl⟩ rfl rfl hA (by omega) hb fun q2 b3 o3 cs hq2 hcs => ?_)
    subst hcs
    obtain rfl : q = q2 := by rw [hq] at hq2; simpa using hq2
    refine J.to 5 [] 40 [(0, .v (.slice A (List.length l) c)), (1, .v (.int .i64 (k + 3 * (↑i : Int) + 2))), (5, .v (.int .i64 (↑i : Int))), (36, .v (.bool (Mv.n q != k + 3 * (↑i : Int) + 2)))] [] [] [] (by kernel_rfl) ?_
    refine J.br rfl rfl (fun h4 => ?_) (fun h4 => ?_)
    · refine J.to 5 [true] 40 [(0, .v (.slice A (List.length l) c)), (1, .v (.int .i64 (k + 3 * (↑i : Int) + 2))), (5, .v (.int .i64 (↑i : Int))), (4, .v (.int .i64 (-1)))] [] [] [] (by kernel_rfl) ?_
      refine J.ret ⟨_, rfl, .inl ?_⟩
      have h4 : q.n ≠ k + 3 * i + 2 := by simpa using h4
      exact bad q g1 (fun e => h4 (by rw [e]))
    have h4 : q.n = k + 3 * i + 2 := by simpa using h4
    refine J.to 13 [false] 40 [(0, .v (.slice A (List.length l) c)), (1, .v (.int .i64 (IntKind.wrap .i64 (k + 3 * (↑i : Int) + 2 + 1)))), (5, .v (.int .i64 (IntKind.wrap .i64 ((↑i : Int) + 1))))] [] [] [] (by kernel_rfl) ?_
    rw [show IntKind.wrap .i64 ((i : Int) + 1) = ((i + 1 : Nat) : Int) from wr_id (by omega), show IntKind.wrap .i64 (k + 3 * (i : Int) + 2 + 1) = k + 3 * ((i + 1 : Nat) : Int) from (wr_id (by omega)).trans (by omega)]
    refine J.againK (i + 1) (by kernel_rfl) ⟨by omega, ?_, hA⟩ (by omega)
    rw [take_snoc g1, i2, mvMarks_succ]
    obtain ⟨qa, qb, qn⟩ := q
    simp only at h2 h3 h4
    rw [h2, h3, h4]
  · refine J.to 7 [false] 40 [(4, .v (.int .i64 (k + 3 * (↑i : Int))))] [] [] [] (by kernel_rfl) ?_
    replace hb : ¬ (i : Int) < l.length := of_decide_eq_false hb
    obtain rfl : i = l.length := by omega
    refine J.ret ⟨_, rfl, .inl ?_⟩
    rw [List.take_length] at i2
    rw [if_pos i2]; rfl
end Go.Rx
end

section
open Go Go.Rx Go.Proofs
set_option maxHeartbeats 1000000
namespace Go.Rx

def Sg.marked (s : Sg) (k : Int) : Sg := { s with acc := intMarks k s.acc.length, mv := mvMarks (k + s.acc.length) s.mv.length }

theorem markSaga_ok (va vm : Value) (s : Sg) (k : Int) (U : Hp) (hb : s.acc.length < 2^40) (hb2 : s.mv.length < 2^40) (hk : 0 ≤ k ∧ k < 2^40) :
    BCall Try.prog 23 [.v (.agg #[va, vm, .int .i64 s.done, .bool s.und]), .v (.int .i64 k)] [(14, .own (sgOwn va vm s))] U fun r _ ML => r = .int .i64 (k + s.acc.length + 3 * s.mv.length) ∧ ML = [(14, .own (sgOwn va vm (s.marked k)))] := by
  refine BCall.of (args := [.v (.agg #[va, vm, .int .i64 s.done, .bool s.und]), .v (.int .i64 k)]) E_ok mix Try.func23 (by kernel_rfl) rfl Try.ntmps23 (Nat.le_of_ble_eq_true rfl) rfl fun F w0 ρ => ?_
  refine J.split 14 15 rfl rfl rfl ?_
  refine J.arrS 14 rfl fun A c e => ?_
  subst e
  refine J.arrS 15 rfl fun B d e => ?_
  subst e
  refine J.to 10 [] 14 [(1, .v (.int .i64 k)), (2, .bp 2 0), (4, .v (.int .i64 0)), (6, .v (.slice A (List.length (Sg.acc s)) c)), (7, .v (.int .i64 k))] [] [(14, .own (arr (.slice A (List.length (Sg.acc s)) c) 3 1 (List.length (Sg.acc s)) (intC (Sg.acc s)))), (15, .own (arr (.slice B (List.length (Sg.mv s)) d) 59 3 (List.length (Sg.mv s)) (mvC (Sg.mv s)))), (2, .box 28 [.slice A (List.length (Sg.acc s)) c, .slice B (List.length (Sg.mv s)) d, .int .i64 (Sg.done s), .bool (Sg.und s)])] [(14, .some (ρ 14)), (15, .some (ρ 15))] (by kernel_rfl) ?_
  refine J.one (Op1.bcall [(19, 14)] (args := [.v _, .v _]) (ML := [(19, .own (arr (.slice A s.acc.length c) 3 1 s.acc.length (intC s.acc)))]) rfl rfl rfl rfl rfl rfl rfl rfl rfl rfl (fun p hp => by simp at hp; subst hp; rfl) (fun p hp => by simp at hp; subst hp; rfl)
    (markIntS_ok (.slice A s.acc.length c) s.acc.length (intC s.acc) k U hb (by omega)) fun v U3 ML hx3 ⟨hv, hML⟩ => ?_)
  subst hv; subst hML
  refine J.to 7 [] 14 [(4, .v (.int .i64 0)), (1, .v (.int .i64 (k + (↑(List.length (Sg.acc s)) : Int)))), (10, .v (.slice B (List.length (Sg.mv s)) d)), (11, .v (.int .i64 (k + (↑(List.length (Sg.acc s)) : Int))))] [] [(14, .own (arr (.slice A (List.length (Sg.acc s)) c) 3 1 (List.length (Sg.acc s)) (intC (intMarks k (List.length (Sg.acc s)))))), (15, .own (arr (.slice B (List.length (Sg.mv s)) d) 59 3 (List.length (Sg.mv s)) (mvC (Sg.mv s))))] [(14, .some (ρ 14)), (15, .some (ρ 15))] (by kernel_rfl) ?_
  refine J.one (Op1.bcall [(34, 15)] (args := [.v _, .v _]) (ML := [(34, .own (arr (.slice B s.mv.length d) 59 3 s.mv.length (mvC s.mv)))]) rfl rfl rfl rfl rfl rfl rfl rfl rfl rfl (fun p hp => by simp at hp; subst hp; rfl) (fun p hp => by simp at hp; subst hp; rfl)
    (markMoveS_ok (.slice B s.mv.length d) s.mv.length (mvC s.mv) (k + s.acc.length) U3 hb2 (by omega)) fun v U4 ML hx4 ⟨hv, hML⟩ => ?_)
  subst hv; subst hML
  refine J.to 7 [] 14 [(4, .v (.int .i64 (k + (↑(List.length (Sg.acc s)) : Int) + 3 * (↑(List.length (Sg.mv s)) : Int))))] [] [(14, .own (arr (.slice A (List.length (Sg.acc s)) c) 3 1 (List.length (Sg.acc s)) (intC (intMarks k (List.length (Sg.acc s)))))), (15, .own (arr (.slice B (List.length (Sg.mv s)) d) 59 3 (List.length (Sg.mv s)) (mvC (mvMarks (k + (↑(List.length (Sg.acc s)) : Int)) (List.length (Sg.mv s))))))] [(14, .some (ρ 14)), (15, .some (ρ 15))] (by kernel_rfl) ?_
  refine J.join 14 15 rfl rfl rfl ?_
  refine J.own (k := 14) (k' := 14) (p' := sgOwn (.slice A s.acc.length c) (.slice B s.mv.length d) (s.marked k)) rfl (.inl rfl) (fun h hh => by simp only [sgOwn, Sg.marked, intMarks_len, mvMarks_len]; exact hh) ?_
  exact J.retB [(14, .own (sgOwn (.slice A s.acc.length c) (.slice B s.mv.length d) (s.marked k)))] rfl ⟨⟨rfl, .inr ⟨_, rfl⟩⟩, trivial⟩ ⟨rfl, rfl⟩

theorem heldSaga_ok (va vm : Value) (s : Sg) (k : Int) (U : Hp) (ha : Rd rInt U va s.acc) (hm : Rd rMv U vm s.mv) (hb : s.acc.length < 2^40) (hb2 : s.mv.length < 2^40) (hk : 0 ≤ k ∧ k < 2^40) :
    PCall Try.prog 24 #[.agg #[va, vm, .int .i64 s.done, .bool s.und], .int .i64 k] U fun r _ => r = .int .i64 (if s = s.marked k then k + s.acc.length + 3 * s.mv.length else -1) := by
  refine OCall.of (args := [.agg #[va, vm, .int .i64 s.done, .bool s.und], .int .i64 k]) E_ok mix Try.func24 (by kernel_rfl) rfl Try.ntmps24 (Nat.le_of_ble_eq_true rfl) fun F w0 => ?_
  have hs : s = s.marked k ↔ s.acc = intMarks k s.acc.length ∧ s.mv = mvMarks (k + s.acc.length) s.mv.length := by
    obtain ⟨a, b, c, d⟩ := s
    simp [Sg.marked]
  refine J.to 10 [] 18 [(1, .v (.int .i64 k)), (2, .bp 2 0), (4, .v (.int .i64 0)), (6, .v va), (7, .v (.int .i64 k))] [] [(2, .box 28 [va, vm, .int .i64 (Sg.done s), .bool (Sg.und s)])] [] (by kernel_rfl) ?_
  refine J.one (Op1.call rfl rfl rfl rfl rfl rfl rfl rfl (heldIntS_ok va s.acc k U ha hb (by omega)) fun v U1 hx1 hv => ?_); subst hv
  by_cases h1 : s.acc = intMarks k s.acc.length
  · rw [if_pos h1]
    refine J.to 8 [] 18 [(2, .bp 2 0), (4, .v (.int .i64 0)), (1, .v (.int .i64 (k + (↑(List.length (Sg.acc s)) : Int)))), (10, .v (.bool (Decidable.decide (k + (↑(List.length (Sg.acc s)) : Int) < 0))))] [] [(2, .box 28 [va, vm, .int .i64 (Sg.done s), .bool (Sg.und s)])] [] (by kernel_rfl) ?_
    refine J.br rfl rfl (fun h => ?_) (fun h => ?_)
    · have := of_decide_eq_true h; omega
    refine J.to 7 [false] 18 [(1, .v (.int .i64 (k + (↑(List.length (Sg.acc s)) : Int)))), (4, .v (.int .i64 0)), (12, .v vm), (13, .v (.int .i64 (k + (↑(List.length (Sg.acc s)) : Int))))] [] [] [] (by kernel_rfl) ?_
    refine J.one (Op1.call rfl rfl rfl rfl rfl rfl rfl rfl (heldMoveS_ok vm s.mv (k + s.acc.length) U1 (hm.mono hx1) hb2 (by omega)) fun v U2 hx2 hv => ?_); subst hv
    by_cases h2 : s.mv = mvMarks (k + s.acc.length) s.mv.length
    · rw [if_pos h2]
      refine J.to 8 [] 18 [(4, .v (.int .i64 0)), (1, .v (.int .i64 (k + (↑(List.length (Sg.acc s)) : Int) + 3 * (↑(List.length (Sg.mv s)) : Int)))), (16, .v (.bool (Decidable.decide (k + (↑(List.length (Sg.acc s)) : Int) + 3 * (↑(List.length (Sg.mv s)) : Int) < 0))))] [] [] [] (by kernel_rfl) ?_
      refine J.br rfl rfl (fun h => ?_) (fun h => ?_)
      · have := of_decide_eq_true h; omega
      refine J.to 7 [false] 18 [(4, .v (.int .i64 (k + (↑(List.length (Sg.acc s)) : Int) + 3 * (↑(List.length (Sg.mv s)) : Int))))] [] [] [] (by kernel_rfl) ?_
      refine J.ret ⟨_, rfl, .inl ?_⟩
      rw [if_pos (hs.2 ⟨h1, h2⟩)]; rfl
    · rw [if_neg h2]
      refine J.to 13 [true] 18 [(1, .v (.int .i64 (-1))), (4, .v (.int .i64 (-1)))] [] [] [] (by kernel_rfl) ?_
      refine J.ret ⟨_, rfl, .inl ?_⟩
      rw [if_neg (fun e => h2 (hs.1 e).2)]; rfl
  · rw [if_neg h1]
    refine J.to 13 [true] 18 [(2, .bp 2 0), (1, .v (.int .i64 (-1))), (4, .v (.int .i64 (-1)))] [] [(2, .box 28 [va, vm, .int .i64 (Sg.done s), .bool (Sg.und s)])] [] (by kernel_rfl) ?_
    refine J.ret ⟨_, rfl, .inl ?_⟩
    rw [if_neg (fun e => h1 (hs.1 e).1)]; rfl
end Go.Rx
end
