/- A calculus by which a body of code is walked over a heap in parts: open orders, memory lent and handed in, rounds, readings. For every program whose types are tabled. -/
import Derived.Test.YtdefhkboeagkbaaRx1
import Derived.RangeFuncNested
import Derived.RangeFuncCalls
import Derived.RangeFuncLeaves
import Derived.OrdersIn
import Derived.ChangeArms
import Derived.Below
import Derived.Laws.StructEq
set_option linter.unusedVariables false
set_option linter.unusedSimpArgs false
set_option linter.unusedSectionVars false
section
namespace Go.Rx

def Held (U0 : Hp) (M0 : Nat → Res) (ρ0 : Nat → Nat) (held : List Nat) (w : World) : Prop :=
  (∀ b o, U0 b = some o → w.heap[b]? = some o) ∧ ∀ k ∈ held, ∀ ty cells, M0 k = .box ty cells → w.heap[ρ0 k]? = some (.cells cells.toArray ty (0, 0))

def HeldAll (M0 : Nat → Res) (ρ0 : Nat → Nat) (σ : Sym) : List Nat → Prop
  | [] => True
  | k :: r => (σ.pin k = some (ρ0 k) ∧ σ.M k = M0 k) ∧ HeldAll M0 ρ0 σ r
theorem HeldAll.mem {M0 : Nat → Res} {ρ0 : Nat → Nat} {σ : Sym} : ∀ {l : List Nat}, HeldAll M0 ρ0 σ l → ∀ k ∈ l, σ.pin k = some (ρ0 k) ∧ σ.M k = M0 k
  | [], _, k, h => by cases h
  | q :: r, h, k, hk => by
    rcases List.mem_cons.1 hk with rfl | hk
    · exact h.1
    · exact h.2.mem k hk

section
variable {C : Ctx} {σ : Sym} {U : Hp} {s : List Item} {U0 : Hp} {M0 : Nat → Res} {ρ0 : Nat → Nat} {held : List Nat}

theorem Hd.toHeld {a : Act} {w : World} (h : Hd C σ U a w) (hx : Ext U0 U) (hh : HeldAll M0 ρ0 σ held) : Held U0 M0 ρ0 held w := by
  obtain ⟨ρ, hs, G, hS⟩ := h.1.sat
  refine ⟨fun b o hb => hS.J.sub .u b o (hx b o hb), fun k hk ty cells hm => ?_⟩
  obtain ⟨h1, h2⟩ := hh.mem k hk
  rw [← hS.pin k _ h1]
  exact hS.boxed (h2.trans hm)

def Sym.pinned (σ : Sym) (ρ : Nat → Nat) : Sym := { σ with pin := fun k => some (ρ k) }
def Sym.unpin (σ : Sym) : Sym := { σ with pin := fun _ => none }

theorem Hd.unpin {a : Act} {w : World} (h : Hd C σ U a w) : Hd C σ.unpin U a w := by
  obtain ⟨ρ, hs, G, hS⟩ := h.1.sat
  exact ⟨⟨h.1.size, h.1.defers, h.1.run, h.1.dec, ρ, hs, G, hS.K, hS.M, hS.J, fun k g h => by simp [Sym.unpin] at h⟩, h.2⟩

def Pins (pin : Nat → Option Nat) : List (Nat × Nat) → Prop
  | [] => True
  | (k, g) :: r => pin k = some g ∧ Pins pin r
def PinsAt (ρ : Nat → Nat) : List (Nat × Nat) → Prop
  | [] => True
  | (k, g) :: r => ρ k = g ∧ PinsAt ρ r
theorem Pins.at {pin : Nat → Option Nat} {ρ : Nat → Nat} (h : ∀ k g, pin k = some g → ρ k = g) : ∀ {l : List (Nat × Nat)}, Pins pin l → PinsAt ρ l
  | [], _ => trivial
  | (k, g) :: r, h' => ⟨h k g h'.1, Pins.at h h'.2⟩

theorem J.any (held : List Nat) (ds : List Nat) (pins : List (Nat × Nat)) {id : Nat} {ops : Array Oper} (hpin : Pins σ.pin pins) (h : ∀ ρ, PinsAt ρ pins → J C (.a ops ops.size (Array.replicate ops.size false) (Held U σ.M ρ held) ds :: s) (σ.pinned ρ) U) : J C (.c (.region id ops true) :: s) σ U := by
  refine ⟨fun a w hh => ?_⟩
  obtain ⟨ρ, hs, G, hS⟩ := hh.1.sat
  refine wp_region_any C.hm (wpAnyD.any (S := Held U σ.M ρ held) (ds := ds) _ _ _ _ ?_)
  refine (h ρ (hpin.at hS.pin)).out a { w with drawn := w.drawn + 1 } ⟨⟨hh.1.size, hh.1.defers, hh.1.run.trans ⟨rfl, rfl, rfl⟩, hh.1.dec, ρ, hs, G, hS.K, hS.M, ⟨hS.J.sub, hS.J.all, hS.J.one⟩, fun k g h => ?_⟩, hh.2⟩
  simp only [Sym.pinned, Option.some.injEq] at h; exact h

theorem wpAnyD_done {P : Program} {ops : Array Oper} {Q : Exit → Act → World → Prop} {S : World → Prop} {ds : List Nat} {listed : Array Bool} {a : Act} {w : World} (hr : Region.ready .any ops listed = []) (h : Q .normal a w) :
    ∀ n, wpAnyD P .any ops Q S ds n listed a w
  | 0 => ⟨hr, h⟩
  | _ + 1 => ⟨fun _ => h, by rw [hr]; simp⟩
theorem J.adone {ops : Array Oper} {n : Nat} {listed : Array Bool} {S : World → Prop} {ds : List Nat} (hr : Region.ready .any ops listed = []) (h : J C s σ.unpin U) : J C (.a ops n listed S ds :: s) σ U :=
  ⟨fun a w hh => wpAnyD_done hr (h.out a w hh.unpin) n⟩

theorem J.adone' {ops : Array Oper} {n : Nat} {listed : Array Bool} {S : World → Prop} {ds : List Nat} (hr : Region.ready .any ops listed = []) (h : J C s σ U) : J C (.a ops n listed S ds :: s) σ U :=
  ⟨fun a w hh => wpAnyD_done hr (h.out a w hh) n⟩

theorem J.aone {ops : Array Oper} {n : Nat} {listed : Array Bool} {ds : List Nat} {i : Nat} (hr : Region.ready .any ops listed = [i])
    (h : Op1 C ops i σ U fun σ' U' => (ds.contains i = false → Ext U0 U' ∧ HeldAll M0 ρ0 σ' held) ∧ J C (.a ops n (listed.setIfInBounds i true) (Held U0 M0 ρ0 held) ds :: s) σ' U') : J C (.a ops (n + 1) listed (Held U0 M0 ρ0 held) ds :: s) σ U := by
  refine ⟨fun a w hh => ?_⟩
  obtain ⟨o, hi, hg, h⟩ := h
  refine ⟨fun h0 => (by rw [hr] at h0; cases h0), fun j hj => ?_⟩
  rw [hr] at hj
  obtain rfl : j = i := by simpa using hj
  have hi' : ops[j]? = some o := by simpa using hi
  unfold wpOp
  simp only [hi', gd_ok hg hh.1.dec hh.tup, if_true]
  exact .inl (Oper.wp_mono (fun a' w' ⟨σ', U', h1, h2, h4⟩ => ⟨fun hd => h1.toHeld (h2 hd).1 (h2 hd).2, h4.out a' w' h1⟩) (h a w _ hh))

def SV.known : SV → Bool
  | .unk => false
  | _ => true
theorem SV.is_one {ρ : Nat → Nat} {U : Hp} {y y' : Value} {s : SV} (hk : s.known = true) (h : s.is ρ U y) (h' : s.is ρ U y') : y = y' := by
  cases s with
  | unk => cases hk
  | v x => exact h.trans h'.symm
  | bp k off => exact h.trans h'.symm
  | win b o cells off => exact h.1.trans h'.1.symm
  | clo f keys => exact h.trans h'.symm

def heldM (M0 : Nat → Res) (held : List Nat) (k : Nat) : Res := bif held.contains k then M0 k else .none

theorem kont_panic {P : Program} {R : Act → World → Prop} {c : List PanicEntry} {a a' : Act} {w w' : World} : ∀ {s : List Item}, kont P s R (.panic c) a w → False
  | [], h => h
  | .c _ :: s, h => kont_panic (a' := a') (w' := w') (s := s) h
  | .o _ _ :: s, h => kont_panic (a' := a') (w' := w') (s := s) h
  | .b _ :: s, h => kont_panic (a' := a') (w' := w') (s := s) h
  | .i _ :: s, h => kont_panic (a' := a') (w' := w') (s := s) h
  | .a .. :: s, h => kont_panic (a' := a') (w' := w') (s := s) h

theorem J.atake {ops : Array Oper} {n : Nat} {listed : Array Bool} {ds : List Nat} {i : Nat} {o : Oper} {d : Tmp} {sv : SV} {old : Bool} (hi : ops.toList[i]? = some o) (hd : o.dst = some d) (hn : Nat.blt d σ.n = true)
    (hs : Region.noSelect ops = true) (hf : Region.free .any ops listed i = true) (hwt : waits .any ops ds listed i = true) (hcl : closedD .any ops listed = true) (hr : (Region.ready .any ops listed).contains i = true) (hg : gd ops.toList σ o = some true)
    (hh : HeldAll M0 ρ0 σ held) (hx : Ext U0 U) (ho : old = true → U = U0) (hw : (old || !isWin σ o.op) = true) (hk : stepK C.E { σ with M := heldM M0 held } o.op = some sv) (hkn : sv.known = true)
    (h : J C (.a ops n (listed.setIfInBounds i true) (Held U0 M0 ρ0 held) ds :: s) (σ.set d sv) U) : J C (.a ops (n + 1) listed (Held U0 M0 ρ0 held) ds :: s) σ U := by
  refine ⟨fun a w hH => ?_⟩
  obtain ⟨ρ, hs', G, hS⟩ := hH.1.sat
  have hi' : ops[i]? = some o := by simpa using hi
  have hn' : d < σ.n := by simpa [Nat.blt_eq] using hn

  have see : ∀ w', Held U0 M0 ρ0 held w' → See { σ with M := heldM M0 held } U a w' ρ o.op := by
    intro w' hw'
    refine ⟨hS.ev, fun {k ty cells} hm o' => ?_, fun hwin {b o' v} hc => ?_⟩
    · simp only [heldM] at hm
      cases hc : held.contains k with
      | false => rw [hc] at hm; cases hm
      | true =>
        rw [hc] at hm
        simp only [cond_true] at hm
        have hk' : k ∈ held := by simpa using hc
        rw [hS.pin k _ (hh.mem k hk').1]
        simp [World.cell?, hw'.2 k hk' ty cells hm]
    · have hold : old = true := by
        have : isWin σ o.op = true := hwin
        rw [this] at hw
        simpa using hw
      have := ho hold
      subst this
      unfold Hp.cell? at hc
      cases hu : U b with
      | none => simp [hu] at hc
      | some x =>
        rw [hu] at hc
        simp only [World.cell?, hw'.1 b x hu]
        cases x with
        | cells c t f => simpa using hc
        | _ => simp at hc
  have hS0 := hH.toHeld hx hh
  obtain ⟨y, hy, hiy⟩ := stepK_see (σ := { σ with M := heldM M0 held }) C.ok hH.1.dec (see w hS0) hk
  refine wpAnyD_first (v := y) hi' (Region.noSelect_spec hs) (fun c a w q => (kont_panic (a' := a) (w' := w) q).elim) n listed a w hwt hcl (Region.free_spec hi' hf) (by simpa using hr) ?_ hS0 ?_
  · left
    refine ⟨gd_ok hg hH.1.dec hH.tup, fun w' hw' => ?_⟩
    obtain ⟨y', hy', hiy'⟩ := stepK_see (σ := { σ with M := heldM M0 held }) C.ok hH.1.dec (see w' hw') hk
    rw [SV.is_one hkn hiy hiy']; exact hy'
  · rw [hd]
    refine h.out _ w ⟨hH.1.put hn' (s := sv) (y := y) fun ρ' hs'' G' hS' => ?_, hH.2⟩
    have see' : See { σ with M := heldM M0 held } U a w ρ' o.op := by
      refine ⟨hS'.ev, fun {k ty cells} hm o' => ?_, fun _ {b o' v} hc => hS'.u hc⟩
      simp only [heldM] at hm
      cases hc : held.contains k with
      | false => rw [hc] at hm; cases hm
      | true =>
        rw [hc] at hm
        simp only [cond_true] at hm
        have hk' : k ∈ held := by simpa using hc
        exact hS'.bcell ((hh.mem k hk').2.trans hm) o'
    obtain ⟨y', hy', hiy'⟩ := stepK_see (σ := { σ with M := heldM M0 held }) C.ok hH.1.dec see' hk
    rw [hy] at hy'
    simp only [Result.ok.injEq, Next.value.injEq, and_true] at hy'
    rw [hy']; exact hiy'

theorem J.atakeP {ops : Array Oper} {n : Nat} {listed : Array Bool} {ds : List Nat} {i : Nat} {o : Oper} {d : Tmp} {sv : SV} (hi : ops.toList[i]? = some o) (hd : o.dst = some d) (hn : Nat.blt d σ.n = true)
    (hs : Region.noSelect ops = true) (hf : Region.free .any ops listed i = true) (hids : ds.contains i = true) (hr : (Region.ready .any ops listed).contains i = true) (hg : gd ops.toList σ o = some true)
    (hw : isWin σ o.op = false) (hk : stepK C.E { σ with M := fun _ => .none } o.op = some sv) (hkn : sv.known = true)
    (h : J C (.a ops n (listed.setIfInBounds i true) (Held U0 M0 ρ0 held) ds :: s) (σ.set d sv) U) : J C (.a ops (n + 1) listed (Held U0 M0 ρ0 held) ds :: s) σ U := by
  refine ⟨fun a w hH => ?_⟩
  obtain ⟨ρ, hs', G, hS⟩ := hH.1.sat
  have hi' : ops[i]? = some o := by simpa using hi
  have hn' : d < σ.n := by simpa [Nat.blt_eq] using hn
  have see : ∀ ρ w', (∀ x, (Rx.ev σ x).is ρ U (a.eval x)) → See { σ with M := fun _ => .none } U a w' ρ o.op := by
    intro ρ w' hev
    refine ⟨hev, fun {k ty cells} hm o' => (by cases hm), fun hwin {b o' v} hc => ?_⟩
    have : isWin σ o.op = true := hwin
    rw [hw] at this; cases this
  obtain ⟨y, hy, hiy⟩ := stepK_see (σ := { σ with M := fun _ => .none }) C.ok hH.1.dec (see ρ w hS.ev) hk
  refine wpAnyD_firstP (v := y) hi' (Region.noSelect_spec hs) (fun c a w q => (kont_panic (a' := a) (w' := w) q).elim) hids n listed a w (Region.free_spec hi' hf) (by simpa using hr) ?_ ?_
  · left
    refine ⟨gd_ok hg hH.1.dec hH.tup, fun w' _ => ?_⟩
    obtain ⟨y', hy', hiy'⟩ := stepK_see (σ := { σ with M := fun _ => .none }) C.ok hH.1.dec (see ρ w' hS.ev) hk
    rw [SV.is_one hkn hiy hiy']; exact hy'
  · rw [hd]
    refine h.out _ w ⟨hH.1.put hn' (s := sv) (y := y) fun ρ' hs'' G' hS' => ?_, hH.2⟩
    obtain ⟨y', hy', hiy'⟩ := stepK_see (σ := { σ with M := fun _ => .none }) C.ok hH.1.dec (see ρ' w hS'.ev) hk
    rw [hy] at hy'
    simp only [Result.ok.injEq, Next.value.injEq, and_true] at hy'
    rw [hy']; exact hiy'
theorem J.apassP {ops : Array Oper} {n : Nat} {listed : Array Bool} {ds : List Nat} {i : Nat} {o : Oper} (hi : ops.toList[i]? = some o)
    (hs : Region.noSelect ops = true) (hf : Region.free .any ops listed i = true) (hids : ds.contains i = true) (hr : (Region.ready .any ops listed).contains i = true) (hg : gd ops.toList σ o = some false)
    (h : J C (.a ops n (listed.setIfInBounds i true) (Held U0 M0 ρ0 held) ds :: s) (σ.unset o.dst) U) : J C (.a ops (n + 1) listed (Held U0 M0 ρ0 held) ds :: s) σ U := by
  refine ⟨fun a w hH => ?_⟩
  have hi' : ops[i]? = some o := by simpa using hi
  exact wpAnyD_firstP (v := undef) hi' (Region.noSelect_spec hs) (fun c a w q => (kont_panic (a' := a) (w' := w) q).elim) hids n listed a w (Region.free_spec hi' hf) (by simpa using hr) (.inr ⟨gd_ok hg hH.1.dec hH.tup, rfl⟩) (h.out _ w (hH.unset o.dst))

theorem J.apass {ops : Array Oper} {n : Nat} {listed : Array Bool} {ds : List Nat} {i : Nat} {o : Oper} (hi : ops.toList[i]? = some o)
    (hs : Region.noSelect ops = true) (hf : Region.free .any ops listed i = true) (hwt : waits .any ops ds listed i = true) (hcl : closedD .any ops listed = true) (hr : (Region.ready .any ops listed).contains i = true) (hg : gd ops.toList σ o = some false)
    (hh : HeldAll M0 ρ0 σ held) (hx : Ext U0 U)
    (h : J C (.a ops n (listed.setIfInBounds i true) (Held U0 M0 ρ0 held) ds :: s) (σ.unset o.dst) U) : J C (.a ops (n + 1) listed (Held U0 M0 ρ0 held) ds :: s) σ U := by
  refine ⟨fun a w hH => ?_⟩
  have hi' : ops[i]? = some o := by simpa using hi
  exact wpAnyD_first (v := undef) hi' (Region.noSelect_spec hs) (fun c a w q => (kont_panic (a' := a) (w' := w) q).elim) n listed a w hwt hcl (Region.free_spec hi' hf) (by simpa using hr) (.inr ⟨gd_ok hg hH.1.dec hH.tup, rfl⟩) (hH.toHeld hx hh) (h.out _ w (hH.unset o.dst))

def takeA (E : Env) (ops : Array Oper) (ds : List Nat) (M0 : Nat → Res) (held : List Nat) (old : Bool) : List Nat → Sym → Option Sym
  | [], σ => some σ
  | i :: r, σ => match ops.toList[i]? with
    | some o => match gd ops.toList σ o with
      | some true => match o.dst with
        | some d => bif Nat.blt d σ.n && (bif ds.contains i then !isWin σ o.op else (old || !isWin σ o.op)) then
            match stepK E { σ with M := bif ds.contains i then (fun _ => .none) else heldM M0 held } o.op with
            | some sv => bif sv.known then takeA E ops ds M0 held old r (σ.set d sv) else none
            | none => none
          else none
        | none => none
      | some false => takeA E ops ds M0 held old r (σ.unset o.dst)
      | none => none
    | none => none

def takeOk (ops : Array Oper) (ds : List Nat) : List Nat → Array Bool → Bool
  | [], _ => true
  | i :: r, l => ((Region.noSelect ops && (ds.contains i || (waits .any ops ds l i && closedD .any ops l))) && ((Region.ready .any ops l).contains i && Region.free .any ops l i)) && takeOk ops ds r (l.setIfInBounds i true)
def listedA : List Nat → Array Bool → Array Bool
  | [], l => l
  | i :: r, l => listedA r (l.setIfInBounds i true)
def fuelA : List Nat → Nat → Option Nat
  | [], n => some n
  | _ :: r, n + 1 => fuelA r n
  | _ :: _, 0 => none

theorem HeldAll.set {σ : Sym} (d : Nat) (sv : SV) : ∀ {l : List Nat}, HeldAll M0 ρ0 σ l → HeldAll M0 ρ0 (σ.set d sv) l
  | [], h => trivial
  | k :: r, h => ⟨h.1, HeldAll.set d sv h.2⟩
theorem HeldAll.unset {σ : Sym} (d : Option Tmp) : ∀ {l : List Nat}, HeldAll M0 ρ0 σ l → HeldAll M0 ρ0 (σ.unset d) l
  | [], h => trivial
  | k :: r, h => ⟨by cases d <;> exact h.1, HeldAll.unset d h.2⟩

theorem J.takeA (old : Bool) {ops : Array Oper} {ds : List Nat} (hx : Ext U0 U) (ho : old = true → U = U0) : ∀ (order : List Nat) {n n' : Nat} {listed : Array Bool} {σ σ' : Sym} (_ : takeOk ops ds order listed = true) (_ : HeldAll M0 ρ0 σ held)
    (_ : Rx.takeA C.E ops ds M0 held old order σ = some σ') (_ : fuelA order n = some n'),
    J C (.a ops n' (listedA order listed) (Held U0 M0 ρ0 held) ds :: s) σ' U → J C (.a ops n listed (Held U0 M0 ρ0 held) ds :: s) σ U
  | [], n, n', listed, σ, σ', hs, hh, ht, hn, h => by
    simp only [Rx.takeA, Option.some.injEq] at ht
    simp only [fuelA, Option.some.injEq] at hn
    subst ht; subst hn; exact h
  | i :: r, 0, n', listed, σ, σ', hs, hh, ht, hn, h => by simp [fuelA] at hn
  | i :: r, n + 1, n', listed, σ, σ', hs, hh, ht, hn, h => by
    simp only [fuelA] at hn
    simp only [takeOk, Bool.and_eq_true, Bool.or_eq_true] at hs
    obtain ⟨⟨⟨h0, h00⟩, h1, h2⟩, hs'⟩ := hs
    simp only [Rx.takeA] at ht
    split at ht
    · rename_i o hi
      split at ht
      · rename_i hg
        split at ht
        · rename_i d hd
          cases hdc : ds.contains i with
          | true =>
            rw [hdc] at ht
            simp only [cond_true] at ht
            cases h3 : (Nat.blt d σ.n && !isWin σ o.op) with
            | false => rw [h3] at ht; cases ht
            | true =>
              rw [h3] at ht
              simp only [cond_true] at ht
              simp only [Bool.and_eq_true, Bool.not_eq_true'] at h3
              split at ht
              · rename_i sv hsv
                cases h4 : sv.known with
                | false => rw [h4] at ht; cases ht
                | true =>
                  rw [h4] at ht
                  exact J.atakeP hi hd h3.1 h0 h2 hdc h1 hg h3.2 hsv h4 (J.takeA old hx ho r hs' (hh.set d sv) ht hn h)
              · cases ht
          | false =>
            rw [hdc] at ht
            simp only [cond_false] at ht
            have hwc : waits .any ops ds listed i = true ∧ closedD .any ops listed = true := by
              rcases h00 with h5 | h5
              · rw [hdc] at h5; cases h5
              · exact h5
            cases h3 : (Nat.blt d σ.n && (old || !isWin σ o.op)) with
            | false => rw [h3] at ht; cases ht
            | true =>
              rw [h3] at ht
              simp only [cond_true] at ht
              simp only [Bool.and_eq_true] at h3
              split at ht
              · rename_i sv hsv
                cases h4 : sv.known with
                | false => rw [h4] at ht; cases ht
                | true =>
                  rw [h4] at ht
                  exact J.atake hi hd h3.1 h0 h2 hwc.1 hwc.2 h1 hg hh hx ho h3.2 hsv h4 (J.takeA old hx ho r hs' (hh.set d sv) ht hn h)
              · cases ht
        · cases ht
      · rename_i hg
        cases hdc : ds.contains i with
        | true => exact J.apassP hi h0 h2 hdc h1 hg (J.takeA old hx ho r hs' (hh.unset o.dst) ht hn h)
        | false =>
          have hwc : waits .any ops ds listed i = true ∧ closedD .any ops listed = true := by
            rcases h00 with h5 | h5
            · rw [hdc] at h5; cases h5
            · exact h5
          exact J.apass hi h0 h2 hwc.1 hwc.2 h1 hg hh hx (J.takeA old hx ho r hs' (hh.unset o.dst) ht hn h)
      · cases ht
    · cases ht
end
end Go.Rx
end

section
namespace Go.Rx

def forceK {α : Type} (K : Nat → SV) : Nat → List (Nat × SV) → (List (Nat × SV) → α) → α
  | 0, acc, k => k acc
  | t + 1, acc, k => match K t with
    | .unk => forceK K t acc k
    | .v x => forceK K t ((t, .v x) :: acc) k
    | .bp q o => forceK K t ((t, .bp q o) :: acc) k
    | .win b o cs off => forceK K t ((t, .win b o cs off) :: acc) k
    | .clo f ks => forceK K t ((t, .clo f ks) :: acc) k
def forceD {α : Type} (D : Nat → Option Bool) : Nat → List (Nat × Option Bool) → (List (Nat × Option Bool) → α) → α
  | 0, acc, k => k acc
  | t + 1, acc, k => match D t with
    | none => forceD D t acc k
    | some true => forceD D t ((t, some true) :: acc) k
    | some false => forceD D t ((t, some false) :: acc) k
def forceL {α : Type} : List Value → List Value → (List Value → α) → α
  | [], acc, k => k acc.reverse
  | x :: r, acc, k => forceL r (x :: acc) k
def forceM {α : Type} (M : Nat → Res) : Nat → List (Nat × Res) → (List (Nat × Res) → α) → α
  | 0, acc, k => k acc
  | t + 1, acc, k => match M t with
    | .none => forceM M t acc k
    | .box ty cells => forceM M t ((t, .box ty cells) :: acc) k
    | .own p => forceM M t ((t, .own p) :: acc) k

def nf (s : List Item) (σ : Sym) : List Item × Sym :=
  forceK σ.K σ.n [] fun KL => forceD σ.D σ.n [] fun DL => forceM σ.M (σ.n + 4) [] fun ML => (s, ⟨σ.n, ofL .unk KL, ofL none DL, ofL .none ML, σ.pin⟩)

theorem forceK_ex {α : Type} {K : Nat → SV} : ∀ (n : Nat) (acc : List (Nat × SV)) (k : List (Nat × SV) → α), (∀ p ∈ acc, K p.1 = p.2) → ∃ l, (∀ p ∈ l, K p.1 = p.2) ∧ forceK K n acc k = k l
  | 0, acc, k, h => ⟨acc, h, rfl⟩
  | t + 1, acc, k, h => by
    have cons : ∀ s, K t = s → ∀ p ∈ (t, s) :: acc, K p.1 = p.2 := fun s hs p hp => by
      rcases List.mem_cons.1 hp with rfl | hp
      · exact hs
      · exact h p hp
    unfold forceK
    split
    · exact forceK_ex t acc k h
    all_goals (rename_i hs; exact forceK_ex t _ k (cons _ hs))
theorem forceD_ex {α : Type} {K : Nat → Option Bool} : ∀ (n : Nat) (acc : List (Nat × Option Bool)) (k : List (Nat × Option Bool) → α), (∀ p ∈ acc, K p.1 = p.2) → ∃ l, (∀ p ∈ l, K p.1 = p.2) ∧ forceD K n acc k = k l
  | 0, acc, k, h => ⟨acc, h, rfl⟩
  | t + 1, acc, k, h => by
    have cons : ∀ s, K t = s → ∀ p ∈ (t, s) :: acc, K p.1 = p.2 := fun s hs p hp => by
      rcases List.mem_cons.1 hp with rfl | hp
      · exact hs
      · exact h p hp
    unfold forceD
    split
    · exact forceD_ex t acc k h
    all_goals (rename_i hs; exact forceD_ex t _ k (cons _ hs))
theorem forceM_ex {α : Type} {K : Nat → Res} : ∀ (n : Nat) (acc : List (Nat × Res)) (k : List (Nat × Res) → α), (∀ p ∈ acc, K p.1 = p.2) → ∃ l, (∀ p ∈ l, K p.1 = p.2) ∧ forceM K n acc k = k l
  | 0, acc, k, h => ⟨acc, h, rfl⟩
  | t + 1, acc, k, h => by
    have cons : ∀ s, K t = s → ∀ p ∈ (t, s) :: acc, K p.1 = p.2 := fun s hs p hp => by
      rcases List.mem_cons.1 hp with rfl | hp
      · exact hs
      · exact h p hp
    unfold forceM
    split
    · exact forceM_ex t acc k h
    all_goals (rename_i hs; exact forceM_ex t _ k (cons _ hs))

section
variable {C : Ctx} {σ : Sym} {U : Hp} {s : List Item}

theorem Hd.weakF {KL : List (Nat × SV)} {DL : List (Nat × Option Bool)} {ML : List (Nat × Res)} (hK : ∀ p ∈ KL, σ.K p.1 = p.2) (hD : ∀ p ∈ DL, σ.D p.1 = p.2) (hM : ∀ p ∈ ML, σ.M p.1 = p.2) {a : Act} {w : World} (h : Hd C σ U a w) :
    Hd C ⟨σ.n, ofL .unk KL, ofL none DL, ofL .none ML, σ.pin⟩ U a w := by
  obtain ⟨hh, hx⟩ := h
  obtain ⟨ρ, hs, G, hS⟩ := hh.sat
  obtain ⟨G', hJ⟩ := hS.J.drop (fun k => match ofL .none ML k with | .none => false | _ => true)
  refine ⟨⟨hh.size, hh.defers, hh.run, ?_, ρ, _, G', ?_, ?_, hJ, hS.pin⟩, hx⟩
  · intro t b hb
    rcases ofL_mem (d := (none : Option Bool)) (l := DL) (t := t) with h1 | h1
    · simp only at hb; rw [h1] at hb; cases hb
    · have := hD _ h1
      simp only at this hb
      exact hh.dec t b (this.trans hb)
  · intro t
    rcases ofL_mem (d := SV.unk) (l := KL) (t := t) with h1 | h1
    · left; exact h1
    · have := hK _ h1
      simp only at this
      show ofL SV.unk KL t = .unk ∨ _
      rw [← this]
      rcases hS.K t with hu | hy
      · left; exact hu
      · right; simp only; rw [← this]; exact hy
  · intro k
    rcases ofL_mem (d := Res.none) (l := ML) (t := k) with h1 | h1
    · simp only [h1]; intro b; rfl
    · have := hM _ h1
      simp only at this
      have hm := hS.M k
      rw [this] at hm
      show Res.sat (ρ k) (ofL Res.none ML k) _
      cases hr : ofL Res.none ML k with
      | none => intro b; rfl
      | box ty cells => rw [hr] at hm; exact hm
      | own p => rw [hr] at hm; exact hm

theorem J.nf {s' : List Item} {σ' : Sym} (h : nf s σ = (s', σ')) (k : J C s' σ' U) : J C s σ U := by
  obtain ⟨KL, h1, e1⟩ := forceK_ex (K := σ.K) σ.n [] (fun KL => forceD σ.D σ.n [] fun DL => forceM σ.M (σ.n + 4) [] fun ML => (s, (⟨σ.n, ofL .unk KL, ofL none DL, ofL .none ML, σ.pin⟩ : Sym))) (by simp)
  obtain ⟨DL, h2, e2⟩ := forceD_ex (K := σ.D) σ.n [] (fun DL => forceM σ.M (σ.n + 4) [] fun ML => (s, (⟨σ.n, ofL .unk KL, ofL none DL, ofL .none ML, σ.pin⟩ : Sym))) (by simp)
  obtain ⟨ML, h3, e3⟩ := forceM_ex (K := σ.M) (σ.n + 4) [] (fun ML => (s, (⟨σ.n, ofL .unk KL, ofL none DL, ofL .none ML, σ.pin⟩ : Sym))) (by simp)
  unfold Rx.nf at h
  rw [e1, e2, e3] at h
  simp only [Prod.mk.injEq] at h
  obtain ⟨rfl, rfl⟩ := h
  exact ⟨fun a w hh => k.out a w (hh.weakF h1 h2 h3)⟩

def goN (E : Env) (n : Nat) (s : List Item) (σ : Sym) : List Item × Sym := match go E n s σ with | (s, σ) => nf s σ

theorem J.goN (n : Nat) {s' : List Item} {σ' : Sym} (h : goN C.E n s σ = (s', σ')) (k : J C s' σ' U) : J C s σ U :=
  J.go n (J.nf h k)
end
end Go.Rx
end

section
namespace Go.Rx

theorem Joins.re {U F G U' : Hp} {hs hs' : Nat → Hp} {w : World} (h : Joins (fam U F G hs) w) (dst : Part → Nat → Part)
    (H : ∀ i, i ≠ Part.g → ∀ b o, fam U' F Hp.emp hs' i b = some o → ∃ j, fam U F G hs j b = some o ∧ dst j b = i) : ∃ G', Joins (fam U' F G' hs') w := by
  refine Joins.mk' (fun i hi b o hb => ?_) (fun i j b x y hx hy => ?_)
  · obtain ⟨j, hj, -⟩ := H i hi b o hb; exact h.sub j b o hj
  · have hi : i ≠ .g := by rintro rfl; cases hx
    have hj : j ≠ .g := by rintro rfl; cases hy
    obtain ⟨p, hp, e1⟩ := H i hi b x hx
    obtain ⟨q, hq, e2⟩ := H j hj b y hy
    have := h.one p q b x y hp hq
    subst this
    rw [← e1, ← e2]

def Hp.un (a b : Hp) : Hp := fun g => match a g with | some x => some x | none => b g
def Hp.dj (a b : Hp) : Prop := ∀ g, a g = none ∨ b g = none

def star (p q : Hp → Prop) : Hp → Prop := fun h => ∃ a b, p a ∧ q b ∧ Hp.dj a b ∧ h = Hp.un a b
theorem Hp.un_l {a b : Hp} : Ext a (Hp.un a b) := fun g o h => by simp [Hp.un, h]
theorem Hp.un_r {a b : Hp} (d : Hp.dj a b) : Ext b (Hp.un a b) := fun g o h => by
  rcases d g with h0 | h0
  · simp [Hp.un, h0, h]
  · rw [h0] at h; cases h
theorem Hp.un_some {a b : Hp} {g : Nat} {o : Obj} (h : Hp.un a b g = some o) : a g = some o ∨ (a g = none ∧ b g = some o) := by
  unfold Hp.un at h
  split at h
  · rename_i x e; simp only [Option.some.injEq] at h; subst h; exact .inl e
  · rename_i e; exact .inr ⟨e, h⟩

def Hp.less (a b : Hp) : Hp := fun g => match b g with | some _ => none | none => a g
theorem Hp.less_some {a b : Hp} {g : Nat} {o : Obj} (h : Hp.less a b g = some o) : a g = some o ∧ b g = none := by
  unfold Hp.less at h
  split at h
  · cases h
  · rename_i e; exact ⟨h, e⟩
theorem Hp.less_ext {a b u : Hp} (h : Ext u a) (d : Hp.dj u b) : Ext u (Hp.less a b) := fun g o e => by
  rcases d g with h0 | h0
  · rw [h0] at e; cases e
  · simp [Hp.less, h0, h g o e]

section
variable {C : Ctx} {σ : Sym} {U : Hp} {s : List Item}

theorem J.re {σ' : Sym} (hn : σ'.n = σ.n) (hD : ∀ t b, σ'.D t = some b → σ.D t = some b)
    (key : ∀ a w ρ hs G, Hd C σ U a w → Sat σ U C.F a w ρ hs G → ∃ U' ρ' hs' dst, (∀ t, σ'.K t = .unk ∨ ∃ y, a.tmps[t]? = some y ∧ (σ'.K t).is ρ' U' y) ∧ (∀ k, (σ'.M k).sat (ρ' k) (hs' k)) ∧
      (∀ k g, σ'.pin k = some g → ρ' k = g) ∧ Ext C.U0 U' ∧ (∀ i, i ≠ Part.g → ∀ b o, fam U' C.F Hp.emp hs' i b = some o → ∃ j, fam U C.F G hs j b = some o ∧ (dst : Part → Nat → Part) j b = i) ∧ J C s σ' U') : J C s σ U := by
  refine ⟨fun a w hH => ?_⟩
  obtain ⟨ρ, hs, G, hS⟩ := hH.1.sat
  obtain ⟨U', ρ', hs', dst, h1, h2, h3, h4, h5, h6⟩ := key a w ρ hs G hH hS
  obtain ⟨G', hJ⟩ := hS.J.re dst h5
  exact h6.out a w ⟨⟨hH.1.size.trans hn.symm, hH.1.defers, hH.1.run, fun t b h => hH.1.dec t b (hD t b h), ρ', hs', G', h1, h2, hJ, h3⟩, h4⟩

theorem J.join (k k' : Nat) {p q : Hp → Prop} (hk : σ.M k = .own p) (hk' : σ.M k' = .own q) (hne : (k == k') = false) (h : J C s { σ with M := upd (upd σ.M k' .none) k (.own (star p q)) } U) : J C s σ U := by
  have hne : k ≠ k' := by simpa using hne
  refine J.re (σ' := { σ with M := upd (upd σ.M k' .none) k (.own (star p q)) }) rfl (fun _ _ h => h) fun a w ρ hs G hH hS => ⟨U, ρ, upd (upd hs k' Hp.emp) k (Hp.un (hs k) (hs k')), fun j b => if j = .k k' then .k k else j, hS.K, ?_, hS.pin, hH.2, ?_, h⟩
  · intro q'
    by_cases e : q' = k
    · subst e
      simp only [upd_same, Res.sat]
      have h1 := hS.M q'; rw [hk] at h1
      have h2 := hS.M k'; rw [hk'] at h2
      refine ⟨_, _, h1, h2, fun g => ?_, rfl⟩
      cases e1 : hs q' g with
      | none => exact .inl rfl
      | some x =>
        cases e2 : hs k' g with
        | none => exact .inr rfl
        | some y => have := hS.J.one (.k q') (.k k') g x y e1 e2; simp at this; exact absurd this hne
    · simp only [upd_ne _ _ _ e]
      by_cases e' : q' = k'
      · subst e'; simp only [upd_same]; intro b; rfl
      · simp only [upd_ne _ _ _ e']; exact hS.M q'
  · intro i hi b o hb
    cases i with
    | g => exact absurd rfl hi
    | u => exact ⟨.u, hb, by simp⟩
    | f => exact ⟨.f, hb, by simp⟩
    | k q' =>
      by_cases e : q' = k
      · subst e
        simp only [fam, upd_same] at hb
        rcases Hp.un_some hb with h1 | ⟨-, h1⟩
        · exact ⟨.k q', h1, by simp [hne]⟩
        · exact ⟨.k k', h1, by simp⟩
      · simp only [fam, upd_ne _ _ _ e] at hb
        by_cases e' : q' = k'
        · subst e'; rw [upd_same] at hb; cases hb
        · rw [upd_ne _ _ _ e'] at hb; exact ⟨.k q', hb, by simp [e']⟩

theorem J.split (k k' : Nat) {p q : Hp → Prop} (hk : σ.M k = .own (star p q)) (hk' : σ.M k' = .none) (hne : (k == k') = false) (h : J C s { σ with M := upd (upd σ.M k (.own p)) k' (.own q) } U) : J C s σ U := by
  have hne : k ≠ k' := by simpa using hne
  refine J.re (σ' := { σ with M := upd (upd σ.M k (.own p)) k' (.own q) }) rfl (fun _ _ h => h) fun a w ρ hs G hH hS => ?_
  have h1 := hS.M k
  rw [hk] at h1
  obtain ⟨x, y, hx, hy, hd, hu⟩ := h1
  have h0 : ∀ b, hs k' b = none := by have := hS.M k'; rw [hk'] at this; exact this
  refine ⟨U, ρ, upd (upd hs k x) k' y, fun j b => if j = .k k then (match x b with | some _ => .k k | none => .k k') else j, hS.K, ?_, hS.pin, hH.2, ?_, h⟩
  · intro q'
    by_cases e : q' = k'
    · subst e; simp only [upd_same]; exact hy
    · simp only [upd_ne _ _ _ e]
      by_cases e' : q' = k
      · subst e'; simp only [upd_same]; exact hx
      · simp only [upd_ne _ _ _ e']; exact hS.M q'
  · intro i hi b o hb
    cases i with
    | g => exact absurd rfl hi
    | u => exact ⟨.u, hb, by simp⟩
    | f => exact ⟨.f, hb, by simp⟩
    | k q' =>
      by_cases e : q' = k'
      · subst e
        simp only [fam, upd_same] at hb
        refine ⟨.k k, by simp only [fam, hu]; exact Hp.un_r hd b o hb, ?_⟩
        have : x b = none := by rcases hd b with h2 | h2 <;> first | exact h2 | (rw [h2] at hb; cases hb)
        simp [this]
      · simp only [fam, upd_ne _ _ _ e] at hb
        by_cases e' : q' = k
        · subst e'; rw [upd_same] at hb
          exact ⟨.k q', by simp only [fam, hu]; exact Hp.un_l b o hb, by simp [hb]⟩
        · rw [upd_ne _ _ _ e'] at hb; exact ⟨.k q', hb, by simp [e']⟩

theorem J.own' {α : Sort _} (k : Nat) {p : Hp → Prop} {p' : α → Hp → Prop} (hk : σ.M k = .own p) (hp : ∀ h, p h → ∃ x, p' x h) (h : ∀ x, J C s { σ with M := upd σ.M k (.own (p' x)) } U) : J C s σ U := by
  refine ⟨fun a w hH => ?_⟩
  obtain ⟨ρ, hs, G, hS⟩ := hH.1.sat
  have h1 := hS.M k
  rw [hk] at h1
  obtain ⟨x, hx⟩ := hp _ h1
  refine (h x).out a w ⟨⟨hH.1.size, hH.1.defers, hH.1.run, hH.1.dec, ρ, hs, G, hS.K, fun q => ?_, hS.J, hS.pin⟩, hH.2⟩
  by_cases e : q = k
  · subst e; simp only [upd_same]; exact hx
  · simp only [upd_ne _ _ _ e]; exact hS.M q

theorem J.arrBox (k : Nat) {v : Value} {e : TypeId} {size n : Nat} {xs : List Value} (hk : σ.M k = .own (arr v e size n xs)) (hv : v ≠ .slice none 0 0)
    (h : ∀ g cap rest, v = .slice (some ⟨g, 0, none⟩) n cap → n ≤ cap → cap ≤ maxLen → xs.length = n * size → xs.length + rest.length = cap * size →
      J C s { σ with K := fun t => (σ.K t).kill k, M := upd σ.M k (.box e (xs ++ rest)), pin := upd σ.pin k (some g) } U) : J C s σ U := by
  refine ⟨fun a w hH => ?_⟩
  obtain ⟨ρ, hs, G, hS⟩ := hH.1.sat
  have h1 := hS.M k
  rw [hk] at h1
  obtain ⟨hl, h2 | ⟨g, cap, cur, e1, h3, h4, h5, h6, h7⟩⟩ := h1
  · exact absurd h2.1 hv
  · have hr : xs ++ cur.toList.drop (n * size) = cur.toList := by rw [← h6]; exact List.take_append_drop _ _
    have hlen : xs.length + (cur.toList.drop (n * size)).length = cap * size := by
      rw [← List.length_append, hr]; simpa using h5
    refine (h g cap (cur.toList.drop (n * size)) e1 h3 h4 hl hlen).out a w ⟨⟨hH.1.size, hH.1.defers, hH.1.run, hH.1.dec, fun q => if q = k then g else ρ q, hs, G, fun t => ?_, fun q => ?_, hS.J, fun q g' hq => ?_⟩, hH.2⟩
    · rcases hS.K t with hu | ⟨y, hy, hi⟩
      · left; show (σ.K t).kill k = .unk; rw [hu]; rfl
      · right; exact ⟨y, hy, SV.is_kill k _ hi⟩
    · by_cases e' : q = k
      · subst e'; simp only [upd_same, Res.sat, if_true]; rw [hr]; simpa using h7
      · simp only [upd_ne _ _ _ e', if_neg e']; exact hS.M q
    · by_cases e' : q = k
      · subst e'; simp only [upd_same, Option.some.injEq] at hq; simp only [if_true]; exact hq
      · simp only [upd_ne _ _ _ e'] at hq; simp only [if_neg e']; exact hS.pin q g' hq

theorem J.boxArr (k : Nat) {e : TypeId} {g size n cap : Nat} {xs rest : List Value} (hk : σ.M k = .box e (xs ++ rest)) (hp : σ.pin k = some g) (hn : n ≤ cap) (hc : cap ≤ maxLen) (hl : xs.length = n * size) (hl' : xs.length + rest.length = cap * size)
    (h : J C s { σ with M := upd σ.M k (.own (arr (.slice (some ⟨g, 0, none⟩) n cap) e size n xs)) } U) : J C s σ U := by
  refine ⟨fun a w hH => ?_⟩
  obtain ⟨ρ, hs, G, hS⟩ := hH.1.sat
  have h1 := hS.M k
  rw [hk] at h1
  have h2 := hS.pin k g hp
  refine h.out a w ⟨⟨hH.1.size, hH.1.defers, hH.1.run, hH.1.dec, ρ, hs, G, hS.K, fun q => ?_, hS.J, hS.pin⟩, hH.2⟩
  by_cases e' : q = k
  · subst e'
    simp only [upd_same]
    refine ⟨hl, .inr ⟨g, cap, (xs ++ rest).toArray, rfl, hn, hc, by simpa using hl', by simp [← hl], ?_⟩⟩
    rw [← h2]; exact h1
  · simp only [upd_ne _ _ _ e']; exact hS.M q

theorem J.lend (k : Nat) {p : Hp → Prop} (hk : σ.M k = .own p) (h : ∀ L, p L → Hp.dj U L → J C s (σ.free k) (Hp.un U L)) : J C s σ U := by
  refine J.re (σ' := σ.free k) rfl (fun _ _ h => h) fun a w ρ hs G hH hS => ?_
  have h1 := hS.M k
  rw [hk] at h1
  have hd : Hp.dj U (hs k) := fun g => by
    cases e1 : U g with
    | none => exact .inl rfl
    | some x =>
      cases e2 : hs k g with
      | none => exact .inr rfl
      | some y => have := hS.J.one .u (.k k) g x y e1 e2; cases this
  refine ⟨Hp.un U (hs k), ρ, upd hs k Hp.emp, fun j b => if j = .k k then .u else j, fun t => (hS.K t).imp id fun ⟨y, hy, hi⟩ => ⟨y, hy, SV.is_ext Hp.un_l hi⟩, ?_, hS.pin, hH.2.trans Hp.un_l, ?_, h _ h1 hd⟩
  · intro q
    by_cases e : q = k
    · subst e; simp only [Sym.free, upd_same]; intro b; rfl
    · simp only [Sym.free, upd_ne _ _ _ e]; exact hS.M q
  · intro i hi b o hb
    cases i with
    | g => exact absurd rfl hi
    | u =>
      rcases Hp.un_some hb with h1 | ⟨-, h1⟩
      · exact ⟨.u, h1, by simp⟩
      · exact ⟨.k k, h1, by simp⟩
    | f => exact ⟨.f, hb, by simp⟩
    | k q =>
      by_cases e : q = k
      · subst e; simp only [fam, upd_same] at hb; cases hb
      · simp only [fam, upd_ne _ _ _ e] at hb; exact ⟨.k q, hb, by simp [e]⟩

def SV.unwin : SV → SV
  | .win .. => .unk
  | s => s
theorem SV.unwin_is {ρ : Nat → Nat} {U V : Hp} {y : Value} {s : SV} (h : s.is ρ U y) : s.unwin.is ρ V y := by
  cases s <;> first | exact h | trivial

theorem J.unlend (k : Nat) {p : Hp → Prop} {V L : Hp} (hk : σ.M k = .none) (hp : p L) (hx : Ext (Hp.un V L) U) (hd : Hp.dj V L) (h0 : Ext C.U0 V)
    (h : Ext V (Hp.less U L) → J C s { σ with K := fun t => (σ.K t).unwin, M := upd σ.M k (.own p) } (Hp.less U L)) : J C s σ U := by
  have hV : Ext V (Hp.less U L) := Hp.less_ext (Ext.trans Hp.un_l hx) hd
  refine J.re (σ' := { σ with K := fun t => (σ.K t).unwin, M := upd σ.M k (.own p) }) rfl (fun _ _ h => h) fun a w ρ hs G hH hS =>
    ⟨Hp.less U L, ρ, upd hs k L, fun j b => if j = .u then (match L b with | some _ => .k k | none => .u) else j, fun t => ?_, ?_, hS.pin, h0.trans hV, ?_, h hV⟩
  · rcases hS.K t with hu | ⟨y, hy, hi⟩
    · left; show (σ.K t).unwin = .unk; rw [hu]; rfl
    · right; exact ⟨y, hy, SV.unwin_is hi⟩
  · intro q
    by_cases e : q = k
    · subst e; simp only [upd_same]; exact hp
    · simp only [upd_ne _ _ _ e]; exact hS.M q
  · intro i hi b o hb
    have hk0 : ∀ b, hs k b = none := by have := hS.M k; rw [hk] at this; exact this
    cases i with
    | g => exact absurd rfl hi
    | u =>
      obtain ⟨h1, h2⟩ := Hp.less_some hb
      exact ⟨.u, h1, by simp [h2]⟩
    | f => exact ⟨.f, hb, by simp⟩
    | k q =>
      by_cases e : q = k
      · subst e
        simp only [fam, upd_same] at hb
        exact ⟨.u, hx b o (Hp.un_r hd b o hb), by simp [hb]⟩
      · simp only [fam, upd_ne _ _ _ e] at hb; exact ⟨.k q, hb, by simp⟩

theorem J.win (t : Nat) {b o : Nat} (cells : List Value) (hk : σ.K t = .v (.pointer (some ⟨b, o, none⟩))) (hc : ∀ (j : Nat) c, cells[j]? = some c → U.cell? b (o + j) = some c)
    (h : J C s { σ with K := upd σ.K t (.win b o cells 0) } U) : J C s σ U := by
  refine ⟨fun a w hH => ?_⟩
  obtain ⟨ρ, hs, G, hS⟩ := hH.1.sat
  refine h.out a w ⟨⟨hH.1.size, hH.1.defers, hH.1.run, hH.1.dec, ρ, hs, G, fun q => ?_, hS.M, hS.J, hS.pin⟩, hH.2⟩
  by_cases e : q = t
  · subst e
    rcases hS.K q with hu | ⟨y, hy, hi⟩
    · rw [hk] at hu; cases hu
    · rw [hk] at hi
      exact .inr ⟨y, hy, by simp only [upd_same]; exact ⟨hi, hc⟩⟩
  · simp only [upd_ne _ _ _ e]; exact hS.K q

def SV.shown (k g : Nat) (cells : List Value) : SV → SV
  | .bp q off => bif Nat.beq q k then .win g 0 cells off else .bp q off
  | .clo f [q] => bif Nat.beq q k then .v (.func (.func f) #[] #[.pointer (some ⟨g, 0, none⟩)]) else .clo f [q]
  | s => s

theorem SV.shown_is {ρ : Nat → Nat} {U : Hp} {y : Value} {k : Nat} {cells : List Value} (hc : ∀ (j : Nat) c, cells[j]? = some c → U.cell? (ρ k) j = some c) : ∀ {s : SV}, s.is ρ U y → (s.shown k (ρ k) cells).is ρ U y
  | .bp q off, hi => by
    simp only [SV.shown]
    cases e : Nat.beq q k with
    | false => exact hi
    | true =>
      have : q = k := Nat.eq_of_beq_eq_true e
      subst this
      refine ⟨?_, fun j c hj => by rw [Nat.zero_add]; exact hc j c hj⟩
      rw [Nat.zero_add]; exact hi
  | .clo f [q], hi => by
    simp only [SV.shown]
    cases e : Nat.beq q k with
    | false => exact hi
    | true =>
      have : q = k := Nat.eq_of_beq_eq_true e
      subst this
      exact hi
  | .clo f [], hi => hi
  | .clo f (_ :: _ :: _), hi => hi
  | .unk, hi => hi
  | .v _, hi => hi
  | .win .., hi => hi

theorem J.pubBox (k : Nat) {ty : TypeId} {cells : List Value} (hk : σ.M k = .box ty cells)
    (h : ∀ g U', Ext U U' → (∀ (j : Nat) c, cells[j]? = some c → U'.cell? g j = some c) → J C s { σ with K := fun t => (σ.K t).shown k g cells, M := upd σ.M k .none } U') : J C s σ U := by
  refine ⟨fun a w hH => ?_⟩
  obtain ⟨ρ, hs, G, hS⟩ := hH.1.sat
  have h1 := hS.M k
  rw [hk] at h1
  have h1 : hs k = Hp.one (ρ k) (.cells cells.toArray ty (0, 0)) := h1
  have hd : Hp.dj U (hs k) := fun g => by
    cases e1 : U g with
    | none => exact .inl rfl
    | some x =>
      cases e2 : hs k g with
      | none => exact .inr rfl
      | some y => have := hS.J.one .u (.k k) g x y e1 e2; cases this
  have hc : ∀ (j : Nat) c, cells[j]? = some c → (Hp.un U (hs k)).cell? (ρ k) j = some c := by
    intro j c hj
    have : Hp.un U (hs k) (ρ k) = some (.cells cells.toArray ty (0, 0)) := Hp.un_r hd _ _ (by rw [h1]; simp [Hp.one])
    simp only [Hp.cell?, this]; simpa using hj
  obtain ⟨G', hJ⟩ := hS.J.re (U' := Hp.un U (hs k)) (hs' := upd hs k Hp.emp) (fun j b => if j = .k k then .u else j) (fun i hi b o hb => by
    cases i with
    | g => exact absurd rfl hi
    | u =>
      rcases Hp.un_some hb with h1 | ⟨-, h1⟩
      · exact ⟨.u, h1, by simp⟩
      · exact ⟨.k k, h1, by simp⟩
    | f => exact ⟨.f, hb, by simp⟩
    | k q =>
      by_cases e : q = k
      · subst e; simp only [fam, upd_same] at hb; cases hb
      · simp only [fam, upd_ne _ _ _ e] at hb; exact ⟨.k q, hb, by simp [e]⟩)
  refine (h (ρ k) _ Hp.un_l hc).out a w ⟨⟨hH.1.size, hH.1.defers, hH.1.run, hH.1.dec, ρ, _, G', fun t => ?_, fun q => ?_, hJ, hS.pin⟩, hH.2.trans Hp.un_l⟩
  · rcases hS.K t with hu | ⟨y, hy, hi⟩
    · left; show (σ.K t).shown k _ cells = .unk; rw [hu]; rfl
    · right; exact ⟨y, hy, SV.shown_is hc (SV.is_ext Hp.un_l hi)⟩
  · by_cases e : q = k
    · subst e; simp only [upd_same]; intro b; rfl
    · simp only [upd_ne _ _ _ e]; exact hS.M q
end
end Go.Rx
end

section
namespace Go.Rx

def SV.val (ρ : Nat → Nat) : SV → Value
  | .unk => undef
  | .v x => x
  | .bp k off => .pointer (some ⟨ρ k, off, none⟩)
  | .win b o _ off => .pointer (some ⟨b, o + off, none⟩)
  | .clo f keys => .func (.func f) #[] (keys.map fun k => .pointer (some ⟨ρ k, 0, none⟩)).toArray

def SV.plain : SV → Bool
  | .v _ => true
  | .bp _ _ => true
  | .clo _ _ => true
  | _ => false
theorem SV.val_is {ρ : Nat → Nat} {U : Hp} : ∀ {s : SV}, s.plain = true → s.is ρ U (s.val ρ)
  | .v _, _ => rfl
  | .bp _ _, _ => rfl
  | .clo _ _, _ => rfl
theorem SV.is_val {ρ : Nat → Nat} {U : Hp} {y : Value} : ∀ {s : SV}, s.plain = true → s.is ρ U y → y = s.val ρ
  | .v _, _, h => h
  | .bp _ _, _, h => h
  | .clo _ _, _, h => h

def BCall (P : Program) (f : FuncId) (args : List SV) (ML : List (Nat × Res)) (U : Hp) (R : Value → Hp → List (Nat × Res) → Prop) : Prop :=
  Entr P f ∧ ∀ ρ hs w F, (∀ k, (ofL .none ML k).sat (ρ k) (hs k)) → Joins (fam U F Hp.emp hs) w →
    Calls P f (args.map (SV.val ρ)).toArray w fun e w' => ∃ v U' ML' hs' G, e = .returned v ∧ Ext U U' ∧ R v U' ML' ∧ (∀ k, (ofL .none ML' k).sat (ρ k) (hs' k)) ∧ Joins (fam U' F G hs') w' ∧ Same w w'

theorem BCall.mono {P : Program} {f : FuncId} {args : List SV} {ML : List (Nat × Res)} {U : Hp} {R R' : Value → Hp → List (Nat × Res) → Prop} (h : BCall P f args ML U R) (hr : ∀ v U' L, Ext U U' → R v U' L → R' v U' L) : BCall P f args ML U R' :=
  ⟨h.1, fun ρ hs w F h1 h2 => (h.2 ρ hs w F h1 h2).mono fun e w' ⟨v, U', L, hs', G, e1, e2, e3, e4⟩ => ⟨v, U', L, hs', G, e1, e2, hr v U' L e2 e3, e4⟩⟩

def PostB (E : Env) (fn : Func) (ρ : Nat → Nat) (R : Value → Hp → List (Nat × Res) → Prop) (σ : Sym) (U : Hp) : Prop :=
  ∃ l ML', evRes E σ fn.results.toList = some l ∧ R (resV l) U ML' ∧ ∀ p ∈ ML', σ.M p.1 = p.2 ∧ (σ.pin p.1 = some (ρ p.1) ∨ ∃ q, p.2 = .own q)

def initS (args : List SV) : Nat → SV := fun t => match args[t]? with | some s => s | none => .unk

theorem BCall.of {P : Program} {E : Env} (hE : EnvOk P E) (hmo : P.follows .mixedOrders = true) {f : FuncId} {fn : Func} {code : Code} {args : List SV} {ML : List (Nat × Res)} {U : Hp} {R : Value → Hp → List (Nat × Res) → Prop}
    (hf : P.funcs[f]? = some fn) (hname : (fn.name == "runtime.NumGoroutine") = false) (hb : fn.body = some code) {n : Nat} (hn : fn.ntmps = n) (hl : args.length ≤ n) (hpl : args.all SV.plain = true)
    (h : ∀ F w0 ρ, J ⟨P, E, hE, F, U, w0, fn, PostB E fn ρ R, hmo⟩ [.c code] ⟨n, initS args, fun _ => none, ofL .none ML, fun k => some (ρ k)⟩ U) : BCall P f args ML U R := by
  refine ⟨entr_of hf hname hb, ?_⟩
  intro ρ hs w F hm hw
  refine calls_of_wp hf hb ?_
  have h1 := (h F w ρ).out { tmps := (args.map (SV.val ρ)).toArray ++ Array.replicate (fn.ntmps - (args.map (SV.val ρ)).toArray.size) undef, defers := [] } w ⟨⟨?_, rfl, Same.refl w, fun t b h => by simp at h, ?_⟩, Ext.refl U⟩
  · refine wp_mono h1 ?_
    intro e a' w' q
    have fin : Fin ⟨P, E, hE, F, U, w, fn, PostB E fn ρ R, hmo⟩ a' w' → bodyPost P fn (fun e w' => ∃ v U' ML' hs' G, e = .returned v ∧ Ext U U' ∧ R v U' ML' ∧ (∀ k, (ofL .none ML' k).sat (ρ k) (hs' k)) ∧ Joins (fam U' F G hs') w' ∧ Same w w') .normal a' w' := by
      rintro ⟨σ, U', ⟨hh, hx⟩, l, ML', hl, hr, hM⟩
      obtain ⟨ρ', hs', G, hS⟩ := hh.sat
      obtain ⟨G', hJ⟩ := hS.J.drop (fun k => match ofL .none ML' k with | .none => false | _ => true)
      refine ⟨hh.defers, resV l, results_ok hE hS hl, resV l, U', ML', _, G', rfl, hx, hr, ?_, hJ, hh.run⟩
      intro k
      rcases ofL_mem (d := Res.none) (l := ML') (t := k) with h1 | h1
      · rw [h1]; intro b; rfl
      · obtain ⟨e1, e2⟩ := hM _ h1
        simp only at e1 e2
        have hm := hS.M k
        rw [e1] at hm
        rcases e2 with e2 | ⟨q, e2⟩
        · rw [hS.pin k _ e2] at hm
          cases hr : ofL Res.none ML' k with
          | none => intro b; rfl
          | box ty cells => rw [hr] at hm; exact hm
          | own p => rw [hr] at hm; exact hm
        · rw [e2] at hm ⊢; exact hm
    cases e with
    | normal => exact fin q
    | ret => exact fin q
    | _ => exact q.elim
  · simp [hn]; omega
  · refine ⟨ρ, hs, Hp.emp, ?_, hm, hw, fun k g h => by simpa using h⟩
    intro t
    show (match args[t]? with | some s => s | none => SV.unk) = _ ∨ _
    cases ht : args[t]? with
    | none => left; rfl
    | some s =>
      right
      have hp : s.plain = true := by
        have := List.all_eq_true.1 hpl s (List.mem_of_getElem? ht); exact this
      refine ⟨s.val ρ, ?_, by show (match args[t]? with | some s => s | none => SV.unk).is ρ U _; rw [ht]; exact SV.val_is hp⟩
      have hlt : t < args.length := (List.getElem?_eq_some_iff.1 ht).1
      rw [Array.getElem?_append_left (by simpa using hlt)]
      simp [ht]

def SV.ren (κ : Nat → Nat) : SV → SV
  | .bp k off => .bp (κ k) off
  | .clo f keys => .clo f (keys.map κ)
  | s => s
theorem SV.val_ren {ρ : Nat → Nat} {κ : Nat → Nat} : ∀ {s : SV}, (s.ren κ).val ρ = s.val (fun k => ρ (κ k))
  | .unk => rfl
  | .v _ => rfl
  | .bp _ _ => rfl
  | .win .. => rfl
  | .clo f keys => by simp [SV.ren, SV.val, Function.comp_def]

def evFn (σ : Sym) (x : Operand) : Option (FuncId × List SV) :=
  match ev σ x with
  | .v (.func (.func f) first caps) => match first.toList with | [] => some (f, caps.toList.map .v) | _ => none
  | .clo f keys => some (f, keys.map fun k => .bp k 0)
  | _ => none

section
variable {C : Ctx} {σ : Sym} {U : Hp} {s : List Item}

theorem evFn_ok {F : Hp} {a : Act} {w : World} {ρ : Nat → Nat} {hs : Nat → Hp} {G : Hp} (hS : Sat σ U F a w ρ hs G) {x : Operand} {f : FuncId} {l : List SV} (h : evFn σ x = some (f, l)) :
    a.eval x = .func (.func f) #[] (l.map (SV.val ρ)).toArray := by
  unfold evFn at h
  have h1 := hS.ev x
  split at h
  · rename_i f' first caps e
    split at h
    · rename_i e2
      simp only [Option.some.injEq, Prod.mk.injEq] at h
      obtain ⟨rfl, rfl⟩ := h
      rw [e] at h1
      rw [show a.eval x = _ from h1]
      have : first = #[] := by simpa using e2
      simp [this, SV.val, Function.comp_def]
    · cases h
  · rename_i f' keys e
    simp only [Option.some.injEq, Prod.mk.injEq] at h
    obtain ⟨rfl, rfl⟩ := h
    rw [e] at h1
    rw [show a.eval x = _ from h1]
    simp [SV.val, Function.comp_def]
  · cases h

def inv : List (Nat × Nat) → Nat → Option Nat
  | [], _ => none
  | (k, q) :: r, t => bif Nat.beq t q then some k else inv r t
theorem inv_some : ∀ {l : List (Nat × Nat)} {t k : Nat}, inv l t = some k → (k, t) ∈ l
  | [], _, _, h => by cases h
  | (k, q) :: r, t, k', h => by
    simp only [inv] at h
    cases e : Nat.beq t q with
    | true =>
      rw [e] at h
      simp only [cond_true, Option.some.injEq] at h
      rw [Nat.eq_of_beq_eq_true e, ← h]; exact List.mem_cons_self ..
    | false => rw [e] at h; exact List.mem_cons_of_mem _ (inv_some h)

def keyOf (κL : List (Nat × Nat)) : Nat → Nat := ofL 0 κL

def keysOk (κL : List (Nat × Nat)) : Bool := κL.all fun p => Nat.beq (keyOf κL p.1) p.2 && (match inv κL p.2 with | some k => Nat.beq k p.1 | none => false)

def Sym.retB (σ : Sym) (d : Tmp) (v : Value) (κL : List (Nat × Nat)) (ML' : List (Nat × Res)) : Sym :=
  { n := σ.n, K := upd σ.K d (.v v), D := upd σ.D d none, M := fun q => match inv κL q with | some k => ofL .none ML' k | none => σ.M q, pin := σ.pin }

def subKeys (κL : List (Nat × Nat)) (ML : List (Nat × Res)) : Prop := ∀ p ∈ ML, ∃ q, (p.1, q) ∈ κL

theorem Op1.bcall {K : Sym → Hp → Prop} {ops : Array Oper} {i : Nat} {o : Oper} {c : Call} {x : Operand} {f : FuncId} {d : Tmp} {args caps : List SV} {R : Value → Hp → List (Nat × Res) → Prop} (κL : List (Nat × Nat)) {ML : List (Nat × Res)}
    (hi : ops.toList[i]? = some o) (hg : gd ops.toList σ o = some true) (ho : o.op = .call c) (hd : o.dst = some d) (hcal : c.callee = .value x) (hfn : evFn σ x = some (f, caps)) (hn : Nat.blt d σ.n = true)
    (hv : c.args.toList.map (ev σ) ++ caps = args.map (SV.ren (keyOf κL))) (hpl : args.all SV.plain = true) (hκ : keysOk κL = true) (hM : ∀ p ∈ κL, σ.M p.2 = ofL .none ML p.1) (hsub : ∀ p ∈ ML, κL.any (fun q => Nat.beq q.1 p.1) = true)
    (hC : BCall C.P f args ML U R) (h : ∀ v U' ML', Ext U U' → R v U' ML' → K (σ.retB d v κL ML') U') : Op1 C ops i σ U K := by
  classical
  refine ⟨o, hi, hg, fun a w Q hh => ?_⟩
  obtain ⟨hH, hx⟩ := hh
  obtain ⟨ρ, hs, G, hS⟩ := hH.sat
  have hn' : d < σ.n := by simpa [Nat.blt_eq] using hn
  have hkey : ∀ p ∈ κL, keyOf κL p.1 = p.2 ∧ inv κL p.2 = some p.1 := by
    intro p hp
    have := List.all_eq_true.1 hκ p hp
    simp only [Bool.and_eq_true] at this
    refine ⟨Nat.eq_of_beq_eq_true this.1, ?_⟩
    have h2 := this.2
    split at h2
    · rename_i k hk; rw [hk, Nat.eq_of_beq_eq_true h2]
    · cases h2

  have hval : c.args.toList.map a.eval ++ (caps.map (SV.val ρ)) = args.map (SV.val fun k => ρ (keyOf κL k)) := by
    have e1 : args.map (SV.val fun k => ρ (keyOf κL k)) = (args.map (SV.ren (keyOf κL))).map (SV.val ρ) := by
      simp [List.map_map, Function.comp_def, SV.val_ren]
    rw [e1, ← hv, List.map_append, List.map_map]
    congr 1
    refine List.map_congr_left fun y hy => ?_
    have hp : (ev σ y).plain = true := by
      have : ev σ y ∈ args.map (SV.ren (keyOf κL)) := by
        rw [← hv]; exact List.mem_append_left _ (List.mem_map_of_mem hy)
      obtain ⟨z, hz, e⟩ := List.mem_map.1 this
      have := List.all_eq_true.1 hpl z hz
      rw [← e]; cases z <;> first | rfl | exact this
    exact SV.is_val hp (hS.ev y)
  have hrun := exec_call (P := C.P) (a := a) ho hcal (evFn_ok hS hfn) hC.1 rfl w
  unfold Oper.wp
  rw [hrun, Oper.upon_enter, hd]
  have hargs : ((c.args.toList.map a.eval).toArray ++ (caps.map (SV.val ρ)).toArray) = (args.map (SV.val fun k => ρ (keyOf κL k))).toArray := by rw [← hval]; simp
  rw [hargs]

  let hsC : Nat → Hp := fun k => bif κL.any (fun q => Nat.beq q.1 k) then hs (keyOf κL k) else Hp.emp
  have anyk : ∀ k, κL.any (fun q => Nat.beq q.1 k) = true → (k, keyOf κL k) ∈ κL := by
    intro k hk
    obtain ⟨q, hq, e⟩ := List.any_eq_true.1 hk
    have e := Nat.eq_of_beq_eq_true e
    obtain ⟨h1, -⟩ := hkey q hq
    subst e; rw [h1]; exact hq
  let Fc : Hp := fun b => match U b with | some _ => none | none => if (∃ k, hsC k b ≠ none) then none else w.heap[b]?
  have hsCk : ∀ k b x, hsC k b = some x → (k, keyOf κL k) ∈ κL ∧ hs (keyOf κL k) b = some x := by
    intro k b x hb
    have hb' : (bif κL.any (fun q => Nat.beq q.1 k) then hs (keyOf κL k) else Hp.emp) b = some x := hb
    cases hk : κL.any (fun q => Nat.beq q.1 k) with
    | false => rw [hk] at hb'; cases hb'
    | true => rw [hk] at hb'; exact ⟨anyk k hk, hb'⟩
  have Fcs : ∀ b x, Fc b = some x → w.heap[b]? = some x ∧ U b = none ∧ ∀ k, hsC k b = none := by
    intro b x hb
    have hb' : (match U b with | some _ => none | none => if (∃ k, hsC k b ≠ none) then none else w.heap[b]?) = some x := hb
    split at hb'
    · cases hb'
    · rename_i hu
      split at hb'
      · cases hb'
      · rename_i hk
        refine ⟨hb', hu, fun k => ?_⟩
        cases e : hsC k b with
        | none => rfl
        | some y => exact absurd ⟨k, by rw [e]; simp⟩ hk
  have hJc : Joins (fam U Fc Hp.emp hsC) w := by
    refine ⟨fun i b x hb => ?_, fun b x hb => ?_, fun i j b x y hx hy => ?_⟩
    · cases i with
      | u => exact hS.J.sub .u b x hb
      | f => exact (Fcs b x hb).1
      | g => cases hb
      | k k => exact hS.J.sub (.k (keyOf κL k)) b x (hsCk k b x hb).2
    · by_cases hk : ∃ k, hsC k b ≠ none
      · obtain ⟨k, hk⟩ := hk
        cases e : hsC k b with
        | none => exact absurd e hk
        | some y =>
          have := hS.J.sub (.k (keyOf κL k)) b y (hsCk k b y e).2
          rw [hb] at this
          exact ⟨.k k, by rw [this]; exact e⟩
      · cases hu : U b with
        | some y =>
          have := hS.J.sub .u b y hu
          rw [hb] at this
          exact ⟨.u, by rw [this]; exact hu⟩
        | none =>
          refine ⟨.f, ?_⟩
          show (match U b with | some _ => none | none => if (∃ k, hsC k b ≠ none) then none else w.heap[b]?) = some x
          rw [hu]; simp only; rw [if_neg hk]; exact hb
    · cases i with
      | g => cases hx
      | u =>
        cases j with
        | g => cases hy
        | u => rfl
        | f => have := (Fcs b y hy).2.1; rw [show U b = some x from hx] at this; cases this
        | k k => have := hS.J.one .u (.k (keyOf κL k)) b x y hx (hsCk k b y hy).2; cases this
      | f =>
        cases j with
        | g => cases hy
        | u => have := (Fcs b x hx).2.1; rw [show U b = some y from hy] at this; cases this
        | f => rfl
        | k k => have := (Fcs b x hx).2.2 k; rw [show hsC k b = some y from hy] at this; cases this
      | k k =>
        cases j with
        | g => cases hy
        | u => have := hS.J.one (.k (keyOf κL k)) .u b x y (hsCk k b x hx).2 hy; cases this
        | f => have := (Fcs b y hy).2.2 k; rw [show hsC k b = some x from hx] at this; cases this
        | k k' =>
          obtain ⟨m1, h1⟩ := hsCk k b x hx
          obtain ⟨m2, h2⟩ := hsCk k' b y hy
          have := hS.J.one (.k (keyOf κL k)) (.k (keyOf κL k')) b x y h1 h2
          simp only [Part.k.injEq] at this
          have e1 := (hkey _ m1).2
          have e2 := (hkey _ m2).2
          simp only at e1 e2
          rw [this, e2] at e1
          simp only [Option.some.injEq] at e1
          rw [e1]
  have hsat : ∀ k, (ofL .none ML k).sat (ρ (keyOf κL k)) (hsC k) := by
    intro k
    show Res.sat _ _ (bif κL.any (fun q => Nat.beq q.1 k) then hs (keyOf κL k) else Hp.emp)
    cases hk : κL.any (fun q => Nat.beq q.1 k) with
    | true =>
      have := hS.M (keyOf κL k)
      rw [hM _ (anyk k hk)] at this
      exact this
    | false =>
      have : ofL .none ML k = .none := by
        rcases ofL_mem (d := Res.none) (l := ML) (t := k) with h1 | h1
        · exact h1
        · have := hsub _ h1; simp only at this; rw [this] at hk; cases hk
      rw [this]; intro b; rfl
  refine (hC.2 (fun k => ρ (keyOf κL k)) hsC w Fc hsat hJc).mono ?_
  rintro e w' ⟨v, U', ML', hs', G', rfl, hxU, hr, hsat', hJ', hsame⟩
  let hsN : Nat → Hp := fun q => match inv κL q with | some k => hs' k | none => hs q

  have inF : ∀ i, (∀ k, i ≠ .k k ∨ inv κL k = none) → i ≠ .u → ∀ b x, fam U C.F G hs i b = some x → Fc b = some x := by
    intro i hik hiu b x hb
    show (match U b with | some _ => none | none => if (∃ k, hsC k b ≠ none) then none else w.heap[b]?) = some x
    cases hu : U b with
    | some y => exact absurd (hS.J.one i .u b x y hb hu) hiu
    | none =>
      simp only
      rw [if_neg]
      · exact hS.J.sub i b x hb
      · rintro ⟨k, hk⟩
        cases e : hsC k b with
        | none => exact hk e
        | some y =>
          obtain ⟨m, h1⟩ := hsCk k b y e
          have := hS.J.one i (.k (keyOf κL k)) b x y hb h1
          rcases hik (keyOf κL k) with h2 | h2
          · exact h2 this
          · have := (hkey _ m).2; simp only at this; rw [h2] at this; cases this
  have cases' : ∀ i, i ≠ Part.g → ∀ b x, fam U' C.F Hp.emp hsN i b = some x →
      (i = .u ∧ U' b = some x) ∨ (∃ k q, i = .k q ∧ inv κL q = some k ∧ hs' k b = some x) ∨ ((∀ k, i ≠ .k k ∨ inv κL k = none) ∧ i ≠ .u ∧ fam U C.F G hs i b = some x) := by
    intro i hi b x hb
    cases i with
    | g => exact absurd rfl hi
    | u => exact .inl ⟨rfl, hb⟩
    | f => exact .inr (.inr ⟨fun k => .inl (by simp), by simp, hb⟩)
    | k q =>
      have hb' : (match inv κL q with | some k => hs' k | none => hs q) b = some x := hb
      cases e : inv κL q with
      | some k => rw [e] at hb'; exact .inr (.inl ⟨k, q, rfl, e, hb'⟩)
      | none =>
        rw [e] at hb'
        refine .inr (.inr ⟨fun k => ?_, by simp, hb'⟩)
        by_cases e' : k = q
        · subst e'; exact .inr e
        · exact .inl (by simpa using fun h => e' h.symm)
  obtain ⟨G2, hJ2⟩ : ∃ G2, Joins (fam U' C.F G2 hsN) w' := by
    refine Joins.mk' (fun i hi b x hb => ?_) (fun i j b x y hx hy => ?_)
    · rcases cases' i hi b x hb with ⟨rfl, h1⟩ | ⟨k, q, rfl, h1, h2⟩ | ⟨h1, h2, h3⟩
      · exact hJ'.sub .u b x h1
      · exact hJ'.sub (.k k) b x h2
      · exact hJ'.sub .f b x (inF i h1 h2 b x h3)
    · have hi : i ≠ .g := by rintro rfl; cases hx
      have hj : j ≠ .g := by rintro rfl; cases hy
      rcases cases' i hi b x hx with ⟨rfl, h1⟩ | ⟨k, q, rfl, h1, h2⟩ | ⟨h1, h2, h3⟩ <;> rcases cases' j hj b y hy with ⟨rfl, g1⟩ | ⟨k', q', rfl, g1, g2⟩ | ⟨g1, g2, g3⟩
      · rfl
      · have := hJ'.one .u (.k k') b x y h1 g2; cases this
      · have := hJ'.one .u .f b x y h1 (inF j g1 g2 b y g3); cases this
      · have := hJ'.one (.k k) .u b x y h2 g1; cases this
      · have := hJ'.one (.k k) (.k k') b x y h2 g2
        simp only [Part.k.injEq] at this
        subst this
        have e1 := (hkey _ (inv_some h1)).1
        have e2 := (hkey _ (inv_some g1)).1
        simp only at e1 e2
        rw [e1] at e2
        rw [e2]
      · have := hJ'.one (.k k) .f b x y h2 (inF j g1 g2 b y g3); cases this
      · have := hJ'.one .f .u b x y (inF i h1 h2 b x h3) g1; cases this
      · have := hJ'.one .f (.k k') b x y (inF i h1 h2 b x h3) g2; cases this
      · exact hS.J.one i j b x y h3 g3
  refine ⟨σ.retB d v κL ML', U', ⟨⟨by simp [Act.put, Sym.retB, hH.size], hH.defers, hH.run.trans hsame, ?_, ρ, hsN, G2, ?_, ?_, hJ2, hS.pin⟩, hx.trans hxU⟩, h v U' ML' hxU hr⟩
  · intro t b hb
    by_cases e : t = d
    · subst e; simp [Sym.retB, upd_same] at hb
    · simp only [Sym.retB, upd_ne _ _ _ e] at hb
      simp only [Act.put]
      rw [Array.getElem?_setIfInBounds_ne (fun h => e h.symm)]
      exact hH.dec t b hb
  · intro t
    by_cases e : t = d
    · subst e
      exact .inr ⟨v, by simp [Act.put, hH.size, hn'], by simp only [Sym.retB, upd_same]; rfl⟩
    · simp only [Sym.retB, upd_ne _ _ _ e, Act.put]
      rw [Array.getElem?_setIfInBounds_ne (fun h => e h.symm)]
      exact (hS.K t).imp id fun ⟨y, hy, hi⟩ => ⟨y, hy, SV.is_ext hxU hi⟩
  · intro q
    show Res.sat (ρ q) (match inv κL q with | some k => ofL Res.none ML' k | none => σ.M q) (match inv κL q with | some k => hs' k | none => hs q)
    cases e : inv κL q with
    | some k =>
      have := hsat' k
      have e1 := (hkey _ (inv_some e)).1
      simp only at e1
      rw [e1] at this
      exact this
    | none => exact hS.M q

theorem Op1.vcall {K : Sym → Hp → Prop} {ops : Array Oper} {i : Nat} {o : Oper} {c : Call} {x : Operand} {f : FuncId} {d : Tmp} {vs caps : List Value} {R : Value → Hp → Hp → Prop}
    (hi : ops.toList[i]? = some o) (hg : gd ops.toList σ o = some true) (ho : o.op = .call c) (hd : o.dst = some d) (hcal : c.callee = .value x) (hfn : ev σ x = .v (.func (.func f) #[] caps.toArray)) (hn : Nat.blt d σ.n = true)
    (hv : evArgs σ c.args.toList = some vs) (hC : OCall C.P f (vs ++ caps).toArray U R)
    (h : ∀ v U', Ext U U' → K (σ.retO d v (R v U')) U') : Op1 C ops i σ U K := by
  refine ⟨o, hi, hg, fun a w Q hh => ?_⟩
  obtain ⟨hH, hx⟩ := hh
  obtain ⟨ρ, hs, G, hS⟩ := hH.sat
  have hn' : d < σ.n := by simpa [Nat.blt_eq] using hn
  have hrun := exec_call (P := C.P) (a := a) (caps := caps.toArray) ho hcal (hS.evv hfn) hC.1 (evArgs_ok hS hv) w
  unfold Oper.wp
  rw [hrun, Oper.upon_enter, hd, show vs.toArray ++ caps.toArray = (vs ++ caps).toArray by simp]
  refine (hC.2 w _ (hS.J.rest .u)).mono ?_
  rintro e w' ⟨v, U', L, G', rfl, h1, h2, h3, h4⟩
  obtain ⟨G2, hJ⟩ := hS.J.back (fun b => rfl) h3 h1 d
  refine ⟨σ.retO d v (R v U'), U', ⟨⟨by simp [Act.put, Sym.retO, hH.size], hH.defers, hH.run.trans h4, ?_, ρ, _, G2, ?_, ?_, hJ, hS.pin⟩, hx.trans h1⟩, h v U' h1⟩
  · intro t b hb
    by_cases e : t = d
    · subst e; simp [Sym.retO, upd_same] at hb
    · simp only [Sym.retO, upd_ne _ _ _ e] at hb
      simp only [Act.put]
      rw [Array.getElem?_setIfInBounds_ne (fun h => e h.symm)]
      exact hH.dec t b hb
  · intro t
    by_cases e : t = d
    · subst e
      exact .inr ⟨v, by simp [Act.put, hH.size, hn'], by simp only [Sym.retO, upd_same]; rfl⟩
    · simp only [Sym.retO, upd_ne _ _ _ e, Act.put]
      rw [Array.getElem?_setIfInBounds_ne (fun h => e h.symm)]
      exact (hS.K t).imp id fun ⟨y, hy, hi⟩ => ⟨y, hy, SV.is_ext h1 hi⟩
  · intro k
    by_cases e : k = d
    · subst e; simp only [Sym.retO, upd_same, Res.sat]; exact h2
    · simp only [Sym.retO, upd_ne _ _ _ e]; exact hS.M k

theorem Op1.vcallP {K : Sym → Hp → Prop} {ops : Array Oper} {i : Nat} {o : Oper} {c : Call} {x : Operand} {f : FuncId} {d : Tmp} {vs caps : List Value} {R : Value → Hp → Prop}
    (hi : ops.toList[i]? = some o) (hg : gd ops.toList σ o = some true) (ho : o.op = .call c) (hd : o.dst = some d) (hcal : c.callee = .value x) (hfn : ev σ x = .v (.func (.func f) #[] caps.toArray)) (hn : Nat.blt d σ.n = true)
    (hv : evArgs σ c.args.toList = some vs) (hm : σ.M d = .none) (hC : PCall C.P f (vs ++ caps).toArray U R)
    (h : ∀ v U', Ext U U' → R v U' → K (σ.ret d v) U') : Op1 C ops i σ U K := by
  have := Op1.vcall (K := fun σ' U' => ∃ v, Ext U U' ∧ σ' = σ.retO d v (fun _ => R v U')) hi hg ho hd hcal hfn hn hv hC fun v U' hx => ⟨v, hx, rfl⟩
  obtain ⟨o', hi', hg', h'⟩ := this
  refine ⟨o', hi', hg', fun a w Q hh => Oper.wp_mono (fun a' w' ⟨σ', U', h1, v, hx, e⟩ => ?_) (h' a w Q hh)⟩
  subst e
  obtain ⟨ρ, hs, G, hS⟩ := h1.1.sat
  have hr := hS.M d
  simp only [Sym.retO, upd_same, Res.sat] at hr
  have h2 := h1.free d
  have e : (σ.retO d v fun L => R v U').free d = σ.ret d v := by
    unfold Sym.free Sym.retO Sym.ret
    congr 1
    funext k
    by_cases e : k = d
    · subst e; rw [upd_same, hm]
    · show upd (upd σ.M d _) d _ k = σ.M k
      rw [upd_ne _ _ _ e, upd_ne _ _ _ e]
  rw [e] at h2
  exact ⟨_, U', h2, h v U' hx hr⟩

theorem Op1.step {K : Sym → Hp → Prop} {ops : Array Oper} {i : Nat} {o : Oper} {σ' : Sym} (hi : ops.toList[i]? = some o) (hg : gd ops.toList σ o = some true) (hs : Rx.step C.E o σ = some σ') (h : K σ' U) : Op1 C ops i σ U K :=
  ⟨o, hi, hg, fun a w Q hh => Oper.wp_mono (fun a' w' h' => ⟨σ', U, h', h⟩) (step_ok C.ok hs hh _)⟩
end
end Go.Rx
end

section
namespace Go.Rx

section
variable {C : Ctx} {σ : Sym} {U : Hp} {s : List Item}

theorem Op1.indexB {K : Sym → Hp → Prop} {ops : Array Oper} {i : Nat} {o : Oper} {d : Tmp} {x y : Operand} {t : TypeId} {g n cap size key : Nat} {k : IntKind} {m : Int}
    (hi : ops.toList[i]? = some o) (hg : gd ops.toList σ o = some true) (ho : o.op = .indexAddr t x y) (hd : o.dst = some d) (hn : Nat.blt d σ.n = true)
    (hT : ∃ sz a z e ee, find t C.E = some ⟨sz, a, z, TypeDesc.slice e⟩ ∧ find e C.E = some ee ∧ ee.sz = size)
    (hx : ev σ x = .v (.slice (some ⟨g, 0, none⟩) n cap)) (hp : σ.pin key = some g) (hy : ev σ y = .v (.int k m)) (h0 : 0 ≤ m) (h1 : m < n)
    (h : K (σ.set d (.bp key (m.toNat * size))) U) : Op1 C ops i σ U K := by
  refine ⟨o, hi, hg, fun a w Q hh => ?_⟩
  obtain ⟨hH, hxx⟩ := hh
  obtain ⟨ρ, hs, G, hS⟩ := hH.sat
  have hn' : d < σ.n := by simpa [Nat.blt_eq] using hn
  obtain ⟨sz, ag, z, e, ee, hT, hE, hsz⟩ := hT
  have ht := (find_ok C.ok hT).2.2.2
  have hs0 := (find_ok C.ok hE).1
  have hlt : m.toNat < n := by omega
  have hrun : (execOp a.eval o).run C.P w = .ok (.value (.pointer (some ⟨g, m.toNat * size, none⟩))) w := by
    refine exec_v (s := Instr.indexAt t (a.eval x) (a.eval y)) (by simp only [execOp, ho]) ?_
    rw [hS.evv hx, hS.evv hy]
    simp [Instr.indexAt, asIntOf, run_underlying ht, h0, h1, hs0 w, hsz, add_plain]
  unfold Oper.wp
  rw [hrun, Oper.upon_value, hd]
  refine ⟨σ.set d (.bp key (m.toNat * size)), U, ⟨hH.put hn' (s := .bp key (m.toNat * size)) (y := .pointer (some ⟨g, m.toNat * size, none⟩)) ?_, hxx⟩, h⟩
  intro ρ' hs' G' hS'
  show _ = _
  rw [hS'.pin key g hp]

theorem Op1.loadB {K : Sym → Hp → Prop} {ops : Array Oper} {i : Nat} {o : Oper} {d : Tmp} {x : Operand} {t ty : TypeId} {key off : Nat} {cells : List Value} {v : Value}
    (hi : ops.toList[i]? = some o) (hg : gd ops.toList σ o = some true) (ho : o.op = .load t x) (hd : o.dst = some d) (hn : Nat.blt d σ.n = true)
    (hx : ev σ x = .bp key off) (hm : σ.M key = .box ty cells) (hv : evPart C.E t cells off = some v) (h : K (σ.set d (.v v)) U) : Op1 C ops i σ U K := by
  refine Op1.step (σ' := σ.set d (.v v)) hi hg ?_ h
  have : stepK C.E σ (.load t x) = some (.v v) := by simp only [stepK, hx, hm, partV, hv]
  unfold Rx.step
  rw [ho]
  simp only [this, hd, hn, cond_true]

theorem Op1.storeB {K : Sym → Hp → Prop} {ops : Array Oper} {i : Nat} {o : Oper} {p x : Operand} {t ty : TypeId} {key off : Nat} {cells cells' : List Value} {val : Value}
    (hi : ops.toList[i]? = some o) (hg : gd ops.toList σ o = some true) (ho : o.op = .store t p x) (hd : o.dst = none)
    (hp : ev σ p = .bp key off) (hm : σ.M key = .box ty cells) (hx : ev σ x = .v val) (hT : ∃ e, find t C.E = some e ∧ val.cells.size = e.sz) (hl : off + val.cells.size ≤ cells.length) (h1 : val.cells.toList.all oneCell = true)
    (hc : putCells cells off val.cells.toList = cells') (h : K { σ with M := upd σ.M key (.box ty cells') } U) : Op1 C ops i σ U K := by
  obtain ⟨e, he, hsz⟩ := hT
  refine Op1.step (σ' := { σ with M := upd σ.M key (.box ty cells') }) hi hg ?_ h
  have hb : (Nat.beq val.cells.size e.sz && (Nat.ble (off + val.cells.size) cells.length && val.cells.toList.all oneCell)) = true := by
    rw [h1, hsz, Nat.beq_refl, ← hsz, Nat.ble_eq_true_of_le hl]; rfl
  unfold Rx.step
  rw [ho]
  simp only [hd, hp, hm, he, hx, hb, cond_true, hc]

theorem arr_slice {v : Value} {e : TypeId} {size n : Nat} {xs : List Value} {h : Hp} (ha : arr v e size n xs h) : ∃ A cap, v = .slice A n cap := by
  rcases ha.2 with ⟨rfl, rfl, -⟩ | ⟨g, cap, cur, rfl, -⟩
  · exact ⟨_, _, rfl⟩
  · exact ⟨_, _, rfl⟩
theorem J.arrS (k : Nat) {v : Value} {e : TypeId} {size n : Nat} {xs : List Value} (hk : σ.M k = .own (arr v e size n xs)) (h : ∀ A cap, v = .slice A n cap → J C s σ U) : J C s σ U := by
  refine ⟨fun a w hH => ?_⟩
  obtain ⟨ρ, hs, G, hS⟩ := hH.1.sat
  have h1 := hS.M k
  rw [hk] at h1
  obtain ⟨A, cap, e⟩ := arr_slice h1
  exact (h A cap e).out a w hH

theorem J.free (k : Nat) (h : J C s (σ.free k) U) : J C s σ U := ⟨fun a w hh => h.out a w (hh.free k)⟩

def EntB (σ : Sym) (ρ : Nat → Nat) : List (Nat × Res) → Prop
  | [] => True
  | (k, r) :: t => (σ.M k = r ∧ (σ.pin k = some (ρ k) ∨ ∃ q, r = .own q)) ∧ EntB σ ρ t
theorem EntB.mem {σ : Sym} {ρ : Nat → Nat} : ∀ {l : List (Nat × Res)}, EntB σ ρ l → ∀ p ∈ l, σ.M p.1 = p.2 ∧ (σ.pin p.1 = some (ρ p.1) ∨ ∃ q, p.2 = .own q)
  | [], _, p, h => by cases h
  | (k, r) :: t, h, p, hp => by
    rcases List.mem_cons.1 hp with rfl | hp
    · exact h.1
    · exact h.2.mem p hp
theorem PostB.of {E : Env} {fn : Func} {ρ : Nat → Nat} {R : Value → Hp → List (Nat × Res) → Prop} {l : List Value} (ML : List (Nat × Res)) (he : evRes E σ fn.results.toList = some l) (hr : R (resV l) U ML) (hM : EntB σ ρ ML) : PostB E fn ρ R σ U :=
  ⟨l, ML, he, hr, hM.mem⟩

theorem J.retB {P : Program} {E : Env} {ok : EnvOk P E} {F U0 : Hp} {w0 : World} {fn : Func} {hm : P.follows .mixedOrders = true} {ρ : Nat → Nat} {R : Value → Hp → List (Nat × Res) → Prop} {l : List Value} (ML : List (Nat × Res)) (he : evRes E σ fn.results.toList = some l)
    (hM : EntB σ ρ ML) (hr : R (resV l) U ML) : J ⟨P, E, ok, F, U0, w0, fn, PostB E fn ρ R, hm⟩ (.c .ret :: s) σ U := J.ret (PostB.of ML he hr hM)

def EntK {α : Type} (K : Nat → α) : List (Nat × α) → Prop
  | [] => True
  | (k, x) :: r => K k = x ∧ EntK K r
theorem EntK.mem {α : Type} {K : Nat → α} : ∀ {l : List (Nat × α)}, EntK K l → ∀ p ∈ l, K p.1 = p.2
  | [], _, p, h => by cases h
  | q :: r, h, p, hp => by
    rcases List.mem_cons.1 hp with rfl | hp
    · exact h.1
    · exact h.2.mem p hp

theorem J.prune (n : Nat) (KL : List (Nat × SV)) (DL : List (Nat × Option Bool)) (ML : List (Nat × Res)) (PL : List (Nat × Option Nat)) (hn : σ.n = n) (hK : EntK σ.K KL) (hD : EntK σ.D DL) (hM : EntK σ.M ML) (hP : EntK σ.pin PL)
    (h : J C s ⟨n, ofL .unk KL, ofL none DL, ofL .none ML, ofL none PL⟩ U) : J C s σ U := by
  refine ⟨fun a w hh => h.out a w ?_⟩
  have h1 := hh.weakF hK.mem hD.mem hM.mem
  obtain ⟨ρ, hs, G, hS⟩ := h1.1.sat
  refine ⟨⟨h1.1.size.trans hn, h1.1.defers, h1.1.run, h1.1.dec, ρ, hs, G, hS.K, hS.M, hS.J, fun k g hp => hS.pin k g ?_⟩, h1.2⟩
  have hp : ofL none PL k = some g := hp
  rcases ofL_mem (d := (none : Option Nat)) (l := PL) (t := k) with h2 | h2
  · rw [h2] at hp; cases hp
  · have := hP.mem _ h2
    simp only at this
    exact this.trans hp

theorem J.brAt (t : Nat) {b : Bool} (hk : σ.K t = .v (.bool b)) (ht : b = true → J C s (σ.known t true) U) (hf : b = false → J C s (σ.known t false) U) : J C s σ U := by
  refine ⟨fun a w hh => ?_⟩
  have h1 := hh.known hk
  cases b with
  | true => exact (ht rfl).out a w h1
  | false => exact (hf rfl).out a w h1

theorem Held.any {M0 : Nat → Res} {ρ0 : Nat → Nat} {σ' : Sym} (hp : σ'.pin = σ.pin) : ∀ {l : List Nat}, (∀ k ∈ l, σ'.M k = σ.M k) → HeldAll M0 ρ0 σ l → HeldAll M0 ρ0 σ' l
  | [], _, h => trivial
  | k :: r, hm, h => ⟨⟨by rw [hp]; exact h.1.1, by rw [hm k (List.mem_cons_self ..)]; exact h.1.2⟩, Held.any hp (fun q hq => hm q (List.mem_cons_of_mem _ hq)) h.2⟩

theorem putCells_app : ∀ (vs xs rest : List Value) (off : Nat), off + vs.length ≤ xs.length → putCells (xs ++ rest) off vs = putCells xs off vs ++ rest
  | [], xs, rest, off, h => rfl
  | v :: r, xs, rest, off, h => by
    simp only [List.length_cons] at h
    rw [putCells, putCells, List.set_append_left _ _ (by omega)]
    exact putCells_app r _ rest _ (by simp; omega)
end
end Go.Rx
end

section
namespace Go.Rx

def ctl : Nat → List Bool → List Item → List Item
  | 0, _, s => s
  | n + 1, ds, .c x :: s => match x with
    | .skip => ctl n ds s
    | .label _ => ctl n ds s
    | .seq x y => ctl n ds (.c x :: .c y :: s)
    | .block id x => ctl n ds (.c x :: .b id :: s)
    | .region _ ops false => ctl n ds (.o ops (List.range ops.size) :: s)
    | .exit id => match popTo id s with
      | some s' => ctl n ds s'
      | none => .c (.exit id) :: s
    | .cond t x y => match ds with
      | true :: ds => ctl n ds (.c x :: s)
      | false :: ds => ctl n ds (.c y :: s)
      | [] => .c (.cond t x y) :: s
    | x => .c x :: s
  | n + 1, ds, .b _ :: s => ctl n ds s
  | n + 1, ds, .o ops [] :: s => ctl n ds s
  | n + 1, ds, .o ops (_ :: l) :: s => ctl n ds (.o ops l :: s)
  | _ + 1, _, s => s

structure Snap where
  s : List Item
  n : Nat
  K : List SV
  D : List (Option Bool)
  M : List Res
  P : List (Option Nat)
def snap (s : List Item) (σ : Sym) (KL : List (Nat × SV)) (DL : List (Nat × Option Bool)) (ML : List (Nat × Res)) (PL : List (Nat × Option Nat)) : Snap :=
  ⟨s, σ.n, KL.map fun p => σ.K p.1, DL.map fun p => σ.D p.1, ML.map fun p => σ.M p.1, PL.map fun p => σ.pin p.1⟩
def shot (s : List Item) (n : Nat) (KL : List (Nat × SV)) (DL : List (Nat × Option Bool)) (ML : List (Nat × Res)) (PL : List (Nat × Option Nat)) : Snap :=
  ⟨s, n, KL.map fun p => p.2, DL.map fun p => p.2, ML.map fun p => p.2, PL.map fun p => p.2⟩
theorem EntK.ofMap {α : Type} {K : Nat → α} : ∀ {l : List (Nat × α)}, l.map (fun p => K p.1) = l.map (fun p => p.2) → EntK K l
  | [], _ => trivial
  | (k, x) :: r, h => by
    simp only [List.map_cons, List.cons.injEq] at h
    exact ⟨h.1, EntK.ofMap h.2⟩

section
variable {C : Ctx} {σ : Sym} {U : Hp} {s : List Item}
abbrev nfSym (n : Nat) (KL : List (Nat × SV)) (DL : List (Nat × Option Bool)) (ML : List (Nat × Res)) (PL : List (Nat × Option Nat)) : Sym := ⟨n, ofL .unk KL, ofL none DL, ofL .none ML, ofL none PL⟩

theorem J.snap {s' : List Item} {n : Nat} {KL : List (Nat × SV)} {DL : List (Nat × Option Bool)} {ML : List (Nat × Res)} {PL : List (Nat × Option Nat)} (hs : snap s σ KL DL ML PL = shot s' n KL DL ML PL)
    (h : J C s' (nfSym n KL DL ML PL) U) : J C s σ U := by
  simp only [Rx.snap, shot, Snap.mk.injEq] at hs
  obtain ⟨e1, e2, e3, e4, e5, e6⟩ := hs
  subst e1
  exact J.prune n KL DL ML PL e2 (EntK.ofMap e3) (EntK.ofMap e4) (EntK.ofMap e5) (EntK.ofMap e6) h

theorem J.to (m : Nat) (ds : List Bool) (n : Nat) (KL : List (Nat × SV)) (DL : List (Nat × Option Bool)) (ML : List (Nat × Res)) (PL : List (Nat × Option Nat))
    (hs : Rx.snap (Rx.go C.E m s σ).1 (Rx.go C.E m s σ).2 KL DL ML PL = shot (ctl m ds s) n KL DL ML PL)
    (h : J C (ctl m ds s) (nfSym n KL DL ML PL) U) : J C s σ U :=
  J.go m (J.snap hs h)

def takeS (E : Env) (ops : Array Oper) (M0 : Nat → Res) (held : List Nat) (old : Bool) (order ds : List Nat) (listed : Array Bool) (m : Nat) (σ : Sym) (KL : List (Nat × SV)) (DL : List (Nat × Option Bool)) (ML : List (Nat × Res)) (PL : List (Nat × Option Nat)) : Option Snap :=
  bif takeOk ops ds order listed then
    match takeA E ops ds M0 held old order σ with
    | some σ' => match fuelA order m with
      | some m' => some ⟨[], m', KL.map fun p => σ'.K p.1, DL.map fun p => σ'.D p.1, ML.map fun p => σ'.M p.1, PL.map fun p => σ'.pin p.1⟩
      | none => none
    | none => none
  else none
theorem takeA_n {E : Env} {ops : Array Oper} {ds : List Nat} {M0 : Nat → Res} {held : List Nat} {old : Bool} : ∀ {order : List Nat} {σ σ' : Sym}, takeA E ops ds M0 held old order σ = some σ' → σ'.n = σ.n
  | [], σ, σ', h => by simp only [takeA, Option.some.injEq] at h; rw [h]
  | i :: r, σ, σ', h => by
    simp only [takeA] at h
    split at h
    · split at h
      · split at h
        · rename_i d _
          revert h
          generalize (Nat.blt d σ.n && (bif ds.contains i then !isWin σ _ else (old || !isWin σ _))) = q
          intro h
          cases q with
          | false => cases h
          | true =>
            simp only [cond_true] at h
            split at h
            · rename_i sv _
              cases h4 : sv.known with
              | false => rw [h4] at h; cases h
              | true => rw [h4] at h; simp only [cond_true] at h; exact (takeA_n h).trans rfl
            · cases h
        · cases h
      · refine (takeA_n h).trans ?_
        unfold Sym.unset
        split <;> rfl
      · cases h
    · cases h

theorem J.takeTo (old : Bool) (order : List Nat) {ops : Array Oper} {ds : List Nat} {U0 : Hp} {M0 : Nat → Res} {ρ0 : Nat → Nat} {held : List Nat} {m : Nat} {listed : Array Bool} (m' : Nat) (n : Nat) (KL : List (Nat × SV)) (DL : List (Nat × Option Bool)) (ML : List (Nat × Res)) (PL : List (Nat × Option Nat))
    (hx : Ext U0 U) (ho : old = true → U = U0) (hh : HeldAll M0 ρ0 σ held) (hn : σ.n = n)
    (hs : takeS C.E ops M0 held old order ds listed m σ KL DL ML PL = some (shot [] m' KL DL ML PL))
    (h : J C (.a ops m' (listedA order listed) (Held U0 M0 ρ0 held) ds :: s) (nfSym n KL DL ML PL) U) : J C (.a ops m listed (Held U0 M0 ρ0 held) ds :: s) σ U := by
  unfold takeS at hs
  cases h1 : takeOk ops ds order listed with
  | false => rw [h1] at hs; cases hs
  | true =>
    rw [h1] at hs
    simp only [cond_true] at hs
    split at hs
    · rename_i σ' hσ
      split at hs
      · rename_i m1 hm1
        simp only [Option.some.injEq, shot, Snap.mk.injEq, true_and] at hs
        obtain ⟨e2, e3, e4, e5, e6⟩ := hs
        subst e2
        exact J.takeA old hx ho order h1 hh hσ hm1 (J.prune n KL DL ML PL ((takeA_n hσ).trans hn) (EntK.ofMap e3) (EntK.ofMap e4) (EntK.ofMap e5) (EntK.ofMap e6) h)
      · cases hs
    · cases hs

theorem J.atakeG {ops : Array Oper} {n : Nat} {listed : Array Bool} {ds : List Nat} {U0 : Hp} {M0 : Nat → Res} {ρ0 : Nat → Nat} {held : List Nat} {i : Nat} {o : Oper} {d : Tmp} {sv : SV} (hi : ops.toList[i]? = some o) (hd : o.dst = some d) (hn : Nat.blt d σ.n = true)
    (hok : takeOk ops ds [i] listed = true) (hg : gd ops.toList σ o = some true) (hh : ds.contains i = true ∨ (Ext U0 U ∧ HeldAll M0 ρ0 σ held))
    (hy : ∀ a w ρ hs G, Sat σ U C.F a w ρ hs G → ∃ y, (∀ w', (execOp a.eval o).run C.P w' = .ok (.value y) w') ∧ sv.is ρ U y)
    (h : J C (.a ops n (listed.setIfInBounds i true) (Held U0 M0 ρ0 held) ds :: s) (σ.set d sv) U) : J C (.a ops (n + 1) listed (Held U0 M0 ρ0 held) ds :: s) σ U := by
  refine ⟨fun a w hH => ?_⟩
  obtain ⟨ρ, hs', G, hS⟩ := hH.1.sat
  have hi' : ops[i]? = some o := by simpa using hi
  have hn' : d < σ.n := by simpa [Nat.blt_eq] using hn
  simp only [takeOk, Bool.and_true, Bool.and_eq_true, Bool.or_eq_true] at hok
  obtain ⟨⟨h0, h00⟩, h1, h2⟩ := hok
  obtain ⟨y, hrun, hiy⟩ := hy a w ρ hs' G hS
  have hput : Hd C (σ.set d sv) U (a.put (some d) y) w := ⟨hH.1.put hn' (s := sv) (y := y) fun ρ' hs'' G' hS' => by
    obtain ⟨y', hrun', hiy'⟩ := hy a w ρ' hs'' G' hS'
    have := hrun w
    rw [hrun' w] at this
    simp only [Result.ok.injEq, Next.value.injEq, and_true] at this
    rw [← this]; exact hiy', hH.2⟩
  cases hdc : ds.contains i with
  | true =>
    refine wpAnyD_firstP (v := y) hi' (Region.noSelect_spec h0) (fun c a w q => (kont_panic (a' := a) (w' := w) q).elim) hdc n listed a w (Region.free_spec hi' h2) (by simpa using h1) (.inl ⟨gd_ok hg hH.1.dec hH.tup, fun w' _ => hrun w'⟩) ?_
    rw [hd]; exact h.out _ w hput
  | false =>
    have hwc : waits .any ops ds listed i = true ∧ closedD .any ops listed = true := by
      rcases h00 with h5 | h5
      · rw [hdc] at h5; cases h5
      · exact h5
    have hh' : Ext U0 U ∧ HeldAll M0 ρ0 σ held := by
      rcases hh with h5 | h5
      · rw [hdc] at h5; cases h5
      · exact h5
    refine wpAnyD_first (v := y) hi' (Region.noSelect_spec h0) (fun c a w q => (kont_panic (a' := a) (w' := w) q).elim) n listed a w hwc.1 hwc.2 (Region.free_spec hi' h2) (by simpa using h1) (.inl ⟨gd_ok hg hH.1.dec hH.tup, fun w' _ => hrun w'⟩) (hH.toHeld hh'.1 hh'.2) ?_
    rw [hd]; exact h.out _ w hput

theorem J.aidx {α : Type} {r : Rp α} {ops : Array Oper} {n' : Nat} {listed : Array Bool} {ds : List Nat} {U0 : Hp} {M0 : Nat → Res} {ρ0 : Nat → Nat} {held : List Nat} (i : Nat) {o : Oper} {d : Tmp} {x y : Operand} {t : TypeId} {A : Option Addr} {c : Nat} {xs : List α} {k : IntKind} {n : Int}
    (hi : ops.toList[i]? = some o) (hd : o.dst = some d) (hn : Nat.blt d σ.n = true) (hok : takeOk ops ds [i] listed = true) (hg : gd ops.toList σ o = some true) (hh : ds.contains i = true ∨ (Ext U0 U ∧ HeldAll M0 ρ0 σ held)) (ho : o.op = .indexAddr t x y)
    (hT : ∃ sz a z e ee, find t C.E = some ⟨sz, a, z, TypeDesc.slice e⟩ ∧ find e C.E = some ee ∧ ee.sz = r.sz)
    (hx : ev σ x = .v (.slice A xs.length c)) (hy : ev σ y = .v (.int k n)) (hA : Arr r U A xs) (h0 : 0 ≤ n) (h1 : n < xs.length)
    (h : ∀ (q : α) b o' cs, xs[n.toNat]? = some q → r.rel U q cs → J C (.a ops n' (listed.setIfInBounds i true) (Held U0 M0 ρ0 held) ds :: s) (σ.set d (.win b o' cs 0)) U) :
    J C (.a ops (n' + 1) listed (Held U0 M0 ρ0 held) ds :: s) σ U := by
  obtain ⟨sz, ag, z, e, ee, hT, hE, hsz⟩ := hT
  have ht := (find_ok C.ok hT).2.2.2
  have hs0 := (find_ok C.ok hE).1
  rcases hA with rfl | ⟨b, o', rfl, hA⟩
  · simp at h1; omega
  · have hlt : n.toNat < xs.length := by omega
    obtain ⟨cs, hr, hc⟩ := hA n.toNat xs[n.toNat] (by simp [hlt])
    refine J.atakeG (sv := .win b (o' + n.toNat * r.sz) cs 0) hi hd hn hok hg hh ?_ (h xs[n.toNat] b (o' + n.toNat * r.sz) cs (by simp [hlt]) hr)
    intro a w ρ hs G hS
    refine ⟨.pointer (some ⟨b, o' + n.toNat * r.sz, none⟩), fun w' => ?_, rfl, hc⟩
    refine exec_v (s := Instr.indexAt t (a.eval x) (a.eval y)) (by simp only [execOp, ho]) ?_
    rw [hS.evv hx, hS.evv hy]
    simp [Instr.indexAt, asIntOf, run_underlying ht, h0, h1, hs0 w', hsz, add_plain]

theorem OCall.pub {P : Program} {f : FuncId} {args : Array Value} {U : Hp} {R : Value → Hp → Hp → Prop} {R' : Value → Hp → Prop} (h : OCall P f args U R) (hr : ∀ v U' L U'', Ext U U' → Ext U' U'' → Ext L U'' → R v U' L → R' v U'') : PCall P f args U R' := by
  refine ⟨h.1, fun w F hw => (h.2 w F hw).mono ?_⟩
  rintro e w' ⟨v, U', L, G, rfl, h1, h2, h3, h4⟩
  have hd : Hp.dj U' L := fun g => by
    cases e1 : U' g with
    | none => exact .inl rfl
    | some x =>
      cases e2 : L g with
      | none => exact .inr rfl
      | some y => have := h3.one .u (.k 0) g x y e1 (by simp only [fam, upd_same]; exact e2); cases this
  obtain ⟨G', hJ⟩ := h3.re (U' := Hp.un U' L) (hs' := upd noHs 0 Hp.emp) (fun j b => if j = .k 0 then .u else j) (fun i hi b o hb => by
    cases i with
    | g => exact absurd rfl hi
    | u =>
      rcases Hp.un_some hb with g1 | ⟨-, g1⟩
      · exact ⟨.u, g1, by simp⟩
      · exact ⟨.k 0, by simp only [fam, upd_same]; exact g1, by simp⟩
    | f => exact ⟨.f, hb, by simp⟩
    | k q =>
      by_cases e : q = 0
      · subst e; simp only [fam, upd_same] at hb; cases hb
      · simp only [fam, upd_ne _ _ _ e] at hb; cases hb)
  exact ⟨v, Hp.un U' L, Hp.emp, G', rfl, h1.trans Hp.un_l, hr v U' L _ h1 Hp.un_l (Hp.un_r hd) h2, hJ, h4⟩

def nfT (n : Nat) (KL : List (Nat × SV)) (ML : List (Nat × Res)) (PL : List (Nat × Option Nat)) : Sym := ⟨n, ofL .unk KL, ofL none [], ofL .none ML, ofL none PL⟩
theorem Hd.prune {n : Nat} {KL : List (Nat × SV)} {ML : List (Nat × Res)} {PL : List (Nat × Option Nat)} (hs : Rx.snap [] σ KL [] ML PL = shot [] n KL [] ML PL) {a : Act} {w : World} (hh : Hd C σ U a w) : Hd C (nfT n KL ML PL) U a w := by
  simp only [Rx.snap, shot, Snap.mk.injEq] at hs
  obtain ⟨-, hn, e3, -, e5, e6⟩ := hs
  have hP := EntK.ofMap (K := σ.pin) e6
  have h1 := hh.weakF (EntK.ofMap (K := σ.K) e3).mem (DL := []) (by simp) (EntK.ofMap (K := σ.M) e5).mem
  obtain ⟨ρ, hs, G, hS⟩ := h1.1.sat
  refine ⟨⟨h1.1.size.trans hn, h1.1.defers, h1.1.run, h1.1.dec, ρ, hs, G, hS.K, hS.M, hS.J, fun k g hp => hS.pin k g ?_⟩, h1.2⟩
  have hp : ofL none PL k = some g := hp
  rcases ofL_mem (d := (none : Option Nat)) (l := PL) (t := k) with h2 | h2
  · rw [h2] at hp; cases hp
  · have := hP.mem _ h2
    simp only at this
    exact this.trans hp

theorem J.loopK {α : Type} (n : Nat) (PL : List (Nat × Option Nat)) (KL : α → List (Nat × SV)) (ML : α → List (Nat × Res)) (I : α → Hp → Prop) (μ : α → Nat) {body : Code} (x0 : α) (h0 : I x0 U)
    (hT : Rx.snap [] σ (KL x0) [] (ML x0) PL = shot [] n (KL x0) [] (ML x0) PL)
    (round : ∀ x U', I x U' → Ext C.U0 U' → J C (.c body :: .i (Again C (fun x => nfT n (KL x) (ML x) PL) I μ (μ x)) :: s) (nfT n (KL x) (ML x) PL) U') : J C (.c (.loop body) :: s) σ U :=
  J.loop (fun x => nfT n (KL x) (ML x) PL) I μ x0 h0 (fun a w hh => hh.prune hT) round

theorem J.againK {α : Type} {n : Nat} {PL : List (Nat × Option Nat)} {KL : α → List (Nat × SV)} {ML : α → List (Nat × Res)} {I : α → Hp → Prop} {μ : α → Nat} {m : Nat} (y : α) (hT : Rx.snap [] σ (KL y) [] (ML y) PL = shot [] n (KL y) [] (ML y) PL)
    (hi : I y U) (hm : μ y < m) : J C (.i (Again C (fun x => nfT n (KL x) (ML x) PL) I μ m) :: s) σ U :=
  J.again y (fun a w hh => hh.prune hT) hi hm
end
end Go.Rx
end

section
namespace Go.Rx

abbrev rnd (l : Nat) : Fence := Fence.wide.inRound l

theorem kont_out {P : Program} {R : Act → World → Prop} {a : Act} {w : World} : ∀ {s : List Item}, kont P s R .outgrown a w → False
  | [], h => h
  | .c _ :: s, h => kont_out (s := s) h
  | .o _ _ :: s, h => kont_out (s := s) h
  | .b _ :: s, h => kont_out (s := s) h
  | .i _ :: s, h => kont_out (s := s) h
  | .a .. :: s, h => kont_out (s := s) h

def noDefer (ops : Array Oper) : Bool := ops.toList.all fun o => match o.op with | .defer _ => false | _ => true
theorem noDefer_at {ops : Array Oper} (h : noDefer ops = true) {i : Nat} {o : Oper} (hi : ops[i]? = some o) : ∀ c, o.op ≠ .defer c := by
  intro c e
  have := List.all_eq_true.1 h o (Array.mem_toList_iff.2 (Array.mem_of_getElem? hi))
  rw [e] at this; cases this

section
variable {P : Program} {ops : Array Oper} {Q : Exit → Act → World → Prop} {l n : Nat}
theorem oper_round {o : Oper} (hd : ∀ c, o.op ≠ .defer c) {a : Act} {w : World} {K : Act → World → Prop} (h : o.wp P a w K Q) : o.wpIn (rnd l) n P a w K Q := by
  refine ⟨fun _ _ => trivial, ?_⟩
  unfold Oper.wp at h
  rw [Oper.semAt_eq _ _ _ hd]
  generalize (execOp a.eval o).run P w = r at *
  cases r with
  | ok x w' =>
    cases x <;> simp only [Oper.uponIn, Oper.upon] at h ⊢ <;>
      first
        | exact h
        | exact ⟨fun e => (by cases e), (callsIn_wide.2 h : CallsIn Fence.wide (n - 1) P _ _ _ _)⟩
        | exact ⟨fun e => (by cases e), fun c cs _ => let ⟨v, w1, h1, h2⟩ := h c cs; ⟨v, w1, h1, stepsIn_wide.2 h2⟩⟩
  | halt x w' => cases x <;> simp only [Oper.uponIn, Oper.upon] at h ⊢ <;> exact h

theorem ops_round (hd : noDefer ops = true) (hq : ∀ a w, ¬ Q .outgrown a w) : ∀ (r : List Nat) (a : Act) (w : World), wpOps P ops Q r a w → wpOpsIn (rnd l) n P ops Q r a w
  | [], _, _, h => h
  | i :: r, a, w, h => by
    simp only [wpOps, wpOpsIn] at h ⊢
    cases ho : ops[i]? with
    | none => simp only [ho] at h ⊢; exact ops_round hd hq r a w h
    | some o =>
      simp only [ho] at h ⊢
      split
      · rename_i hw
        simp only [hw, if_true] at h
        rcases h with h | ⟨-, a', w', h⟩
        · exact Oper.wpIn_mono (fun a w h => ops_round hd hq r a w h) (oper_round (noDefer_at hd ho) h)
        · exact (hq _ _ h).elim
      · rename_i hw
        simp only [hw] at h
        exact ⟨fun _ _ => trivial, ops_round hd hq r _ w h⟩

theorem any_round {md : Region.Mode} (hd : noDefer ops = true) (hq : ∀ a w, ¬ Q .outgrown a w) : ∀ (m : Nat) (listed : Array Bool) (a : Act) (w : World), wpAny P md ops Q m listed a w → wpAnyIn (rnd l) n P md ops Q m listed a w
  | 0, _, _, _, h => h
  | m + 1, listed, a, w, h => by
    refine ⟨h.1, fun i hi => ?_⟩
    have h1 := h.2 i hi
    unfold wpOp at h1
    unfold wpOpIn
    cases ho : ops[i]? with
    | none => simp only [ho] at h1 ⊢; exact any_round hd hq m _ a w h1
    | some o =>
      simp only [ho] at h1 ⊢
      split
      · rename_i hw
        simp only [hw, if_true] at h1
        rcases h1 with h1 | ⟨-, a', w', h1⟩
        · exact Oper.wpIn_mono (fun a w h => any_round hd hq m _ a w h) (oper_round (noDefer_at hd ho) h1)
        · exact (hq _ _ h1).elim
      · rename_i hw
        simp only [hw] at h1
        exact ⟨fun _ _ => trivial, any_round hd hq m _ _ w h1⟩
end

section
variable {C : Ctx} {σ : Sym} {U : Hp} {l n : Nat}

theorem J.rndRegion {id : Nat} {ops : Array Oper} {I : Act → World → Prop} {Q : Exit → Act → World → Prop} (hp : ∀ σ U, ¬ C.post σ U) (hd : noDefer ops = true) (hQ : ∀ a w, I a w → Q .normal a w)
    (h : J C [.o ops (List.range ops.size), .i I] σ U) {a : Act} {w : World} (hh : Hd C σ U a w) : (Code.region id ops false).wpIn (rnd l) n C.P Q a w := by
  have h1 := h.out a w hh
  have h2 : wpOps C.P ops (kont C.P [.i I] (Fin C)) (List.range ops.size) a w := h1
  refine wpIn_mono (Q := kont C.P [.i I] (Fin C)) (wpIn_region (ops_round hd (fun a w h => kont_out h) _ _ _ h2)) ?_
  intro e a' w' q
  cases e with
  | normal => exact hQ _ _ q
  | ret => obtain ⟨σ, U, -, h⟩ := (q : Fin C a' w'); exact (hp _ _ h).elim
  | _ => exact (q : False).elim

theorem J.rndAny (held : List Nat) (ds : List Nat) (pins : List (Nat × Nat)) {id : Nat} {ops : Array Oper} {I : Act → World → Prop} {Q : Exit → Act → World → Prop} (hp : ∀ σ U, ¬ C.post σ U) (hd : noDefer ops = true) (hQ : ∀ a w, I a w → Q .normal a w)
    (hpin : Pins σ.pin pins) (h : ∀ ρ, PinsAt ρ pins → J C [.a ops ops.size (Array.replicate ops.size false) (Held U σ.M ρ held) ds, .i I] (σ.pinned ρ) U) {a : Act} {w : World} (hh : Hd C σ U a w) : (Code.region id ops true).wpIn (rnd l) n C.P Q a w := by
  obtain ⟨ρ, hs, G, hS⟩ := hh.1.sat
  have h1 := (h ρ (hpin.at hS.pin)).out a { w with drawn := w.drawn + 1 } ⟨⟨hh.1.size, hh.1.defers, hh.1.run.trans ⟨rfl, rfl, rfl⟩, hh.1.dec, ρ, hs, G, hS.K, hS.M, ⟨hS.J.sub, hS.J.all, hS.J.one⟩, fun k g h => by
    simp only [Sym.pinned, Option.some.injEq] at h; exact h⟩, hh.2⟩
  have h2 : wpAnyD C.P .any ops (kont C.P [.i I] (Fin C)) (Held U σ.M ρ held) ds ops.size (Array.replicate ops.size false) a { w with drawn := w.drawn + 1 } := h1
  refine wpIn_mono (Q := kont C.P [.i I] (Fin C)) (wpIn_region_any C.hm (any_round hd (fun a w h => kont_out h) _ _ _ _ (wpAnyD.any (S := Held U σ.M ρ held) (ds := ds) _ _ _ _ h2))) ?_
  intro e a' w' q
  cases e with
  | normal => exact hQ _ _ q
  | ret => obtain ⟨σ, U, -, h⟩ := (q : Fin C a' w'); exact (hp _ _ h).elim
  | _ => exact (q : False).elim

theorem J.stop {I : Act → World → Prop} {s : List Item} (h : ∀ a w, Hd C σ U a w → I a w) : J C (.i I :: s) σ U := ⟨fun a w hh => h a w hh⟩

theorem Hd.newObj {a : Act} {w : World} (h : Hd C σ U a w) (k : Nat) (hk : σ.M k = .none) (o : Obj) :
    Hd C { σ with M := upd σ.M k (.own fun L => L = Hp.one w.heap.size o) } U a (w.alloc o) := by
  obtain ⟨ρ, hs, G, hS⟩ := h.1.sat
  have hw : ∀ b, (w.alloc o).heap[b]? = if b = w.heap.size then some o else w.heap[b]? := by
    intro b
    simp only [World.alloc]
    rw [Array.getElem?_push]
  obtain ⟨G', hJ⟩ := hS.J.new k o hw
  refine ⟨⟨h.1.size, h.1.defers, h.1.run.trans ⟨rfl, rfl, rfl⟩, h.1.dec, ρ, _, G', hS.K, ?_, hJ, hS.pin⟩, h.2⟩
  intro q
  by_cases e : q = k
  · subst e; simp only [upd_same, Res.sat]
  · simp only [upd_ne _ _ _ e]; exact hS.M q

theorem Hd.obj {a : Act} {w : World} (h : Hd C σ U a w) {k g : Nat} {o : Obj} (hk : σ.M k = .own fun L => L = Hp.one g o) : w.heap[g]? = some o := by
  obtain ⟨ρ, hs, G, hS⟩ := h.1.sat
  have h1 := hS.M k
  rw [hk] at h1
  exact hS.J.sub (.k k) g o (by show hs k g = _; rw [show hs k = _ from h1]; simp [Hp.one])

theorem Hd.putObj {a : Act} {w : World} (h : Hd C σ U a w) {k g : Nat} {o : Obj} (hk : σ.M k = .own fun L => L = Hp.one g o) (o' : Obj) :
    Hd C { σ with M := upd σ.M k (.own fun L => L = Hp.one g o') } U a (w.putObj g o') := by
  have hg := h.obj hk
  obtain ⟨ρ, hs, G, hS⟩ := h.1.sat
  have h1 := hS.M k
  rw [hk] at h1
  have hlt := (Array.getElem?_eq_some_iff.1 hg).1
  have hw : ∀ b, (w.putObj g o').heap[b]? = if b = g then some o' else w.heap[b]? := by
    intro b
    by_cases e : b = g
    · subst e; rw [if_pos rfl]; exact World.putObj_heap_same hlt
    · rw [if_neg e]; exact World.putObj_heap_other e
  refine ⟨⟨h.1.size, h.1.defers, h.1.run.trans ⟨rfl, rfl, rfl⟩, h.1.dec, ρ, _, G, hS.K, ?_, hS.J.set (show hs k = _ from h1) hw, hS.pin⟩, h.2⟩
  intro q
  by_cases e : q = k
  · subst e; simp only [upd_same, Res.sat]
  · simp only [upd_ne _ _ _ e]; exact hS.M q

theorem Hd.frame {a a' : Act} {w : World} (h : Hd C σ U a w) (n : Nat) (KL : List (Nat × SV)) (hn : a'.tmps.size = n) (hd : a'.defers = [])
    (hK : ∀ p ∈ KL, p.2 = .unk ∨ ∃ y, a'.tmps[p.1]? = some y ∧ ∀ ρ, (∀ k g, σ.pin k = some g → ρ k = g) → p.2.is ρ U y) :
    Hd C ⟨n, ofL .unk KL, fun _ => none, σ.M, σ.pin⟩ U a' w := by
  obtain ⟨ρ, hs, G, hS⟩ := h.1.sat
  refine ⟨⟨hn, hd, h.1.run, fun t b hb => (by cases hb), ρ, hs, G, fun t => ?_, hS.M, hS.J, hS.pin⟩, h.2⟩
  show ofL SV.unk KL t = .unk ∨ _
  rcases ofL_mem (d := SV.unk) (l := KL) (t := t) with h1 | h1
  · exact .inl h1
  · rcases hK _ h1 with h2 | ⟨y, hy, hi⟩
    · exact .inl h2
    · exact .inr ⟨y, hy, hi ρ hS.pin⟩

theorem Hd.pinned {a : Act} {w : World} (h : Hd C σ U a w) : ∃ ρ, Hd C (σ.pinned ρ) U a w := by
  obtain ⟨ρ, hs, G, hS⟩ := h.1.sat
  exact ⟨ρ, ⟨h.1.size, h.1.defers, h.1.run, h.1.dec, ρ, hs, G, hS.K, hS.M, hS.J, fun k g h => by simpa [Sym.pinned] using h⟩, h.2⟩
end
end Go.Rx
end

section
namespace Go.Rx
section
variable {C : Ctx} {σ : Sym} {U : Hp} {s : List Item}

theorem Op1.gen {K : Sym → Hp → Prop} {ops : Array Oper} {i : Nat} {o : Oper} {d : Tmp} {sv : SV} (hi : ops.toList[i]? = some o) (hg : gd ops.toList σ o = some true) (hd : o.dst = some d) (hn : Nat.blt d σ.n = true)
    (hy : ∀ a w ρ hs G, Sat σ U C.F a w ρ hs G → ∃ y, (execOp a.eval o).run C.P w = .ok (.value y) w ∧ sv.is ρ U y)
    (h : K (σ.set d sv) U) : Op1 C ops i σ U K := by
  refine ⟨o, hi, hg, fun a w Q hh => ?_⟩
  obtain ⟨hH, hxx⟩ := hh
  obtain ⟨ρ, hs, G, hS⟩ := hH.sat
  have hn' : d < σ.n := by simpa [Nat.blt_eq] using hn
  obtain ⟨y, hrun, hiy⟩ := hy a w ρ hs G hS
  unfold Oper.wp
  rw [hrun, Oper.upon_value, hd]
  refine ⟨_, U, ⟨hH.put hn' (s := sv) (y := y) fun ρ' hs' G' hS' => ?_, hxx⟩, h⟩
  obtain ⟨y', hrun', hiy'⟩ := hy a w ρ' hs' G' hS'
  rw [hrun] at hrun'
  simp only [Result.ok.injEq, Next.value.injEq, and_true] at hrun'
  rw [hrun']; exact hiy'

def bnd (σ : Sym) (x : Option Operand) (dflt m : Nat) : Prop := match x with
  | none => m = dflt
  | some y => ∃ k, ev σ y = .v (.int k (m : Int))

theorem run_sliceBounds {P : Program} {F : Hp} {a : Act} {w : World} {ρ : Nat → Nat} {hs : Nat → Hp} {G : Hp} (hS : Sat σ U F a w ρ hs G) {lo hi : Option Operand} {b : Bool} {n c L H : Nat} (hlo : bnd σ lo 0 L) (hhi : bnd σ hi n H) (h1 : L ≤ H) (h2 : H ≤ c) :
    (Instr.sliceBounds b n c (lo.map a.eval) (hi.map a.eval) none).run P w = .ok (L, H, c) w := by
  have bd : ∀ (x : Operand) (k : IntKind) (m y : Nat) (cd : BoundsCode), ev σ x = .v (.int k (m : Int)) → m ≤ y → (Instr.sliceBound (a.eval x) y cd).run P w = .ok m w := by
    intro x k m y cd hx hm
    have hm' : (m : Int) ≤ y := by omega
    simp [Instr.sliceBound, hS.evv hx, asIntOf, hm']
  cases lo with
  | none =>
    cases hhi' : hi with
    | none =>
      subst hhi'
      simp only [bnd] at hlo hhi
      subst hlo; subst hhi
      simp [Instr.sliceBounds]
    | some y =>
      subst hhi'
      simp only [bnd] at hlo hhi
      obtain ⟨k, hy⟩ := hhi
      subst hlo
      simp [Instr.sliceBounds, bd y k H c _ hy h2]
  | some x =>
    obtain ⟨k0, hx⟩ := hlo
    cases hhi' : hi with
    | none =>
      subst hhi'
      simp only [bnd] at hhi
      subst hhi
      simp [Instr.sliceBounds, bd x k0 L H _ hx h1]
    | some y =>
      subst hhi'
      simp only [bnd] at hhi
      obtain ⟨k, hy⟩ := hhi
      simp [Instr.sliceBounds, bd y k H c _ hy h2, bd x k0 L H _ hx h1]

theorem Op1.slice {K : Sym → Hp → Prop} {ops : Array Oper} {i : Nat} {o : Oper} {d : Tmp} {x : Operand} {lo hi : Option Operand} {t : TypeId} {A : Option Addr} {n c : Nat} (size L H : Nat)
    (hi' : ops.toList[i]? = some o) (hg : gd ops.toList σ o = some true) (ho : o.op = .slice t x lo hi none) (hd : o.dst = some d) (hn : Nat.blt d σ.n = true)
    (hT : ∃ sz a z e ee, find t C.E = some ⟨sz, a, z, TypeDesc.slice e⟩ ∧ find e C.E = some ee ∧ ee.sz = size)
    (hx : ev σ x = .v (.slice A n c)) (hlo : bnd σ lo 0 L) (hhi : bnd σ hi n H) (h1 : L ≤ H) (h2 : H ≤ c)
    (h : K (σ.set d (.v (.slice (if c = L then A else A.map (·.add (L * size))) (H - L) (c - L)))) U) : Op1 C ops i σ U K := by
  obtain ⟨sz, ag, z, e, ee, hT, hE, hsz⟩ := hT
  have ht := (find_ok C.ok hT).2.2.2
  have hs0 := (find_ok C.ok hE).1
  refine Op1.gen (sv := .v _) hi' hg hd hn ?_ h
  intro a w ρ hs G hS
  refine ⟨_, exec_v (s := Instr.sliceAt t (a.eval x) (lo.map a.eval) (hi.map a.eval) none) (by simp only [execOp, ho, Option.map_none]) ?_, rfl⟩
  rw [hS.evv hx]
  simp [Instr.sliceAt, Instr.slice, run_underlying ht, run_sliceBounds hS hlo hhi h1 h2, hs0 w, hsz]

theorem Op1.sliceStr {K : Sym → Hp → Prop} {ops : Array Oper} {i : Nat} {o : Oper} {d : Tmp} {x : Operand} {lo hi : Option Operand} {t : TypeId} {str : ByteArray} (L H : Nat)
    (hi' : ops.toList[i]? = some o) (hg : gd ops.toList σ o = some true) (ho : o.op = .slice t x lo hi none) (hd : o.dst = some d) (hn : Nat.blt d σ.n = true)
    (hT : ∃ sz a z, find t C.E = some ⟨sz, a, z, TypeDesc.string⟩)
    (hx : ev σ x = .v (.string str)) (hlo : bnd σ lo 0 L) (hhi : bnd σ hi str.size H) (h1 : L ≤ H) (h2 : H ≤ str.size)
    (h : K (σ.set d (.v (.string (str.extract L H)))) U) : Op1 C ops i σ U K := by
  obtain ⟨sz, ag, z, hT⟩ := hT
  have ht := (find_ok C.ok hT).2.2.2
  refine Op1.gen (sv := .v _) hi' hg hd hn ?_ h
  intro a w ρ hs G hS
  refine ⟨_, exec_v (s := Instr.sliceAt t (a.eval x) (lo.map a.eval) (hi.map a.eval) none) (by simp only [execOp, ho, Option.map_none]) ?_, rfl⟩
  rw [hS.evv hx]
  simp [Instr.sliceAt, Instr.slice, run_underlying ht, run_sliceBounds hS hlo hhi h1 h2]
end

theorem J.give {C : Ctx} {σ : Sym} {U : Hp} {s : List Item} (k : Nat) {p : Hp → Prop} (hk : σ.M k = .none) (hp : p Hp.emp) (h : J C s { σ with M := upd σ.M k (.own p) } U) : J C s σ U := by
  refine ⟨fun a w hh => h.out a w ?_⟩
  obtain ⟨hH, hxx⟩ := hh
  obtain ⟨ρ, hs, G, hS⟩ := hH.sat
  refine ⟨⟨hH.size, hH.defers, hH.run, hH.dec, ρ, hs, G, hS.K, ?_, hS.J, hS.pin⟩, hxx⟩
  intro q
  by_cases e : q = k
  · subst e
    have h1 := hS.M q
    rw [hk] at h1
    have : hs q = Hp.emp := funext h1
    simp only [upd_same, Res.sat, this]
    exact hp
  · simp only [upd_ne _ _ _ e]; exact hS.M q

theorem Arr.drop {α : Type} {r : Rp α} {U : Hp} {A : Option Addr} {xs : List α} (h : Arr r U A xs) (L : Nat) : Arr r U (A.map (·.add (L * r.sz))) (xs.drop L) := by
  rcases h with rfl | ⟨b, o, rfl, h⟩
  · exact .inl (by simp)
  · refine .inr ⟨b, o + L * r.sz, by simp [add_plain], fun i x hi => ?_⟩
    rw [List.getElem?_drop] at hi
    obtain ⟨cs, h1, h2⟩ := h _ x hi
    refine ⟨cs, h1, fun j c hj => ?_⟩
    have := h2 j c hj
    rw [show o + L * r.sz + i * r.sz + j = o + (L + i) * r.sz + j by rw [Nat.add_mul]; omega]
    exact this
theorem Arr.take {α : Type} {r : Rp α} {U : Hp} {A : Option Addr} {xs : List α} (h : Arr r U A xs) (H : Nat) : Arr r U A (xs.take H) := by
  rcases h with rfl | ⟨b, o, rfl, h⟩
  · exact .inl (by simp)
  · refine .inr ⟨b, o, rfl, fun i x hi => ?_⟩
    rw [List.getElem?_take] at hi
    split at hi
    · exact h i x hi
    · cases hi
theorem Rd.part {α : Type} {r : Rp α} {U : Hp} {A : Option Addr} {c : Nat} {xs : List α} (h : Arr r U A xs) (L H : Nat) (h1 : L ≤ H) (h2 : H ≤ xs.length) (hc : xs.length ≤ c) :
    Rd r U (.slice (if c = L then A else A.map (·.add (L * r.sz))) (H - L) (c - L)) ((xs.take H).drop L) := by
  have hl : ((xs.take H).drop L).length = H - L := by simp only [List.length_drop, List.length_take, Nat.min_eq_left h2]
  refine ⟨if c = L then A else A.map (·.add (L * r.sz)), c - L, by rw [hl], by rw [hl]; omega, ?_⟩
  split
  · rename_i e
    left
    have : (xs.take H).length ≤ L := by simp; omega
    exact List.drop_eq_nil_of_le this
  · exact (h.take H).drop L
end Go.Rx
end

section
namespace Go.Rx
open Go.RowKit

theorem choose_list {α : Type} {p : Nat → α → Prop} : ∀ n, (∀ i, i < n → ∃ x, p i x) → ∃ xs : List α, xs.length = n ∧ ∀ (i : Nat) x, xs[i]? = some x → p i x
  | 0, _ => ⟨[], rfl, fun i x h => by simp at h⟩
  | n + 1, h => by
    obtain ⟨xs, h1, h2⟩ := choose_list n fun i hi => h i (by omega)
    obtain ⟨x, hx⟩ := h n (by omega)
    refine ⟨xs ++ [x], by simp [h1], fun i y hy => ?_⟩
    rcases Nat.lt_or_ge i n with hi | hi
    · rw [List.getElem?_append_left (by omega)] at hy; exact h2 i y hy
    · rw [List.getElem?_append_right (by omega), h1] at hy
      have : i - n = 0 := by
        cases hq : i - n with
        | zero => rfl
        | succ q => rw [hq] at hy; simp at hy
      rw [this] at hy
      simp only [List.getElem?_cons_zero, Option.some.injEq] at hy
      obtain rfl : i = n := by omega
      rw [← hy]; exact hx

theorem mapM_some {α β : Type} {f : α → Option β} : ∀ {l : List α} {r : List β}, l.mapM f = some r → r.length = l.length ∧ ∀ (i : Nat) x, l[i]? = some x → ∃ y, r[i]? = some y ∧ f x = some y
  | [], r, h => by simp at h; subst h; simp
  | a :: l, r, h => by
    simp only [List.mapM_cons, Option.bind_eq_bind, Option.bind_eq_some_iff, Option.pure_def, Option.some.injEq] at h
    obtain ⟨b, hb, r', hr, rfl⟩ := h
    obtain ⟨h1, h2⟩ := mapM_some hr
    refine ⟨by simp [h1], fun i x hx => ?_⟩
    cases i with
    | zero => simp at hx; subst hx; exact ⟨b, rfl, hb⟩
    | succ i => simp at hx; simpa using h2 i x hx

theorem cells_some {w : World} {a : Addr} {n : Nat} {cs : List Value} (h : w.cells? 0 a n = some cs) : cs.length = n ∧ ∀ j v, cs[j]? = some v → w.cell? (a.add j) = some v := by
  unfold World.cells? at h
  rw [if_pos (Nat.zero_le _)] at h
  obtain ⟨h1, h2⟩ := mapM_some h
  simp only [List.length_range] at h1
  refine ⟨h1, fun j v hj => ?_⟩
  have hlt : j < n := by have := (List.getElem?_eq_some_iff.1 hj).1; omega
  obtain ⟨y, hy, e⟩ := h2 j j (by simp [hlt])
  rw [hj] at hy
  obtain rfl := Option.some.inj hy
  exact e

structure Dat (P : Program) (t : TypeId) {α : Type} (r : Rp α) (ok : α → Prop) : Prop where
  sz : P.cellsOf t = r.sz
  out : ∀ {H : Type} {enc : TypeId × Value → H} {w : World} {spare : Nat → Bool} {held : Bool} {fuel : Nat} {cs : List Value} {x : DataW H × List MemPlace}, DataW.trod enc P w 0 spare held fuel t cs = some x → ∃ a : α, r.rel (World.hp w) a cs ∧ ok a

theorem Dat.int {P : Program} {t : TypeId} {k : IntKind} (ht : P.underlying t = some (.int k)) (hc : P.cellsOf t = 1) : Dat P t (Rp.int k) (fun n => (Lit.int k n).wf = true) :=
  ⟨hc, fun h => by obtain ⟨n, rfl, -, hw⟩ := DataW.trod_int ht h; exact ⟨n, rfl, hw⟩⟩
theorem Dat.bool {P : Program} {t : TypeId} (ht : P.underlying t = some .bool) (hc : P.cellsOf t = 1) : Dat P t Rp.bool (fun _ => True) :=
  ⟨hc, fun h => by obtain ⟨n, rfl, -⟩ := DataW.trod_bool ht h; exact ⟨n, rfl, trivial⟩⟩
theorem Dat.str {P : Program} {t : TypeId} (ht : P.underlying t = some .string) (hc : P.cellsOf t = 1) : Dat P t Rp.str (fun s => s.size ≤ 9223372036854775807) :=
  ⟨hc, fun h => by obtain ⟨n, rfl, -, hw⟩ := DataW.trod_string ht h; exact ⟨n, rfl, hw⟩⟩

theorem Dat.slice {P : Program} {t e : TypeId} {α : Type} {r : Rp α} {ok : α → Prop} (ht : P.underlying t = some (.slice e)) (hc : P.cellsOf t = 1) (hr : 0 < r.sz) (h : Dat P e r ok) : Dat P t r.slice (fun xs => xs.length ≤ 9223372036854775807 ∧ ∀ x ∈ xs, ok x) := by
  refine ⟨hc, fun {H enc w spare held fuel cs x} hx => ?_⟩
  rcases DataW.trod_slice ht hx with ⟨rfl, -⟩ | ⟨a, len, cap, elems, rest, n, -, rfl, -, -, hl, hm, hlen, hel, -, -⟩
  · exact ⟨[], ⟨_, rfl, none, 0, rfl, Nat.le_refl _, .inl rfl⟩, by simp, by simp⟩
  · have each : ∀ i, i < len → ∃ x : α, ∃ cs, r.rel (World.hp w) x cs ∧ ok x ∧ cs.length = r.sz ∧ ∀ j v, cs[j]? = some v → w.cell? ((a.add (i * r.sz)).add j) = some v := by
      intro i hi
      have h1 := hel i hi
      rw [List.getElem?_eq_getElem (by omega), Option.bind_eq_some_iff, h.sz] at h1
      obtain ⟨cs, h2, h3⟩ := h1
      obtain ⟨h4, h5⟩ := cells_some h2
      obtain ⟨x, h6, h7⟩ := h.out h3
      exact ⟨x, cs, h6, h7, h4, h5⟩
    obtain ⟨xs, hxl, hxs⟩ := choose_list len each
    refine ⟨xs, ⟨_, rfl, some a, cap, by rw [hxl], by omega, ?_⟩, by rw [hxl]; have : cap ≤ 9223372036854775807 := hm; omega, fun x hx => ?_⟩
    · rcases Nat.eq_zero_or_pos len with h0 | h0
      · left; exact List.eq_nil_of_length_eq_zero (by omega)
      · right
        have hsp : a.spot = none := by
          obtain ⟨x, cs, -, -, h4, h5⟩ := each 0 h0
          have : ∃ v, cs[0]? = some v := ⟨cs[0], List.getElem?_eq_getElem (by omega)⟩
          obtain ⟨v, hv⟩ := this
          have h6 := h5 0 v hv
          simp only [Nat.zero_mul, Addr.add, if_true] at h6
          unfold World.cell? at h6
          split at h6
          · split at h6
            · cases h6
            · rename_i hq
              cases hs : a.spot with
              | none => rfl
              | some z => rw [hs] at hq; exact absurd rfl hq
          · cases h6
        obtain ⟨b, o, sp⟩ := a
        simp only at hsp
        subst hsp
        refine ⟨b, o, rfl, fun i x hi => ?_⟩
        obtain ⟨cs, h1, -, -, h3⟩ := hxs i x hi
        refine ⟨cs, h1, fun j c hj => ?_⟩
        have h6 := h3 j c hj
        rw [add_plain, add_plain] at h6
        unfold World.cell? at h6
        unfold Hp.cell? World.hp
        simp only at h6
        split at h6
        · rename_i c' t' f' hb
          rw [hb]; simpa using h6
        · cases h6
    · obtain ⟨i, hi⟩ := List.mem_iff_getElem?.1 hx
      obtain ⟨cs, -, h2, -⟩ := hxs i x hi
      exact h2

def Rp.nil : Rp Unit := ⟨0, fun _ _ cs => cs = [], fun h => by rw [h]; rfl, fun _ h => h⟩
def Rp.cons {α β : Type} (r : Rp α) (s : Rp β) : Rp (α × β) where
  sz := r.sz + s.sz
  rel U x cs := ∃ a b, cs = a ++ b ∧ r.rel U x.1 a ∧ s.rel U x.2 b
  len h := by obtain ⟨a, b, rfl, h1, h2⟩ := h; simp [r.len h1, s.len h2]
  mono hx h := let ⟨a, b, e, h1, h2⟩ := h; ⟨a, b, e, r.mono hx h1, s.mono hx h2⟩

structure DatF (P : Program) (off : Nat) (fs : List Field) {α : Type} (r : Rp α) (ok : α → Prop) : Prop where
  out : ∀ {H : Type} {enc : TypeId × Value → H} {w : World} {spare : Nat → Bool} {held : Bool} {n : Nat} {cs : List Value}, cs.length = off + r.sz →
    (∀ f ∈ fs, ∃ x, DataW.trod enc P w 0 spare held n f.type ((cs.drop f.offset).take (P.cellsOf f.type)) = some x) → ∃ a : α, r.rel (World.hp w) a (cs.drop off) ∧ ok a
theorem DatF.nil {P : Program} {off : Nat} : DatF P off [] Rp.nil (fun _ => True) :=
  ⟨fun hl _ => ⟨(), by show List.drop _ _ = []; rw [List.drop_eq_nil_iff]; rw [hl]; exact Nat.le_refl _, trivial⟩⟩
theorem DatF.cons {P : Program} {off : Nat} {f : Field} {fs : List Field} {α β : Type} {r : Rp α} {s : Rp β} {ok : α → Prop} {ok' : β → Prop} (ho : f.offset = off) (h : Dat P f.type r ok) (h' : DatF P (off + r.sz) fs s ok') : DatF P off (f :: fs) (r.cons s) (fun x => ok x.1 ∧ ok' x.2) := by
  refine ⟨fun {H enc w spare held n cs} hl hf => ?_⟩
  obtain ⟨x, hx⟩ := hf f (List.mem_cons_self ..)
  obtain ⟨a, h1, h2⟩ := h.out hx
  obtain ⟨b, h3, h4⟩ := h'.out (cs := cs) (by rw [hl]; simp only [Rp.cons]; omega) (fun g hg => hf g (List.mem_cons_of_mem _ hg))
  refine ⟨(a, b), ⟨(cs.drop off).take r.sz, cs.drop (off + r.sz), ?_, ?_, h3⟩, h2, h4⟩
  · rw [← List.drop_drop]; exact (List.take_append_drop _ _).symm
  · rw [ho, h.sz] at h1; exact h1
theorem Dat.struct {P : Program} {t : TypeId} {fs : Array Field} {α : Type} {r : Rp α} {ok : α → Prop} (ht : P.underlying t = some (.struct fs)) (hc : P.cellsOf t = r.sz) (h : DatF P 0 fs.toList r ok) : Dat P t r ok := by
  refine ⟨hc, fun {H enc w spare held fuel cs x} hx => ?_⟩
  obtain ⟨xs, n, -, -, hl, hxl, hfs⟩ := DataW.trod_struct ht hx
  have := h.out (H := H) (enc := enc) (w := w) (spare := spare) (held := held) (n := n) (cs := cs) (by rw [hl, hc]; omega) (fun f hf => by
    obtain ⟨i, hi⟩ := List.mem_iff_getElem?.1 hf
    have h1 := hfs i f (by simpa using hi)
    have hlt : i < xs.length := by
      rw [hxl]
      have := (List.getElem?_eq_some_iff.1 hi).1
      simpa using this
    rw [List.getElem?_eq_getElem hlt] at h1
    exact ⟨_, h1⟩)
  simpa using this
theorem Dat.map {P : Program} {t : TypeId} {α β : Type} {r : Rp α} {s : Rp β} {ok : α → Prop} {ok' : β → Prop} (h : Dat P t r ok) (f : α → β) (hs : s.sz = r.sz) (hf : ∀ U x cs, r.rel U x cs → s.rel U (f x) cs) (hok : ∀ x, ok x → ok' (f x)) : Dat P t s ok' :=
  ⟨h.sz.trans hs.symm, fun hx => let ⟨a, h1, h2⟩ := h.out hx; ⟨f a, hf _ _ _ h1, hok _ h2⟩⟩

theorem joins_all (W : World) : Joins (fam (World.hp W) Hp.emp Hp.emp noHs) W :=
  ⟨fun i b o h => (by cases i <;> first | exact h | cases h), fun b o h => ⟨.u, h⟩, fun i j b x y hx hy => (by cases i <;> cases j <;> first | rfl | (cases hx; done) | cases hy)⟩
theorem PCall.below {P : Program} {f : FuncId} {args : Array Value} {W : World} {R : Value → Hp → Prop} (h : PCall P f args (World.hp W) R) : Calls P f args W fun e w' => ∃ v U', e = .returned v ∧ R v U' ∧ Below W.heap.size W w' := by
  refine (h.2 W _ (joins_all W)).mono ?_
  rintro e w' ⟨v, U', L, G, rfl, h1, h2, h3, h4⟩
  have hb : ∀ k, k < W.heap.size → w'.heap[k]? = W.heap[k]? := fun k hk => by
    have e1 : W.heap[k]? = some W.heap[k] := by simp [hk]
    rw [e1]
    exact h3.sub .u k _ (h1 k _ e1)
  refine ⟨v, U', rfl, h2, ⟨h4.os, h4.tape, h4.output, ?_, fun k hk => hb k hk⟩⟩
  rcases Nat.lt_or_ge w'.heap.size W.heap.size with hlt | hge
  · have := hb w'.heap.size hlt
    rw [Array.getElem?_eq_none (Nat.le_refl _)] at this
    simp [hlt] at this
  · exact hge
end Go.Rx
end

section
namespace Go.Rx
section
variable {C : Ctx} {σ : Sym} {U : Hp} {s : List Item}

theorem J.cutK {α : Type} (n : Nat) (PL : List (Nat × Option Nat)) (KL : α → List (Nat × SV)) (ML : α → List (Nat × Res)) (I : α → Hp → Prop) {x : Code}
    (h : J C (.c x :: .i (Again C (fun y => nfT n (KL y) (ML y) PL) I (fun _ => 0) 1) :: s) σ U)
    (hk : ∀ y U', I y U' → Ext C.U0 U' → J C s (nfT n (KL y) (ML y) PL) U') : J C (.c x :: s) σ U := by
  refine ⟨fun a w hh => wp_mono (h.out a w hh) ?_⟩
  intro e a' w' q
  have := kont_exit q
  cases e with
  | normal =>
    obtain ⟨y, U', h1, h2, -⟩ := this
    exact (hk y U' h2 h1.2).out a' w' h1
  | _ => exact this

theorem Op1.bin {K : Sym → Hp → Prop} {ops : Array Oper} {i : Nat} {o : Oper} {d : Tmp} {op : BinOp} {t yt : TypeId} {x y : Operand} {u v r : Value} (hi : ops.toList[i]? = some o) (hg : gd ops.toList σ o = some true) (hd : o.dst = some d) (hn : Nat.blt d σ.n = true)
    (ho : o.op = .binOp op t x y yt) (hx : ev σ x = .v u) (hy : ev σ y = .v v) (hr : ∀ w, (do eqGuard op t x y u v; binOp op t u v : Sem Value).run C.P w = .ok r w)
    (h : K (σ.set d (.v r)) U) : Op1 C ops i σ U K := by
  refine Op1.gen (sv := .v r) hi hg hd hn ?_ h
  intro a w ρ hs G hS
  refine ⟨r, ?_, rfl⟩
  simp only [execOp, ho, hS.evv hx, hS.evv hy]
  exact bind_ok (hr w)
theorem run_rem {P : Program} {t : TypeId} {x y : Operand} {k : IntKind} {a b : Int} (hb : b ≠ 0) (w : World) : (do eqGuard .rem t x y (.int k a) (.int k b); binOp .rem t (.int k a) (.int k b) : Sem Value).run P w = .ok (.int k (a.tmod b)) w := by
  simp [eqGuard, binOp, Op.intDiv, hb, Sem.run, bind, Sem.bind, pure]
theorem run_quo {P : Program} {t : TypeId} {x y : Operand} {k : IntKind} {a b : Int} (hb : b ≠ 0) (w : World) : (do eqGuard .quo t x y (.int k a) (.int k b); binOp .quo t (.int k a) (.int k b) : Sem Value).run P w = .ok (.int k (k.wrap (a.tdiv b))) w := by
  simp [eqGuard, binOp, Op.intDiv, hb, Sem.run, bind, Sem.bind, pure]
theorem run_and {P : Program} {t : TypeId} {x y : Operand} {k : IntKind} {a b : Int} (w : World) : (do eqGuard .and t x y (.int k a) (.int k b); binOp .and t (.int k a) (.int k b) : Sem Value).run P w = .ok (.int k (k.wrap (BitVec.ofInt k.bits a &&& BitVec.ofInt k.bits b).toNat)) w := by
  simp [eqGuard, binOp, Op.intBits, Sem.run, bind, Sem.bind, pure]
theorem run_shr {P : Program} {t : TypeId} {x y : Operand} {k k' : IntKind} {a b : Int} (hb : 0 ≤ b) (w : World) : (do eqGuard .shr t x y (.int k a) (.int k' b); binOp .shr t (.int k a) (.int k' b) : Sem Value).run P w = .ok (.int k (a.fdiv (2 ^ min b.toNat k.bits))) w := by
  simp [eqGuard, binOp, Op.shift, Int.not_lt.2 hb, Sem.run, bind, Sem.bind, pure]
theorem run_eqS {P : Program} {t : TypeId} {x y : Operand} {xs ys : Array Value} {r : Bool} (ht : P.underlying t = some (.struct (P.fieldsOf t))) (h1 : P.stoodInHeld t = false) (h2 : P.eqGuardType P.depth t = false)
    (w : World) (h : (Op.eqFields 9999 xs ys (P.fieldsOf t).toList).run P w = .ok r w) : (do eqGuard .eql t x y (.agg xs) (.agg ys); binOp .eql t (.agg xs) (.agg ys) : Sem Value).run P w = .ok (.bool r) w := by
  refine (bind_ok (run_eqGuard_agg w .eql t x y xs ys h2)).trans ?_
  rw [run_eql_struct, run_equalIn_struct w 9999 t xs ys ht h1, h]; rfl
theorem run_neS {P : Program} {t : TypeId} {x y : Operand} {xs ys : Array Value} {r : Bool} (ht : P.underlying t = some (.struct (P.fieldsOf t))) (h1 : P.stoodInHeld t = false) (h2 : P.eqGuardType P.depth t = false)
    (w : World) (h : (Op.eqFields 9999 xs ys (P.fieldsOf t).toList).run P w = .ok r w) : (do eqGuard .neq t x y (.agg xs) (.agg ys); binOp .neq t (.agg xs) (.agg ys) : Sem Value).run P w = .ok (.bool !r) w := by
  refine (bind_ok (run_eqGuard_agg w .neq t x y xs ys h2)).trans ?_
  rw [run_neq_struct, run_equalIn_struct w 9999 t xs ys ht h1, h]; rfl

theorem Op1.min2 {K : Sym → Hp → Prop} {ops : Array Oper} {i : Nat} {o : Oper} {c : Call} {d : Tmp} {x y : Operand} {k k' : IntKind} {a b : Int} (hi : ops.toList[i]? = some o) (hg : gd ops.toList σ o = some true) (hd : o.dst = some d) (hn : Nat.blt d σ.n = true)
    (ho : o.op = .call c) (hc : c.callee = .builtin .min) (ha : c.args.toList = [x, y]) (hx : ev σ x = .v (.int k a)) (hy : ev σ y = .v (.int k' b))
    (h : K (σ.set d (.v (.int k (if b < a then b else a)))) U) : Op1 C ops i σ U K := by
  refine Op1.gen (sv := .v _) hi hg hd hn ?_ h
  intro ac w ρ hs G hS
  refine ⟨_, exec_builtin ho hc (vs := [.int k a, .int k' b]) (by rw [ha]; simp [hS.evv hx, hS.evv hy]) fun cs => ?_, rfl⟩
  simp only [builtin]
  exact bind_ok (run_min_int2 w _ _ k k' a b)

theorem J.atwo {ops : Array Oper} {n : Nat} {listed : Array Bool} {ds : List Nat} {U0 : Hp} {M0 : Nat → Res} {ρ0 : Nat → Nat} {held : List Nat} {i j : Nat} (hr : Region.ready .any ops listed = [i, j])
    (h1 : Op1 C ops i σ U fun σ' U' => (ds.contains i = false → Ext U0 U' ∧ HeldAll M0 ρ0 σ' held) ∧ J C (.a ops n (listed.setIfInBounds i true) (Held U0 M0 ρ0 held) ds :: s) σ' U')
    (h2 : Op1 C ops j σ U fun σ' U' => (ds.contains j = false → Ext U0 U' ∧ HeldAll M0 ρ0 σ' held) ∧ J C (.a ops n (listed.setIfInBounds j true) (Held U0 M0 ρ0 held) ds :: s) σ' U') : J C (.a ops (n + 1) listed (Held U0 M0 ρ0 held) ds :: s) σ U := by
  refine ⟨fun a w hh => ?_⟩
  refine ⟨fun h0 => (by rw [hr] at h0; cases h0), fun q hq => ?_⟩
  rw [hr] at hq
  have one : ∀ k, (Op1 C ops k σ U fun σ' U' => (ds.contains k = false → Ext U0 U' ∧ HeldAll M0 ρ0 σ' held) ∧ J C (.a ops n (listed.setIfInBounds k true) (Held U0 M0 ρ0 held) ds :: s) σ' U') →
      wpOp C.P ops (kont C.P s (Fin C)) k (fun a' w' => (ds.contains k = false → Held U0 M0 ρ0 held w') ∧ wpAnyD C.P .any ops (kont C.P s (Fin C)) (Held U0 M0 ρ0 held) ds n (listed.setIfInBounds k true) a' w') a w := by
    rintro k ⟨o, hi, hg, h⟩
    have hi' : ops[k]? = some o := by simpa using hi
    unfold wpOp
    simp only [hi', gd_ok hg hh.1.dec hh.tup, if_true]
    exact .inl (Oper.wp_mono (fun a' w' ⟨σ', U', h1, h2, h4⟩ => ⟨fun hd => h1.toHeld (h2 hd).1 (h2 hd).2, h4.out a' w' h1⟩) (h a w _ hh))
  simp only [List.mem_cons, List.not_mem_nil, or_false] at hq
  rcases hq with rfl | rfl
  · exact one _ h1
  · exact one _ h2

theorem J.abin {ops : Array Oper} {n' : Nat} {listed : Array Bool} {ds : List Nat} {U0 : Hp} {M0 : Nat → Res} {ρ0 : Nat → Nat} {held : List Nat} (i : Nat) {o : Oper} {d : Tmp} {op : BinOp} {t yt : TypeId} {x y : Operand} {u v r : Value}
    (hi : ops.toList[i]? = some o) (hd : o.dst = some d) (hn : Nat.blt d σ.n = true) (hok : takeOk ops ds [i] listed = true) (hg : gd ops.toList σ o = some true) (hh : ds.contains i = true ∨ (Ext U0 U ∧ HeldAll M0 ρ0 σ held))
    (ho : o.op = .binOp op t x y yt) (hx : ev σ x = .v u) (hy : ev σ y = .v v) (hr : ∀ w, (do eqGuard op t x y u v; binOp op t u v : Sem Value).run C.P w = .ok r w)
    (h : J C (.a ops n' (listed.setIfInBounds i true) (Held U0 M0 ρ0 held) ds :: s) (σ.set d (.v r)) U) :
    J C (.a ops (n' + 1) listed (Held U0 M0 ρ0 held) ds :: s) σ U := by
  refine J.atakeG (sv := .v r) hi hd hn hok hg hh ?_ h
  intro a w ρ hs G hS
  refine ⟨r, fun w' => ?_, rfl⟩
  simp only [execOp, ho, hS.evv hx, hS.evv hy]
  exact bind_ok (hr w')
end

theorem eqF_nil {P : Program} {d : Nat} {xs ys : Array Value} (w : World) : (Op.eqFields d xs ys []).run P w = .ok true w := rfl
theorem eqF_cons {P : Program} {E : Env} (hE : EnvOk P E) {d : Nat} {f : Field} {fs : List Field} {cs ds : List Value} {u v : Value} {r : Bool} {w : World} (hn : f.name ≠ "_") (h1 : evPart E f.type cs f.offset = some u) (h2 : evPart E f.type ds f.offset = some v)
    (he : (Op.equalIn d f.type u v).run P w = .ok r w) : (Op.eqFields d cs.toArray ds.toArray (f :: fs)).run P w = if r then (Op.eqFields d cs.toArray ds.toArray fs).run P w else .ok false w := by
  simp only [Op.eqFields]
  rw [if_pos hn]
  refine (bind_ok (run_partV hE h1 w)).trans ?_
  refine (bind_ok (run_partV hE h2 w)).trans ?_
  refine (bind_ok he).trans ?_
  cases r <;> simp
end Go.Rx
end
