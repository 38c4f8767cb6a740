/- A calculus by which a body of code is walked over a heap in parts: the steps, calls and arrays. For every program whose types are tabled. -/
import Derived.Calls
import Derived.Orders
import Derived.Deep.Draws
import Derived.Below
import Derived.OrdersHeld
import Derived.Maps.AppendAt
import Derived.Laws.MakeOwn
import Derived.Laws.OwnMore
set_option linter.unusedVariables false
set_option linter.unusedSimpArgs false
set_option linter.unusedSectionVars false
section
namespace Go.Rx

abbrev Hp := Nat → Option Obj
def Hp.emp : Hp := fun _ => none
def Hp.one (g : Nat) (o : Obj) : Hp := fun b => if b = g then some o else none
def World.hp (w : World) : Hp := fun b => w.heap[b]?
def Ext (U V : Hp) : Prop := ∀ b o, U b = some o → V b = some o
theorem Ext.refl (U : Hp) : Ext U U := fun _ _ h => h
theorem Ext.trans {U V X : Hp} (h : Ext U V) (k : Ext V X) : Ext U X := fun b o e => k b o (h b o e)
def Hp.cell? (U : Hp) (b o : Nat) : Option Value := match U b with | some (.cells c _ _) => c[o]? | _ => none
theorem Ext.cell {U V : Hp} (h : Ext U V) {b o : Nat} {v : Value} (hc : U.cell? b o = some v) : V.cell? b o = some v := by
  unfold Hp.cell? at *
  cases hu : U b with
  | none => simp [hu] at hc
  | some x => rw [h b x hu]; rw [hu] at hc; exact hc

structure Same (w w' : World) : Prop where
  os : w'.os = w.os
  tape : w'.tape = w.tape
  output : w'.output = w.output
theorem Same.refl (w : World) : Same w w := ⟨rfl, rfl, rfl⟩
theorem Same.trans {a b c : World} (h : Same a b) (k : Same b c) : Same a c := ⟨k.os.trans h.os, k.tape.trans h.tape, k.output.trans h.output⟩

structure Joins {ι : Type} (hs : ι → Hp) (w : World) : Prop where
  sub : ∀ i b o, hs i b = some o → w.heap[b]? = some o
  all : ∀ b o, w.heap[b]? = some o → ∃ i, hs i b = some o
  one : ∀ i j b o o', hs i b = some o → hs j b = some o' → i = j

inductive Part | u | f | g | k (d : Nat)
  deriving DecidableEq
def fam (U F G : Hp) (hs : Nat → Hp) : Part → Hp
  | .u => U
  | .f => F
  | .g => G
  | .k d => hs d

inductive SV
  | unk
  | v (x : Value)
  | bp (key off : Nat)
  | win (b o : Nat) (cells : List Value) (off : Nat)
  | clo (f : FuncId) (keys : List Nat)
  deriving Inhabited

inductive Res
  | none
  | box (ty : TypeId) (cells : List Value)
  | own (p : Hp → Prop)

def Res.sat (g : Nat) : Res → Hp → Prop
  | .none, h => ∀ b, h b = Option.none
  | .box ty cells, h => h = Hp.one g (.cells cells.toArray ty (0, 0))
  | .own p, h => p h

def SV.is (ρ : Nat → Nat) (U : Hp) (y : Value) : SV → Prop
  | .unk => True
  | .v x => y = x
  | .bp k off => y = .pointer (some ⟨ρ k, off, none⟩)
  | .win b o cells off => y = .pointer (some ⟨b, o + off, none⟩) ∧ ∀ (j : Nat) c, cells[j]? = some c → U.cell? b (o + j) = some c
  | .clo f keys => y = .func (.func f) #[] (keys.map fun k => .pointer (some ⟨ρ k, 0, none⟩)).toArray

theorem SV.is_ext {ρ : Nat → Nat} {U V : Hp} (h : Ext U V) {y : Value} {s : SV} (hs : s.is ρ U y) : s.is ρ V y := by
  cases s with
  | win b o cells off => exact ⟨hs.1, fun j c hc => h.cell (hs.2 j c hc)⟩
  | _ => exact hs

def SV.kill (d : Nat) : SV → SV
  | .bp k off => bif k == d then .unk else .bp k off
  | .clo f keys => bif keys.contains d then .unk else .clo f keys
  | s => s
theorem SV.is_kill {ρ : Nat → Nat} {U : Hp} {y : Value} {s : SV} (d g : Nat) (hs : s.is ρ U y) : (s.kill d).is (fun k => if k = d then g else ρ k) U y := by
  cases s with
  | bp k off =>
    simp only [SV.kill]
    cases h : (k == d) with
    | true => trivial
    | false =>
      have : k ≠ d := by simpa using h
      simp only [cond_false, SV.is, if_neg this]; exact hs
  | clo f keys =>
    simp only [SV.kill]
    cases h : keys.contains d with
    | true => trivial
    | false =>
      simp only [cond_false, SV.is] at hs ⊢
      rw [hs]
      congr 2
      refine List.map_congr_left fun k hk => ?_
      have : k ≠ d := by
        intro e; subst e
        simp at h; exact h hk
      simp [this]
  | _ => exact hs

structure Sym where
  n : Nat
  K : Nat → SV
  D : Nat → Option Bool
  M : Nat → Res
  pin : Nat → Option Nat

structure Holds (σ : Sym) (U F : Hp) (w0 : World) (a : Act) (w : World) : Prop where
  size : a.tmps.size = σ.n
  defers : a.defers = []
  run : Same w0 w
  dec : ∀ t b, σ.D t = some b → a.tmps[t]? = some (.bool b)
  mem : ∃ (ρ : Nat → Nat) (hs : Nat → Hp) (G : Hp), (∀ t, σ.K t = .unk ∨ ∃ y, a.tmps[t]? = some y ∧ (σ.K t).is ρ U y) ∧ (∀ k, (σ.M k).sat (ρ k) (hs k)) ∧ Joins (fam U F G hs) w ∧ ∀ k g, σ.pin k = some g → ρ k = g

def upd {α : Type} (f : Nat → α) (d : Nat) (x : α) : Nat → α := fun t => bif t == d then x else f t
theorem upd_same {α : Type} (f : Nat → α) (d : Nat) (x : α) : upd f d x d = x := by simp [upd]
theorem upd_ne {α : Type} (f : Nat → α) (d : Nat) (x : α) {t : Nat} (h : t ≠ d) : upd f d x t = f t := by
  have : (t == d) = false := by simpa using h
  simp [upd, this]

def SV.lit : SV → Option Bool
  | .v (.bool true) => some true
  | .v (.bool false) => some false
  | _ => none
theorem SV.lit_some {s : SV} {b : Bool} (h : s.lit = some b) : s = .v (.bool b) := by
  unfold SV.lit at h
  split at h
  · simp only [Option.some.injEq] at h; rw [h]
  · simp only [Option.some.injEq] at h; rw [h]
  · cases h
def Sym.set (σ : Sym) (d : Nat) (s : SV) : Sym := { σ with K := upd σ.K d s, D := upd σ.D d s.lit }

end Go.Rx
end

section
namespace Go.Rx

structure TyE where
  sz : Nat
  agg : Bool
  zero : Value
  und : TypeDesc

abbrev Env := List (TypeId × TyE)
def TyOk (P : Program) (t : TypeId) (e : TyE) : Prop :=
  (∀ w, (sizeOf t).run P w = .ok e.sz w) ∧ (∀ w, (isAgg t).run P w = .ok e.agg w) ∧ (∀ w, (zeroValue t).run P w = .ok e.zero w) ∧ P.underlying t = some e.und
def EnvOk (P : Program) : Env → Prop
  | [] => True
  | (t, e) :: r => TyOk P t e ∧ EnvOk P r
def find (t : TypeId) : Env → Option TyE
  | [] => none
  | (u, e) :: r => bif u == t then some e else find t r
theorem find_ok {P : Program} {t : TypeId} {e : TyE} : ∀ {E : Env}, EnvOk P E → find t E = some e → TyOk P t e
  | [], _, h => by simp [find] at h
  | (u, x) :: r, ho, h => by
    simp only [find] at h
    cases hu : (u == t) with
    | true => rw [hu] at h; simp at h; simp at hu; rw [← hu, ← h]; exact ho.1
    | false => rw [hu] at h; simp at h; exact find_ok ho.2 h

def fieldOff (E : Env) (s : TypeId) (f : Nat) : Option Nat :=
  match find s E with
  | some ⟨_, _, _, .struct fs⟩ =>
    match fs.toList[f]? with
    | some fd => match find fd.type E with
      | some e => bif e.sz == 0 then none else some fd.offset
      | none => none
    | none => none
  | _ => none

def ev (σ : Sym) : Operand → SV
  | .tmp t => σ.K t
  | .const v => .v v
  | .global g => .v (.pointer (some ⟨g, 0, none⟩))
  | .func f => .v (.func (.func f) #[] #[])

structure Sat (σ : Sym) (U F : Hp) (a : Act) (w : World) (ρ : Nat → Nat) (hs : Nat → Hp) (G : Hp) : Prop where
  K : ∀ t, σ.K t = .unk ∨ ∃ y, a.tmps[t]? = some y ∧ (σ.K t).is ρ U y
  M : ∀ k, (σ.M k).sat (ρ k) (hs k)
  J : Joins (fam U F G hs) w
  pin : ∀ k g, σ.pin k = some g → ρ k = g

theorem Holds.sat {σ : Sym} {U F : Hp} {w0 : World} {a : Act} {w : World} (h : Holds σ U F w0 a w) : ∃ ρ hs G, Sat σ U F a w ρ hs G :=
  let ⟨ρ, hs, G, hk, hm, hj, hp⟩ := h.mem; ⟨ρ, hs, G, hk, hm, hj, hp⟩

section
variable {σ : Sym} {U F : Hp} {w0 : World} {a : Act} {w : World} {ρ : Nat → Nat} {hs : Nat → Hp} {G : Hp}

theorem Holds.put (h : Holds σ U F w0 a w) {d : Nat} (hd : d < σ.n) {s : SV} {y : Value} (hs : ∀ ρ hs G, Sat σ U F a w ρ hs G → s.is ρ U y) :
    Holds (σ.set d s) U F w0 (a.put (some d) y) w := by
  obtain ⟨ρ, hh, G, hS⟩ := h.sat
  refine ⟨by simp [Act.put, Sym.set, h.size], h.defers, h.run, ?_, ρ, hh, G, ?_, hS.M, hS.J, hS.pin⟩
  · intro t b hb
    by_cases e : t = d
    · subst e
      simp only [Sym.set, upd_same] at hb
      have e1 := SV.lit_some hb
      obtain ⟨ρ, hh, G, hS⟩ := h.sat
      have := hs ρ hh G hS
      rw [e1] at this
      simp only [Act.put]
      rw [show y = _ from this, Array.getElem?_setIfInBounds_self_of_lt (by rw [h.size]; exact hd)]
    · simp only [Sym.set, upd_ne _ _ _ e] at hb
      simp only [Act.put]
      rw [Array.getElem?_setIfInBounds_ne (fun h => e h.symm)]
      exact h.dec t b hb
  · intro t
    by_cases e : t = d
    · subst e
      refine .inr ⟨y, ?_, ?_⟩
      · simp [Act.put, h.size, hd]
      · simp only [Sym.set, upd_same]; exact hs ρ hh G hS
    · simp only [Sym.set, upd_ne _ _ _ e, Act.put]
      rw [Array.getElem?_setIfInBounds_ne (fun h => e h.symm)]
      exact hS.K t

theorem Sat.ev (h : Sat σ U F a w ρ hs G) (x : Operand) : (ev σ x).is ρ U (a.eval x) := by
  cases x with
  | tmp t =>
    rcases h.K t with hu | ⟨y, hy, hi⟩
    · simp only [Rx.ev, hu]; trivial
    · simp only [Rx.ev, Act.eval, Array.getD_eq_getD_getElem?, hy, Option.getD_some]; exact hi
  | const v => rfl
  | global g => rfl
  | func f => rfl

theorem Sat.evv (h : Sat σ U F a w ρ hs G) {x : Operand} {v : Value} (e : Rx.ev σ x = .v v) : a.eval x = v := by
  have := h.ev x; rw [e] at this; exact this

theorem Sat.u (h : Sat σ U F a w ρ hs G) {b o : Nat} {v : Value} (hc : U.cell? b o = some v) : w.cell? ⟨b, o, none⟩ = some v := by
  unfold Hp.cell? at hc
  cases hu : U b with
  | none => simp [hu] at hc
  | some x =>
    have := h.J.sub .u b x hu
    rw [hu] at hc
    simp only [World.cell?, this]
    cases x with
    | cells c t f => simpa using hc
    | _ => simp at hc

theorem Sat.boxed (h : Sat σ U F a w ρ hs G) {k : Nat} {ty : TypeId} {cells : List Value} (hm : σ.M k = .box ty cells) : w.heap[ρ k]? = some (.cells cells.toArray ty (0, 0)) := by
  have hb := h.M k
  rw [hm] at hb
  refine h.J.sub (.k k) (ρ k) _ ?_
  show hs k (ρ k) = _
  rw [show hs k = _ from hb]; simp [Hp.one]

theorem Sat.bcell (h : Sat σ U F a w ρ hs G) {k : Nat} {ty : TypeId} {cells : List Value} (hm : σ.M k = .box ty cells) (o : Nat) : w.cell? ⟨ρ k, o, none⟩ = cells[o]? := by
  simp [World.cell?, h.boxed hm]
end

def evBin (op : BinOp) : Value → Value → Option Value
  | .int k a, .int k' b => if k = k' then match op with
    | .add => some (.int k (k.wrap (a + b)))
    | .sub => some (.int k (k.wrap (a - b)))
    | .mul => some (.int k (k.wrap (a * b)))
    | .eql => some (.bool (a == b))
    | .neq => some (.bool (a != b))
    | .lss => some (.bool (a < b))
    | .leq => some (.bool (a ≤ b))
    | .gtr => some (.bool (a > b))
    | .geq => some (.bool (a ≥ b))
    | _ => none else none
  | .string a, .string b => match op with
    | .eql => some (.bool (a.toList == b.toList))
    | .neq => some (.bool !(a.toList == b.toList))
    | .lss => some (.bool (Op.bytesLess a.toList b.toList))
    | .gtr => some (.bool !(Op.bytesLess a.toList b.toList || a.toList == b.toList))
    | .geq => some (.bool !(Op.bytesLess a.toList b.toList))
    | _ => none
  | _, _ => none

theorem evBin_ok {P : Program} {op : BinOp} {t yt : TypeId} {x y : Operand} {u v r : Value} (h : evBin op u v = some r) (w : World) :
    (do eqGuard op t x y u v; binOp op t u v : Sem Value).run P w = .ok r w := by
  cases u with
  | int k a =>
    cases v with
    | int k' b =>
      simp only [evBin] at h
      split at h
      · rename_i hk
        subst hk
        cases op <;> simp at h <;> subst h <;> simp [eqGuard, binOp, Op.intArith, Op.intCmp, Sem.run, bind, Sem.bind, pure]
      · simp at h
    | _ => simp [evBin] at h
  | string a =>
    cases v with
    | string b => cases op <;> simp [evBin] at h <;> subst h <;> simp [eqGuard, binOp, Op.stringOp, Sem.run, bind, Sem.bind, pure]
    | _ => simp [evBin] at h
  | _ => simp [evBin] at h

def evEq (E : Env) (op : BinOp) (t : TypeId) (u v : Value) : Option Value :=
  match find t E with
  | some ⟨_, _, _, .bool⟩ => match u with
    | .bool a => match v with
      | .bool b => match op with | .eql => some (.bool (a == b)) | .neq => some (.bool !(a == b)) | _ => none
      | _ => none
    | _ => none
  | some ⟨_, _, _, .slice _⟩ => match u with
    | .slice A _ _ => match v with
      | .slice none _ _ => match op with | .eql => some (.bool A.isNone) | .neq => some (.bool !A.isNone) | _ => none
      | _ => none
    | _ => none
  | _ => none
def evUn (op : UnOp) : Value → Option Value
  | .bool b => match op with | .not => some (.bool !b) | _ => none
  | .int k n => match op with | .neg => some (.int k (k.wrap (0 - n))) | _ => none
  | _ => none

theorem evUn_ok {P : Program} {op : UnOp} {u r : Value} (h : evUn op u = some r) (w : World) : (Op.unary op u).run P w = .ok r w := by
  cases u <;> cases op <;> simp [evUn] at h <;> subst h <;> simp [Op.unary, Op.intArith, Sem.run, pure]

def evPart (E : Env) (t : TypeId) (cs : List Value) (off : Nat) : Option Value :=
  match find t E with
  | some ⟨sz, true, _, _⟩ => bif decide (off + sz ≤ cs.length) then some (.agg ((cs.drop off).take sz).toArray) else none
  | some ⟨_, false, _, _⟩ => cs[off]?
  | none => none

def lenV : Value → Option Nat
  | .slice _ n _ => some n
  | .string s => some s.size
  | _ => none

end Go.Rx
end

section
namespace Go.Rx

def partV (E : Env) (t : TypeId) (cs : List Value) (off : Nat) : Option SV := match evPart E t cs off with | some v => some (.v v) | none => none

def allKeys : List SV → Option (List Nat)
  | [] => some []
  | .bp k 0 :: r => match allKeys r with | some ks => some (k :: ks) | none => none
  | _ => none

def evBuild (E : Env) (fs : List Field) (cells : List Value) : List (Nat × SV) → Option (List Value)
  | [] => some cells
  | (i, .v x) :: r => match fs[i]? with
    | some fd => match find fd.type E with
      | some e => bif x.cells.size == e.sz && decide (fd.offset + x.cells.size ≤ cells.length) then evBuild E fs (x.cells.toList.zipIdx.foldl (fun cs (c, j) => cs.set (fd.offset + j) c) cells) r else none
      | none => none
    | none => none
  | _ => none

def stepK (E : Env) (σ : Sym) : Op → Option SV
  | .move x => some (ev σ x)
  | .assign x => some (ev σ x)
  | .pick (.tmp t) a b => match σ.D t with
    | some true => some (ev σ a)
    | some false => some (ev σ b)
    | none => none
  | .load t x => match ev σ x with
    | .bp k off => match σ.M k with
      | .box _ cells => partV E t cells off
      | _ => none
    | .win _ _ cells off => partV E t cells off
    | _ => none
  | .fieldAddr s x f => match fieldOff E s f with
    | some fo => match ev σ x with
      | .bp k off => some (.bp k (off + fo))
      | .win b o cells off => some (.win b o cells (off + fo))
      | _ => none
    | none => none
  | .field s x f => match find s E with
    | some ⟨_, _, _, .struct fs⟩ => match fs.toList[f]? with
      | some fd => match ev σ x with
        | .v (.agg cs) => partV E fd.type cs.toList fd.offset
        | _ => none
      | none => none
    | _ => none
  | .binOp op t x y _ => match ev σ x with
    | .v u => match ev σ y with
      | .v v => match evBin op u v with | some r => some (.v r) | none => match evEq E op t u v with | some r => some (.v r) | none => none
      | _ => none
    | _ => none
  | .unOp op _ x => match ev σ x with
    | .v u => match evUn op u with | some r => some (.v r) | none => none
    | _ => none
  | .extract x i => match ev σ x with
    | .v (.tuple vs) => match vs.toList[i]? with | some r => some (.v r) | none => none
    | _ => none
  | .makeFunc (.func f) first caps => match first.toList with
    | [] => match allKeys (caps.toList.map (ev σ)) with
      | some ks => some (.clo f ks)
      | none => none
    | _ => none
  | .call c => match c.callee with
    | .builtin .len => match c.args.toList with
      | [x] => match c.argTypes.toList with
        | t :: _ => match find t E with
          | some ⟨_, _, _, .slice _⟩ => match ev σ x with
            | .v (.slice _ n _) => some (.v (.int .i64 n))
            | _ => none
          | some ⟨_, _, _, .string⟩ => match ev σ x with
            | .v (.string s) => some (.v (.int .i64 s.size))
            | _ => none
          | _ => none
        | _ => none
      | _ => none
    | _ => none
  | .convert s d x => match find s E with
    | some ⟨_, _, _, .int _⟩ => match find d E with
      | some ⟨_, _, _, .int k⟩ => match ev σ x with
        | .v (.int _ n) => some (.v (.int k (k.wrap n)))
        | _ => none
      | _ => none
    | _ => none
  | .nilCheck x => match ev σ x with
    | .bp k off => some (.bp k off)
    | .win b o cells off => some (.win b o cells off)
    | _ => none
  | .build t parts => match find t E with
    | some ⟨_, _, .agg z, .struct fs⟩ => bif fs.toList.all (fun fd => (find fd.type E).isSome) then match evBuild E fs.toList z.toList (parts.toList.map fun (i, x) => (i, ev σ x)) with
      | some cs => some (.v (.agg cs.toArray))
      | none => none
      else none
    | _ => none
  | _ => none

theorem add_plain (b o n : Nat) : (⟨b, o, none⟩ : Addr).add n = ⟨b, o + n, none⟩ := by unfold Addr.add; split <;> simp_all

theorem run_underlying {P : Program} {t : TypeId} {d : TypeDesc} (h : P.underlying t = some d) (w : World) : (underlying t).run P w = .ok d w := by
  simp only [underlying, Sem.run_bind]
  show Sem.run P (match P.underlying t with | some d => pure d | none => _) w = _
  rw [h]; rfl

theorem run_load1 {P : Program} {w : World} {a : Addr} {v : Value} (h : w.cell? a = some v) : (load a).run P w = .ok v w := by
  simp [load, Sem.run, h]

theorem run_loadCells {P : Program} {w : World} {b o : Nat} (cs : List Value) (hc : ∀ j v, cs[j]? = some v → w.cell? ⟨b, o + j, none⟩ = some v) :
    ∀ (n i : Nat) (acc : Array Value), i + n ≤ cs.length → (loadCellsFrom ⟨b, o, none⟩ i n acc).run P w = .ok (acc ++ ((cs.drop i).take n).toArray) w
  | 0, i, acc, h => by simp [loadCellsFrom]
  | n + 1, i, acc, h => by
    have hi : i < cs.length := by omega
    have h1 : w.cell? ⟨b, o + i, none⟩ = some cs[i] := hc i _ (by simp [hi])
    have ih := run_loadCells (P := P) cs hc n (i + 1) (acc.push cs[i]) (by omega)
    simp only [loadCellsFrom, add_plain]
    have hl := run_load1 (P := P) h1
    simp only [Sem.run_bind, hl]
    show (loadCellsFrom _ _ _ _).run P w = _
    rw [ih]
    congr 1
    rw [List.drop_eq_getElem_cons hi, List.take_succ_cons]
    simp

theorem run_part {P : Program} {E : Env} (hE : EnvOk P E) {t : TypeId} {cs : List Value} {off : Nat} {v : Value} (h : evPart E t cs off = some v) {w : World} {b o : Nat}
    (hc : ∀ j v, cs[j]? = some v → w.cell? ⟨b, o + j, none⟩ = some v) : (loadVar t ⟨b, o + off, none⟩).run P w = .ok v w := by
  unfold evPart at h
  split at h
  · rename_i sz z u hf
    obtain ⟨h1, h2, -, -⟩ := find_ok hE hf
    cases hb : decide (off + sz ≤ cs.length) with
    | false => simp [hb] at h
    | true =>
      simp only [hb, cond_true, Option.some.injEq] at h
      subst h
      have hl : off + sz ≤ cs.length := by simpa using hb
      have := run_loadCells (P := P) (w := w) (b := b) (o := o + off) (cs.drop off) (fun j v hj => by rw [Nat.add_assoc]; exact hc _ _ (by simpa using hj)) sz 0 #[] (by simp; omega)
      simp [loadVar, h1 w, h2 w, loadCells, this]
  · rename_i sz z u hf
    obtain ⟨h1, h2, -, -⟩ := find_ok hE hf
    have hl := run_load1 (P := P) (hc off v h)
    simp only [loadVar, Sem.run_bind, h2 w]
    exact hl
  · simp at h

theorem run_partV {P : Program} {E : Env} (hE : EnvOk P E) {t : TypeId} {cs : List Value} {off : Nat} {v : Value} (h : evPart E t cs off = some v) (w : World) : (part t cs.toArray off).run P w = .ok v w := by
  unfold evPart at h
  split at h
  · rename_i sz z u hf
    obtain ⟨h1, h2, -, -⟩ := find_ok hE hf
    cases hb : decide (off + sz ≤ cs.length) with
    | false => simp [hb] at h
    | true =>
      simp only [hb, cond_true, Option.some.injEq] at h
      subst h
      simp [part, h1 w, h2 w]
  · rename_i sz z u hf
    obtain ⟨h1, h2, -, -⟩ := find_ok hE hf
    simp [part, h2 w, h]
  · simp at h

theorem fieldOff_ok {P : Program} {E : Env} (hE : EnvOk P E) {s : TypeId} {f fo : Nat} (h : fieldOff E s f = some fo) (w : World) (b o : Nat) :
    (Instr.fieldAt s (.pointer (some ⟨b, o, none⟩)) f).run P w = .ok (.pointer (some ⟨b, o + fo, none⟩)) w := by
  unfold fieldOff at h
  split at h
  · rename_i sz ag z fs hf
    obtain ⟨-, -, -, h4⟩ := find_ok hE hf
    split at h
    · rename_i fd hfd
      split at h
      · rename_i e he
        obtain ⟨g1, -, -, -⟩ := find_ok hE he
        cases hz : (e.sz == 0) with
        | true => simp [hz] at h
        | false =>
          simp only [hz, cond_false, Option.some.injEq] at h
          subst h
          have hz' : ¬ e.sz = 0 := by simpa using hz
          have hfd' : fs[f]? = some fd := by simpa using hfd
          simp [Instr.fieldAt, run_underlying h4, hfd', Instr.sureAddr, fieldPlace, g1 w, hz', add_plain]
      · simp at h
    · simp at h
  · simp at h
theorem allKeys_ok {ρ : Nat → Nat} {U : Hp} : ∀ {l : List SV} {ks : List Nat} {ys : List Value}, allKeys l = some ks → l.length = ys.length → (∀ (i : Nat) s y, l[i]? = some s → ys[i]? = some y → s.is ρ U y) → ys = ks.map fun k => .pointer (some ⟨ρ k, 0, none⟩)
  | [], ks, ys, h, hl, _ => by simp [allKeys] at h; subst h; simpa using hl.symm
  | .bp k 0 :: r, ks, [], h, hl, hi => by simp at hl
  | .bp k 0 :: r, ks, y :: ys, h, hl, hi => by
    simp only [allKeys] at h
    cases hr : allKeys r with
    | none => simp [hr] at h
    | some ks' =>
      simp only [hr, Option.some.injEq] at h
      subst h
      have h0 := hi 0 _ y rfl rfl
      have := allKeys_ok (ρ := ρ) (U := U) hr (by simpa using hl) (fun i s y hs hy => hi (i + 1) s y (by simpa using hs) (by simpa using hy))
      simp only [List.map_cons, this]
      rw [show y = _ from h0]
  | .bp k (n + 1) :: r, ks, ys, h, _, _ => by simp [allKeys] at h
  | .unk :: r, ks, ys, h, _, _ => by simp [allKeys] at h
  | .v _ :: r, ks, ys, h, _, _ => by simp [allKeys] at h
  | .win .. :: r, ks, ys, h, _, _ => by simp [allKeys] at h
  | .clo .. :: r, ks, ys, h, _, _ => by simp [allKeys] at h

theorem foldl_set_array (off : Nat) : ∀ (l : List (Value × Nat)) (cells : List Value), (l.foldl (fun (cs : Array Value) (x : Value × Nat) => cs.setIfInBounds (off + x.2) x.1) cells.toArray) = (l.foldl (fun cs (x : Value × Nat) => cs.set (off + x.2) x.1) cells).toArray
  | [], cells => rfl
  | x :: r, cells => by simp only [List.foldl_cons, List.setIfInBounds_toArray]; exact foldl_set_array off r _

theorem evBuild_ok {P : Program} {E : Env} (hE : EnvOk P E) {fs : List Field} {ρ : Nat → Nat} {U : Hp} : ∀ {l : List (Nat × SV)} {m : List (Nat × Value)} {cells cs : List Value}, evBuild E fs cells l = some cs →
    l.length = m.length → (∀ (i : Nat) x y, l[i]? = some x → m[i]? = some y → x.1 = y.1 ∧ x.2.is ρ U y.2) →
    ∀ places : Nat → Option (Nat × Nat), (∀ (i : Nat) fd e, fs[i]? = some fd → find fd.type E = some e → places i = some (fd.offset, e.sz)) → Instr.fill places cells.toArray m = some cs.toArray
  | [], m, cells, cs, h, hl, _, places, _ => by
    simp [evBuild] at h; subst h
    obtain rfl : m = [] := by simpa using hl.symm
    rfl
  | (i, .v x) :: r, [], cells, cs, h, hl, _, places, _ => by simp at hl
  | (i, .v x) :: r, (j, y) :: m, cells, cs, h, hl, hi, places, hp => by
    have h0 := hi 0 _ _ rfl rfl
    obtain ⟨e1, e2⟩ := h0
    simp only [SV.is] at e1 e2
    obtain rfl : j = i := e1.symm
    obtain rfl : x = y := e2.symm
    simp only [evBuild] at h
    split at h
    · rename_i fd hfd
      split at h
      · rename_i e he
        cases hb : (x.cells.size == e.sz && decide (fd.offset + x.cells.size ≤ cells.length)) with
        | false => simp [hb] at h
        | true =>
          simp only [hb, cond_true] at h
          simp only [Bool.and_eq_true, beq_iff_eq, decide_eq_true_eq] at hb
          have ih := evBuild_ok hE (ρ := ρ) (U := U) h (by simpa using hl) (fun i x y hx hy => hi (i + 1) x y (by simpa using hx) (by simpa using hy)) places hp
          simp only [Instr.fill, hp j fd e hfd he]
          rw [if_neg (by simp; omega)]
          rw [← ih]
          congr 1
          have := foldl_set_array fd.offset x.cells.toList.zipIdx cells
          rw [← this]
          rw [← Array.foldl_toList]
          simp [Array.toList_zipIdx]
      · simp at h
    · simp at h
  | (i, .unk) :: r, m, cells, cs, h, _, _, _, _ => by simp [evBuild] at h
  | (i, .bp _ _) :: r, m, cells, cs, h, _, _, _, _ => by simp [evBuild] at h
  | (i, .win ..) :: r, m, cells, cs, h, _, _, _, _ => by simp [evBuild] at h
  | (i, .clo ..) :: r, m, cells, cs, h, _, _, _, _ => by simp [evBuild] at h

theorem bind_ok {P : Program} {α β : Type} {s : Sem α} {f : α → Sem β} {w w' : World} {a : α} (h : s.run P w = .ok a w') : (s >>= f).run P w = (f a).run P w' := by
  simp only [Sem.run_bind, h]; rfl

theorem run_eq_bool {P : Program} {t : TypeId} (hu : P.underlying t = some .bool) (a b : Bool) (w : World) : (Op.equal t (.bool a) (.bool b)).run P w = .ok (a == b) w := by
  show (Op.equalIn (9999 + 1) t _ _).run P w = _
  rw [Op.equalIn]; exact bind_ok (run_underlying hu w)
theorem run_eq_slice {P : Program} {t e : TypeId} (hu : P.underlying t = some (.slice e)) (A : Option Addr) (n c m d : Nat) (w : World) : (Op.equal t (.slice A n c) (.slice none m d)).run P w = .ok A.isNone w := by
  show (Op.equalIn (9999 + 1) t _ _).run P w = _
  rw [Op.equalIn]
  refine (bind_ok (run_underlying hu w)).trans ?_
  cases A <;> rfl

theorem evEq_ok {P : Program} {E : Env} (hE : EnvOk P E) {op : BinOp} {t yt : TypeId} {x y : Operand} {u v r : Value} (h : evEq E op t u v = some r) (w : World) :
    (do eqGuard op t x y u v; binOp op t u v : Sem Value).run P w = .ok r w := by
  unfold evEq at h
  split at h
  · rename_i sz ag z hf
    have hu := (find_ok hE hf).2.2.2
    split at h
    · rename_i a
      split at h
      · rename_i b
        have := run_eq_bool hu a b w
        split at h
        · simp only [Option.some.injEq] at h; subst h; exact (bind_ok (s := eqGuard .eql t x y (.bool a) (.bool b)) rfl).trans (bind_ok this)
        · simp only [Option.some.injEq] at h; subst h; exact (bind_ok (s := eqGuard .neq t x y (.bool a) (.bool b)) rfl).trans (bind_ok this)
        · cases h
      · cases h
    · cases h
  · rename_i sz ag z e hf
    have hu := (find_ok hE hf).2.2.2
    split at h
    · rename_i A n c
      split at h
      · rename_i m d
        have := run_eq_slice hu A n c m d w
        split at h
        · simp only [Option.some.injEq] at h; subst h; exact (bind_ok (s := eqGuard .eql t x y (.slice A n c) (.slice none m d)) rfl).trans (bind_ok this)
        · simp only [Option.some.injEq] at h; subst h; exact (bind_ok (s := eqGuard .neq t x y (.slice A n c) (.slice none m d)) rfl).trans (bind_ok this)
        · cases h
      · cases h
    · cases h
  · cases h

theorem mapM_sizes {P : Program} {E : Env} (hE : EnvOk P E) : ∀ (l : List Field), (∀ fd ∈ l, (find fd.type E).isSome = true) → ∀ w, ∃ r : List (Nat × Nat), (l.mapM fun f => (do pure (f.offset, ← sizeOf f.type) : Sem (Nat × Nat))).run P w = .ok r w ∧ ∀ (i : Nat) fd e, l[i]? = some fd → find fd.type E = some e → r[i]? = some (fd.offset, e.sz)
  | [], _, w => ⟨[], rfl, fun i fd e h => by simp at h⟩
  | f :: l, h, w => by
    obtain ⟨r, hr, hi⟩ := mapM_sizes hE l (fun fd hfd => h fd (List.mem_cons_of_mem _ hfd)) w
    obtain ⟨e, he⟩ := Option.isSome_iff_exists.1 (h f (List.mem_cons_self ..))
    obtain ⟨g1, -, -, -⟩ := find_ok hE he
    refine ⟨(f.offset, e.sz) :: r, ?_, ?_⟩
    · simp only [List.mapM_cons]
      refine (bind_ok (bind_ok (g1 w))).trans ?_
      exact bind_ok hr
    · intro i fd e' hfd he'
      cases i with
      | zero => simp at hfd; subst hfd; rw [he] at he'; simp at he'; subst he'; rfl
      | succ i => simpa using hi i fd e' (by simpa using hfd) he'

section
variable {P : Program} {E : Env} {σ : Sym} {U F : Hp} {w0 : World} {a : Act} {w : World} {ρ : Nat → Nat} {hs : Nat → Hp} {G : Hp}

theorem partV_ok {t : TypeId} {cs : List Value} {off : Nat} {s : SV} (h : partV E t cs off = some s) : ∃ v, evPart E t cs off = some v ∧ s = .v v := by
  unfold partV at h
  cases he : evPart E t cs off with
  | none => simp [he] at h
  | some v => simp [he] at h; exact ⟨v, rfl, h.symm⟩

theorem exec_v {o : Oper} {s : Sem Value} {y : Value} (he : execOp a.eval o = (do pure (.value (← s)) : Sem Next)) (h : s.run P w = .ok y w) : (execOp a.eval o).run P w = .ok (.value y) w := by
  rw [he]; exact bind_ok h

def isWin (σ : Sym) : Op → Bool
  | .load _ x => match ev σ x with | .win .. => true | _ => false
  | _ => false

structure See (σ : Sym) (U : Hp) (a : Act) (w : World) (ρ : Nat → Nat) (op : Op) : Prop where
  ev : ∀ x, (ev σ x).is ρ U (a.eval x)
  bcell : ∀ {k ty cells}, σ.M k = .box ty cells → ∀ o : Nat, w.cell? ⟨ρ k, o, none⟩ = cells[o]?
  u : isWin σ op = true → ∀ {b o v}, U.cell? b o = some v → w.cell? ⟨b, o, none⟩ = some v
theorem See.evv {op : Op} (h : See σ U a w ρ op) {x : Operand} {v : Value} (e : Rx.ev σ x = .v v) : a.eval x = v := by
  have := h.ev x; rw [e] at this; exact this
theorem Sat.see (h : Sat σ U F a w ρ hs G) (op : Op) : See σ U a w ρ op := ⟨h.ev, h.bcell, fun _ => h.u⟩

theorem stepK_see (hE : EnvOk P E) (hD : ∀ t b, σ.D t = some b → a.tmps[t]? = some (.bool b)) {o : Oper} (hS : See σ U a w ρ o.op) {s : SV} (h : stepK E σ o.op = some s) :
    ∃ y, (execOp a.eval o).run P w = .ok (.value y) w ∧ s.is ρ U y := by
  unfold stepK at h
  split at h
  ·
    rename_i x ho
    simp only [Option.some.injEq] at h; subst h
    exact ⟨a.eval x, by simp only [execOp, ho]; rfl, hS.ev x⟩
  ·
    rename_i x ho
    simp only [Option.some.injEq] at h; subst h
    exact ⟨a.eval x, by simp only [execOp, ho]; rfl, hS.ev x⟩
  ·
    rename_i t x y ho
    split at h
    · rename_i hd
      simp only [Option.some.injEq] at h; subst h
      refine ⟨a.eval x, ?_, hS.ev x⟩
      have e : a.eval (.tmp t) = .bool true := by simp [Act.eval, hD t true hd]
      simp only [execOp, ho, e]; rfl
    · rename_i hd
      simp only [Option.some.injEq] at h; subst h
      refine ⟨a.eval y, ?_, hS.ev y⟩
      have e : a.eval (.tmp t) = .bool false := by simp [Act.eval, hD t false hd]
      simp only [execOp, ho, e]; rfl
    · simp at h
  ·
    rename_i t x ho
    split at h
    · rename_i k off hx
      split at h
      · rename_i ty cells hm
        obtain ⟨v, hv, rfl⟩ := partV_ok h
        have e := hS.ev x
        rw [hx] at e
        refine ⟨v, exec_v (s := Instr.loadAt t (a.eval x)) (by simp only [execOp, ho]) ?_, rfl⟩
        rw [show a.eval x = _ from e]
        simp only [Instr.loadAt, Instr.sureAddr]
        exact (bind_ok rfl).trans (by
          have := run_part hE (w := w) (b := ρ k) (o := 0) hv (fun j v hj => by rw [Nat.zero_add, hS.bcell hm]; exact hj)
          rwa [Nat.zero_add] at this)
      · simp at h
    · rename_i b o' cells off hx
      obtain ⟨v, hv, rfl⟩ := partV_ok h
      have e := hS.ev x
      rw [hx] at e
      refine ⟨v, exec_v (s := Instr.loadAt t (a.eval x)) (by simp only [execOp, ho]) ?_, rfl⟩
      rw [show a.eval x = _ from e.1]
      simp only [Instr.loadAt, Instr.sureAddr]
      exact (bind_ok rfl).trans (run_part hE hv fun j v hj => hS.u (by rw [ho]; simp [isWin, hx]) (e.2 j v hj))
    · simp at h
  ·
    rename_i s' x f ho
    split at h
    · rename_i fo hf
      have e := hS.ev x
      split at h
      · rename_i k off hx
        simp only [Option.some.injEq] at h; subst h
        rw [hx] at e
        refine ⟨.pointer (some ⟨ρ k, off + fo, none⟩), exec_v (s := Instr.fieldAt s' (a.eval x) f) (by simp only [execOp, ho]) ?_, rfl⟩
        rw [show a.eval x = _ from e]
        exact fieldOff_ok hE hf w _ _
      · rename_i b o' cells off hx
        simp only [Option.some.injEq] at h; subst h
        rw [hx] at e
        refine ⟨.pointer (some ⟨b, o' + (off + fo), none⟩), exec_v (s := Instr.fieldAt s' (a.eval x) f) (by simp only [execOp, ho]) ?_, rfl, e.2⟩
        rw [show a.eval x = _ from e.1, ← Nat.add_assoc]
        exact fieldOff_ok hE hf w _ _
      · simp at h
    · simp at h
  ·
    rename_i s' x f ho
    split at h
    · rename_i sz ag z fs hf
      split at h
      · rename_i fd hfd
        split at h
        · rename_i cs hx
          obtain ⟨v, hv, rfl⟩ := partV_ok h
          obtain ⟨-, -, -, h4⟩ := find_ok hE hf
          have hfd' : fs[f]? = some fd := by simpa using hfd
          refine ⟨v, exec_v (s := Instr.field s' (a.eval x) f) (by simp only [execOp, ho]) ?_, rfl⟩
          rw [hS.evv hx]
          have := run_partV hE hv w
          simp only [Instr.field]
          refine (bind_ok (run_underlying h4 w)).trans ?_
          simp only [hfd']
          exact (bind_ok (a := cs) rfl).trans (by simpa using this)
        · simp at h
      · simp at h
    · simp at h
  ·
    rename_i op t x y yt ho
    split at h
    · rename_i u hx
      split at h
      · rename_i v hy
        split at h
        · rename_i r hr
          simp only [Option.some.injEq] at h; subst h
          refine ⟨r, ?_, rfl⟩
          simp only [execOp, ho, hS.evv hx, hS.evv hy]
          exact bind_ok (evBin_ok (yt := yt) hr w)
        · split at h
          · rename_i r hr
            simp only [Option.some.injEq] at h; subst h
            refine ⟨r, ?_, rfl⟩
            simp only [execOp, ho, hS.evv hx, hS.evv hy]
            exact bind_ok (evEq_ok (yt := yt) hE hr w)
          · simp at h
      · simp at h
    · simp at h
  ·
    rename_i op t x ho
    split at h
    · rename_i u hx
      split at h
      · rename_i r hr
        simp only [Option.some.injEq] at h; subst h
        refine ⟨r, exec_v (s := Op.unary op (a.eval x)) (by simp only [execOp, ho]) ?_, rfl⟩
        rw [hS.evv hx]; exact evUn_ok hr w
      · simp at h
    · simp at h
  ·
    rename_i x i ho
    split at h
    · rename_i vs hx
      split at h
      · rename_i r hr
        simp only [Option.some.injEq] at h; subst h
        refine ⟨r, exec_v (s := Instr.extract (a.eval x) i) (by simp only [execOp, ho]) ?_, rfl⟩
        rw [hS.evv hx]
        have : vs[i]? = some r := by simpa using hr
        simp only [Instr.extract, this]; rfl
      · simp at h
    · simp at h
  ·
    rename_i f first caps ho
    split at h
    · rename_i hfirst
      split at h
      · rename_i ks hks
        simp only [Option.some.injEq] at h; subst h
        obtain rfl : first = #[] := by simpa using hfirst
        have := allKeys_ok (ρ := ρ) (U := U) (ys := caps.toList.map a.eval) hks (by simp) (fun i s y hsi hyi => by
          simp only [List.getElem?_map, Option.map_eq_some_iff] at hsi hyi
          obtain ⟨x, hx, rfl⟩ := hsi
          obtain ⟨x', hx', rfl⟩ := hyi
          rw [hx] at hx'
          obtain rfl := Option.some.inj hx'
          exact hS.ev x)
        refine ⟨.func (.func f) #[] (ks.map fun k => Value.pointer (some ⟨ρ k, 0, none⟩)).toArray, exec_v (s := Instr.makeFunc (.func f) ((#[] : Array Operand).map a.eval) (caps.map a.eval)) (by simp only [execOp, ho]) ?_, rfl⟩
        simp only [Instr.makeFunc]
        rw [show caps.map a.eval = (caps.toList.map a.eval).toArray by rw [← Array.toList_map, Array.toArray_toList], this, Array.map_empty]
        rfl
      · simp at h
    · simp at h
  ·
    rename_i c ho
    split at h
    · rename_i hcal
      split at h
      · rename_i x hargs
        split at h
        · rename_i t ts hty
          have ha : c.args = #[x] := by rw [← Array.toArray_toList (xs := c.args), hargs]
          have ht : c.argTypes[0]? = some t := by rw [← Array.getElem?_toList, hty]; rfl
          have run : ∀ (v : Value) (n : Nat) (d : TypeDesc), ev σ x = .v v → P.underlying t = some d → (∀ w, (match d, v with
              | .string, .string s => pure (goInt s.size)
              | .slice _, .slice _ n _ => pure (goInt n)
              | _, _ => stuck "" : Sem Value).run P w = .ok (.int .i64 n) w) → ((d matches .string) = true ∧ (v matches .string _) = true ∨ (d matches .slice _) = true ∧ (v matches .slice ..) = true) →
              (execOp a.eval o).run P w = .ok (.value (.int .i64 n)) w := by
            intro v n d hv hd hr hsh
            have h2 : (Builtin.len_ c.argTypes o.type #[v]).run P w = .ok (.int .i64 n) w := by
              simp only [Builtin.len_, ht]
              refine (bind_ok (run_underlying hd w)).trans ?_
              have := hr w
              rcases hsh with ⟨h1, h2⟩ | ⟨h1, h2⟩
              · cases d <;> simp at h1
                cases v <;> simp at h2
                exact this
              · cases d <;> simp at h1
                cases v <;> simp at h2
                exact this
            have e : (#[x] : Array Operand).map a.eval = #[v] := by simp [hS.evv hv]
            simp only [execOp, ho, resolve, hcal, ha, e]
            refine (bind_ok rfl).trans ?_
            simp only [invoke, builtin]
            exact bind_ok h2
          split at h
          · rename_i sz ag z e' hf
            split at h
            · rename_i A n cc hx
              simp only [Option.some.injEq] at h; subst h
              exact ⟨_, run _ n _ hx (find_ok hE hf).2.2.2 (fun _ => rfl) (.inr ⟨rfl, rfl⟩), rfl⟩
            · simp at h
          · rename_i sz ag z hf
            split at h
            · rename_i s' hx
              simp only [Option.some.injEq] at h; subst h
              exact ⟨_, run _ s'.size _ hx (find_ok hE hf).2.2.2 (fun _ => rfl) (.inl ⟨rfl, rfl⟩), rfl⟩
            · simp at h
          · simp at h
        · simp at h
      · simp at h
    · simp at h
  ·
    rename_i s' d x ho
    split at h
    · rename_i sz ag z k0 hf
      split at h
      · rename_i sz2 ag2 z2 k hf2
        split at h
        · rename_i kk n hx
          simp only [Option.some.injEq] at h; subst h
          refine ⟨.int k (k.wrap n), exec_v (s := convert s' d (a.eval x)) (by simp only [execOp, ho]) ?_, rfl⟩
          rw [hS.evv hx]
          simp only [convert]
          refine (bind_ok (run_underlying (find_ok hE hf).2.2.2 w)).trans ?_
          refine (bind_ok (run_underlying (find_ok hE hf2).2.2.2 w)).trans ?_
          rfl
        · simp at h
      · simp at h
    · simp at h
  ·
    rename_i x ho
    have e := hS.ev x
    split at h
    · rename_i k off hx
      simp only [Option.some.injEq] at h; subst h
      rw [hx] at e
      exact ⟨_, by simp only [execOp, ho, show a.eval x = _ from e]; rfl, rfl⟩
    · rename_i b o' cells off hx
      simp only [Option.some.injEq] at h; subst h
      rw [hx] at e
      exact ⟨_, by simp only [execOp, ho, show a.eval x = _ from e.1]; rfl, rfl, e.2⟩
    · simp at h
  ·
    rename_i t parts ho
    split at h
    · rename_i sz ag z fs hf
      cases hall : fs.toList.all (fun fd => (find fd.type E).isSome) with
      | false => simp [hall] at h
      | true =>
      simp only [hall, cond_true] at h
      split at h
      · rename_i cs hb
        simp only [Option.some.injEq] at h; subst h
        obtain ⟨h1, h2, h3, h4⟩ := find_ok hE hf
        refine ⟨.agg cs.toArray, exec_v (s := Instr.build t (parts.map fun (i, x) => (i, a.eval x))) (by simp only [execOp, ho]) ?_, rfl⟩
        have hpl : ∃ pl : Array (Nat × Nat), (fs.mapM fun f => (do pure (f.offset, ← sizeOf f.type) : Sem (Nat × Nat))).run P w = .ok pl w ∧ ∀ (i : Nat) fd e, fs.toList[i]? = some fd → find fd.type E = some e → pl[i]? = some (fd.offset, e.sz) := by
          obtain ⟨l, hl1, hl2⟩ := mapM_sizes hE fs.toList (fun fd hfd => List.all_eq_true.1 hall fd hfd) w
          refine ⟨l.toArray, ?_, fun i fd e hi he => by simpa using hl2 i fd e hi he⟩
          rw [Array.mapM_eq_mapM_toList]
          simp only [Functor.map]
          exact bind_ok hl1
        obtain ⟨pl, hp1, hp2⟩ := hpl
        simp only [Instr.build]
        refine (bind_ok (h3 w)).trans ?_
        refine (bind_ok (run_underlying h4 w)).trans ?_
        refine (bind_ok hp1).trans ?_
        have := evBuild_ok hE (ρ := ρ) (U := U) (m := parts.toList.map fun (i, x) => (i, a.eval x)) hb (by simp) (fun i x y hx hy => by
          simp only [List.getElem?_map, Option.map_eq_some_iff] at hx hy
          obtain ⟨p, hp, rfl⟩ := hx
          obtain ⟨p', hp', rfl⟩ := hy
          rw [hp] at hp'
          obtain rfl := Option.some.inj hp'
          exact ⟨rfl, hS.ev p.2⟩) (pl[·]?) (by simpa using hp2)
        have e2 : (parts.map fun (x : Nat × Operand) => (x.1, a.eval x.2)).toList = parts.toList.map fun (x : Nat × Operand) => (x.1, a.eval x.2) := by simp
        simp only [Value.cells, e2]
        simp only [Array.toArray_toList] at this
        rw [this]; rfl
      · simp at h
    · simp at h
  · simp at h

theorem stepK_ok (hE : EnvOk P E) (hD : ∀ t b, σ.D t = some b → a.tmps[t]? = some (.bool b)) (hS : Sat σ U F a w ρ hs G) {o : Oper} {s : SV} (h : stepK E σ o.op = some s) :
    ∃ y, (execOp a.eval o).run P w = .ok (.value y) w ∧ s.is ρ U y := stepK_see hE hD (hS.see o.op) h
end
end Go.Rx
end

section
namespace Go.Rx

theorem Hp.one_some {g b : Nat} {o x : Obj} (h : Hp.one g o b = some x) : b = g ∧ x = o := by
  unfold Hp.one at h; split at h <;> simp_all

theorem Joins.set {U F G : Hp} {hs : Nat → Hp} {w w' : World} (h : Joins (fam U F G hs) w) {k g : Nat} {o o' : Obj} (hk : hs k = Hp.one g o)
    (hw : ∀ b, w'.heap[b]? = if b = g then some o' else w.heap[b]?) : Joins (fam U F G (upd hs k (Hp.one g o'))) w' := by
  have hg : hs k g = some o := by rw [hk]; simp [Hp.one]
  have other : ∀ i, i ≠ Part.k k → ∀ b x, fam U F G hs i b = some x → b ≠ g := by
    intro i hi b x hx e
    subst e
    exact hi (h.one i (.k k) b x o hx hg)
  have same : ∀ i, i ≠ Part.k k → fam U F G (upd hs k (Hp.one g o')) i = fam U F G hs i := by
    intro i hi
    cases i with
    | k d =>
      have : d ≠ k := fun e => hi (by rw [e])
      simp only [fam, upd_ne _ _ _ this]
    | _ => rfl
  have mine : fam U F G (upd hs k (Hp.one g o')) (.k k) = Hp.one g o' := by simp only [fam, upd_same]
  refine ⟨?_, ?_, ?_⟩
  · intro i b x hx
    by_cases hi : i = .k k
    · subst hi; rw [mine] at hx
      obtain ⟨rfl, rfl⟩ := Hp.one_some hx
      rw [hw, if_pos rfl]
    · rw [same i hi] at hx
      rw [hw, if_neg (other i hi b x hx)]
      exact h.sub i b x hx
  · intro b x hx
    rw [hw] at hx
    split at hx
    · rename_i e; subst e
      exact ⟨.k k, by rw [mine]; simpa [Hp.one] using hx⟩
    · rename_i e
      obtain ⟨i, hi⟩ := h.all b x hx
      refine ⟨i, ?_⟩
      have : i ≠ .k k := by
        intro e'; subst e'
        have : hs k b = some x := hi
        rw [hk] at this
        exact e (Hp.one_some this).1
      rw [same i this]; exact hi
  · intro i j b x y hx hy
    by_cases hi : i = .k k <;> by_cases hj : j = .k k
    · rw [hi, hj]
    · subst hi; rw [mine] at hx; rw [same j hj] at hy
      exact absurd (Hp.one_some hx).1 (other j hj b y hy)
    · subst hj; rw [mine] at hy; rw [same i hi] at hx
      exact absurd (Hp.one_some hy).1 (other i hi b x hx)
    · rw [same i hi] at hx; rw [same j hj] at hy
      exact h.one i j b x y hx hy

theorem Joins.new {U F G : Hp} {hs : Nat → Hp} {w w' : World} (h : Joins (fam U F G hs) w) (k : Nat) (o : Obj)
    (hw : ∀ b, w'.heap[b]? = if b = w.heap.size then some o else w.heap[b]?) : ∃ G', Joins (fam U F G' (upd hs k (Hp.one w.heap.size o))) w' := by
  refine ⟨fun b => match G b with | some x => some x | none => hs k b, ?_⟩
  have lt : ∀ i b x, fam U F G hs i b = some x → b ≠ w.heap.size := by
    intro i b x hx e
    have := h.sub i b x hx
    rw [e] at this
    simp at this

  have was : ∀ i b x, fam U F (fun b => match G b with | some x => some x | none => hs k b) (upd hs k (Hp.one w.heap.size o)) i b = some x →
      (i = .k k ∧ b = w.heap.size ∧ x = o) ∨ (i = .g ∧ fam U F G hs (.k k) b = some x) ∨ (i ≠ .k k ∧ fam U F G hs i b = some x) := by
    intro i b x hx
    cases i with
    | u => exact .inr (.inr ⟨by simp, hx⟩)
    | f => exact .inr (.inr ⟨by simp, hx⟩)
    | g =>
      simp only [fam] at hx
      cases hG : G b with
      | some y => rw [hG] at hx; exact .inr (.inr ⟨by simp, by simp only [fam]; rw [hG]; exact hx⟩)
      | none => rw [hG] at hx; exact .inr (.inl ⟨rfl, hx⟩)
    | k d =>
      by_cases e : d = k
      · subst e
        simp only [fam, upd_same] at hx
        obtain ⟨rfl, rfl⟩ := Hp.one_some hx
        exact .inl ⟨rfl, rfl, rfl⟩
      · simp only [fam, upd_ne _ _ _ e] at hx
        exact .inr (.inr ⟨by simpa using e, hx⟩)
  refine ⟨?_, ?_, ?_⟩
  · intro i b x hx
    rw [hw]
    rcases was i b x hx with ⟨-, rfl, rfl⟩ | ⟨-, h1⟩ | ⟨-, h1⟩
    · rw [if_pos rfl]
    · rw [if_neg (lt _ _ _ h1)]; exact h.sub _ _ _ h1
    · rw [if_neg (lt _ _ _ h1)]; exact h.sub _ _ _ h1
  · intro b x hx
    rw [hw] at hx
    split at hx
    · rename_i e; subst e
      exact ⟨.k k, by simp only [fam, upd_same, Hp.one, if_pos]; exact hx⟩
    · rename_i e
      obtain ⟨i, hi⟩ := h.all b x hx
      cases i with
      | u => exact ⟨.u, hi⟩
      | f => exact ⟨.f, hi⟩
      | g => exact ⟨.g, by simp only [fam] at hi ⊢; rw [hi]⟩
      | k d =>
        by_cases e' : d = k
        · subst e'
          refine ⟨.g, ?_⟩
          simp only [fam] at hi ⊢
          cases hG : G b with
          | none => exact hi
          | some y => have := h.one .g (.k d) b y x hG hi; simp at this
        · exact ⟨.k d, by simp only [fam, upd_ne _ _ _ e']; exact hi⟩
  · intro i j b x y hx hy
    rcases was i b x hx with ⟨h1, h2, -⟩ | ⟨h1, h2⟩ | ⟨h1, h2⟩ <;> rcases was j b y hy with ⟨g1, g2, -⟩ | ⟨g1, g2⟩ | ⟨g1, g2⟩
    · rw [h1, g1]
    · exact absurd h2 (lt _ _ _ g2)
    · exact absurd h2 (lt _ _ _ g2)
    · exact absurd g2 (lt _ _ _ h2)
    · rw [h1, g1]
    · have := h.one _ _ _ _ _ h2 g2; exact absurd this.symm g1
    · exact absurd g2 (lt _ _ _ h2)
    · have := h.one _ _ _ _ _ h2 g2; exact absurd this h1
    · exact h.one _ _ _ _ _ h2 g2

def Sym.newBox (σ : Sym) (d : Nat) (t : TypeId) (cells : List Value) : Sym :=
  { n := σ.n, K := upd (fun t => (σ.K t).kill d) d (.bp d 0), D := upd σ.D d none, M := upd σ.M d (.box t cells), pin := upd σ.pin d none }

def oneCell : Value → Bool
  | .agg _ => false
  | .tuple _ => false
  | _ => true

def putCells : List Value → Nat → List Value → List Value
  | cells, _, [] => cells
  | cells, off, v :: r => putCells (cells.set off v) (off + 1) r

theorem putCells_length : ∀ (vs cells : List Value) (off : Nat), (putCells cells off vs).length = cells.length
  | [], cells, off => rfl
  | v :: r, cells, off => by rw [putCells, putCells_length r]; simp

theorem run_store1 {P : Program} {w : World} {a : Addr} {v old : Value} (hv : oneCell v = true) (hc : w.cell? a = some old) (hf : w.frozen? a = false) : (store a v).run P w = .ok () (w.setCell a v) := by
  cases v <;> simp [oneCell] at hv <;> simp [store, Sem.run, hc, hf]

theorem setCell_block {w : World} {g off : Nat} {cells : List Value} {ty : TypeId} {v : Value} (h : w.heap[g]? = some (.cells cells.toArray ty (0, 0))) (b : Nat) :
    (w.setCell ⟨g, off, none⟩ v).heap[b]? = if b = g then some (.cells (cells.set off v).toArray ty (0, 0)) else w.heap[b]? := by
  simp only [World.setCell, Array.getElem?_modify]
  by_cases e : b = g
  · subst e; simp [h]
  · rw [if_neg (fun h => e h.symm), if_neg e]

theorem run_storeCells {P : Program} {g : Nat} {ty : TypeId} : ∀ (vs cells : List Value) (w : World) (base i : Nat), vs.all oneCell = true → base + i + vs.length ≤ cells.length → w.heap[g]? = some (.cells cells.toArray ty (0, 0)) →
    ∃ w', (storeCells ⟨g, base, none⟩ vs i).run P w = .ok () w' ∧ (∀ b, w'.heap[b]? = if b = g then some (.cells (putCells cells (base + i) vs).toArray ty (0, 0)) else w.heap[b]?) ∧ Same w w' ∧ w'.heap.size = w.heap.size
  | [], cells, w, base, i, _, _, h => ⟨w, rfl, fun b => by by_cases e : b = g <;> simp [e, putCells, h], Same.refl w, rfl⟩
  | v :: r, cells, w, base, i, hv, hl, h => by
    simp only [List.all_cons, Bool.and_eq_true] at hv
    simp only [List.length_cons] at hl
    have hc : w.cell? ⟨g, base + i, none⟩ = some cells[base + i] := by
      simp [World.cell?, h]
    have hf : w.frozen? ⟨g, base + i, none⟩ = false := by simp [World.frozen?, h]
    have h1 := setCell_block (off := base + i) (v := v) h
    obtain ⟨w', e1, e2, e3, e4⟩ := run_storeCells (P := P) r (cells.set (base + i) v) (w.setCell ⟨g, base + i, none⟩ v) base (i + 1) hv.2 (by simp; omega) (by rw [h1, if_pos rfl])
    refine ⟨w', ?_, ?_, ?_, ?_⟩
    · simp only [storeCells, add_plain]
      exact (bind_ok (run_store1 hv.1 hc hf)).trans e1
    · intro b
      rw [e2 b, h1 b]
      by_cases e : b = g
      · simp [e, putCells, Nat.add_assoc]
      · simp [e]
    · exact Same.trans (b := w.setCell ⟨g, base + i, none⟩ v) ⟨rfl, rfl, rfl⟩ e3
    · rw [e4]; simp [World.setCell]

def step (E : Env) (o : Oper) (σ : Sym) : Option Sym :=
  match o.op with
  | .alloc t => match o.dst with
    | some d => match find t E with
      | some e => bif Nat.blt d σ.n then some (σ.newBox d t e.zero.cells.toList) else none
      | none => none
    | none => none
  | .box t x => match o.dst with
    | some d => match ev σ x with
      | .v val => bif Nat.blt d σ.n then some (σ.newBox d t val.cells.toList) else none
      | _ => none
    | none => none
  | .store t p x => match o.dst with
    | none => match ev σ p with
      | .bp k off => match σ.M k with
        | .box ty cells => match find t E with
          | some e => match ev σ x with
            | .v val => bif Nat.beq val.cells.size e.sz && (Nat.ble (off + val.cells.size) cells.length && val.cells.toList.all oneCell) then
                some { σ with M := upd σ.M k (.box ty (putCells cells off val.cells.toList)) } else none
            | _ => none
          | none => none
        | _ => none
      | _ => none
    | some _ => none
  | op => match stepK E σ op with
    | some s => match o.dst with
      | some d => bif Nat.blt d σ.n then some (σ.set d s) else none
      | none => some σ
    | none => none

end Go.Rx
end

section
namespace Go.Rx

structure Ctx where
  P : Program
  E : Env
  ok : EnvOk P E
  F : Hp
  U0 : Hp
  w0 : World
  fn : Func
  post : Sym → Hp → Prop
  hm : P.follows .mixedOrders = true

def Hd (C : Ctx) (σ : Sym) (U : Hp) (a : Act) (w : World) : Prop := Holds σ U C.F C.w0 a w ∧ Ext C.U0 U

theorem execOp_unit {P : Program} {a : Act} {o : Oper} {s : Sem Unit} {w w' : World} (he : execOp a.eval o = (do s; pure .skip : Sem Next)) (h : s.run P w = .ok () w') : (execOp a.eval o).run P w = .ok .skip w' := by
  rw [he]; exact bind_ok h

section
variable {C : Ctx} {σ σ' : Sym} {U : Hp} {a : Act} {w : World}

theorem Holds.newBox {U F : Hp} {w0 : World} (h : Holds σ U F w0 a w) {d : Nat} (hd : d < σ.n) (t : TypeId) (cells : List Value) :
    Holds (σ.newBox d t cells) U F w0 (a.put (some d) (.pointer (some ⟨w.heap.size, 0, none⟩))) (w.alloc (.cells cells.toArray t (0, 0))) := by
  obtain ⟨ρ, hs, G, hS⟩ := h.sat
  have hw : ∀ b, (w.alloc (.cells cells.toArray t (0, 0))).heap[b]? = if b = w.heap.size then some (.cells cells.toArray t (0, 0)) else w.heap[b]? := by
    intro b
    simp only [World.alloc]
    rw [Array.getElem?_push]
  obtain ⟨G', hJ⟩ := hS.J.new d _ hw
  refine ⟨by simp [Act.put, Sym.newBox, h.size], h.defers, h.run.trans ⟨rfl, rfl, rfl⟩, ?_, fun k => if k = d then w.heap.size else ρ k, _, G', ?_, ?_, hJ, ?_⟩
  · intro t b hb
    by_cases e : t = d
    · subst e; simp [Sym.newBox, upd_same] at hb
    · simp only [Sym.newBox, upd_ne _ _ _ e] at hb
      simp only [Act.put]
      rw [Array.getElem?_setIfInBounds_ne (fun h => e h.symm)]
      exact h.dec t b hb
  · intro t
    by_cases e : t = d
    · subst e
      refine .inr ⟨.pointer (some ⟨w.heap.size, 0, none⟩), ?_, ?_⟩
      · simp [Act.put, h.size, hd]
      · simp [Sym.newBox, upd_same, SV.is]
    · simp only [Sym.newBox, upd_ne _ _ _ e, Act.put]
      rw [Array.getElem?_setIfInBounds_ne (fun h => e h.symm)]
      rcases hS.K t with hu | ⟨y, hy, hi⟩
      · left; rw [hu]; rfl
      · right; exact ⟨y, hy, SV.is_kill d _ hi⟩
  · intro k
    by_cases e : k = d
    · subst e; simp only [Sym.newBox, upd_same, Res.sat, if_pos]
    · simp only [Sym.newBox, upd_ne _ _ _ e, if_neg e]
      exact hS.M k
  · intro k g hp
    by_cases e : k = d
    · subst e; simp [Sym.newBox, upd_same] at hp
    · simp only [Sym.newBox, upd_ne _ _ _ e] at hp
      simp only [if_neg e]; exact hS.pin k g hp

theorem step_ok (hE : EnvOk C.P C.E) {o : Oper} (h : step C.E o σ = some σ') (hH : Hd C σ U a w) (Q : Exit → Act → World → Prop) : o.wp C.P a w (fun a' w' => Hd C σ' U a' w') Q := by
  obtain ⟨hh, hx⟩ := hH
  obtain ⟨ρ, hs, G, hS⟩ := hh.sat
  unfold step at h
  split at h
  · rename_i t ho
    split at h
    · rename_i d hd
      split at h
      · rename_i e he
        cases hn : Nat.blt d σ.n with
        | false => simp [hn] at h
        | true =>
          simp only [hn, cond_true, Option.some.injEq] at h
          subst h
          have hn' : d < σ.n := by simpa [Nat.blt_eq] using hn
          obtain ⟨-, -, h3, -⟩ := find_ok hE he
          have : (execOp a.eval o).run C.P w = .ok (.value (.pointer (some ⟨w.heap.size, 0, none⟩))) (w.alloc (.cells e.zero.cells t (0, 0))) := by
            have hr : (Instr.alloc t true (.tuple #[])).run C.P w = .ok (.pointer (some ⟨w.heap.size, 0, none⟩)) (w.alloc (.cells e.zero.cells t (0, 0))) := by
              simp only [Instr.alloc]
              refine (bind_ok (h3 w)).trans ?_
              rfl
            simp only [execOp, ho]
            exact bind_ok hr
          unfold Oper.wp
          rw [this, Oper.upon_value, hd]
          refine ⟨?_, hx⟩
          have := hh.newBox hn' t e.zero.cells.toList
          simpa using this
      · simp at h
    · simp at h
  · rename_i t x ho
    split at h
    · rename_i d hd
      split at h
      · rename_i val hv
        cases hn : Nat.blt d σ.n with
        | false => simp [hn] at h
        | true =>
          simp only [hn, cond_true, Option.some.injEq] at h
          subst h
          have hn' : d < σ.n := by simpa [Nat.blt_eq] using hn
          have : (execOp a.eval o).run C.P w = .ok (.value (.pointer (some ⟨w.heap.size, 0, none⟩))) (w.alloc (.cells val.cells t (0, 0))) := by
            simp only [execOp, ho, hS.evv hv]
            rfl
          unfold Oper.wp
          rw [this, Oper.upon_value, hd]
          refine ⟨?_, hx⟩
          have := hh.newBox hn' t val.cells.toList
          simpa using this
      · simp at h
    · simp at h
  · rename_i t p x ho
    split at h
    · rename_i hd
      split at h
      · rename_i k off hp
        split at h
        · rename_i ty cells hm
          split at h
          · rename_i e he
            split at h
            · rename_i val hv
              cases hc : (Nat.beq val.cells.size e.sz && (Nat.ble (off + val.cells.size) cells.length && val.cells.toList.all oneCell)) with
              | false => rw [hc] at h; simp at h
              | true =>
                simp only [hc, cond_true, Option.some.injEq] at h
                subst h
                simp only [Bool.and_eq_true, Nat.beq_eq, Nat.ble_eq] at hc
                obtain ⟨hc1, hc2, hc3⟩ := hc
                obtain ⟨g1, -, -, -⟩ := find_ok hE he
                obtain ⟨w', e1, e2, e3, e4⟩ := run_storeCells (P := C.P) val.cells.toList cells w off 0 hc3 (by simpa using hc2) (hS.boxed hm)
                have hpv : a.eval p = .pointer (some ⟨ρ k, off, none⟩) := by have := hS.ev p; rw [hp] at this; exact this
                have : (execOp a.eval o).run C.P w = .ok .skip w' := by
                  refine execOp_unit (s := Instr.storeAt t (a.eval p) (a.eval x)) (by simp only [execOp, ho]) ?_
                  rw [hpv, hS.evv hv]
                  simp only [Instr.storeAt, Instr.sureAddr]
                  refine (bind_ok rfl).trans ?_
                  have hn : ¬ val.cells.size ≠ e.sz := by simpa using hc1
                  simp only [storeVar, Sem.run_bind, g1 w]
                  show Sem.run C.P (if val.cells.size ≠ e.sz then _ else _) w = _
                  rw [if_neg hn]
                  exact e1
                unfold Oper.wp
                rw [this, Oper.upon_skip, hd]
                refine ⟨⟨hh.size, hh.defers, hh.run.trans e3, hh.dec, ρ, upd hs k (Hp.one (ρ k) (.cells (putCells cells off val.cells.toList).toArray ty (0, 0))), G, hS.K, ?_, ?_, hS.pin⟩, hx⟩
                · intro k'
                  by_cases e' : k' = k
                  · subst e'; simp only [upd_same, Res.sat]
                  · simp only [upd_ne _ _ _ e']; exact hS.M k'
                · have hk := hS.M k
                  rw [hm] at hk
                  exact hS.J.set hk (by simpa using e2)
            · simp at h
          · simp at h
        · simp at h
      · simp at h
    · simp at h
  · split at h
    · rename_i s hs'
      obtain ⟨y, hy, hi⟩ := stepK_ok hE hh.dec hS hs'
      split at h
      · rename_i d hd
        cases hn : Nat.blt d σ.n with
        | false => simp [hn] at h
        | true =>
          simp only [hn, cond_true, Option.some.injEq] at h
          subst h
          have hn' : d < σ.n := by simpa [Nat.blt_eq] using hn
          unfold Oper.wp
          rw [hy, Oper.upon_value, hd]
          refine ⟨?_, hx⟩
          exact hh.put hn' (s := s) (y := y) fun ρ' hs'' G' hS' => by
            obtain ⟨y', hy', hi'⟩ := stepK_ok hE hh.dec hS' hs'
            rw [hy] at hy'
            simp only [Result.ok.injEq, Next.value.injEq, and_true] at hy'
            rw [hy']; exact hi'
      · rename_i hd
        simp only [Option.some.injEq] at h
        subst h
        unfold Oper.wp
        rw [hy, Oper.upon_value, hd]
        exact ⟨hh, hx⟩
    · simp at h
end

section
variable {P : Program} {ops : Array Oper} {Q : Exit → Act → World → Prop} {md : Region.Mode} {S : World → Prop} {ds : List Nat}

def wpAnyD (P : Program) (md : Region.Mode) (ops : Array Oper) (Q : Exit → Act → World → Prop) (S : World → Prop) (ds : List Nat) : Nat → Array Bool → Act → World → Prop
  | 0, listed, a, w => Region.ready md ops listed = [] ∧ Q .normal a w
  | n + 1, listed, a, w => (Region.ready md ops listed = [] → Q .normal a w) ∧
    ∀ i ∈ Region.ready md ops listed, wpOp P ops Q i (fun a' w' => (ds.contains i = false → S w') ∧ wpAnyD P md ops Q S ds n (listed.setIfInBounds i true) a' w') a w
theorem wpAnyD.any : ∀ (n : Nat) (listed : Array Bool) (a : Act) (w : World), wpAnyD P md ops Q S ds n listed a w → wpAny P md ops Q n listed a w
  | 0, _, _, _, h => h
  | n + 1, _, _, _, h => ⟨h.1, fun i hi => wpOp_mono (fun a' w' h' => wpAnyD.any n _ a' w' h'.2) (h.2 i hi)⟩

def reachD (md : Region.Mode) (ops : Array Oper) (i : Nat) : Nat → Nat → Bool
  | 0, _ => false
  | n + 1, d => match ops[d]? with
    | some o => o.after.any fun e => Region.binds md e && (e.on == i || reachD md ops i n e.on)
    | none => false

def waits (md : Region.Mode) (ops : Array Oper) (ds : List Nat) (l : Array Bool) (i : Nat) : Bool := ds.all fun d => l.getD d false || reachD md ops i ops.size d
theorem getD_up {l : Array Bool} {j : Nat} : ∀ k, l.getD k false = true → (l.setIfInBounds j true).getD k false = true := by
  intro k hk
  simp only [Array.getD_eq_getD_getElem?, Array.getElem?_setIfInBounds] at hk ⊢
  split
  · split
    · rfl
    · rename_i e hlt
      subst e
      rw [Array.getElem?_eq_none (by omega)] at hk; cases hk
  · exact hk
theorem waits_set {l : Array Bool} {i j : Nat} (h : waits md ops ds l i = true) : waits md ops ds (l.setIfInBounds j true) i = true := by
  refine List.all_eq_true.2 fun d hd => ?_
  have := List.all_eq_true.1 h d hd
  simp only [Bool.or_eq_true] at this ⊢
  exact this.imp (getD_up d) id

def closedD (md : Region.Mode) (ops : Array Oper) (l : Array Bool) : Bool := (List.range ops.size).all fun j => !l.getD j false || match ops[j]? with
  | some o => o.after.all fun e => !Region.binds md e || l.getD e.on false
  | none => true
theorem closedD_of {l : Array Bool} (h : closedD md ops l = true) {j : Nat} {o : Oper} (hj : ops[j]? = some o) (hl : l.getD j false = true) : ∀ e ∈ o.after, Region.binds md e = true → l.getD e.on false = true := by
  intro e he hb
  have hlt := (Array.getElem?_eq_some_iff.1 hj).1
  have := List.all_eq_true.1 h j (by simpa using hlt)
  simp only [hl, Bool.not_true, Bool.false_or, hj] at this
  have := Array.all_eq_true_iff_forall_mem.1 this e he
  simpa [hb] using this
theorem closedD_set {l : Array Bool} (h : closedD md ops l = true) {j : Nat} {o : Oper} (hj : ops[j]? = some o) (hall : ∀ e ∈ o.after, Region.binds md e = true → l.getD e.on false = true) : closedD md ops (l.setIfInBounds j true) = true := by
  have up := getD_up (l := l) (j := j)
  refine List.all_eq_true.2 fun k hk => ?_
  cases hl : (l.setIfInBounds j true).getD k false with
  | false => rfl
  | true =>
    simp only [Bool.not_true, Bool.false_or]
    cases ho : ops[k]? with
    | none => rfl
    | some o' =>
      refine Array.all_eq_true_iff_forall_mem.2 fun e he => ?_
      cases hb : Region.binds md e with
      | false => rfl
      | true =>
        simp only [Bool.not_true, Bool.false_or]
        apply up
        by_cases hkj : k = j
        · subst hkj
          rw [hj] at ho
          simp only [Option.some.injEq] at ho
          subst ho
          exact hall e he hb
        · refine closedD_of h ho ?_ e he hb
          simp only [Array.getD_eq_getD_getElem?] at hl ⊢
          rw [Array.getElem?_setIfInBounds_ne (fun e => hkj e.symm)] at hl
          exact hl
theorem reachD_listed {l : Array Bool} (h : closedD md ops l = true) {i : Nat} : ∀ {n d : Nat} {o : Oper}, ops[d]? = some o → (∀ e ∈ o.after, Region.binds md e = true → l.getD e.on false = true) → reachD md ops i n d = true → l.getD i false = true
  | 0, d, o, _, _, hr => by simp [reachD] at hr
  | n + 1, d, o, ho, hall, hr => by
    simp only [reachD, ho, Array.any_eq_true'] at hr
    obtain ⟨e, he, hb⟩ := hr
    simp only [Bool.and_eq_true, Bool.or_eq_true, beq_iff_eq] at hb
    have h1 := hall e he hb.1
    rcases hb.2 with h2 | h2
    · rw [h2] at h1; exact h1
    · cases ho' : ops[e.on]? with
      | none =>
        cases n with
        | zero => simp [reachD] at h2
        | succ n => simp [reachD, ho'] at h2
      | some o' => exact reachD_listed h ho' (closedD_of h ho' h1) h2

theorem wpAnyD_first {i : Nat} {oi : Oper} {v : Value} (hi : ops[i]? = some oi) (hsel : ∀ (j : Nat) (o : Oper) cs b, ops[j]? = some o → o.op ≠ .select cs b)
    (hQ : ∀ c a w, Q (.panic c) (a.put oi.dst v) w → Q (.panic c) a w) :
    ∀ (n : Nat) (listed : Array Bool) (a : Act) (w : World), waits md ops ds listed i = true → closedD md ops listed = true →
      (∀ j oj, ops[j]? = some oj → j ≠ i → listed.getD j true = false → (∀ e ∈ oj.after, Region.binds md e = true → e.on ≠ i) → oi.apart ops oj = true) →
      i ∈ Region.ready md ops listed → YieldsIf P ops S oi v a → S w →
      wpAnyD P md ops Q S ds n (listed.setIfInBounds i true) (a.put oi.dst v) w → wpAnyD P md ops Q S ds (n + 1) listed a w := by
  intro n
  induction n with
  | zero =>
    intro listed a w _ _ _ hr hy hS H
    refine ⟨fun h => (by rw [h] at hr; cases hr), fun j hj => ?_⟩
    by_cases hji : j = i
    · subst hji; exact hy.wpOp hi hS ⟨fun _ => hS, H⟩
    · have := ready_mono hj hji
      rw [H.1] at this
      cases this
  | succ n ih =>
    intro listed a w hds hcl hfree hr hy hS H
    refine ⟨fun h => (by rw [h] at hr; cases hr), fun j hj => ?_⟩
    by_cases hji : j = i
    · subst hji; exact hy.wpOp hi hS ⟨fun _ => hS, H⟩
    · have h1 := H.2 j (ready_mono hj hji)
      obtain ⟨hjun, oj, hoj, hall⟩ := mem_ready.1 hj
      have hnot : ∀ e ∈ oj.after, Region.binds md e = true → e.on ≠ i := fun e he hb heq => by
        have h1 := hall e he hb
        have h0 := (mem_ready.1 hr).1
        rw [heq] at h1
        rcases Nat.lt_or_ge i listed.size with h' | h'
        · simp [h'] at h0 h1; rw [h0] at h1; cases h1
        · simp [Array.getElem?_eq_none h'] at h1
      have hjd : ds.contains j = false := by
        cases hc : ds.contains j with
        | false => rfl
        | true =>
          have := List.all_eq_true.1 hds j (by simpa using hc)
          have hju : listed.getD j false = false := by
            rcases Nat.lt_or_ge j listed.size with h' | h'
            · simp [h'] at hjun ⊢; exact hjun
            · simp [Array.getElem?_eq_none h']
          rw [hju, Bool.false_or] at this
          have h1 := reachD_listed hcl hoj hall this
          have h0 := (mem_ready.1 hr).1
          rcases Nat.lt_or_ge i listed.size with h' | h'
          · simp [h'] at h0 h1; rw [h0] at h1; cases h1
          · simp [Array.getElem?_eq_none h'] at h1
      have h2 := wpOp_putIf hoj (hfree j oj hoj hji hjun hnot) (fun cs b => hsel i oi cs b hi) (fun cs b => hsel j oj cs b hoj) hQ hy h1
      have hfree' : ∀ k ok, ops[k]? = some ok → k ≠ i → (listed.setIfInBounds j true).getD k true = false →
          (∀ e ∈ ok.after, Region.binds md e = true → e.on ≠ i) → oi.apart ops ok = true := fun k ok hk hki hun hno => by
        refine hfree k ok hk hki ?_ hno
        by_cases hjk : j = k
        · subst hjk; exact hjun
        · rw [getD_set_ne true hjk] at hun; exact hun
      refine wpOp_mono (fun a' w' h3 => ⟨h3.2.1, ih (listed.setIfInBounds j true) a' w' (waits_set hds) (closedD_set hcl hoj hall) hfree' (ready_mono hr (Ne.symm hji)) h3.1 (h3.2.1 hjd) ?_⟩) h2
      rw [Array.setIfInBounds_comm _ _ hji]
      exact h3.2.2

theorem wpAnyD_firstP {i : Nat} {oi : Oper} {v : Value} (hi : ops[i]? = some oi) (hsel : ∀ (j : Nat) (o : Oper) cs b, ops[j]? = some o → o.op ≠ .select cs b)
    (hQ : ∀ c a w, Q (.panic c) (a.put oi.dst v) w → Q (.panic c) a w) (hids : ds.contains i = true) :
    ∀ (n : Nat) (listed : Array Bool) (a : Act) (w : World),
      (∀ j oj, ops[j]? = some oj → j ≠ i → listed.getD j true = false → (∀ e ∈ oj.after, Region.binds md e = true → e.on ≠ i) → oi.apart ops oj = true) →
      i ∈ Region.ready md ops listed → YieldsIf P ops (fun _ => True) oi v a →
      wpAnyD P md ops Q S ds n (listed.setIfInBounds i true) (a.put oi.dst v) w → wpAnyD P md ops Q S ds (n + 1) listed a w := by
  intro n
  induction n with
  | zero =>
    intro listed a w _ hr hy H
    refine ⟨fun h => (by rw [h] at hr; cases hr), fun j hj => ?_⟩
    by_cases hji : j = i
    · subst hji; exact hy.wpOp hi trivial ⟨fun h => (by rw [hids] at h; cases h), H⟩
    · have := ready_mono hj hji
      rw [H.1] at this
      cases this
  | succ n ih =>
    intro listed a w hfree hr hy H
    refine ⟨fun h => (by rw [h] at hr; cases hr), fun j hj => ?_⟩
    by_cases hji : j = i
    · subst hji; exact hy.wpOp hi trivial ⟨fun h => (by rw [hids] at h; cases h), H⟩
    · have h1 := H.2 j (ready_mono hj hji)
      obtain ⟨hjun, oj, hoj, hall⟩ := mem_ready.1 hj
      have hnot : ∀ e ∈ oj.after, Region.binds md e = true → e.on ≠ i := fun e he hb heq => by
        have h1 := hall e he hb
        have h0 := (mem_ready.1 hr).1
        rw [heq] at h1
        rcases Nat.lt_or_ge i listed.size with h' | h'
        · simp [h'] at h0 h1; rw [h0] at h1; cases h1
        · simp [Array.getElem?_eq_none h'] at h1
      have h2 := wpOp_putIf hoj (hfree j oj hoj hji hjun hnot) (fun cs b => hsel i oi cs b hi) (fun cs b => hsel j oj cs b hoj) hQ hy h1
      have hfree' : ∀ k ok, ops[k]? = some ok → k ≠ i → (listed.setIfInBounds j true).getD k true = false →
          (∀ e ∈ ok.after, Region.binds md e = true → e.on ≠ i) → oi.apart ops ok = true := fun k ok hk hki hun hno => by
        refine hfree k ok hk hki ?_ hno
        by_cases hjk : j = k
        · subst hjk; exact hjun
        · rw [getD_set_ne true hjk] at hun; exact hun
      refine wpOp_mono (fun a' w' h3 => ⟨h3.2.1, ih (listed.setIfInBounds j true) a' w' hfree' (ready_mono hr (Ne.symm hji)) h3.1 ?_⟩) h2
      rw [Array.setIfInBounds_comm _ _ hji]
      exact h3.2.2
end

inductive Item
  | c (x : Code)
  | o (ops : Array Oper) (l : List Nat)
  | b (id : Nat)
  | i (I : Act → World → Prop)
  | a (ops : Array Oper) (fuel : Nat) (listed : Array Bool) (S : World → Prop) (ds : List Nat)

def kont (P : Program) : List Item → (Act → World → Prop) → Exit → Act → World → Prop
  | [], R, .normal, a, w => R a w
  | [], R, .ret, a, w => R a w
  | [], _, _, _, _ => False
  | .c x :: s, R, .normal, a, w => x.wp P (kont P s R) a w
  | .c _ :: s, R, e, a, w => kont P s R e a w
  | .o ops l :: s, R, .normal, a, w => wpOps P ops (kont P s R) l a w
  | .o _ _ :: s, R, e, a, w => kont P s R e a w
  | .b id :: s, R, .exit id', a, w => if id' = id then kont P s R .normal a w else kont P s R (.exit id') a w
  | .b _ :: s, R, e, a, w => kont P s R e a w
  | .a ops n listed S ds :: s, R, .normal, a, w => wpAnyD P .any ops (kont P s R) S ds n listed a w
  | .a .. :: s, R, e, a, w => kont P s R e a w
  | .i I :: _, _, .normal, a, w => I a w
  | .i _ :: s, R, e, a, w => kont P s R e a w

def Fin (C : Ctx) (a : Act) (w : World) : Prop := ∃ σ U, Hd C σ U a w ∧ C.post σ U

structure J (C : Ctx) (s : List Item) (σ : Sym) (U : Hp) : Prop where
  out : ∀ a w, Hd C σ U a w → kont C.P s (Fin C) .normal a w

section
variable {C : Ctx} {σ : Sym} {U : Hp} {s : List Item}

theorem J.nil (h : C.post σ U) : J C [] σ U := ⟨fun a w hh => ⟨σ, U, hh, h⟩⟩

theorem J.skip (h : J C s σ U) : J C (.c .skip :: s) σ U := ⟨fun a w hh => wp_skip (h.out a w hh)⟩
theorem J.label {l : Nat} (h : J C s σ U) : J C (.c (.label l) :: s) σ U := ⟨fun a w hh => wp_label (h.out a w hh)⟩
theorem J.seq {x y : Code} (h : J C (.c x :: .c y :: s) σ U) : J C (.c (.seq x y) :: s) σ U :=
  ⟨fun a w hh => wp_seq (wp_mono (h.out a w hh) fun e a w q => by cases e <;> exact q)⟩
theorem J.block {id : Nat} {x : Code} (h : J C (.c x :: .b id :: s) σ U) : J C (.c (.block id x) :: s) σ U :=
  ⟨fun a w hh => wp_block (wp_mono (h.out a w hh) fun e a w q => by cases e <;> exact q)⟩
theorem J.endBlock {id : Nat} (h : J C s σ U) : J C (.b id :: s) σ U := ⟨fun a w hh => h.out a w hh⟩
theorem J.endOps {ops : Array Oper} (h : J C s σ U) : J C (.o ops [] :: s) σ U := ⟨fun a w hh => h.out a w hh⟩
theorem J.region {id : Nat} {ops : Array Oper} (h : J C (.o ops (List.range ops.size) :: s) σ U) : J C (.c (.region id ops false) :: s) σ U :=
  ⟨fun a w hh => wp_region (h.out a w hh)⟩

def popTo (id : Nat) : List Item → Option (List Item)
  | [] => none
  | .b id' :: s => bif Nat.beq id' id then some s else popTo id s
  | _ :: s => popTo id s

theorem popTo_ok {P : Program} {id : Nat} {R : Act → World → Prop} {a : Act} {w : World} : ∀ {s s' : List Item}, popTo id s = some s' → kont P s' R .normal a w → kont P s R (.exit id) a w
  | [], _, h, _ => by simp [popTo] at h
  | .b id' :: s, s', h, k => by
    simp only [popTo] at h
    cases hb : Nat.beq id' id with
    | true =>
      rw [hb] at h
      simp at h; subst h
      have : id' = id := Nat.eq_of_beq_eq_true hb
      simp only [kont, this, if_true]; exact k
    | false =>
      rw [hb] at h
      have : ¬ id = id' := fun e => by subst e; simp at hb
      simp only [kont, this, if_false]
      exact popTo_ok (by simpa using h) k
  | .c _ :: s, s', h, k => by simp only [kont]; exact popTo_ok (by simpa [popTo] using h) k
  | .o _ _ :: s, s', h, k => by simp only [kont]; exact popTo_ok (by simpa [popTo] using h) k
  | .i _ :: s, s', h, k => by simp only [kont]; exact popTo_ok (by simpa [popTo] using h) k
  | .a .. :: s, s', h, k => by simp only [kont]; exact popTo_ok (by simpa [popTo] using h) k

theorem J.exit {id : Nat} {s' : List Item} (hp : popTo id s = some s') (h : J C s' σ U) : J C (.c (.exit id) :: s) σ U :=
  ⟨fun a w hh => wp_exit (popTo_ok hp (h.out a w hh))⟩

theorem kont_ret {P : Program} {R : Act → World → Prop} {a : Act} {w : World} (h : R a w) : ∀ s : List Item, kont P s R .ret a w
  | [] => h
  | .c _ :: s => kont_ret h s
  | .o _ _ :: s => kont_ret h s
  | .b _ :: s => kont_ret h s
  | .i _ :: s => kont_ret h s
  | .a .. :: s => kont_ret h s

theorem J.ret (h : C.post σ U) : J C (.c .ret :: s) σ U := ⟨fun a w hh => wp_ret (kont_ret ⟨σ, U, hh, h⟩ s)⟩

def Sym.known (σ : Sym) (t : Nat) (b : Bool) : Sym := { σ with K := upd σ.K t (.v (.bool b)), D := upd σ.D t (some b) }

theorem Hd.known {a : Act} {w : World} {t : Nat} {b : Bool} (h : Hd C σ U a w) (hk : σ.K t = .v (.bool b)) : Hd C (σ.known t b) U a w := by
  obtain ⟨hh, hx⟩ := h
  obtain ⟨ρ, hs, G, hS⟩ := hh.sat
  have ht : a.tmps[t]? = some (.bool b) := by
    rcases hS.K t with hu | ⟨y, hy, hi⟩
    · rw [hk] at hu; cases hu
    · rw [hk] at hi; rw [hy, show y = _ from hi]
  refine ⟨⟨hh.size, hh.defers, hh.run, ?_, ρ, hs, G, ?_, hS.M, hS.J, hS.pin⟩, hx⟩
  · intro t' b' hb
    by_cases e : t' = t
    · subst e; simp only [Sym.known, upd_same, Option.some.injEq] at hb; subst hb; exact ht
    · simp only [Sym.known, upd_ne _ _ _ e] at hb; exact hh.dec t' b' hb
  · intro t'
    by_cases e : t' = t
    · subst e; exact .inr ⟨_, ht, by simp only [Sym.known, upd_same]; rfl⟩
    · simp only [Sym.known, upd_ne _ _ _ e]; exact hS.K t'

theorem J.cond {t : Nat} {x y : Code} {b : Bool} (hk : σ.K t = .v (.bool b)) (ht : b = true → J C (.c x :: s) (σ.known t true) U) (hf : b = false → J C (.c y :: s) (σ.known t false) U) :
    J C (.c (.cond (.tmp t) x y) :: s) σ U := by
  refine ⟨fun a w hh => ?_⟩
  have h1 := hh.known hk
  obtain ⟨ρ, hs, G, hS⟩ := hh.1.sat
  have he : a.eval (.tmp t) = .bool b := hS.evv hk
  cases b with
  | true => exact wp_cond_true he ((ht rfl).out a w h1)
  | false => exact wp_cond_false he ((hf rfl).out a w h1)

theorem J.condD {t : Nat} {x y : Code} {b : Bool} (hk : σ.D t = some b) (h : J C (.c (bif b then x else y) :: s) σ U) : J C (.c (.cond (.tmp t) x y) :: s) σ U := by
  refine ⟨fun a w hh => ?_⟩
  have he : a.eval (.tmp t) = .bool b := by simp [Act.eval, hh.1.dec t b hk]
  cases b with
  | true => exact wp_cond_true he (h.out a w hh)
  | false => exact wp_cond_false he (h.out a w hh)

theorem Hd.tup {a : Act} {w : World} (h : Hd C σ U a w) : ∀ t vs, σ.K t = .v (.tuple vs) → a.tmps[t]? = some (.tuple vs) := by
  intro t vs ht
  obtain ⟨ρ, hs, G, hS⟩ := h.1.sat
  rcases hS.K t with hu | ⟨y, hy, hi⟩
  · rw [ht] at hu; cases hu
  · rw [ht] at hi; rw [hy, show y = _ from hi]

def gd (ops : List Oper) (σ : Sym) (o : Oper) : Option Bool :=
  match o.guard with
  | none => some true
  | some (j, want) => match ops[j]? with
    | some oj => match oj.dst with
      | some t => match σ.D t with
        | some b => some (b == want)
        | none => match σ.K t with
          | .v (.tuple _) => some false
          | _ => none
      | none => none
    | none => none

theorem gd_ok {ops : Array Oper} {o : Oper} {r : Bool} (h : gd ops.toList σ o = some r) {a : Act} (hD : ∀ t b, σ.D t = some b → a.tmps[t]? = some (.bool b)) (hK : ∀ t vs, σ.K t = .v (.tuple vs) → a.tmps[t]? = some (.tuple vs)) : Region.wanted o (yielded ops a.tmps) = r := by
  unfold gd at h
  unfold Region.wanted
  split at h
  · rename_i hg
    simp at h; subst h; rw [hg]
  · rename_i j want hg
    rw [hg]
    split at h
    · rename_i oj hoj
      split at h
      · rename_i t ht
        split at h
        · rename_i b hb
          simp at h; subst h
          have : ops[j]? = some oj := by simpa using hoj
          simp [yielded, this, ht, hD t b hb]
        · split at h
          · rename_i vs hv
            simp at h; subst h
            have : ops[j]? = some oj := by simpa using hoj
            simp [yielded, this, ht, hK t vs hv]
          · simp at h
      · simp at h
    · simp at h

theorem wpOp_step {P : Program} {ops : Array Oper} {Q : Exit → Act → World → Prop} {i : Nat} {l : List Nat} {a : Act} {w : World} {o : Oper} (hi : ops.toList[i]? = some o)
    (hw : Region.wanted o (yielded ops a.tmps) = true) (h : o.wp P a w (wpOps P ops Q l) Q) : wpOps P ops Q (i :: l) a w := by
  have hi' : ops[i]? = some o := by simpa using hi
  simp only [wpOps, hi', hw, if_true]; exact .inl h

theorem J.step {ops : Array Oper} {i : Nat} {l : List Nat} {o : Oper} {σ' : Sym} (hi : ops.toList[i]? = some o) (hg : gd ops.toList σ o = some true) (hs : step C.E o σ = some σ')
    (h : J C (.o ops l :: s) σ' U) : J C (.o ops (i :: l) :: s) σ U := by
  refine ⟨fun a w hh => wpOp_step hi (gd_ok hg hh.1.dec hh.tup) ?_⟩
  exact Oper.wp_mono (fun a' w' h' => h.out a' w' h') (step_ok C.ok hs hh _)

def Sym.unset (σ : Sym) : Option Tmp → Sym
  | none => σ
  | some d => { σ with K := upd σ.K d (bif Nat.blt d σ.n then .v (.tuple #[]) else .unk), D := upd σ.D d none }

theorem Hd.unset {a : Act} {w : World} (h : Hd C σ U a w) (d : Option Tmp) : Hd C (σ.unset d) U (a.put d undef) w := by
  cases d with
  | none => exact h
  | some d =>
    obtain ⟨hh, hx⟩ := h
    obtain ⟨ρ, hs, G, hS⟩ := hh.sat
    refine ⟨⟨by simp [Act.put, Sym.unset, hh.size], hh.defers, hh.run, ?_, ρ, hs, G, ?_, hS.M, hS.J, hS.pin⟩, hx⟩
    · intro t b hb
      by_cases e : t = d
      · subst e; simp [Sym.unset, upd_same] at hb
      · simp only [Sym.unset, upd_ne _ _ _ e] at hb
        simp only [Act.put]
        rw [Array.getElem?_setIfInBounds_ne (fun h => e h.symm)]
        exact hh.dec t b hb
    · intro t
      by_cases e : t = d
      · subst e
        cases hb : Nat.blt t σ.n with
        | false => left; simp only [Sym.unset, upd_same, hb, cond_false]
        | true =>
          have hd : t < σ.n := by simpa [Nat.blt_eq] using hb
          right; exact ⟨undef, by simp [Act.put, hh.size, hd], by simp only [Sym.unset, upd_same, hb, cond_true]; rfl⟩
      · simp only [Sym.unset, upd_ne _ _ _ e, Act.put]
        rw [Array.getElem?_setIfInBounds_ne (fun h => e h.symm)]
        exact hS.K t

theorem J.pass {ops : Array Oper} {i : Nat} {l : List Nat} {o : Oper} (hi : ops.toList[i]? = some o) (hg : gd ops.toList σ o = some false)
    (h : J C (.o ops l :: s) (σ.unset o.dst) U) : J C (.o ops (i :: l) :: s) σ U := by
  refine ⟨fun a w hh => ?_⟩
  have hi' : ops[i]? = some o := by simpa using hi
  have hw := gd_ok hg hh.1.dec hh.tup
  show wpOps C.P ops _ (i :: l) a w
  simp only [wpOps, hi', hw, if_false, Bool.false_eq_true]
  exact h.out _ _ (hh.unset o.dst)

def go (E : Env) : Nat → List Item → Sym → List Item × Sym
  | 0, s, σ => (s, σ)
  | n + 1, .c x :: s, σ => match x with
    | .skip => go E n s σ
    | .label _ => go E n s σ
    | .seq x y => go E n (.c x :: .c y :: s) σ
    | .block id x => go E n (.c x :: .b id :: s) σ
    | .region _ ops false => go E n (.o ops (List.range ops.size) :: s) σ
    | .exit id => match popTo id s with
      | some s' => go E n s' σ
      | none => (.c (.exit id) :: s, σ)
    | .cond (.tmp t) x y => match σ.D t with
      | some true => go E n (.c x :: s) σ
      | some false => go E n (.c y :: s) σ
      | none => (.c (.cond (.tmp t) x y) :: s, σ)
    | x => (.c x :: s, σ)
  | n + 1, .b _ :: s, σ => go E n s σ
  | n + 1, .o ops [] :: s, σ => go E n s σ
  | n + 1, .o ops (i :: l) :: s, σ => match ops.toList[i]? with
    | some o => match gd ops.toList σ o with
      | some true => match step E o σ with
        | some σ' => go E n (.o ops l :: s) σ'
        | none => (.o ops (i :: l) :: s, σ)
      | some false => go E n (.o ops l :: s) (σ.unset o.dst)
      | none => (.o ops (i :: l) :: s, σ)
    | none => (.o ops (i :: l) :: s, σ)
  | _ + 1, s, σ => (s, σ)

theorem J.go : ∀ (n : Nat) {s : List Item} {σ : Sym}, J C (go C.E n s σ).1 (go C.E n s σ).2 U → J C s σ U
  | 0, s, σ, h => h
  | n + 1, [], σ, h => h
  | n + 1, .i I :: s, σ, h => h
  | n + 1, .a .. :: s, σ, h => h
  | n + 1, .b id :: s, σ, h => .endBlock (J.go n h)
  | n + 1, .o ops [] :: s, σ, h => .endOps (J.go n h)
  | n + 1, .o ops (i :: l) :: s, σ, h => by
    simp only [Rx.go] at h
    split at h
    · rename_i o ho
      split at h
      · rename_i hg
        split at h
        · rename_i σ' hs
          exact .step ho hg hs (J.go n h)
        · exact h
      · rename_i hg
        exact .pass ho hg (J.go n h)
      · exact h
    · exact h
  | n + 1, .c x :: s, σ, h => by
    simp only [Rx.go] at h
    split at h
    · exact .skip (J.go n h)
    · exact .label (J.go n h)
    · exact .seq (J.go n h)
    · exact .block (J.go n h)
    · exact .region (J.go n h)
    · split at h
      · rename_i s' hp; exact .exit hp (J.go n h)
      · exact h
    · split at h
      · rename_i hd; exact .condD hd (J.go n h)
      · rename_i hd; exact .condD hd (J.go n h)
      · exact h
    · exact h
end
end Go.Rx
end

section
namespace Go.Rx

def ofL {α : Type} (d : α) : List (Nat × α) → Nat → α
  | [], _ => d
  | (k, x) :: r, t => bif Nat.beq t k then x else ofL d r t

def Sym.of (n : Nat) (KL : List (Nat × SV)) (ML : List (Nat × Res)) : Sym := ⟨n, ofL .unk KL, fun _ => none, ofL .none ML, fun _ => none⟩

theorem ofL_mem {α : Type} {d : α} : ∀ {l : List (Nat × α)} {t : Nat}, ofL d l t = d ∨ (t, ofL d l t) ∈ l
  | [], t => .inl rfl
  | (k, x) :: r, t => by
    simp only [ofL]
    cases h : Nat.beq t k with
    | true => right; simp; left; exact Nat.eq_of_beq_eq_true h
    | false =>
      rcases ofL_mem (l := r) (t := t) with h1 | h1
      · left; simpa using h1
      · right; simp; right; simpa using h1

theorem Joins.drop {U F G : Hp} {hs : Nat → Hp} {w : World} (h : Joins (fam U F G hs) w) (keep : Nat → Bool) : ∃ G', Joins (fam U F G' (fun k => bif keep k then hs k else Hp.emp)) w := by
  classical
  let bad (b : Nat) (x : Obj) : Prop := G b = some x ∨ ∃ k, keep k = false ∧ hs k b = some x
  refine ⟨fun b => if h : ∃ x, bad b x then some (Classical.choose h) else none, ?_⟩
  have gin : ∀ b x, (if h : ∃ x, bad b x then some (Classical.choose h) else none) = some x → bad b x := by
    intro b x hx
    split at hx
    · rename_i hh
      have := Classical.choose_spec hh
      simp only [Option.some.injEq] at hx
      rwa [hx] at this
    · cases hx
  have kin : ∀ k b x, (bif keep k then hs k else Hp.emp) b = some x → keep k = true ∧ hs k b = some x := by
    intro k b x hx
    cases hk : keep k with
    | true => rw [hk] at hx; exact ⟨rfl, hx⟩
    | false => rw [hk] at hx; simp [Hp.emp] at hx
  have old : ∀ i b x, fam U F (fun b => if h : ∃ x, bad b x then some (Classical.choose h) else none) (fun k => bif keep k then hs k else Hp.emp) i b = some x →
      (i = .g ∧ bad b x) ∨ (i ≠ .g ∧ fam U F G hs i b = some x ∧ ∀ k, i = .k k → keep k = true) := by
    intro i b x hx
    cases i with
    | u => exact .inr ⟨by simp, hx, by simp⟩
    | f => exact .inr ⟨by simp, hx, by simp⟩
    | g => exact .inl ⟨rfl, gin b x hx⟩
    | k d =>
      obtain ⟨h1, h2⟩ := kin d b x hx
      exact .inr ⟨by simp, h2, fun k e => by cases e; exact h1⟩
  have badin : ∀ b x, bad b x → ∃ i, fam U F G hs i b = some x ∧ (i = .g ∨ ∃ k, i = .k k ∧ keep k = false) := by
    rintro b x (hg | ⟨k, hk, hx⟩)
    · exact ⟨.g, hg, .inl rfl⟩
    · exact ⟨.k k, hx, .inr ⟨k, rfl, hk⟩⟩
  refine ⟨?_, ?_, ?_⟩
  · intro i b x hx
    rcases old i b x hx with ⟨-, hb⟩ | ⟨-, h1, -⟩
    · obtain ⟨j, hj, -⟩ := badin b x hb; exact h.sub j b x hj
    · exact h.sub i b x h1
  · intro b x hx
    obtain ⟨i, hi⟩ := h.all b x hx
    have toG : bad b x → ∃ i, fam U F (fun b => if h : ∃ x, bad b x then some (Classical.choose h) else none) (fun k => bif keep k then hs k else Hp.emp) i b = some x := by
      intro hb
      refine ⟨.g, ?_⟩
      show (if h : ∃ x, bad b x then some (Classical.choose h) else none) = some x
      rw [dif_pos ⟨x, hb⟩]
      have h2 := Classical.choose_spec (⟨x, hb⟩ : ∃ x, bad b x)
      obtain ⟨j1, e1, -⟩ := badin _ _ h2
      have s1 := h.sub j1 b _ e1
      rw [hx] at s1
      exact s1.symm
    cases i with
    | u => exact ⟨.u, hi⟩
    | f => exact ⟨.f, hi⟩
    | g => exact toG (.inl hi)
    | k d =>
      cases hk : keep d with
      | false => exact toG (.inr ⟨d, hk, hi⟩)
      | true => exact ⟨.k d, by simp only [fam, hk, cond_true]; exact hi⟩
  · intro i j b x y hx hy
    rcases old i b x hx with ⟨i1, hb⟩ | ⟨i1, h1, h1k⟩ <;> rcases old j b y hy with ⟨j1, hb'⟩ | ⟨j1, h2, h2k⟩
    · rw [i1, j1]
    · obtain ⟨q, hq, hqk⟩ := badin b x hb
      have := h.one q j b x y hq h2
      subst this
      rcases hqk with rfl | ⟨k, rfl, hk⟩
      · exact absurd rfl j1
      · rw [h2k k rfl] at hk; cases hk
    · obtain ⟨q, hq, hqk⟩ := badin b y hb'
      have := h.one q i b y x hq h1
      subst this
      rcases hqk with rfl | ⟨k, rfl, hk⟩
      · exact absurd rfl i1
      · rw [h1k k rfl] at hk; cases hk
    · exact h.one i j b x y h1 h2

section
variable {C : Ctx} {σ : Sym} {U : Hp} {s : List Item}

structure Ent (σ : Sym) (n : Nat) (KL : List (Nat × SV)) (ML : List (Nat × Res)) : Prop where
  n : σ.n = n
  K : ∀ p ∈ KL, σ.K p.1 = p.2
  M : ∀ p ∈ ML, σ.M p.1 = p.2

theorem Hd.weak {n : Nat} {KL : List (Nat × SV)} {ML : List (Nat × Res)} (he : Ent σ n KL ML) {a : Act} {w : World} (h : Hd C σ U a w) : Hd C (Sym.of n KL ML) U a w := by
  obtain ⟨hh, hx⟩ := h
  obtain ⟨ρ, hs, G, hS⟩ := hh.sat
  obtain ⟨G', hJ⟩ := hS.J.drop (fun k => match ofL .none ML k with | .none => false | _ => true)
  refine ⟨⟨hh.size.trans he.n, hh.defers, hh.run, fun t b h => by simp [Sym.of] at h, ρ, _, G', ?_, ?_, hJ, fun k g h => by simp [Sym.of] at h⟩, hx⟩
  · intro t
    rcases ofL_mem (d := SV.unk) (l := KL) (t := t) with h1 | h1
    · left; exact h1
    · have := he.K _ h1
      simp only at this
      show ofL SV.unk KL t = .unk ∨ _
      rw [← this]
      rcases hS.K t with hu | hy
      · left; exact hu
      · right; simp only [Sym.of]; rw [← this]; exact hy
  · intro k
    rcases ofL_mem (d := Res.none) (l := ML) (t := k) with h1 | h1
    · simp only [Sym.of, h1]; intro b; rfl
    · have := he.M _ h1
      simp only at this
      simp only [Sym.of]
      have hm := hS.M k
      rw [this] at hm
      cases hr : ofL Res.none ML k with
      | none => intro b; rfl
      | box ty cells => rw [hr] at hm; exact hm
      | own p => rw [hr] at hm; exact hm

theorem J.weak {n : Nat} {KL : List (Nat × SV)} {ML : List (Nat × Res)} (he : Ent σ n KL ML) (h : J C s (Sym.of n KL ML) U) : J C s σ U :=
  ⟨fun a w hh => h.out a w (hh.weak he)⟩

theorem least {p : Nat → Prop} (h : ∃ n, p n) : ∃ n, p n ∧ ∀ m, p m → n ≤ m := by
  obtain ⟨n, hn⟩ := h
  induction n using Nat.strongRecOn with
  | _ n ih =>
    by_cases hx : ∃ m, m < n ∧ p m
    · obtain ⟨m, hm, hp⟩ := hx
      exact ih m hm hp
    · exact ⟨n, hn, fun m hm => Nat.le_of_not_lt fun hlt => hx ⟨m, hlt, hm⟩⟩

theorem wp_loop_n {P : Program} {Q : Exit → Act → World → Prop} {a : Act} {w : World} {c : Code} (I : Nat → Act → World → Prop) (n : Nat) (h₀ : I n a w)
    (round : ∀ n a w, I n a w → c.wp P (Exit.then (fun a' w' => ∃ m, m < n ∧ I m a' w') Q) a w) : (Code.loop c).wp P Q a w := by
  classical
  let ms (a : Act) (w : World) : Nat := if h : ∃ n, I n a w then Classical.choose (least h) else 0
  refine wp_loop (fun a w => ∃ n, I n a w) ms ⟨n, h₀⟩ ?_
  rintro a w ⟨m, hm⟩
  have hex : ∃ n, I n a w := ⟨m, hm⟩
  have e1 : ms a w = Classical.choose (least hex) := by simp only [ms]; rw [dif_pos hex]
  refine wp_mono (round _ a w (Classical.choose_spec (least hex)).1) ?_
  intro e a' w' q
  cases e with
  | normal =>
    obtain ⟨k, hk, hi⟩ := q
    have hex' : ∃ n, I n a' w' := ⟨k, hi⟩
    refine ⟨hex', ?_⟩
    have e2 : ms a' w' = Classical.choose (least hex') := by simp only [ms]; rw [dif_pos hex']
    rw [e1, e2]
    exact Nat.lt_of_le_of_lt ((Classical.choose_spec (least hex')).2 k hi) hk
  | _ => exact q

def Again {α : Type} (C : Ctx) (T : α → Sym) (I : α → Hp → Prop) (μ : α → Nat) (m : Nat) (a : Act) (w : World) : Prop := ∃ y U, Hd C (T y) U a w ∧ I y U ∧ μ y < m

theorem kont_exit {P : Program} {R : Act → World → Prop} {Inv : Act → World → Prop} {s : List Item} {e : Exit} {a : Act} {w : World} (h : kont P (.i Inv :: s) R e a w) : Exit.then Inv (kont P s R) e a w := by
  cases e <;> exact h

theorem J.loop {α : Type} (T : α → Sym) (I : α → Hp → Prop) (μ : α → Nat) {body : Code} (x0 : α) (h0 : I x0 U) (hT : ∀ a w, Hd C σ U a w → Hd C (T x0) U a w)
    (round : ∀ x U', I x U' → Ext C.U0 U' → J C (.c body :: .i (Again C T I μ (μ x)) :: s) (T x) U') : J C (.c (.loop body) :: s) σ U := by
  refine ⟨fun a w hh => ?_⟩
  refine wp_loop_n (fun n a w => ∃ y U, Hd C (T y) U a w ∧ I y U ∧ μ y = n) (μ x0) ⟨x0, U, hT a w hh, h0, rfl⟩ ?_
  rintro n a w ⟨y, U', hy, hi, rfl⟩
  refine wp_mono ((round y U' hi hy.2).out a w hy) ?_
  intro e a' w' q
  have := kont_exit q
  cases e with
  | normal =>
    obtain ⟨z, U'', h1, h2, h3⟩ := this
    exact ⟨μ z, h3, z, U'', h1, h2, rfl⟩
  | _ => exact this

theorem J.again {α : Type} {T : α → Sym} {I : α → Hp → Prop} {μ : α → Nat} {m : Nat} (y : α) (hT : ∀ a w, Hd C σ U a w → Hd C (T y) U a w) (hi : I y U) (hm : μ y < m) :
    J C (.i (Again C T I μ m) :: s) σ U := ⟨fun a w hh => ⟨y, U, hT a w hh, hi, hm⟩⟩
end
end Go.Rx
end

section
namespace Go.Rx

abbrev noHs : Nat → Hp := fun _ => Hp.emp

def Entr (P : Program) (f : FuncId) : Prop := ∀ (args : Array Value) (w : World), (callFunc f args).run P w = .ok (.enter f args) w
theorem entr_of {P : Program} {f : FuncId} {fn : Func} {c : Code} (hf : P.funcs[f]? = some fn) (hname : (fn.name == "runtime.NumGoroutine") = false) (hb : fn.body = some c) : Entr P f := by
  intro args w
  have h1 : fn.name ≠ "runtime.NumGoroutine" := by simpa using hname
  simp [callFunc, hf, h1, hb, mark]

def OCall (P : Program) (f : FuncId) (args : Array Value) (U : Hp) (R : Value → Hp → Hp → Prop) : Prop :=
  Entr P f ∧ ∀ w F, Joins (fam U F Hp.emp noHs) w → Calls P f args w fun e w' => ∃ v U' L G, e = .returned v ∧ Ext U U' ∧ R v U' L ∧ Joins (fam U' F G (upd noHs 0 L)) w' ∧ Same w w'

def PCall (P : Program) (f : FuncId) (args : Array Value) (U : Hp) (R : Value → Hp → Prop) : Prop := OCall P f args U fun v U' L => R v U'

theorem OCall.mono {P : Program} {f : FuncId} {args : Array Value} {U : Hp} {R R' : Value → Hp → Hp → Prop} (h : OCall P f args U R) (hr : ∀ v U' L, Ext U U' → R v U' L → R' v U' L) : OCall P f args U R' :=
  ⟨h.1, fun w F hw => (h.2 w F hw).mono fun e w' ⟨v, U', L, G, h1, h2, h3, h4, h5⟩ => ⟨v, U', L, G, h1, h2, hr v U' L h2 h3, h4, h5⟩⟩
theorem PCall.mono {P : Program} {f : FuncId} {args : Array Value} {U : Hp} {R R' : Value → Hp → Prop} (h : PCall P f args U R) (hr : ∀ v U', Ext U U' → R v U' → R' v U') : PCall P f args U R' :=
  OCall.mono h fun v U' L hx h => hr v U' hx h

def evRes (E : Env) (σ : Sym) : List ResultVar → Option (List Value)
  | [] => some []
  | .tmp t :: r => match σ.K t with
    | .v x => match evRes E σ r with | some l => some (x :: l) | none => none
    | _ => none
  | .cell a t :: r => match σ.K a with
    | .bp k off => match σ.M k with
      | .box _ cells => match evPart E t cells off with
        | some x => match evRes E σ r with | some l => some (x :: l) | none => none
        | none => none
      | _ => none
    | _ => none
def resV : List Value → Value
  | [x] => x
  | l => .tuple l.toArray

theorem evRes_ok {P : Program} {E : Env} (hE : EnvOk P E) {σ : Sym} {U F : Hp} {a : Act} {w : World} {ρ : Nat → Nat} {hs : Nat → Hp} {G : Hp} (hS : Sat σ U F a w ρ hs G) :
    ∀ {rs : List ResultVar} {l : List Value}, evRes E σ rs = some l →
      (rs.mapM fun (r : ResultVar) => (match r with | .tmp t => (pure (a.tmps.getD t undef) : Sem Value) | .cell x t => do loadVar t (← asAddr (a.tmps.getD x undef)))).run P w = .ok l w
  | [], l, h => by simp [evRes] at h; subst h; rfl
  | .tmp t :: r, l, h => by
    simp only [evRes] at h
    split at h
    · rename_i x hx
      split at h
      · rename_i l' hl
        simp at h; subst h
        have h1 := evRes_ok hE hS hl
        have h2 : a.tmps.getD t undef = x := hS.evv (x := .tmp t) hx
        simp only [List.mapM_cons]
        rw [h2]
        exact (bind_ok (w := w) (w' := w) rfl).trans (bind_ok h1)
      · simp at h
    · simp at h
  | .cell x t :: r, l, h => by
    simp only [evRes] at h
    split at h
    · rename_i k off hk
      split at h
      · rename_i ty cells hm
        split at h
        · rename_i v hv
          split at h
          · rename_i l' hl
            simp at h; subst h
            have h1 := evRes_ok hE hS hl
            have h2 : a.tmps.getD x undef = .pointer (some ⟨ρ k, off, none⟩) := by
              have := hS.ev (.tmp x)
              rw [show Rx.ev σ (.tmp x) = _ from hk] at this
              exact this
            have h3 := run_part hE (w := w) (b := ρ k) (o := 0) hv (fun j v hj => by rw [Nat.zero_add, hS.bcell hm]; exact hj)
            rw [Nat.zero_add] at h3
            simp only [List.mapM_cons]
            refine (bind_ok (w' := w) (a := v) ?_).trans ?_
            · show Sem.run P (do loadVar t (← asAddr (a.tmps.getD x undef))) w = _
              rw [h2]
              exact (bind_ok rfl).trans h3
            · exact bind_ok h1
          · simp at h
        · simp at h
      · simp at h
    · simp at h

theorem results_ok {P : Program} {E : Env} (hE : EnvOk P E) {σ : Sym} {U F : Hp} {a : Act} {w : World} {ρ : Nat → Nat} {hs : Nat → Hp} {G : Hp} (hS : Sat σ U F a w ρ hs G) {fn : Func} {l : List Value}
    (h : evRes E σ fn.results.toList = some l) : (results fn a.tmps).run P w = .ok (resV l) w := by
  have h1 := evRes_ok hE hS h
  unfold results
  rw [Array.mapM_eq_mapM_toList]
  refine (bind_ok (w' := w) (a := l.toArray) ?_).trans ?_
  · simp only [Functor.map]
    exact bind_ok h1
  · match l, h with
    | [], _ => rfl
    | [x], _ => rfl
    | x :: y :: r, _ => rfl

def PostO (E : Env) (fn : Func) (R : Value → Hp → Hp → Prop) (σ : Sym) (U : Hp) : Prop :=
  ∃ l, evRes E σ fn.results.toList = some l ∧ ((R (resV l) U Hp.emp) ∨ ∃ d p, σ.M d = .own p ∧ ∀ L, p L → R (resV l) U L)

def initK (args : List Value) : Nat → SV := fun t => match args[t]? with | some v => .v v | none => .unk

theorem fin_body {P : Program} {E : Env} (hE : EnvOk P E) (hmo : P.follows .mixedOrders = true) {fn : Func} {U F : Hp} {w : World} {R : Value → Hp → Hp → Prop} {a' : Act} {w' : World} :
    Fin ⟨P, E, hE, F, U, w, fn, PostO E fn R, hmo⟩ a' w' → bodyPost P fn (fun e w' => ∃ v U' L G, e = .returned v ∧ Ext U U' ∧ R v U' L ∧ Joins (fam U' F G (upd noHs 0 L)) w' ∧ Same w w') .normal a' w' := by
  rintro ⟨σ, U', ⟨hh, hx⟩, l, hl, hr⟩
  obtain ⟨ρ, hs, G, hS⟩ := hh.sat
  refine ⟨hh.defers, resV l, results_ok hE hS hl, resV l, U', ?_⟩
  rcases hr with hr | ⟨d, p, hd, hr⟩
  · obtain ⟨G', hJ⟩ := hS.J.drop (fun _ => false)
    refine ⟨Hp.emp, G', rfl, hx, hr, ?_, hh.run⟩
    have : (upd noHs 0 Hp.emp) = fun k => bif false then hs k else Hp.emp := by
      funext k; unfold upd; cases h : (k == 0) <;> rfl
    rw [this]; exact hJ
  · obtain ⟨G', hJ⟩ := hS.J.drop (fun k => Nat.beq k d)
    have hp := hS.M d
    rw [hd] at hp
    refine ⟨hs d, G', rfl, hx, hr _ hp, ?_, hh.run⟩

    have ren : ∀ i, ∃ j, fam U' F G' (upd noHs 0 (hs d)) i = fam U' F G' (fun k => bif Nat.beq k d then hs k else Hp.emp) j ∧ ((∀ k, i ≠ .k k) → i = j) ∧ (∀ k, i = .k k → (k = 0 ∧ j = .k d) ∨ (∀ b, fam U' F G' (upd noHs 0 (hs d)) i b = none)) := by
      intro i
      cases i with
      | u => exact ⟨.u, rfl, fun _ => rfl, fun k h => by cases h⟩
      | f => exact ⟨.f, rfl, fun _ => rfl, fun k h => by cases h⟩
      | g => exact ⟨.g, rfl, fun _ => rfl, fun k h => by cases h⟩
      | k q =>
        by_cases e : q = 0
        · subst e
          refine ⟨.k d, by simp [fam, upd_same], fun h => absurd rfl (h 0), fun k h => by cases h; exact .inl ⟨rfl, rfl⟩⟩
        · refine ⟨.k (d + 1), ?_, fun h => absurd rfl (h q), fun k h => .inr fun b => by simp [fam, upd_ne _ _ _ e, Hp.emp]⟩
          have h0 : Nat.beq (d + 1) d = false := by
            cases hq : Nat.beq (d + 1) d with
            | false => rfl
            | true => exact absurd (Nat.eq_of_beq_eq_true hq) (by omega)
          show upd noHs 0 (hs d) q = bif Nat.beq (d + 1) d then hs (d + 1) else Hp.emp
          rw [upd_ne _ _ _ e, h0]; rfl
    have un : ∀ j b x, fam U' F G' (fun k => bif Nat.beq k d then hs k else Hp.emp) j b = some x → ∃ i, fam U' F G' (upd noHs 0 (hs d)) i b = some x := by
      intro j b x hx
      cases j with
      | u => exact ⟨.u, hx⟩
      | f => exact ⟨.f, hx⟩
      | g => exact ⟨.g, hx⟩
      | k q =>
        simp only [fam] at hx
        cases hq : Nat.beq q d with
        | false => rw [hq] at hx; simp [Hp.emp] at hx
        | true =>
          rw [hq] at hx
          have : q = d := Nat.eq_of_beq_eq_true hq
          subst this
          exact ⟨.k 0, by show upd noHs 0 (hs q) 0 b = some x; rw [upd_same]; exact hx⟩
    refine ⟨fun i b x hx => ?_, fun b x hx => ?_, fun i j b x y hx hy => ?_⟩
    · obtain ⟨q, hq, -, -⟩ := ren i; rw [hq] at hx; exact hJ.sub q b x hx
    · obtain ⟨q, hq⟩ := hJ.all b x hx; exact un q b x hq
    · obtain ⟨q, hq, hq1, hq2⟩ := ren i
      obtain ⟨r, hr', hr1, hr2⟩ := ren j
      have hx' := hx
      have hy' := hy
      rw [hq] at hx; rw [hr'] at hy
      have := hJ.one q r b x y hx hy
      by_cases ci : ∃ k, i = .k k
      · obtain ⟨k, rfl⟩ := ci
        rcases hq2 k rfl with ⟨rfl, rfl⟩ | h0
        · by_cases cj : ∃ k, j = .k k
          · obtain ⟨k', rfl⟩ := cj
            rcases hr2 k' rfl with ⟨rfl, -⟩ | h0
            · rfl
            · rw [h0 b] at hy'; cases hy'
          · have := hr1 (fun k h => cj ⟨k, h⟩)
            subst this
            exact absurd ‹Part.k d = j›.symm (fun h => cj ⟨d, h⟩)
        · rw [h0 b] at hx'; cases hx'
      · have ei := hq1 (fun k h => ci ⟨k, h⟩)
        subst ei
        by_cases cj : ∃ k, j = .k k
        · obtain ⟨k', rfl⟩ := cj
          rcases hr2 k' rfl with ⟨rfl, rfl⟩ | h0
          · exact absurd this (fun h => ci ⟨d, h⟩)
          · rw [h0 b] at hy'; cases hy'
        · have ej := hr1 (fun k h => cj ⟨k, h⟩)
          rw [this, ej]

theorem initO {P : Program} {E : Env} (hE : EnvOk P E) (hmo : P.follows .mixedOrders = true) {fn : Func} {args : List Value} {U F : Hp} {R : Value → Hp → Hp → Prop} {n : Nat} (hn : fn.ntmps = n) (hl : args.length ≤ n) {w : World} (hw : Joins (fam U F Hp.emp noHs) w) :
    Hd ⟨P, E, hE, F, U, w, fn, PostO E fn R, hmo⟩ ⟨n, initK args, fun _ => none, fun _ => .none, fun _ => none⟩ U { tmps := args.toArray ++ Array.replicate (fn.ntmps - args.toArray.size) undef, defers := [] } w := by
  refine ⟨⟨?_, rfl, Same.refl w, fun t b h => by simp at h, ?_⟩, Ext.refl U⟩
  · simp [hn]; omega
  · refine ⟨fun _ => 0, noHs, Hp.emp, ?_, fun k b => rfl, hw, fun k g h => by simp at h⟩
    intro t
    show (match args[t]? with | some v => SV.v v | none => SV.unk) = _ ∨ _
    cases ht : args[t]? with
    | none => left; simp [initK, ht]
    | some v =>
      right
      refine ⟨v, ?_, by simp [initK, ht, SV.is]⟩
      have hlt : t < args.length := (List.getElem?_eq_some_iff.1 ht).1
      rw [Array.getElem?_append_left (by simpa using hlt)]
      simpa using ht

theorem OCall.of {P : Program} {E : Env} (hE : EnvOk P E) (hmo : P.follows .mixedOrders = true) {f : FuncId} {fn : Func} {code : Code} {args : List Value} {U : Hp} {R : Value → Hp → Hp → Prop} (hf : P.funcs[f]? = some fn) (hname : (fn.name == "runtime.NumGoroutine") = false) (hb : fn.body = some code)
    {n : Nat} (hn : fn.ntmps = n) (hl : args.length ≤ n)
    (h : ∀ F w0, J ⟨P, E, hE, F, U, w0, fn, PostO E fn R, hmo⟩ [.c code] ⟨n, initK args, fun _ => none, fun _ => .none, fun _ => none⟩ U) : OCall P f args.toArray U R := by
  refine ⟨entr_of hf hname hb, ?_⟩
  intro w F hw
  refine calls_of_wp hf hb ?_
  have h1 := (h F w).out { tmps := args.toArray ++ Array.replicate (fn.ntmps - args.toArray.size) undef, defers := [] } w (initO hE hmo hn hl hw)
  · refine wp_mono h1 ?_
    intro e a' w' q
    have fin := @fin_body P E hE hmo fn U F w R a' w'
    cases e with
    | normal => exact fin q
    | ret => exact fin q
    | _ => exact q.elim

def evArgs (σ : Sym) : List Operand → Option (List Value)
  | [] => some []
  | x :: r => match ev σ x with
    | .v v => match evArgs σ r with | some l => some (v :: l) | none => none
    | _ => none

theorem evArgs_ok {σ : Sym} {U F : Hp} {a : Act} {w : World} {ρ : Nat → Nat} {hs : Nat → Hp} {G : Hp} (hS : Sat σ U F a w ρ hs G) : ∀ {xs : List Operand} {l : List Value}, evArgs σ xs = some l → xs.map a.eval = l
  | [], l, h => by simp [evArgs] at h; subst h; rfl
  | x :: r, l, h => by
    simp only [evArgs] at h
    split at h
    · rename_i v hv
      split at h
      · rename_i l' hl
        simp at h; subst h
        simp only [List.map_cons, hS.evv hv, evArgs_ok hS hl]
      · simp at h
    · simp at h

theorem Joins.rest {ι : Type} {hs : ι → Hp} {w : World} (h : Joins hs w) (i : ι) : Joins (fam (hs i) (fun b => match hs i b with | some _ => none | none => w.heap[b]?) Hp.emp noHs) w := by
  refine ⟨fun j b x hx => ?_, fun b x hx => ?_, fun j k b x y hx hy => ?_⟩
  · cases j with
    | u => exact h.sub i b x hx
    | f => simp only [fam] at hx; split at hx <;> first | cases hx | exact hx
    | g => cases hx
    | k d => cases hx
  · cases hi : hs i b with
    | some y =>
      refine ⟨.u, ?_⟩
      have := h.sub i b y hi
      rw [hx] at this
      simp only [fam, hi]; exact this.symm
    | none => exact ⟨.f, by simp only [fam, hi]; exact hx⟩
  · have key : ∀ j, ∀ b x, fam (hs i) (fun b => match hs i b with | some _ => none | none => w.heap[b]?) Hp.emp noHs j b = some x → (j = .u ∧ (hs i b).isSome) ∨ (j = .f ∧ hs i b = none) := by
      intro j b x hx
      cases j with
      | u => exact .inl ⟨rfl, by simp only [fam] at hx; simp [hx]⟩
      | f =>
        right
        refine ⟨rfl, ?_⟩
        simp only [fam] at hx
        split at hx
        · cases hx
        · assumption
      | g => cases hx
      | k d => cases hx
    rcases key j b x hx with ⟨rfl, h1⟩ | ⟨rfl, h1⟩ <;> rcases key k b y hy with ⟨rfl, h2⟩ | ⟨rfl, h2⟩
    · rfl
    · simp [h2] at h1
    · simp [h1] at h2
    · rfl

theorem Joins.back {U F G U' L G' : Hp} {hs : Nat → Hp} {w w' : World} (h : Joins (fam U F G hs) w) {F' : Hp} (hF : ∀ b, F' b = match U b with | some _ => none | none => w.heap[b]?)
    (h' : Joins (fam U' F' G' (upd noHs 0 L)) w') (hx : Ext U U') (d : Nat) : ∃ G2, Joins (fam U' F G2 (upd hs d L)) w' := by

  have inF : ∀ i b x, i ≠ Part.u → fam U F G hs i b = some x → F' b = some x := by
    intro i b x hi hb
    rw [hF]
    cases hu : U b with
    | none => exact h.sub i b x hb
    | some y => exact absurd (h.one i .u b x y hb hu) hi
  refine ⟨fun b => match G b with | some x => some x | none => match hs d b with | some x => some x | none => G' b, ?_⟩
  have was : ∀ i b x, fam U' F (fun b => match G b with | some x => some x | none => match hs d b with | some x => some x | none => G' b) (upd hs d L) i b = some x →
      (i = .u ∧ U' b = some x) ∨ (i = .k d ∧ L b = some x) ∨ (i = .g ∧ G' b = some x) ∨ (i = .g ∧ hs d b = some x) ∨ (i ≠ .u ∧ i ≠ .k d ∧ fam U F G hs i b = some x) := by
    intro i b x hb
    cases i with
    | u => exact .inl ⟨rfl, hb⟩
    | f => exact .inr (.inr (.inr (.inr ⟨by simp, by simp, hb⟩)))
    | g =>
      simp only [fam] at hb
      cases hG : G b with
      | some y => rw [hG] at hb; exact .inr (.inr (.inr (.inr ⟨by simp, by simp, by simp only [fam, hG]; exact hb⟩)))
      | none =>
        rw [hG] at hb
        cases hd : hs d b with
        | some y => simp only [hd] at hb; exact .inr (.inr (.inr (.inl ⟨rfl, by first | exact hb | (rw [hd]; exact hb)⟩)))
        | none => simp only [hd] at hb; exact .inr (.inr (.inl ⟨rfl, hb⟩))
    | k q =>
      by_cases e : q = d
      · subst e; simp only [fam, upd_same] at hb; exact .inr (.inl ⟨rfl, hb⟩)
      · simp only [fam, upd_ne _ _ _ e] at hb; exact .inr (.inr (.inr (.inr ⟨by simp, by simpa using e, hb⟩)))

  have now : ∀ i b x, fam U' F (fun b => match G b with | some x => some x | none => match hs d b with | some x => some x | none => G' b) (upd hs d L) i b = some x →
      (i = .u ∧ fam U' F' G' (upd noHs 0 L) .u b = some x) ∨ (i = .k d ∧ fam U' F' G' (upd noHs 0 L) (.k 0) b = some x) ∨ (i = .g ∧ fam U' F' G' (upd noHs 0 L) .g b = some x) ∨
      (fam U' F' G' (upd noHs 0 L) .f b = some x ∧ ∃ j, fam U F G hs j b = some x ∧ j ≠ .u ∧ ((j = i ∧ i ≠ .k d) ∨ (j = .k d ∧ i = .g))) := by
    intro i b x hb
    rcases was i b x hb with ⟨rfl, h1⟩ | ⟨rfl, h1⟩ | ⟨rfl, h1⟩ | ⟨rfl, h1⟩ | ⟨h0, h0', h1⟩
    · exact .inl ⟨rfl, h1⟩
    · exact .inr (.inl ⟨rfl, by simp only [fam, upd_same]; exact h1⟩)
    · exact .inr (.inr (.inl ⟨rfl, h1⟩))
    · exact .inr (.inr (.inr ⟨inF (.k d) b x (by simp) h1, .k d, h1, by simp, .inr ⟨rfl, rfl⟩⟩))
    · exact .inr (.inr (.inr ⟨inF i b x h0 h1, i, h1, h0, .inl ⟨rfl, h0'⟩⟩))
  refine ⟨fun i b x hb => ?_, fun b x hb => ?_, fun i j b x y hb hc => ?_⟩
  · rcases now i b x hb with ⟨-, h1⟩ | ⟨-, h1⟩ | ⟨-, h1⟩ | ⟨h1, -⟩ <;> exact h'.sub _ _ _ h1
  · obtain ⟨i, hi⟩ := h'.all b x hb
    have cover : F' b = some x → ∃ i, fam U' F (fun b => match G b with | some x => some x | none => match hs d b with | some x => some x | none => G' b) (upd hs d L) i b = some x := by
      intro hf
      have hf0 := hf
      rw [hF] at hf
      split at hf
      · cases hf
      · rename_i hu
        obtain ⟨q, hq⟩ := h.all b x hf
        cases q with
        | u => simp only [fam] at hq; rw [hu] at hq; cases hq
        | f => exact ⟨.f, hq⟩
        | g => simp only [fam] at hq; exact ⟨.g, by simp only [fam, hq]⟩
        | k q =>
          by_cases e : q = d
          · subst e
            refine ⟨.g, ?_⟩
            simp only [fam] at hq ⊢
            cases hG : G b with
            | some z => have := h.one .g (.k q) b z x hG hq; cases this
            | none => simp only [hq]
          · exact ⟨.k q, by simp only [fam, upd_ne _ _ _ e]; exact hq⟩
    cases i with
    | u => exact ⟨.u, hi⟩
    | f => exact cover hi
    | g =>
      refine ⟨.g, ?_⟩
      simp only [fam] at hi ⊢
      cases hG : G b with
      | some z => have := h'.one .g .f b x z hi (inF .g b z (by simp) hG); cases this
      | none =>
        cases hd : hs d b with
        | some z => have := h'.one .g .f b x z hi (inF (.k d) b z (by simp) hd); cases this
        | none => simp only [hd]; exact hi
    | k q =>
      by_cases e : q = 0
      · subst e; simp only [fam, upd_same] at hi; exact ⟨.k d, by simp only [fam, upd_same]; exact hi⟩
      · simp only [fam, upd_ne _ _ _ e] at hi; cases hi
  · rcases now i b x hb with ⟨e1, h1⟩ | ⟨e1, h1⟩ | ⟨e1, h1⟩ | ⟨h1, p, hp, hpu, hpi⟩ <;> rcases now j b y hc with ⟨e2, h2⟩ | ⟨e2, h2⟩ | ⟨e2, h2⟩ | ⟨h2, q, hq, hqu, hqi⟩ <;>
      first
      | (rw [e1, e2]; done)
      | (have := h'.one _ _ _ _ _ h1 h2; cases this; done)
      | skip
    have := h.one p q b x y hp hq
    subst this
    rcases hpi with ⟨e1, n1⟩ | ⟨e1, n1⟩ <;> rcases hqi with ⟨e2, n2⟩ | ⟨e2, n2⟩
    · rw [← e1, ← e2]
    · exact absurd (e1.symm.trans e2) n1
    · exact absurd (e2.symm.trans e1) n2
    · rw [n1, n2]

section
variable {C : Ctx} {σ : Sym} {U : Hp} {s : List Item}

def Sym.ret (σ : Sym) (d : Tmp) (v : Value) : Sym := { σ with K := upd σ.K d (.v v), D := upd σ.D d none }
def Sym.retO (σ : Sym) (d : Tmp) (v : Value) (p : Hp → Prop) : Sym := { n := σ.n, K := upd σ.K d (.v v), D := upd σ.D d none, M := upd σ.M d (.own p), pin := σ.pin }

theorem exec_call {P : Program} {a : Act} {o : Oper} {c : Call} {x : Operand} {f : FuncId} {caps : Array Value} (ho : o.op = .call c) (hc : c.callee = .value x) (hx : a.eval x = .func (.func f) #[] caps) (he : Entr P f) {vs : List Value}
    (hv : c.args.toList.map a.eval = vs) (w : World) : (execOp a.eval o).run P w = .ok (.enter f (vs.toArray ++ caps)) w := by
  have e : c.args.map a.eval = vs.toArray := by rw [← hv, ← Array.toList_map, Array.toArray_toList]
  simp only [execOp, ho, resolve, hc, hx, e, Deferred.ofValue]
  refine (bind_ok (w' := w) rfl).trans ?_
  simp only [invoke, Array.empty_append]
  exact he _ w

def Op1 (C : Ctx) (ops : Array Oper) (i : Nat) (σ : Sym) (U : Hp) (K : Sym → Hp → Prop) : Prop :=
  ∃ o, ops.toList[i]? = some o ∧ gd ops.toList σ o = some true ∧ ∀ a w Q, Hd C σ U a w → o.wp C.P a w (fun a' w' => ∃ σ' U', Hd C σ' U' a' w' ∧ K σ' U') Q

theorem J.one {ops : Array Oper} {i : Nat} {l : List Nat} (h : Op1 C ops i σ U fun σ' U' => J C (.o ops l :: s) σ' U') : J C (.o ops (i :: l) :: s) σ U := by
  obtain ⟨o, hi, hg, h⟩ := h
  exact ⟨fun a w hh => wpOp_step hi (gd_ok hg hh.1.dec hh.tup) (Oper.wp_mono (fun a' w' ⟨σ', U', h1, h2⟩ => h2.out a' w' h1) (h a w _ hh))⟩

theorem Op1.ocall {K : Sym → Hp → Prop} {ops : Array Oper} {i : Nat} {o : Oper} {c : Call} {f : FuncId} {d : Tmp} {vs : List Value} {R : Value → Hp → Hp → Prop}
    (hi : ops.toList[i]? = some o) (hg : gd ops.toList σ o = some true) (ho : o.op = .call c) (hd : o.dst = some d) (hcal : c.callee = .value (.func f)) (hn : Nat.blt d σ.n = true)
    (hv : evArgs σ c.args.toList = some vs) (hC : OCall C.P f vs.toArray U R)
    (h : ∀ v U', Ext U U' → K (σ.retO d v (R v U')) U') : Op1 C ops i σ U K := by
  refine ⟨o, hi, hg, fun a w Q hh => ?_⟩
  obtain ⟨hH, hx⟩ := hh
  obtain ⟨ρ, hs, G, hS⟩ := hH.sat
  have hn' : d < σ.n := by simpa [Nat.blt_eq] using hn
  have hrun := exec_call (P := C.P) (a := a) (caps := #[]) ho hcal rfl hC.1 (evArgs_ok hS hv) w
  unfold Oper.wp
  rw [hrun, Oper.upon_enter, Array.append_empty, hd]
  refine (hC.2 w _ (hS.J.rest .u)).mono ?_
  rintro e w' ⟨v, U', L, G', rfl, h1, h2, h3, h4⟩
  obtain ⟨G2, hJ⟩ := hS.J.back (fun b => rfl) h3 h1 d
  refine ⟨σ.retO d v (R v U'), U', ⟨⟨by simp [Act.put, Sym.retO, hH.size], hH.defers, hH.run.trans h4, ?_, ρ, _, G2, ?_, ?_, hJ, hS.pin⟩, hx.trans h1⟩, h v U' h1⟩
  · intro t b hb
    by_cases e : t = d
    · subst e; simp [Sym.retO, upd_same] at hb
    · simp only [Sym.retO, upd_ne _ _ _ e] at hb
      simp only [Act.put]
      rw [Array.getElem?_setIfInBounds_ne (fun h => e h.symm)]
      exact hH.dec t b hb
  · intro t
    by_cases e : t = d
    · subst e
      exact .inr ⟨v, by simp [Act.put, hH.size, hn'], by simp only [Sym.retO, upd_same]; rfl⟩
    · simp only [Sym.retO, upd_ne _ _ _ e, Act.put]
      rw [Array.getElem?_setIfInBounds_ne (fun h => e h.symm)]
      exact (hS.K t).imp id fun ⟨y, hy, hi⟩ => ⟨y, hy, SV.is_ext h1 hi⟩
  · intro k
    by_cases e : k = d
    · subst e; simp only [Sym.retO, upd_same, Res.sat]; exact h2
    · simp only [Sym.retO, upd_ne _ _ _ e]; exact hS.M k

def Sym.free (σ : Sym) (d : Nat) : Sym := { σ with M := upd σ.M d .none }
theorem Hd.free {a : Act} {w : World} (h : Hd C σ U a w) (d : Nat) : Hd C (σ.free d) U a w := by
  obtain ⟨hh, hx⟩ := h
  obtain ⟨ρ, hs, G, hS⟩ := hh.sat
  obtain ⟨G', hJ⟩ := hS.J.drop (fun k => !Nat.beq k d)
  refine ⟨⟨hh.size, hh.defers, hh.run, hh.dec, ρ, _, G', hS.K, ?_, hJ, hS.pin⟩, hx⟩
  intro k
  by_cases e : k = d
  · subst e; simp only [Sym.free, upd_same]; intro b; simp [Hp.emp]
  · simp only [Sym.free, upd_ne _ _ _ e]
    have : Nat.beq k d = false := by
      cases hq : Nat.beq k d with
      | false => rfl
      | true => exact absurd (Nat.eq_of_beq_eq_true hq) e
    simp only [this, Bool.not_false, cond_true]
    exact hS.M k

theorem Op1.call {K : Sym → Hp → Prop} {ops : Array Oper} {i : Nat} {o : Oper} {c : Call} {f : FuncId} {d : Tmp} {vs : List Value} {R : Value → Hp → Prop}
    (hi : ops.toList[i]? = some o) (hg : gd ops.toList σ o = some true) (ho : o.op = .call c) (hd : o.dst = some d) (hcal : c.callee = .value (.func f)) (hn : Nat.blt d σ.n = true)
    (hv : evArgs σ c.args.toList = some vs) (hm : σ.M d = .none) (hC : PCall C.P f vs.toArray U R)
    (h : ∀ v U', Ext U U' → R v U' → K (σ.ret d v) U') : Op1 C ops i σ U K := by
  have := Op1.ocall (K := fun σ' U' => ∃ v, Ext U U' ∧ σ' = σ.retO d v (fun _ => R v U')) hi hg ho hd hcal hn hv hC fun v U' hx => ⟨v, hx, rfl⟩
  obtain ⟨o', hi', hg', h'⟩ := this
  refine ⟨o', hi', hg', fun a w Q hh => Oper.wp_mono (fun a' w' ⟨σ', U', h1, v, hx, e⟩ => ?_) (h' a w Q hh)⟩
  subst e
  obtain ⟨ρ, hs, G, hS⟩ := h1.1.sat
  have hr := hS.M d
  simp only [Sym.retO, upd_same, Res.sat] at hr
  have h2 := h1.free d
  have e : (σ.retO d v fun L => R v U').free d = σ.ret d v := by
    unfold Sym.free Sym.retO Sym.ret
    congr 1
    funext k
    by_cases e : k = d
    · subst e; rw [upd_same, hm]
    · show upd (upd σ.M d _) d _ k = σ.M k
      rw [upd_ne _ _ _ e, upd_ne _ _ _ e]
  rw [e] at h2
  exact ⟨_, U', h2, h v U' hx hr⟩

def gslot : List Item → Option Nat
  | .o ops (i :: _) :: _ => match ops.toList[i]? with
    | some o => match o.guard with
      | some (j, _) => match ops.toList[j]? with
        | some oj => oj.dst
        | none => none
      | none => none
    | none => none
  | .c (.cond (.tmp t) _ _) :: _ => some t
  | _ => none

theorem J.br {t : Nat} {b : Bool} (hs : gslot s = some t) (hk : σ.K t = .v (.bool b)) (ht : b = true → J C s (σ.known t true) U) (hf : b = false → J C s (σ.known t false) U) : J C s σ U := by
  refine ⟨fun a w hh => ?_⟩
  have h1 := hh.known hk
  cases b with
  | true => exact (ht rfl).out a w h1
  | false => exact (hf rfl).out a w h1
end
end Go.Rx
end

section
namespace Go.Rx

theorem Joins.mk' {U F : Hp} {hs : Nat → Hp} {w : World} (hsub : ∀ i, i ≠ Part.g → ∀ b o, fam U F Hp.emp hs i b = some o → w.heap[b]? = some o)
    (hone : ∀ i j b o o', fam U F Hp.emp hs i b = some o → fam U F Hp.emp hs j b = some o' → i = j) : ∃ G, Joins (fam U F G hs) w := by
  classical
  refine ⟨fun b => if (∃ i o, fam U F Hp.emp hs i b = some o) then none else w.heap[b]?, ?_⟩
  have other : ∀ G i, i ≠ Part.g → fam U F G hs i = fam U F Hp.emp hs i := fun G i hi => by cases i <;> first | rfl | exact absurd rfl hi
  have gg : ∀ b o, (if (∃ i o, fam U F Hp.emp hs i b = some o) then none else w.heap[b]?) = some o → w.heap[b]? = some o ∧ ∀ i o, fam U F Hp.emp hs i b ≠ some o := by
    intro b o h
    split at h
    · cases h
    · rename_i hn; exact ⟨h, fun i o hi => hn ⟨i, o, hi⟩⟩
  refine ⟨fun i b o h => ?_, fun b o h => ?_, fun i j b x y hx hy => ?_⟩
  · by_cases hi : i = .g
    · subst hi; exact (gg b o h).1
    · rw [other _ i hi] at h; exact hsub i hi b o h
  · by_cases hex : ∃ i o, fam U F Hp.emp hs i b = some o
    · obtain ⟨i, x, hi⟩ := hex
      have hg : i ≠ .g := by rintro rfl; cases hi
      have := hsub i hg b x hi
      rw [h] at this
      refine ⟨i, ?_⟩
      rw [other _ i hg, hi]; exact this.symm
    · exact ⟨.g, by show (if _ then _ else _) = _; rw [if_neg hex]; exact h⟩
  · by_cases hi : i = .g <;> by_cases hj : j = .g
    · rw [hi, hj]
    · subst hi; rw [other _ j hj] at hy; exact absurd hy ((gg b x hx).2 j y)
    · subst hj; rw [other _ i hi] at hx; exact absurd hx ((gg b y hy).2 i x)
    · rw [other _ i hi] at hx; rw [other _ j hj] at hy; exact hone i j b x y hx hy

def arr (v : Value) (e : TypeId) (size : Nat) (n : Nat) (xs : List Value) (h : Hp) : Prop :=
  xs.length = n * size ∧ ((v = .slice none 0 0 ∧ n = 0 ∧ ∀ b, h b = none) ∨
    ∃ g cap cur, v = .slice (some ⟨g, 0, none⟩) n cap ∧ n ≤ cap ∧ cap ≤ maxLen ∧ cur.size = cap * size ∧ cur.toList.take (n * size) = xs ∧ h = Hp.one g (.cells cur e (0, 0)))

theorem arr_row {v : Value} {e : TypeId} {size n : Nat} {xs : List Value} {h : Hp} {w : World} (ha : arr v e size n xs h) (hw : ∀ b o, h b = some o → w.heap[b]? = some o) : w.ownsRow 0 e size v n xs := by
  obtain ⟨h1, h2⟩ := ha
  refine ⟨h1, ?_⟩
  rcases h2 with ⟨h2, h3, -⟩ | ⟨g, cap, cur, hv, h3, h4, h5, h6, h7⟩
  · exact .inl ⟨h2, h3⟩
  · exact .inr ⟨g, cap, cur, hv, Nat.zero_le _, hw g _ (by rw [h7]; simp [Hp.one]), h3, h4, h5, h6⟩

section
variable {C : Ctx} {σ : Sym} {U : Hp} {s : List Item}

def Sym.retK (σ : Sym) (d : Tmp) (v : Value) (p : Hp → Prop) (ks : List Nat) : Sym :=
  { n := σ.n, K := upd σ.K d (.v v), D := upd σ.D d none, M := upd (fun k => bif ks.contains k then .none else σ.M k) d (.own p), pin := σ.pin }

theorem Holds.retK {F : Hp} {w0 : World} {a : Act} {w w' : World} {ρ : Nat → Nat} {hs : Nat → Hp} {G : Hp} (hh : Holds σ U F w0 a w) (hS : Sat σ U F a w ρ hs G) {d : Tmp} (hd : d < σ.n) {v : Value} {p : Hp → Prop} {ks : List Nat} (hsame : Same w w')
    {L : Hp} (hp : p L) (hL : ∀ b o, L b = some o → w'.heap[b]? = some o) (keep : ∀ i b o, i ≠ Part.g → (∀ k, i = .k k → ks.contains k = false ∧ k ≠ d) → fam U F G hs i b = some o → w'.heap[b]? = some o ∧ L b = none) :
    Holds (σ.retK d v p ks) U F w0 (a.put (some d) v) w' := by
  have hJ : ∃ G', Joins (fam U F G' (upd (fun k => bif ks.contains k then Hp.emp else hs k) d L)) w' := by
    have old : ∀ i b o, fam U F Hp.emp (upd (fun k => bif ks.contains k then Hp.emp else hs k) d L) i b = some o → (i = .k d ∧ L b = some o) ∨ (i ≠ .g ∧ (∀ k, i = .k k → ks.contains k = false ∧ k ≠ d) ∧ fam U F G hs i b = some o) := by
      intro i b o h
      cases i with
      | u => exact .inr ⟨by simp, by simp, h⟩
      | f => exact .inr ⟨by simp, by simp, h⟩
      | g => cases h
      | k q =>
        by_cases e : q = d
        · subst e; simp only [fam, upd_same] at h; exact .inl ⟨rfl, h⟩
        · simp only [fam, upd_ne _ _ _ e] at h
          cases hc : ks.contains q with
          | true => rw [hc] at h; cases h
          | false => rw [hc] at h; exact .inr ⟨by simp, fun k hk => by cases hk; exact ⟨hc, e⟩, h⟩
    refine Joins.mk' (fun i _ b o h => ?_) (fun i j b x y hx hy => ?_)
    · rcases old i b o h with ⟨-, h1⟩ | ⟨h1, h2, h3⟩
      · exact hL b o h1
      · exact (keep i b o h1 h2 h3).1
    · rcases old i b x hx with ⟨e1, h1⟩ | ⟨h1, h2, h3⟩ <;> rcases old j b y hy with ⟨e2, g1⟩ | ⟨g1, g2, g3⟩
      · rw [e1, e2]
      · rw [(keep j b y g1 g2 g3).2] at h1; cases h1
      · rw [(keep i b x h1 h2 h3).2] at g1; cases g1
      · exact hS.J.one i j b x y h3 g3
  obtain ⟨G', hJ⟩ := hJ
  refine ⟨by simp [Act.put, Sym.retK, hh.size], hh.defers, hh.run.trans hsame, ?_, ρ, _, G', ?_, ?_, hJ, hS.pin⟩
  · intro t b hb
    by_cases e : t = d
    · subst e; simp [Sym.retK, upd_same] at hb
    · simp only [Sym.retK, upd_ne _ _ _ e] at hb
      simp only [Act.put]
      rw [Array.getElem?_setIfInBounds_ne (fun h => e h.symm)]
      exact hh.dec t b hb
  · intro t
    by_cases e : t = d
    · subst e
      exact .inr ⟨v, by simp [Act.put, hh.size, hd], by simp only [Sym.retK, upd_same]; rfl⟩
    · simp only [Sym.retK, upd_ne _ _ _ e, Act.put]
      rw [Array.getElem?_setIfInBounds_ne (fun h => e h.symm)]
      exact hS.K t
  · intro k
    by_cases e : k = d
    · subst e; simp only [Sym.retK, upd_same, Res.sat]; exact hp
    · simp only [Sym.retK, upd_ne _ _ _ e]
      cases hc : ks.contains k with
      | true => intro b; rfl
      | false => exact hS.M k

theorem exec_builtin {P : Program} {a : Act} {o : Oper} {c : Call} {b : Builtin} (ho : o.op = .call c) (hc : c.callee = .builtin b) {vs : List Value} (hv : c.args.toList.map a.eval = vs) {w w' : World} {y : Value}
    (h : ∀ cs, (builtin b c.argTypes o.type cs vs.toArray).run P w = .ok (.value y) w') : (execOp a.eval o).run P w = .ok (.value y) w' := by
  have e : c.args.map a.eval = vs.toArray := by rw [← hv, ← Array.toList_map, Array.toArray_toList]
  simp only [execOp, ho, resolve, hc, e]
  refine (bind_ok (w' := w) rfl).trans ?_
  simp only [invoke]
  exact h _

theorem run_append0 {P : Program} {t e : TypeId} (ht : P.underlying t = some (.slice e)) {size : Nat} (hs : ∀ w, (sizeOf e).run P w = .ok size w) {ty : TypeId} {A B : Option Addr} {n cap c : Nat} (hn : n ≤ cap) (w : World) :
    (Builtin.append_ #[t, t] ty #[.slice A n cap, .slice B 0 c]).run P w = .ok (.slice A n cap) w := by
  have hu := run_underlying (P := P) ht w
  have hz := hs w
  cases A <;> cases B <;> simp [Builtin.append_, hu, hz, Builtin.lenOf, hn, Builtin.firstCells, loadCells, loadCellsFrom, storeCells]

def Src (C : Ctx) (σ : Sym) (U : Hp) (x : Operand) (m : Nat) (news : List Value) : Prop :=
  ∀ a w ρ hs G, Sat σ U C.F a w ρ hs G → ∃ A c, a.eval x = .slice A m c ∧ (m = 0 ∨ ∃ ad, A = some ad ∧ ∀ j u, news[j]? = some u → w.cell? (ad.add j) = some u)

theorem Op1.append {K : Sym → Hp → Prop} {ops : Array Oper} {i : Nat} {o : Oper} {c : Call} {d : Tmp} {x y : Operand} {t e : TypeId} {v : Value} {k : Nat} {n m size bytes : Nat} {xs news : List Value} {z : Value} {ag : Bool} {und : TypeDesc}
    (hi : ops.toList[i]? = some o) (hg : gd ops.toList σ o = some true) (ho : o.op = .call c) (hd : o.dst = some d) (hcal : c.callee = .builtin .append) (hn : Nat.blt d σ.n = true)
    (hargs : c.args.toList = [x, y]) (hty : c.argTypes = #[t, t]) (hT : ∃ sz a z, find t C.E = some ⟨sz, a, z, .slice e⟩) (hE : find e C.E = some ⟨size, ag, z, und⟩)
    (hinfo : (C.P.info? e).map (fun i => (i.zero, i.size, i.bytes)) = some (some z, size, bytes)) (hzs : z.cells.size = size) (hsz : 0 < size)
    (hx : ev σ x = .v v) (hk : σ.M k = .own (arr v e size n xs)) (hsrc : Src C σ U y m news) (hl : news.length = m * size) (h1 : ∀ u ∈ news, u.oneCell' = true) (hb : (n + m) * bytes ≤ 140737488355328) (hm : n + m ≤ 9223372036854775807)
    (h : ∀ v', (v' = .slice none 0 0 ↔ v = .slice none 0 0 ∧ m = 0) → K (σ.retK d v' (arr v' e size (n + m) (xs ++ news)) [k]) U) : Op1 C ops i σ U K := by
  refine ⟨o, hi, hg, fun a w Q hh => ?_⟩
  obtain ⟨hH, hxx⟩ := hh
  obtain ⟨ρ, hs, G, hS⟩ := hH.sat
  have hn' : d < σ.n := by simpa [Nat.blt_eq] using hn
  obtain ⟨sz', ag', z', hT⟩ := hT
  have ht := (find_ok C.ok hT).2.2.2
  have hs0 := (find_ok C.ok hE).1
  have hv : a.eval x = v := hS.evv hx
  have hL := hS.M k
  rw [hk] at hL
  have hLs : arr v e size n xs (hs k) := hL
  have row : w.ownsRow 0 e size v n xs := arr_row hLs (fun b o hb => hS.J.sub (.k k) b o hb)
  obtain ⟨ib, hib, hib1⟩ : ∃ ib, C.P.info? e = some ib ∧ (ib.zero, ib.size, ib.bytes) = (some z, size, bytes) := by
    cases hi0 : C.P.info? e with
    | none => rw [hi0] at hinfo; simp at hinfo
    | some ib => rw [hi0] at hinfo; simp only [Option.map_some, Option.some.injEq] at hinfo; exact ⟨ib, rfl, hinfo⟩
  simp only [Prod.mk.injEq] at hib1
  obtain ⟨i1, i2, i3⟩ := hib1
  obtain ⟨A, cc, hy, hsr⟩ := hsrc a w ρ hs G hS
  have hvs : c.args.toList.map a.eval = [v, .slice A m cc] := by rw [hargs]; simp [hv, hy]
  have fin : ∀ v' w', (Builtin.append_ #[t, t] o.type #[v, .slice A m cc]).run C.P w = .ok v' w' → w'.ownsRow 0 e size v' (n + m) (xs ++ news) → w.grownBy w' v.ownBlock → (v' = .slice none 0 0 ↔ v = .slice none 0 0 ∧ m = 0) →
      (v'.ownBlock = v.ownBlock ∨ v'.ownBlock = some w.heap.size) → o.wp C.P a w (fun a' w' => ∃ σ' U', Hd C σ' U' a' w' ∧ K σ' U') Q := by
    intro v' w' hr hrow hgrow hnil hat
    have hrun := exec_builtin (P := C.P) (a := a) (w := w) (w' := w') (y := v') ho hcal hvs (fun cs => by
      simp only [builtin, hty]
      exact bind_ok hr)
    unfold Oper.wp
    rw [hrun, Oper.upon_value, hd]

    have lt : ∀ i b o, fam U C.F G hs i b = some o → b < w.heap.size := fun i b o hb => (Array.getElem?_eq_some_iff.1 (hS.J.sub i b o hb)).1
    obtain ⟨L, hpL, hLw, hLk⟩ : ∃ L, arr v' e size (n + m) (xs ++ news) L ∧ (∀ b o, L b = some o → w'.heap[b]? = some o) ∧ (∀ b, L b ≠ none → v'.ownBlock = some b) := by
      obtain ⟨r1, r2⟩ := hrow
      rcases r2 with ⟨r2, r3⟩ | ⟨g, cap, cur, rv, -, rh, r3, r4, r5, r6⟩
      · exact ⟨Hp.emp, ⟨r1, .inl ⟨r2, r3, fun b => rfl⟩⟩, fun b o h => (by cases h), fun b h => absurd rfl h⟩
      · refine ⟨Hp.one g (.cells cur e (0, 0)), ⟨r1, .inr ⟨g, cap, cur, rv, r3, r4, r5, r6, rfl⟩⟩, fun b o h => ?_, fun b h => ?_⟩
        · obtain ⟨rfl, rfl⟩ := Hp.one_some h; exact rh
        · have : b = g := by
            by_cases e : b = g
            · exact e
            · simp [Hp.one, e] at h
          subst this; rw [rv]; rfl
    refine ⟨σ.retK d v' (arr v' e size (n + m) (xs ++ news)) [k], U, ⟨hH.retK hS hn' ⟨hgrow.os, hgrow.tape, hgrow.output⟩ hpL hLw ?_, hxx⟩, h v' hnil⟩
    intro i b o hig hik hb
    have hlt := lt i b o hb
    have hne : some b ≠ v.ownBlock := by
      intro eb

      have : ∃ o', hs k b = some o' := by
        rcases hLs.2 with ⟨rfl, -, -⟩ | ⟨g, cap, cur, rv, -, -, -, -, rh⟩
        · simp [Value.ownBlock] at eb
        · rw [rv] at eb
          simp only [Value.ownBlock, Option.some.injEq] at eb
          subst eb
          exact ⟨.cells cur e (0, 0), by rw [rh]; simp [Hp.one]⟩
      obtain ⟨o', ho'⟩ := this
      have hik' := hS.J.one i (.k k) b o o' hb ho'
      have := (hik k hik').1
      simp at this
    refine ⟨(hgrow.block b hlt hne).trans (hS.J.sub i b o hb), ?_⟩
    cases hLb : L b with
    | none => rfl
    | some y =>
      have := hLk b (by rw [hLb]; simp)
      rcases hat with h2 | h2
      · rw [this] at h2; exact absurd h2 hne
      · rw [this] at h2; simp only [Option.some.injEq] at h2; omega
  by_cases hm0 : m = 0
  · subst hm0
    have hnews : news = [] := List.eq_nil_of_length_eq_zero (by simpa using hl)
    subst hnews
    obtain ⟨B, cap, hvB, hcap⟩ : ∃ B cap, v = .slice B n cap ∧ n ≤ cap := by
      rcases hLs.2 with ⟨rfl, rfl, -⟩ | ⟨g, cap, cur, rv, hc, -⟩
      · exact ⟨none, 0, rfl, Nat.le_refl _⟩
      · exact ⟨_, cap, rv, hc⟩
    refine fin v w (by rw [hvB]; exact run_append0 ht hs0 hcap w) (by simpa using row) ⟨rfl, rfl, rfl, Nat.le_refl _, fun _ _ _ => rfl⟩ (by simp) (.inl rfl)
  · rcases hsr with h0 | ⟨ad, rfl, hc⟩
    · exact absurd h0 hm0
    · obtain ⟨v', w', e1, e2, e3, e4, e5⟩ := run_append_own_at (P := C.P) w 0 t o.type e ib z size bytes ht hib i1 i2 i3 hzs hsz v n xs row ad m cc news hl hc h1 (by simp only [maxLen]; omega) hb (Nat.zero_le _)
      exact fin v' w' e1 e2 e3 e4 e5

structure Rp (α : Type) where
  sz : Nat
  rel : Hp → α → List Value → Prop
  len : ∀ {U x cs}, rel U x cs → cs.length = sz
  mono : ∀ {U V x cs}, Ext U V → rel U x cs → rel V x cs

def Arr {α : Type} (r : Rp α) (U : Hp) (A : Option Addr) (xs : List α) : Prop :=
  xs = [] ∨ ∃ b o, A = some ⟨b, o, none⟩ ∧ ∀ (i : Nat) x, xs[i]? = some x → ∃ cs, r.rel U x cs ∧ ∀ (j : Nat) c, cs[j]? = some c → U.cell? b (o + i * r.sz + j) = some c
theorem Arr.mono {α : Type} {r : Rp α} {U V : Hp} {A : Option Addr} {xs : List α} (h : Arr r U A xs) (hx : Ext U V) : Arr r V A xs :=
  h.imp id fun ⟨b, o, e, h⟩ => ⟨b, o, e, fun i x hi => let ⟨cs, h1, h2⟩ := h i x hi; ⟨cs, r.mono hx h1, fun j c hj => hx.cell (h2 j c hj)⟩⟩

def Rd {α : Type} (r : Rp α) (U : Hp) (v : Value) (xs : List α) : Prop := ∃ A c, v = .slice A xs.length c ∧ xs.length ≤ c ∧ Arr r U A xs
theorem Rd.mono {α : Type} {r : Rp α} {U V : Hp} {v : Value} {xs : List α} (h : Rd r U v xs) (hx : Ext U V) : Rd r V v xs :=
  let ⟨A, c, e, hc, ha⟩ := h; ⟨A, c, e, hc, ha.mono hx⟩
def Rp.slice {α : Type} (r : Rp α) : Rp (List α) where
  sz := 1
  rel U xs cs := ∃ v, cs = [v] ∧ Rd r U v xs
  len h := by obtain ⟨v, rfl, -⟩ := h; rfl
  mono hx h := let ⟨v, e, h⟩ := h; ⟨v, e, h.mono hx⟩
def Rp.int (k : IntKind) : Rp Int := ⟨1, fun _ n cs => cs = [.int k n], fun h => by rw [h]; rfl, fun _ h => h⟩
def Rp.bool : Rp Bool := ⟨1, fun _ b cs => cs = [.bool b], fun h => by rw [h]; rfl, fun _ h => h⟩
def Rp.str : Rp ByteArray := ⟨1, fun _ s cs => cs = [.string s], fun h => by rw [h]; rfl, fun _ h => h⟩
def Rp.flat {α : Type} (n : Nat) (f : α → List Value) (h : ∀ x, (f x).length = n) : Rp α := ⟨n, fun _ x cs => cs = f x, fun e => by rw [e]; exact h _, fun _ h => h⟩

theorem Op1.index {K : Sym → Hp → Prop} {α : Type} {r : Rp α} {ops : Array Oper} {i : Nat} {o : Oper} {d : Tmp} {x y : Operand} {t : TypeId} {A : Option Addr} {c : Nat} {xs : List α} {k : IntKind} {n : Int}
    (hi : ops.toList[i]? = some o) (hg : gd ops.toList σ o = some true) (ho : o.op = .indexAddr t x y) (hd : o.dst = some d) (hn : Nat.blt d σ.n = true)
    (hT : ∃ sz a z e ee, find t C.E = some ⟨sz, a, z, TypeDesc.slice e⟩ ∧ find e C.E = some ee ∧ ee.sz = r.sz)
    (hx : ev σ x = .v (.slice A xs.length c)) (hy : ev σ y = .v (.int k n)) (hA : Arr r U A xs) (h0 : 0 ≤ n) (h1 : n < xs.length)
    (h : ∀ (q : α) b o' cs, xs[n.toNat]? = some q → r.rel U q cs → K (σ.set d (.win b o' cs 0)) U) : Op1 C ops i σ U K := by
  refine ⟨o, hi, hg, fun a w Q hh => ?_⟩
  obtain ⟨hH, hxx⟩ := hh
  obtain ⟨ρ, hs, G, hS⟩ := hH.sat
  have hn' : d < σ.n := by simpa [Nat.blt_eq] using hn
  obtain ⟨sz, ag, z, e, ee, hT, hE, hsz⟩ := hT
  have ht := (find_ok C.ok hT).2.2.2
  have hs0 := (find_ok C.ok hE).1
  rcases hA with rfl | ⟨b, o', rfl, hA⟩
  · simp at h1; omega
  · have hlt : n.toNat < xs.length := by omega
    obtain ⟨cs, hr, hc⟩ := hA n.toNat xs[n.toNat] (by simp [hlt])
    have hrun : (execOp a.eval o).run C.P w = .ok (.value (.pointer (some ⟨b, o' + n.toNat * r.sz, none⟩))) w := by
      refine exec_v (s := Instr.indexAt t (a.eval x) (a.eval y)) (by simp only [execOp, ho]) ?_
      rw [hS.evv hx, hS.evv hy]
      simp [Instr.indexAt, asIntOf, run_underlying ht, h0, h1, hs0 w, hsz, add_plain]
    unfold Oper.wp
    rw [hrun, Oper.upon_value, hd]
    refine ⟨σ.set d (.win b (o' + n.toNat * r.sz) cs 0), U, ⟨hH.put hn' (s := .win b (o' + n.toNat * r.sz) cs 0) (y := .pointer (some ⟨b, o' + n.toNat * r.sz, none⟩)) ?_, hxx⟩, h xs[n.toNat] b (o' + n.toNat * r.sz) cs (by simp [hlt]) hr⟩
    intro ρ hs G _
    exact ⟨rfl, hc⟩

theorem exec_vw {P : Program} {a : Act} {w w' : World} {o : Oper} {s : Sem Value} {y : Value} (he : execOp a.eval o = (do pure (.value (← s)) : Sem Next)) (h : s.run P w = .ok y w') : (execOp a.eval o).run P w = .ok (.value y) w' := by
  rw [he]; exact bind_ok h

theorem Op1.newArr {K : Sym → Hp → Prop} {ops : Array Oper} {i : Nat} {o : Oper} {d : Tmp} {e : TypeId} {size n cap : Nat} {cur : Array Value}
    (hi : ops.toList[i]? = some o) (hg : gd ops.toList σ o = some true) (hd : o.dst = some d) (hn : Nat.blt d σ.n = true) (hnc : n ≤ cap) (hcm : cap ≤ maxLen) (hcs : cur.size = cap * size)
    (hrun : ∀ a w ρ hs G, Sat σ U C.F a w ρ hs G → (execOp a.eval o).run C.P w = .ok (.value (.slice (some ⟨w.heap.size, 0, none⟩) n cap)) (w.alloc (.cells cur e)))
    (h : ∀ g, K (σ.retK d (.slice (some ⟨g, 0, none⟩) n cap) (arr (.slice (some ⟨g, 0, none⟩) n cap) e size n (cur.toList.take (n * size))) []) U) : Op1 C ops i σ U K := by
  refine ⟨o, hi, hg, fun a w Q hh => ?_⟩
  obtain ⟨hH, hxx⟩ := hh
  obtain ⟨ρ, hs, G, hS⟩ := hH.sat
  have hn' : d < σ.n := by simpa [Nat.blt_eq] using hn
  unfold Oper.wp
  rw [hrun a w ρ hs G hS, Oper.upon_value, hd]
  have hw : ∀ b, (w.alloc (.cells cur e)).heap[b]? = if b = w.heap.size then some (.cells cur e) else w.heap[b]? := by
    intro b; simp only [World.alloc]; rw [Array.getElem?_push]
  have hle : n * size ≤ cur.size := by rw [hcs]; exact Nat.mul_le_mul_right _ hnc
  refine ⟨σ.retK d (.slice (some ⟨w.heap.size, 0, none⟩) n cap) (arr (.slice (some ⟨w.heap.size, 0, none⟩) n cap) e size n (cur.toList.take (n * size))) [], U, ⟨hH.retK hS hn' (w' := w.alloc (.cells cur e)) ⟨rfl, rfl, rfl⟩ (L := Hp.one w.heap.size (.cells cur e (0, 0))) ⟨by simp; omega, .inr ⟨_, cap, cur, rfl, hnc, hcm, hcs, rfl, rfl⟩⟩ ?_ ?_, hxx⟩, h w.heap.size⟩
  · intro b x hb
    obtain ⟨rfl, rfl⟩ := Hp.one_some hb
    rw [hw, if_pos rfl]
  · intro i b x _ _ hb
    have hlt : b < w.heap.size := (Array.getElem?_eq_some_iff.1 (hS.J.sub i b x hb)).1
    refine ⟨by rw [hw, if_neg (by omega)]; exact hS.J.sub i b x hb, ?_⟩
    simp only [Hp.one]; rw [if_neg (by omega)]

theorem Op1.buildSlice {K : Sym → Hp → Prop} {ops : Array Oper} {i : Nat} {o : Oper} {d : Tmp} {t e : TypeId} {len size : Nat} {parts : Array (Nat × Operand)} {pv : List (Nat × Value)} {cells : List Value} {zz : Value}
    (hi : ops.toList[i]? = some o) (hg : gd ops.toList σ o = some true) (ho : o.op = .buildSlice t len parts) (hd : o.dst = some d) (hn : Nat.blt d σ.n = true)
    (hT : ∃ sz a z ag und, find t C.E = some ⟨sz, a, z, TypeDesc.slice e⟩ ∧ find e C.E = some ⟨size, ag, zz, und⟩) (hlen : len ≤ maxLen) (hsmall : ¬ len * size > 2 ^ 24)
    (hpv : parts.toList.map (fun x => (x.1, ev σ x.2)) = pv.map (fun x => (x.1, SV.v x.2)))
    (hfill : Instr.fill (fun i => some (i * size, size)) (if len * size = 0 then #[] else (Array.range (len * size)).map (zz.cells[· % zz.cells.size]!)) pv = some cells.toArray) (hcl : cells.length = len * size)
    (h : ∀ g, K (σ.retK d (.slice (some ⟨g, 0, none⟩) len len) (arr (.slice (some ⟨g, 0, none⟩) len len) e size len cells) []) U) : Op1 C ops i σ U K := by
  obtain ⟨sz, ag, z, ag', und, hT, hE⟩ := hT
  have ht := (find_ok C.ok hT).2.2.2
  have hs0 := (find_ok C.ok hE).1
  have hz0 := (find_ok C.ok hE).2.2.1
  refine Op1.newArr (n := len) (cap := len) (size := size) (e := e) (cur := cells.toArray) hi hg hd hn (Nat.le_refl _) hlen (by simpa using hcl) ?_ ?_
  · intro a w ρ hs G hS
    have hpe : (parts.map fun (x : Nat × Operand) => (x.1, a.eval x.2)).toList = pv := by
      have : ∀ (ps : List (Nat × Operand)) (pv : List (Nat × Value)), ps.map (fun x => (x.1, ev σ x.2)) = pv.map (fun x => (x.1, SV.v x.2)) → ps.map (fun x => (x.1, a.eval x.2)) = pv := by
        intro ps
        induction ps with
        | nil => intro pv h; cases pv with
          | nil => rfl
          | cons x r => simp at h
        | cons p ps ih => intro pv h; cases pv with
          | nil => simp at h
          | cons x r =>
            simp only [List.map_cons, List.cons.injEq, Prod.mk.injEq] at h ⊢
            obtain ⟨⟨h1, h2⟩, h3⟩ := h
            refine ⟨?_, ih r h3⟩
            rw [h1, hS.evv h2]
      rw [Array.toList_map]
      exact this _ _ hpv
    refine exec_vw (s := Instr.buildSlice t len (parts.map fun (x : Nat × Operand) => (x.1, a.eval x.2))) (by simp only [execOp, ho]) ?_
    have hfill' := hfill
    have hpe' : List.map (fun (x : Nat × Operand) => (x.1, a.eval x.2)) parts.toList = pv := by rw [← hpe, Array.toList_map]
    have e0 : Array.map (fun _ => (default : Value)) (Array.range 0) = #[] := by rw [Array.range_zero', Array.map_empty]
    by_cases h0 : len * size = 0
    · rw [if_pos h0] at hfill'
      simp [Instr.buildSlice, run_underlying ht, hs0 w, hsmall, h0, hpe', hfill', newRow, e0]
    · rw [if_neg h0] at hfill'
      simp [Instr.buildSlice, run_underlying ht, hs0 w, hz0 w, hsmall, h0, hpe', hfill', newRow]
  · intro g
    have := h g
    have e2 : (cells.toArray.toList.take (len * size)) = cells := by simp [← hcl]
    rw [e2]; exact this

theorem Op1.make {K : Sym → Hp → Prop} {ops : Array Oper} {i : Nat} {o : Oper} {d : Tmp} {t e : TypeId} {x : Operand} {size bytes n : Nat} {zz : Value}
    (hi : ops.toList[i]? = some o) (hg : gd ops.toList σ o = some true) (ho : o.op = .makeSlice t x x) (hd : o.dst = some d) (hn : Nat.blt d σ.n = true)
    (hT : ∃ sz a z ag und, find t C.E = some ⟨sz, a, z, TypeDesc.slice e⟩ ∧ find e C.E = some ⟨size, ag, zz, und⟩)
    (hinfo : (C.P.info? e).map (fun i => (i.zero, i.size, i.bytes)) = some (some zz, size, bytes)) (hx : ev σ x = .v (.int .i64 (n : Int))) (hb : bytes * n ≤ 281474976710656) (hm : n ≤ 9223372036854775807)
    (h : ∀ g, K (σ.retK d (.slice (some ⟨g, 0, none⟩) n n) (arr (.slice (some ⟨g, 0, none⟩) n n) e size n (madeCells zz.cells (n * size)).toList) []) U) : Op1 C ops i σ U K := by
  obtain ⟨sz, ag, z, ag', und, hT, hE⟩ := hT
  have ht := (find_ok C.ok hT).2.2.2
  obtain ⟨ib, hib, hib1⟩ : ∃ ib, C.P.info? e = some ib ∧ (ib.zero, ib.size, ib.bytes) = (some zz, size, bytes) := by
    cases hi0 : C.P.info? e with
    | none => rw [hi0] at hinfo; simp at hinfo
    | some ib => rw [hi0] at hinfo; simp only [Option.map_some, Option.some.injEq] at hinfo; exact ⟨ib, rfl, hinfo⟩
  simp only [Prod.mk.injEq] at hib1
  obtain ⟨i1, i2, i3⟩ := hib1
  refine Op1.newArr (n := n) (cap := n) (size := size) (e := e) (cur := madeCells zz.cells (n * size)) hi hg hd hn (Nat.le_refl _) (by simp only [maxLen]; omega) (size_madeCells _ _) ?_ ?_
  · intro a w ρ hs G hS
    refine exec_vw (s := Instr.makeSlice t (a.eval x) (a.eval x)) (by simp only [execOp, ho]) ?_
    rw [hS.evv hx]
    have hbn : ((bytes * n : Nat) : Int) ≤ 281474976710656 := by omega
    rw [Int.natCast_mul] at hbn
    have := run_make (P := C.P) w t e ib zz ht hib i1 .i64 .i64 n n (by omega) (by omega) (by rw [i3]; exact hbn) (by omega)
    simpa [i2] using this
  · intro g
    have := h g
    have e2 : ((madeCells zz.cells (n * size)).toList.take (n * size)) = (madeCells zz.cells (n * size)).toList := by
      rw [List.take_of_length_le]; simp [size_madeCells]
    rw [e2]; exact this

theorem J.pub {k : Nat} {p : Hp → Prop} (hk : σ.M k = .own p) (h : ∀ U' L, Ext U U' → Ext L U' → p L → J C s (σ.free k) U') : J C s σ U := by
  refine ⟨fun a w hh => ?_⟩
  obtain ⟨hH, hxx⟩ := hh
  obtain ⟨ρ, hs, G, hS⟩ := hH.sat
  have hp := hS.M k
  rw [hk] at hp
  let U' : Hp := fun b => match U b with | some x => some x | none => hs k b
  have e1 : Ext U U' := fun b o hb => by show (match U b with | some x => some x | none => hs k b) = some o; rw [hb]
  have e2 : Ext (hs k) U' := fun b o hb => by
    show (match U b with | some x => some x | none => hs k b) = some o
    cases hu : U b with
    | none => exact hb
    | some x => have := hS.J.one .u (.k k) b x o hu hb; cases this
  have old : ∀ i b o, fam U' C.F Hp.emp (upd hs k Hp.emp) i b = some o → ∃ j, fam U C.F G hs j b = some o ∧ ((i ≠ .u ∧ j = i ∧ i ≠ .k k) ∨ (i = .u ∧ (j = .u ∨ j = .k k))) := by
    intro i b o hb
    cases i with
    | u =>
      have hb' : (match U b with | some x => some x | none => hs k b) = some o := hb
      cases hu : U b with
      | some x => rw [hu] at hb'; exact ⟨.u, by simp only [fam]; rw [hu]; exact hb', .inr ⟨rfl, .inl rfl⟩⟩
      | none => rw [hu] at hb'; exact ⟨.k k, hb', .inr ⟨rfl, .inr rfl⟩⟩
    | f => exact ⟨.f, hb, .inl ⟨by simp, rfl, by simp⟩⟩
    | g => cases hb
    | k q =>
      by_cases e : q = k
      · subst e; simp only [fam, upd_same] at hb; cases hb
      · simp only [fam, upd_ne _ _ _ e] at hb; exact ⟨.k q, hb, .inl ⟨by simp, rfl, by simpa using e⟩⟩
  obtain ⟨G', hJ⟩ := Joins.mk' (w := w) (U := U') (F := C.F) (hs := upd hs k Hp.emp) (fun i _ b o hb => by
      obtain ⟨j, hj, -⟩ := old i b o hb; exact hS.J.sub j b o hj) (fun i j b x y hx hy => by
      obtain ⟨p, hp, hpi⟩ := old i b x hx
      obtain ⟨q, hq, hqi⟩ := old j b y hy
      have := hS.J.one p q b x y hp hq
      subst this
      rcases hpi with ⟨h1, h2, h3⟩ | ⟨h1, h2⟩ <;> rcases hqi with ⟨g1, g2, g3⟩ | ⟨g1, g2⟩
      · rw [← h2, ← g2]
      · subst h2; rcases g2 with g2 | g2
        · exact absurd g2 h1
        · exact absurd g2 h3
      · subst g2; rcases h2 with h2 | h2
        · exact absurd h2 g1
        · exact absurd h2 g3
      · rw [h1, g1])
  refine (h U' (hs k) e1 e2 hp).out a w ⟨⟨hH.size, hH.defers, hH.run, hH.dec, ρ, _, G', fun t => (hS.K t).imp id fun ⟨y, hy, hi⟩ => ⟨y, hy, SV.is_ext e1 hi⟩, ?_, hJ, hS.pin⟩, hxx.trans e1⟩
  intro q
  by_cases e : q = k
  · subst e; simp only [Sym.free, upd_same]; intro b; rfl
  · simp only [Sym.free, upd_ne _ _ _ e]; exact hS.M q

theorem J.nilArr (k : Nat) (e : TypeId) (size : Nat) (hk : σ.M k = .none) (h : J C s { σ with M := upd σ.M k (.own (arr (.slice none 0 0) e size 0 [])) } U) : J C s σ U := by
  refine ⟨fun a w hh => h.out a w ?_⟩
  obtain ⟨hH, hxx⟩ := hh
  obtain ⟨ρ, hs, G, hS⟩ := hH.sat
  refine ⟨⟨hH.size, hH.defers, hH.run, hH.dec, ρ, hs, G, hS.K, ?_, hS.J, hS.pin⟩, hxx⟩
  intro q
  by_cases e : q = k
  · subst e
    have := hS.M q
    rw [hk] at this
    simp only [upd_same, Res.sat]
    exact ⟨by simp, .inl ⟨rfl, rfl, this⟩⟩
  · simp only [upd_ne _ _ _ e]; exact hS.M q

theorem J.own {k k' : Nat} {p p' : Hp → Prop} (hk : σ.M k = .own p) (hk' : k' = k ∨ σ.M k' = .none) (hp : ∀ h, p h → p' h) (h : J C s { σ with M := upd (upd σ.M k .none) k' (.own p') } U) : J C s σ U := by
  refine ⟨fun a w hh => h.out a w ?_⟩
  obtain ⟨hH, hxx⟩ := hh
  obtain ⟨ρ, hs, G, hS⟩ := hH.sat
  have hpk := hS.M k
  rw [hk] at hpk
  have old : ∀ i b o, fam U C.F Hp.emp (upd (upd hs k Hp.emp) k' (hs k)) i b = some o → (i = .k k' ∧ hs k b = some o) ∨ (i ≠ .k k' ∧ i ≠ .k k ∧ fam U C.F G hs i b = some o) := by
    intro i b o hb
    cases i with
    | u => exact .inr ⟨by simp, by simp, hb⟩
    | f => exact .inr ⟨by simp, by simp, hb⟩
    | g => cases hb
    | k q =>
      by_cases e : q = k'
      · subst e; simp only [fam, upd_same] at hb; exact .inl ⟨rfl, hb⟩
      · simp only [fam, upd_ne _ _ _ e] at hb
        by_cases e' : q = k
        · subst e'; rw [upd_same] at hb; cases hb
        · rw [upd_ne _ _ _ e'] at hb; exact .inr ⟨by simpa using e, by simpa using e', hb⟩
  obtain ⟨G', hJ⟩ := Joins.mk' (w := w) (U := U) (F := C.F) (hs := upd (upd hs k Hp.emp) k' (hs k)) (fun i _ b o hb => by
      rcases old i b o hb with ⟨-, h1⟩ | ⟨-, -, h1⟩
      · exact hS.J.sub (.k k) b o h1
      · exact hS.J.sub i b o h1) (fun i j b x y hx hy => by
      rcases old i b x hx with ⟨e1, h1⟩ | ⟨e1, n1, h1⟩ <;> rcases old j b y hy with ⟨e2, h2⟩ | ⟨e2, n2, h2⟩
      · rw [e1, e2]
      · have := hS.J.one (.k k) j b x y h1 h2; exact absurd this.symm n2
      · have := hS.J.one i (.k k) b x y h1 h2; exact absurd this n1
      · exact hS.J.one i j b x y h1 h2)
  refine ⟨⟨hH.size, hH.defers, hH.run, hH.dec, ρ, _, G', hS.K, ?_, hJ, hS.pin⟩, hxx⟩
  intro q
  by_cases e : q = k'
  · subst e; simp only [upd_same, Res.sat]; exact hp _ hpk
  · simp only [upd_ne _ _ _ e]
    by_cases e' : q = k
    · subst e'; simp only [upd_same]; intro b; rfl
    · simp only [upd_ne _ _ _ e']; exact hS.M q

theorem arr_rd {α : Type} {r : Rp α} {U : Hp} {L : Hp} {v : Value} {e : TypeId} {xs : List α} {cells : List Value} (ha : arr v e r.sz xs.length cells L) (hx : Ext L U)
    (hc : ∀ (i : Nat) x, xs[i]? = some x → ∃ cs, r.rel U x cs ∧ (cells.drop (i * r.sz)).take r.sz = cs) : Rd r U v xs := by
  obtain ⟨h1, h2⟩ := ha
  rcases h2 with ⟨rfl, h3, -⟩ | ⟨g, cap, cur, rfl, h3, h4, h5, h6, rfl⟩
  · have : xs = [] := List.eq_nil_of_length_eq_zero h3
    subst this
    exact ⟨none, 0, rfl, Nat.le_refl _, .inl rfl⟩
  · refine ⟨_, cap, rfl, h3, .inr ⟨g, 0, rfl, fun i x hi => ?_⟩⟩
    obtain ⟨cs, hr, hcs⟩ := hc i x hi
    refine ⟨cs, hr, fun j c hj => ?_⟩
    have hlt : i < xs.length := (List.getElem?_eq_some_iff.1 hi).1
    have hjl : j < cs.length := (List.getElem?_eq_some_iff.1 hj).1
    rw [r.len hr] at hjl
    have e1 : cells[i * r.sz + j]? = some c := by
      rw [← hcs, List.getElem?_take, if_pos hjl, List.getElem?_drop] at hj
      exact hj
    have e2 : cur[i * r.sz + j]? = some c := by
      rw [← h6, List.getElem?_take] at e1
      split at e1
      · simpa using e1
      · cases e1
    have : U g = some (.cells cur e (0, 0)) := hx g _ (by simp [Hp.one])
    simp only [Hp.cell?, this, Nat.zero_add]
    exact e2

theorem J.src_rd {α : Type} {r : Rp α} {x : Operand} {v : Value} {xs : List α} {news : List Value} (hx : ev σ x = .v v) (h : Rd r U v xs)
    (hc : ∀ (i : Nat) q cs, xs[i]? = some q → r.rel U q cs → (news.drop (i * r.sz)).take r.sz = cs) (hl : news.length = xs.length * r.sz) (hr : 0 < r.sz) : Src C σ U x xs.length news := by
  intro a w ρ hs G hS
  obtain ⟨A, c, rfl, hcap, hA⟩ := h
  refine ⟨A, c, hS.evv hx, ?_⟩
  rcases hA with rfl | ⟨b, o, rfl, hA⟩
  · exact .inl rfl
  · refine .inr ⟨⟨b, o, none⟩, rfl, fun j u hj => ?_⟩
    rw [add_plain]
    have hj' : j < news.length := (List.getElem?_eq_some_iff.1 hj).1
    have hi : j / r.sz < xs.length := by rw [Nat.div_lt_iff_lt_mul hr, ← hl]; exact hj'
    obtain ⟨cs, h1, h2⟩ := hA (j / r.sz) xs[j / r.sz] (by simp [hi])
    have h3 := hc (j / r.sz) _ cs (by simp [hi]) h1
    have h4 : cs[j % r.sz]? = some u := by
      rw [← h3, List.getElem?_take, if_pos (Nat.mod_lt _ hr), List.getElem?_drop]
      have : j / r.sz * r.sz + j % r.sz = j := by rw [Nat.mul_comm]; exact Nat.div_add_mod j r.sz
      rw [this]; exact hj
    have h5 := h2 (j % r.sz) u h4
    have : o + j / r.sz * r.sz + j % r.sz = o + j := by rw [Nat.add_assoc, Nat.mul_comm, Nat.div_add_mod]
    rw [this] at h5
    exact hS.u h5
end
end Go.Rx
end
