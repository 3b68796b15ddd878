import PyProof.Rows.All
import Wide.All
import OpenK.AllK
import Wide.FinOn
import PySem.Challenge.RW_messageshelf_k37_pairs_of_any_file
import HandS.ForMost
import HandS.Exc
import HandS.TryOnly
import HandS.WordsExc
import HandS.CallSlots
import HandS.Flow
import HandS.TupAny
import HandS.Wide
import HandS.Deep
import HandS.IsInst
import HandS.StrMore
import HandS.More
import HandS.Codes
import HandS.Dict
import HandS.RevTup
import HandS.Text
import HandS.Small
import HandS.Finally
import HandS.RaiseMore
import HandS.Zip
import HandS.CallRecv
import HandS.Comp
import PyProof.EnumMake
import PyProof.EnumStmt
import PyProof.TupleIter
import KE.GoesEnum
import KE.GoesMore
import HandS.Style
import HandS.ExcInit
import HandS.ExcField
import HandS.ExcBuiltin
import HandS.Defaults
import HandS.HeadHook1
import HandS.HeadHook2
import HandS.Head1
import KE.KExcIs
import HandS.TryMany
import HandS.ExcOwn
import HandS.ExcIs
import HandS.HotCalls
import HandS.HeadEnd
import HandS.HeadHook3
import HandS.HeadHook4
import HandS.Head0
import HandS.Head2
import KE.DataEq
import KE.Datum
set_option Elab.async false
set_option linter.all false
set_option maxRecDepth 100000
/-! Itp A: values, memory, the tie between them and the abstract heap. -/
namespace Itp
open PySem PySem.Spec PyProof.Rows L2

/-- a value of the small machine: tuples and lists that nobody changes are plain data; ref: an object of the memory -/
inductive D where
  | non
  | bl (b : Bool)
  | int (i : Int)
  | str (s : List Nat)
  | tup (ds : List D)
  | fl (ds : List D)
  | sc (ds : List D)
  | ref (a : Nat)

mutual
def D.beq : D → D → Bool
  | .non, .non => true
  | .bl a, .bl b => a == b
  | .int a, .int b => a == b
  | .str a, .str b => a == b
  | .tup a, .tup b => D.beqs a b
  | .fl a, .fl b => D.beqs a b
  | .sc a, .sc b => D.beqs a b
  | .ref a, .ref b => a == b
  | _, _ => false
def D.beqs : List D → List D → Bool
  | [], [] => true
  | a :: as, b :: bs => D.beq a b && D.beqs as bs
  | _, _ => false
end

mutual
theorem D.beq_eq : ∀ a b : D, D.beq a b = true → a = b
  | .non, b, h => by cases b <;> first | rfl | (simp [D.beq] at h)
  | .bl x, b, h => by cases b <;> simp [D.beq] at h; rw [h]
  | .int x, b, h => by cases b <;> simp [D.beq] at h; rw [h]
  | .str x, b, h => by cases b <;> simp [D.beq] at h; rw [h]
  | .tup x, b, h => by cases b <;> simp [D.beq] at h; rw [D.beqs_eq _ _ h]
  | .fl x, b, h => by cases b <;> simp [D.beq] at h; rw [D.beqs_eq _ _ h]
  | .sc x, b, h => by cases b <;> simp [D.beq] at h; rw [D.beqs_eq _ _ h]
  | .ref x, b, h => by cases b <;> simp [D.beq] at h; rw [h]
theorem D.beqs_eq : ∀ a b : List D, D.beqs a b = true → a = b
  | [], b, h => by cases b <;> first | rfl | (simp [D.beqs] at h)
  | x :: xs, b, h => by
    cases b with
    | nil => simp [D.beqs] at h
    | cons y ys => simp [D.beqs] at h; rw [D.beq_eq _ _ h.1, D.beqs_eq _ _ h.2]
end
mutual
theorem D.beq_refl : ∀ a : D, D.beq a a = true
  | .non => by simp [D.beq]
  | .bl x => by simp [D.beq]
  | .int x => by simp [D.beq]
  | .str x => by simp [D.beq]
  | .tup x => by simp [D.beq, D.beqs_refl x]
  | .fl x => by simp [D.beq, D.beqs_refl x]
  | .sc x => by simp [D.beq, D.beqs_refl x]
  | .ref x => by simp [D.beq]
theorem D.beqs_refl : ∀ a : List D, D.beqs a a = true
  | [] => by simp [D.beqs]
  | x :: xs => by simp [D.beqs, D.beq_refl x, D.beqs_refl xs]
end

/-- a key of a dict -/
abbrev Ky := Sum Int (List Nat)
def Ky.toD : Ky → D
  | .inl i => .int i
  | .inr s => .str s
def stS (s : List Nat) : Str := ⟨s.toArray⟩
def Ky.toK : Ky → Key
  | .inl i => .inl i
  | .inr s => .inr (stS s)

inductive O where
  | lst (ds : List D)
  | dk (kvs : List (Ky × D))
  | ins (c : Str) (fs : List (Str × D))

abbrev Mem := List O
abbrev Env := List (Option D)
structure Exn where
  cls : Str
  fs : List (Str × D)

inductive R (α : Type) where
  | ok (a : α) (m : Mem)
  | ex (e : Exn) (m : Mem)
  | bad

def R.bind {α β : Type} (r : R α) (k : α → Mem → R β) : R β :=
  match r with
  | .ok a m => k a m
  | .ex e m => .ex e m
  | .bad => .bad

abbrev EV := Env → Mem → R D
abbrev TV := Env → Mem → R Bool
abbrev AV := Env → Mem → R (List D)

/-- a caught exception: its name's slot, its address, what it is -/
structure Xi where
  i : Nat
  a : Addr
  x : Exn
  cls : Value
  d : Option Addr
/-- what is fixed: the written part, the classes' addresses; what is caught -/
structure Gd where
  K : PySem.W.Frag
  cl : Str → Addr
  xs : Option Xi := none
/-- slot i is not the caught exception's -/
def Gd.fr (G : Gd) (i : Nat) : Prop := ∀ z, G.xs = some z → z.i ≠ i
theorem Gd.fr_none {G : Gd} (h : G.xs = none) (i : Nat) : G.fr i := fun z e => by rw [h] at e; cases e
/-- where the memory's objects stand; which addresses are nobody else's; the abstract heap -/
structure Tie where
  mu : List Addr
  own : Addr → Prop
  H : Hp

/-- a list that nobody may change: locked, or written -/
def SqF (K : PySem.W.Frag) (H : Hp) (a : Addr) (xs : List V) : Prop :=
  (∃ o, H a = some (.frz o (.lst xs))) ∨
    ∃ (o : Obj) (its : Array Value) (n : Nat), K.lookup a = some o ∧ o.cls = .type "list" ∧ o.dict = none ∧ o.data = .seq its n ∧ its.size ≤ sizeLine ∧ Vals xs its.toList
theorem SqF.sq {K : PySem.W.Frag} {H : Hp} {a : Addr} {xs : List V} (h : SqF K H a xs) : SqL K H a xs := by
  rcases h with h | h
  · exact .inl (.inr h)
  · exact .inr h
mutual
inductive RD (G : Gd) (T : Tie) : D → V → Prop
  | non : RD G T .non .non
  | bl (b : Bool) : RD G T (.bl b) (.bl b)
  | int (i : Int) : RD G T (.int i) (.int i)
  | str (s : List Nat) : RD G T (.str s) (.str (stS s))
  | tup {p : Addr} {vs : List V} {ds : List D} : SqT G.K T.H p vs → RDs G T ds vs → RD G T (.tup ds) (.ref p)
  | fl {p : Addr} {vs : List V} {ds : List D} : T.H p = some (.lst vs) → ¬ T.own p → RDs G T ds vs → RD G T (.fl ds) (.ref p)
  | sc {p : Addr} {vs : List V} {ds : List D} : SqF G.K T.H p vs → RDs G T ds vs → RD G T (.sc ds) (.ref p)
  | ref {a : Nat} {p : Addr} : T.mu[a]? = some p → RD G T (.ref a) (.ref p)
inductive RDs (G : Gd) (T : Tie) : List D → List V → Prop
  | nil : RDs G T [] []
  | cons {d : D} {v : V} {ds : List D} {vs : List V} : RD G T d v → RDs G T ds vs → RDs G T (d :: ds) (v :: vs)
end

/-- the fields of an instance -/
inductive RFs (G : Gd) (T : Tie) : List (Str × D) → List (Str × V) → Prop
  | nil : RFs G T [] []
  | cons {x : Str} {d : D} {v : V} {fs : List (Str × D)} {gs : List (Str × V)} : RD G T d v → RFs G T fs gs → RFs G T ((x, d) :: fs) ((x, v) :: gs)
inductive RKs (G : Gd) (T : Tie) : List (Ky × D) → List (Key × V) → Prop
  | nil : RKs G T [] []
  | cons {x : Ky} {d : D} {v : V} {fs : List (Ky × D)} {gs : List (Key × V)} : RD G T d v → RKs G T fs gs → RKs G T ((x, d) :: fs) ((x.toK, v) :: gs)

def RO (G : Gd) (T : Tie) (p : Addr) : O → Prop
  | .lst ds => ∃ vs, T.H p = some (.lst vs) ∧ RDs G T ds vs
  | .dk kvs => ∃ ks, T.H p = some (.dK ks) ∧ RKs G T kvs ks
  | .ins c fs => ∃ dx gs, T.H p = some (.ins (G.cl c) dx gs) ∧ RFs G T fs gs ∧ Cls G.K (G.cl c) ∧ ∀ x d, fs.lookup x = some d → NoAttr G.K (G.cl c) x

structure Sim (G : Gd) (T : Tie) (m : Mem) : Prop where
  sub : ∀ p ∈ T.mu, T.own p
  nd : T.mu.Nodup
  len : T.mu.length = m.length
  obj : ∀ (i : Nat) (o : O) (p : Addr), m[i]? = some o → T.mu[i]? = some p → RO G T p o

structure Ext (T T' : Tie) : Prop where
  pre : T.mu <+: T'.mu
  keep : ∀ p o, T.H p = some o → p ∉ T.mu → T'.H p = some o ∧ p ∉ T'.mu ∧ (T'.own p ↔ T.own p)

theorem Ext.refl (T : Tie) : Ext T T := ⟨List.prefix_refl _, fun _ _ h n => ⟨h, n, Iff.rfl⟩⟩
theorem Ext.trans {T T' T'' : Tie} (a : Ext T T') (b : Ext T' T'') : Ext T T'' :=
  ⟨a.pre.trans b.pre, fun p o h n => by
    obtain ⟨h1, n1, w1⟩ := a.keep p o h n
    obtain ⟨h2, n2, w2⟩ := b.keep p o h1 n1
    exact ⟨h2, n2, w2.trans w1⟩⟩

theorem RO.mut {G : Gd} {T : Tie} {p : Addr} {o : O} (h : RO G T p o) : ∃ u, T.H p = some u ∧ Mut (some u) := by
  cases o with
  | lst ds => obtain ⟨vs, e, _⟩ := h; exact ⟨_, e, trivial⟩
  | dk kvs => obtain ⟨ks, e, _⟩ := h; exact ⟨_, e, trivial⟩
  | ins c fs => obtain ⟨dx, gs, e, _⟩ := h; exact ⟨_, e, trivial⟩

theorem Sim.at {G : Gd} {T : Tie} {m : Mem} (S : Sim G T m) {p : Addr} (h : p ∈ T.mu) : ∃ (i : Nat) (o : O), m[i]? = some o ∧ T.mu[i]? = some p ∧ RO G T p o := by
  obtain ⟨i, hi, e⟩ := List.mem_iff_getElem.mp h
  have hi' : i < m.length := by rw [← S.len]; exact hi
  have e2 : T.mu[i]? = some p := by rw [List.getElem?_eq_getElem hi, e]
  exact ⟨i, m[i], List.getElem?_eq_getElem hi', e2, S.obj i _ p (List.getElem?_eq_getElem hi') e2⟩
theorem Sim.notin {G : Gd} {T : Tie} {m : Mem} (S : Sim G T m) {p : Addr} {u : HO} (h : T.H p = some u) (n : ¬ Mut (some u)) : p ∉ T.mu := fun hp => by
  obtain ⟨i, o, _, _, r⟩ := S.at hp
  obtain ⟨u', e, mu⟩ := r.mut
  rw [h] at e; cases e
  exact n mu
theorem Sim.addr {G : Gd} {T : Tie} {m : Mem} (S : Sim G T m) {i : Nat} {o : O} (h : m[i]? = some o) : ∃ p, T.mu[i]? = some p ∧ RO G T p o := by
  obtain ⟨hi, _⟩ := List.getElem?_eq_some_iff.mp h
  have hi' : i < T.mu.length := by rw [S.len]; exact hi
  exact ⟨_, List.getElem?_eq_getElem hi', S.obj i o _ h (List.getElem?_eq_getElem hi')⟩

section
variable {G : Gd} {T T' : Tie} {m : Mem}
theorem Ext.sqT (E : Ext T T') (S : Sim G T m) {p : Addr} {vs : List V} (h : SqT G.K T.H p vs) : SqT G.K T'.H p vs := by
  rcases h with (h | ⟨o, h⟩) | h
  · exact .inl (.inl (E.keep _ _ h (S.notin h (fun z => z))).1)
  · exact .inl (.inr ⟨o, (E.keep _ _ h (S.notin h (fun z => z))).1⟩)
  · exact .inr h
mutual
theorem Ext.rd (E : Ext T T') (S : Sim G T m) : ∀ (d : D) (v : V), RD G T d v → RD G T' d v
  | .non, _, h => by cases h; exact .non
  | .bl _, _, h => by cases h; exact .bl _
  | .int _, _, h => by cases h; exact .int _
  | .str _, _, h => by cases h; exact .str _
  | .tup ds, _, h => by
    cases h with
    | tup h1 h2 => exact .tup (E.sqT S h1) (Ext.rds E S ds _ h2)
  | .fl ds, _, h => by
    cases h with
    | fl h1 n h2 =>
      rename_i p vs
      have np : p ∉ T.mu := fun z => n (S.sub p z)
      refine .fl ?_ ?_ (Ext.rds E S ds _ h2)
      · exact (E.keep _ _ h1 np).1
      · exact fun z => n ((E.keep _ _ h1 np).2.2.mp z)
  | .sc ds, _, h => by
    cases h with
    | sc h1 h2 =>
      refine .sc ?_ (Ext.rds E S ds _ h2)
      rcases h1 with ⟨o, h1⟩ | h1
      · exact .inl ⟨o, (E.keep _ _ h1 (S.notin h1 fun z => z)).1⟩
      · exact .inr h1
  | .ref a, _, h => by
    cases h with
    | ref h1 =>
      obtain ⟨t, e⟩ := E.pre
      refine .ref ?_
      rw [← e]
      rw [List.getElem?_append_left (List.getElem?_eq_some_iff.mp h1).1]
      exact h1
theorem Ext.rds (E : Ext T T') (S : Sim G T m) : ∀ (ds : List D) (vs : List V), RDs G T ds vs → RDs G T' ds vs
  | [], _, h => by cases h; exact .nil
  | d :: ds, _, h => by
    cases h with
    | cons h1 h2 => exact .cons (Ext.rd E S d _ h1) (Ext.rds E S ds _ h2)
end
theorem RDs.length : ∀ {ds : List D} {vs : List V}, RDs G T ds vs → ds.length = vs.length
  | [], _, h => by cases h; rfl
  | _ :: _, _, h => by
    cases h with
    | cons h1 h2 => simp [RDs.length h2]
theorem RDs.get : ∀ {ds : List D} {vs : List V} {i : Nat} {d : D}, RDs G T ds vs → ds[i]? = some d → ∃ v, vs[i]? = some v ∧ RD G T d v
  | [], _, _, _, h, e => by simp at e
  | _ :: _, _, 0, _, h, e => by
    cases h with
    | cons h1 h2 => simp at e; subst e; exact ⟨_, rfl, h1⟩
  | _ :: _, _, i + 1, _, h, e => by
    cases h with
    | cons h1 h2 => simp at e; simpa using RDs.get h2 e
theorem RDs.append : ∀ {ds es : List D} {vs ws : List V}, RDs G T ds vs → RDs G T es ws → RDs G T (ds ++ es) (vs ++ ws)
  | [], _, _, _, h, k => by cases h; exact k
  | _ :: _, _, _, _, h, k => by
    cases h with
    | cons h1 h2 => exact .cons h1 (RDs.append h2 k)
theorem RDs.set {d : D} {v : V} (r : RD G T d v) : ∀ {ds : List D} {vs : List V} (i : Nat), RDs G T ds vs → RDs G T (ds.set i d) (vs.set i v)
  | [], _, _, h => by cases h; exact .nil
  | _ :: _, _, 0, h => by cases h with | cons h1 h2 => exact .cons r h2
  | _ :: _, _, i + 1, h => by cases h with | cons h1 h2 => exact .cons h1 (RDs.set r i h2)
theorem RDs.take : ∀ {ds : List D} {vs : List V} (i : Nat), RDs G T ds vs → RDs G T (ds.take i) (vs.take i)
  | [], _, _, h => by cases h; simp; exact .nil
  | _ :: _, _, 0, h => by simp; exact .nil
  | _ :: _, _, i + 1, h => by cases h with | cons h1 h2 => exact .cons h1 (RDs.take i h2)
theorem RDs.drop : ∀ {ds : List D} {vs : List V} (i : Nat), RDs G T ds vs → RDs G T (ds.drop i) (vs.drop i)
  | [], _, _, h => by cases h; simp; exact .nil
  | _ :: _, _, 0, h => h
  | _ :: _, _, i + 1, h => by cases h with | cons h1 h2 => exact RDs.drop i h2
end

/-- the class of an exception -/
def clsV (G : Gd) (c : Str) : Value := if c = ("ZeroDivisionError" : Str) then .type "ZeroDivisionError" else .ref (G.cl c)
/-- how an exception's class and own dict stand for an exception of the small machine -/
def RX (G : Gd) (T : Tie) (e : Exn) (cls : Value) (d : Option Addr) : Prop :=
  cls = clsV G e.cls ∧ match e.fs with
    | [] => d = none
    | fs => ∃ dd gs, d = some dd ∧ T.H dd = some (.xd gs) ∧ RFs G T fs gs
theorem RFs.extA {G : Gd} {T T' : Tie} {m : Mem} (E : Ext T T') (S : Sim G T m) : ∀ {fs : List (Str × D)} {gs : List (Str × V)}, RFs G T fs gs → RFs G T' fs gs
  | [], _, h => by cases h; exact .nil
  | _ :: _, _, h => by
    cases h with
    | cons h1 h2 => exact .cons (E.rd S _ _ h1) (RFs.extA E S h2)
theorem RX.ext {G : Gd} {T T' : Tie} {m : Mem} {e : Exn} {cls : Value} {d : Option Addr} (h : RX G T e cls d) (E : Ext T T') (S : Sim G T m) : RX G T' e cls d := by
  refine ⟨h.1, ?_⟩
  have h2 := h.2
  cases q : e.fs with
  | nil => rw [q] at h2; exact h2
  | cons f fs =>
    rw [q] at h2
    obtain ⟨dd, gs, e1, e2, r⟩ := h2
    exact ⟨dd, gs, e1, (E.keep _ _ e2 (S.notin e2 fun z => z)).1, r.extA E S⟩

structure REnv (G : Gd) (T : Tie) (env : Env) (σ : L2.St) : Prop where
  len : env.length = σ.length
  get : ∀ (i : Nat) (d : D), env[i]? = some (some d) → ∃ v, σ[i]? = some (some v) ∧ RD G T d v
  xs : ∀ z, G.xs = some z → σ[z.i]? = some (some (.ref z.a)) ∧ RX G T z.x z.cls z.d
section
variable {G : Gd} {T T' : Tie} {m : Mem} {env : Env} {σ : L2.St}
theorem REnv.ext (h : REnv G T env σ) (E : Ext T T') (S : Sim G T m) : REnv G T' env σ :=
  ⟨h.len, fun i d e => let ⟨v, e1, r⟩ := h.get i d e; ⟨v, e1, E.rd S _ _ r⟩, fun z e => ⟨(h.xs z e).1, (h.xs z e).2.ext E S⟩⟩
theorem REnv.set (h : REnv G T env σ) {i : Nat} {d : D} {v : V} (hi : G.fr i) (r : RD G T d v) : REnv G T (env.set i (some d)) (σ.set i (some v)) := by
  refine ⟨by simp [h.len], fun j e q => ?_, fun z e => ⟨by rw [List.getElem?_set_ne (Ne.symm (hi z e))]; exact (h.xs z e).1, (h.xs z e).2⟩⟩
  by_cases c : j = i
  · subst c
    have hj : j < env.length := by
      have := (List.getElem?_eq_some_iff.mp q).1
      simpa using this
    rw [List.getElem?_set_self hj] at q
    cases q
    exact ⟨v, List.getElem?_set_self (by rw [← h.len]; exact hj), r⟩
  · rw [List.getElem?_set_ne (Ne.symm c)] at q
    rw [List.getElem?_set_ne (Ne.symm c)]
    exact h.get j e q
end

/-- what is wanted behind an expression -/
def post (G : Gd) (T : Tie) (W : Value → Option Addr → Hp → Prop) (r : R D) (Q : VK) : Prop :=
  match r with
  | .ok d m => ∀ (T' : Tie) (v : V), Ext T T' → Sim G T' m → RD G T' d v → Q v T'.H
  | .ex e m => ∀ (T' : Tie) (cls : Value) (d : Option Addr), Ext T T' → Sim G T' m → RX G T' e cls d → W cls d T'.H
  | .bad => False
def postB (G : Gd) (T : Tie) (W : Value → Option Addr → Hp → Prop) (r : R Bool) (Q : Bool → Hp → Prop) : Prop :=
  match r with
  | .ok d m => ∀ (T' : Tie), Ext T T' → Sim G T' m → Q d T'.H
  | .ex e m => ∀ (T' : Tie) (cls : Value) (d : Option Addr), Ext T T' → Sim G T' m → RX G T' e cls d → W cls d T'.H
  | .bad => False
def postA (G : Gd) (T : Tie) (W : Value → Option Addr → Hp → Prop) (r : R (List D)) (Q : List V → Hp → Prop) : Prop :=
  match r with
  | .ok d m => ∀ (T' : Tie) (v : List V), Ext T T' → Sim G T' m → RDs G T' d v → Q v T'.H
  | .ex e m => ∀ (T' : Tie) (cls : Value) (d : Option Addr), Ext T T' → Sim G T' m → RX G T' e cls d → W cls d T'.H
  | .bad => False

def WS (W : WX) (σ : L2.St) : Value → Option Addr → Hp → Prop := fun cls d H => W cls d σ H
/-- the readings of the small machine's functions -/
def tOf (G : Gd) (W : WX) (f : EV) : TE := fun σ H Q => ∃ T env m, T.H = H ∧ Sim G T m ∧ REnv G T env σ ∧ post G T (WS W σ) (f env m) Q
def ttOf (G : Gd) (W : WX) (f : TV) : TT := fun σ H Q => ∃ T env m, T.H = H ∧ Sim G T m ∧ REnv G T env σ ∧ postB G T (WS W σ) (f env m) Q
def taOf (G : Gd) (W : WX) (f : AV) : TA := fun σ H Q => ∃ T env m, T.H = H ∧ Sim G T m ∧ REnv G T env σ ∧ postA G T (WS W σ) (f env m) Q

theorem PE.wk {X : Cx} {e : Expr} {t t' : TE} (h : PE X e t) (i : ∀ σ H Q, t' σ H Q → t σ H Q) : PE X e t' := ⟨fun pins s σ H Q I q => h.run pins s σ H Q I (i _ _ _ q)⟩
theorem PT.wk {X : Cx} {e : Expr} {t t' : TT} (h : PT X e t) (i : ∀ σ H Q, t' σ H Q → t σ H Q) : PT X e t' := ⟨fun pins s σ H Q I q => h.run pins s σ H Q I (i _ _ _ q)⟩
theorem PA.wk {X : Cx} {e : List Expr} {t t' : TA} (h : PA X e t) (i : ∀ σ H Q, t' σ H Q → t σ H Q) : PA X e t' := ⟨fun pos pins s σ H Q I q => h.run pos pins s σ H Q I (i _ _ _ q)⟩
theorem PS.wk {X : Cx} {e : Stmt} {t t' : TS} (h : PS X e t) (i : ∀ D σ H, t' D σ H → t D σ H) : PS X e t' := ⟨fun pins s σ H D I q => h.run pins s σ H D I (i _ _ _ q)⟩
theorem PSs.wk {X : Cx} {e : List Stmt} {t t' : TS} (h : PSs X e t) (i : ∀ D σ H, t' D σ H → t D σ H) : PSs X e t' := ⟨fun pins s σ H D I q => h.run pins s σ H D I (i _ _ _ q)⟩

section
variable {G : Gd} {T T' : Tie} {m : Mem} {env : Env} {σ : L2.St} {W : WX}
/-- an expression, then what comes with its value -/
theorem tOf.step {f : EV} {k : D → Mem → R D} {Q : VK} {Q' : V → Hp → Prop} (S : Sim G T m) (re : REnv G T env σ) (h : post G T (WS W σ) ((f env m).bind k) Q)
    (hk : ∀ d m1 T1 v, f env m = .ok d m1 → Ext T T1 → Sim G T1 m1 → REnv G T1 env σ → RD G T1 d v → post G T1 (WS W σ) (k d m1) Q → Q' v T1.H) :
    tOf G W f σ T.H Q' := by
  refine ⟨T, env, m, rfl, S, re, ?_⟩
  cases e : f env m with
  | bad => rw [e] at h; exact h.elim
  | ex x m1 => rw [e] at h; exact h
  | ok d m1 =>
    rw [e] at h
    intro T1 v E1 S1 r1
    refine hk d m1 T1 v e E1 S1 (re.ext E1 S) r1 ?_
    have h : post G T (WS W σ) (k d m1) Q := h
    revert h
    cases k d m1 with
    | bad => exact fun h => h
    | ex x m2 => exact fun h T2 cls dd E2 => h T2 cls dd (E1.trans E2)
    | ok d2 m2 => exact fun h T2 v2 E2 => h T2 v2 (E1.trans E2)
end
end Itp
set_option Elab.async false
set_option linter.all false
set_option maxRecDepth 100000
/-! Itp B: operators, built-ins by values. -/
namespace Itp
open PySem PySem.Spec PyProof.Rows L2

abbrev SZ : Nat := 16777216
theorem SZ_eq : SZ = sizeLine := by rw [sizeLine_eq]

/-- the wish where nothing may be raised -/
abbrev W0 : Value → Option Addr → Hp → Prop := fun _ _ _ => False
def rcOf (G : Gd) (h : List D → Mem → R D) : List V → Hp → VK → Prop := fun vs H Q => ∃ T m ds, T.H = H ∧ Sim G T m ∧ RDs G T ds vs ∧ post G T W0 (h ds m) Q
def r2Of (G : Gd) (h : D → D → Mem → R D) : R2 := fun x y H Q => ∃ T m d e, T.H = H ∧ Sim G T m ∧ RD G T d x ∧ RD G T e y ∧ post G T W0 (h d e m) Q
def r1Of (G : Gd) (h : D → Mem → R D) : V → Hp → VK → Prop := fun x H Q => ∃ T m d, T.H = H ∧ Sim G T m ∧ RD G T d x ∧ post G T W0 (h d m) Q
def rmOf (G : Gd) (h : D → List D → Mem → R D) : V → List V → Hp → VK → Prop := fun x vs H Q => ∃ T m d ds, T.H = H ∧ Sim G T m ∧ RD G T d x ∧ RDs G T ds vs ∧ post G T W0 (h d ds m) Q

section
variable {G : Gd} {T T' : Tie} {m : Mem} {Q : VK} {W : Value → Option Addr → Hp → Prop} {d : D} {v : V} {ds : List D} {vs : List V}

theorem post_ok (S : Sim G T m) (r : RD G T d v) (h : post G T W (.ok d m) Q) : Q v T.H := h T v (Ext.refl T) S r

/-- a fresh object that is nobody's to change -/
def Tie.frz (T : Tie) (p : Addr) (o : HO) : Tie := ⟨T.mu, fun q => T.own q ∧ q ≠ p, upd T.H p o⟩
def Tie.add (T : Tie) (p : Addr) (o : HO) : Tie := ⟨T.mu ++ [p], fun q => T.own q ∨ q = p, upd T.H p o⟩
def Tie.chg (T : Tie) (p : Addr) (o : HO) : Tie := ⟨T.mu, T.own, upd T.H p o⟩

theorem Sim.ne (S : Sim G T m) {p q : Addr} (hp : T.H p = none) (hq : q ∈ T.mu) : q ≠ p := fun e => by
  obtain ⟨_, _, _, _, r⟩ := S.at hq
  obtain ⟨u, e2, _⟩ := r.mut
  rw [e, hp] at e2; cases e2
theorem ext_frz (S : Sim G T m) {p : Addr} {o : HO} (hp : T.H p = none) : Ext T (T.frz p o) :=
  ⟨List.prefix_refl _, fun q u h n => by
    have ne : q ≠ p := fun e => by rw [e, hp] at h; cases h
    exact ⟨by show upd T.H p o q = _; rw [upd_ne ne]; exact h, n, ⟨fun z => z.1, fun z => ⟨z, ne⟩⟩⟩⟩
theorem ext_add (S : Sim G T m) {p : Addr} {o : HO} (hp : T.H p = none) : Ext T (T.add p o) :=
  ⟨List.prefix_append _ _, fun q u h n => by
    have ne : q ≠ p := fun e => by rw [e, hp] at h; cases h
    refine ⟨by show upd T.H p o q = _; rw [upd_ne ne]; exact h, ?_, ⟨fun z => z.resolve_right ne, .inl⟩⟩
    intro hm
    rcases List.mem_append.mp hm with z | z
    · exact n z
    · exact ne (by simpa using z)⟩
theorem ext_chg (S : Sim G T m) {p : Addr} {o : HO} (hp : p ∈ T.mu) : Ext T (T.chg p o) :=
  ⟨List.prefix_refl _, fun q u h n => by
    have ne : q ≠ p := fun e => n (e ▸ hp)
    exact ⟨by show upd T.H p o q = _; rw [upd_ne ne]; exact h, n, Iff.rfl⟩⟩

theorem RFs.ext (E : Ext T T') (S : Sim G T m) : ∀ {fs : List (Str × D)} {gs : List (Str × V)}, RFs G T fs gs → RFs G T' fs gs
  | _, _, .nil => .nil
  | _, _, .cons r t => .cons (E.rd S _ _ r) (RFs.ext E S t)
theorem RKs.ext (E : Ext T T') (S : Sim G T m) : ∀ {fs : List (Ky × D)} {gs : List (Key × V)}, RKs G T fs gs → RKs G T' fs gs
  | _, _, .nil => .nil
  | _, _, .cons r t => .cons (E.rd S _ _ r) (RKs.ext E S t)
theorem RO.ext (E : Ext T T') (S : Sim G T m) {p : Addr} {o : O} (e : T'.H p = T.H p) (h : RO G T p o) : RO G T' p o := by
  cases o with
  | lst ds => obtain ⟨vs, h1, r⟩ := h; exact ⟨vs, by rw [e]; exact h1, E.rds S _ _ r⟩
  | dk kvs => obtain ⟨ks, h1, r⟩ := h; exact ⟨ks, by rw [e]; exact h1, r.ext E S⟩
  | ins c fs => obtain ⟨dx, gs, h1, r, n⟩ := h; exact ⟨dx, gs, by rw [e]; exact h1, r.ext E S, n⟩
theorem sim_frz (S : Sim G T m) {p : Addr} {o : HO} (hp : T.H p = none) : Sim G (T.frz p o) m :=
  ⟨fun q h => ⟨S.sub q h, S.ne hp h⟩, S.nd, S.len, fun i u q h1 h2 => (S.obj i u q h1 h2).ext (ext_frz S hp) S (upd_ne (S.ne hp (List.mem_of_getElem? h2)))⟩
theorem sim_add (S : Sim G T m) {p : Addr} {o : HO} {u : O} (hp : T.H p = none) (h : RO G (T.add p o) p u) : Sim G (T.add p o) (m ++ [u]) := by
  have np : p ∉ T.mu := fun z => S.ne hp z rfl
  refine ⟨fun q h => ?_, ?_, by simp [Tie.add, S.len], fun i w q h1 h2 => ?_⟩
  · rcases List.mem_append.mp h with z | z
    · exact .inl (S.sub q z)
    · exact .inr (by simpa using z)
  · show (T.mu ++ [p]).Nodup
    rw [List.nodup_append]
    refine ⟨S.nd, by simp, fun a ha b hb => ?_⟩
    have : b = p := by simpa using hb
    subst this
    exact fun e => np (e ▸ ha)
  · have h2' : (T.mu ++ [p])[i]? = some q := h2
    by_cases c : i < m.length
    · rw [List.getElem?_append_left c] at h1
      rw [List.getElem?_append_left (by rw [S.len]; exact c)] at h2'
      exact (S.obj i w q h1 h2').ext (ext_add S hp) S (upd_ne (S.ne hp (List.mem_of_getElem? h2')))
    · have c2 : i = m.length := by
        have := (List.getElem?_eq_some_iff.mp h1).1
        simp at this; omega
      subst c2
      rw [List.getElem?_append_right (by omega)] at h1
      rw [List.getElem?_append_right (by rw [S.len]; omega)] at h2'
      simp [S.len] at h1 h2'
      subst h1; subst h2'
      exact h
theorem sim_chg (S : Sim G T m) {p : Addr} {i : Nat} {o : HO} {u : O} (hp : T.mu[i]? = some p) (h : RO G (T.chg p o) p u) : Sim G (T.chg p o) (m.set i u) := by
  have hm : p ∈ T.mu := List.mem_of_getElem? hp
  refine ⟨S.sub, S.nd, by simp [Tie.chg, S.len], fun j w q h1 h2 => ?_⟩
  have h2' : T.mu[j]? = some q := h2
  by_cases c : j = i
  · subst c
    rw [hp] at h2'; cases h2'
    have hl : j < m.length := by have := (List.getElem?_eq_some_iff.mp h1).1; simpa using this
    rw [List.getElem?_set_self hl] at h1
    cases h1
    exact h
  · rw [List.getElem?_set_ne (Ne.symm c)] at h1
    have ne : q ≠ p := fun e => by
      subst e
      obtain ⟨k1, e1⟩ := List.getElem?_eq_some_iff.mp h2'
      obtain ⟨k2, e2⟩ := List.getElem?_eq_some_iff.mp hp
      exact c ((List.getElem_inj S.nd).mp (e1.trans e2.symm))
    exact (S.obj j w q h1 h2').ext (ext_chg S hm) S (upd_ne ne)

/-- a new list: the memory's (mt) or plain data -/
def mkL (mt : Bool) (ds : List D) (m : Mem) : R D :=
  if ds.length ≤ SZ then (if mt then .ok (.ref m.length) (m ++ [.lst ds]) else .ok (.fl ds) m) else .bad
theorem mkL_len {mt : Bool} (h : post G T W (mkL mt ds m) Q) : ds.length ≤ sizeLine := by
  unfold mkL at h
  split at h
  · rename_i hl; rw [← SZ_eq]; exact hl
  · exact h.elim
theorem post_mkL {mt : Bool} (S : Sim G T m) (r : RDs G T ds vs) (h : post G T W (mkL mt ds m) Q) : ∀ p, T.H p = none → Q (.ref p) (upd T.H p (.lst vs)) := fun p hp => by
  unfold mkL at h
  split at h
  · cases mt with
    | true =>
      rw [if_pos rfl] at h
      have E := ext_add (o := .lst vs) S hp
      exact h (T.add p (.lst vs)) _ E (sim_add S hp ⟨vs, upd_same, E.rds S _ _ r⟩) (.ref (by show (T.mu ++ [p])[m.length]? = _; rw [← S.len]; simp))
    | false =>
      rw [if_neg Bool.false_ne_true] at h
      have E := ext_frz (o := .lst vs) S hp
      exact h (T.frz p (.lst vs)) _ E (sim_frz S hp) (.fl upd_same (fun z => z.2 rfl) (E.rds S _ _ r))
  · exact h.elim
def mkT (ds : List D) (m : Mem) : R D := if ds.length ≤ SZ then .ok (.tup ds) m else .bad
theorem mkT_len (h : post G T W (mkT ds m) Q) : ds.length ≤ sizeLine := by
  unfold mkT at h
  split at h
  · rename_i hl; rw [← SZ_eq]; exact hl
  · exact h.elim
theorem post_mkT (S : Sim G T m) (r : RDs G T ds vs) (h : post G T W (mkT ds m) Q) : ∀ p, T.H p = none → Q (.ref p) (upd T.H p (.tup vs)) := fun p hp => by
  unfold mkT at h
  split at h
  · have E := ext_frz (o := .tup vs) S hp
    exact h (T.frz p (.tup vs)) _ E (sim_frz S hp) (.tup (.of upd_same) (E.rds S _ _ r))
  · exact h.elim
theorem mkT_ok (h : post G T W (mkT ds m) Q) : post G T W (.ok (.tup ds) m) Q := by
  unfold mkT at h
  split at h
  · exact h
  · exact h.elim
end

/-! ### reading sequences -/
def lstOf (m : Mem) : D → Option (List D)
  | .fl ds => some ds
  | .sc ds => some ds
  | .ref a => match (m : List O)[a]? with
    | some (.lst ds) => some ds
    | _ => none
  | _ => none
section
variable {G : Gd} {T T' : Tie} {m : Mem} {d : D} {v : V} {ds : List D}
theorem RD.list (S : Sim G T m) (r : RD G T d v) (h : lstOf m d = some ds) : ∃ p vs, v = .ref p ∧ SqL G.K T.H p vs ∧ RDs G T ds vs := by
  cases r with
  | fl h1 _ h2 => cases h; exact ⟨_, _, rfl, .of h1, h2⟩
  | sc h1 h2 => cases h; exact ⟨_, _, rfl, h1.sq, h2⟩
  | ref h1 =>
    rename_i a p
    dsimp only [lstOf] at h
    cases e : (m : List O)[a]? with
    | none => rw [e] at h; cases h
    | some o =>
      rw [e] at h
      cases o with
      | lst es =>
        cases h
        obtain ⟨vs, e2, r2⟩ := S.obj _ _ _ e h1
        exact ⟨_, vs, rfl, .of e2, r2⟩
      | dk _ => cases h
      | ins _ _ => cases h
  | non => cases h
  | bl _ => cases h
  | int _ => cases h
  | str _ => cases h
  | tup _ _ => cases h
theorem RD.tupl (r : RD G T (.tup ds) v) : ∃ p vs, v = .ref p ∧ SqT G.K T.H p vs ∧ RDs G T ds vs := by
  cases r with
  | tup h1 h2 => exact ⟨_, _, rfl, h1, h2⟩
theorem RD.inti {i : Int} (r : RD G T (.int i) v) : v = .int i := by cases r; rfl
theorem RD.bool {i : Bool} (r : RD G T (.bl i) v) : v = .bl i := by cases r; rfl
theorem RD.stri {i : List Nat} (r : RD G T (.str i) v) : v = .str (stS i) := by cases r; rfl
theorem RD.none (r : RD G T .non v) : v = .non := by cases r; rfl
/-- a list of the memory, to be changed -/
theorem RD.mlist (S : Sim G T m) {a : Nat} (r : RD G T (.ref a) v) (h : (m : List O)[a]? = some (.lst ds)) : ∃ p vs, v = .ref p ∧ T.mu[a]? = some p ∧ T.H p = some (.lst vs) ∧ RDs G T ds vs := by
  cases r with
  | ref h1 =>
    obtain ⟨vs, e2, r2⟩ := S.obj _ _ _ h h1
    exact ⟨_, vs, rfl, h1, e2, r2⟩
end

/-! ### data for == -/
mutual
def py0 : D → Option PyData
  | .non => some .none
  | .bl b => some (.bool b)
  | .int i => some (.int i)
  | .str s => some (.str (stS s))
  | .tup ds => (py0s ds).map .tuple
  | .fl ds => (py0s ds).map .list
  | .sc ds => (py0s ds).map .list
  | .ref _ => none
def py0s : List D → Option (List PyData)
  | [] => some []
  | d :: ds => match py0 d, py0s ds with
    | some x, some xs => some (x :: xs)
    | _, _ => none
end
mutual
def pyOf (m : Mem) : D → Option PyData
  | .non => some .none
  | .bl b => some (.bool b)
  | .int i => some (.int i)
  | .str s => some (.str (stS s))
  | .tup ds => (pyOfs m ds).map .tuple
  | .fl ds => (pyOfs m ds).map .list
  | .sc ds => (pyOfs m ds).map .list
  | .ref a => match (m : List O)[a]? with
    | some (.lst ds) => (py0s ds).map .list
    | _ => none
def pyOfs (m : Mem) : List D → Option (List PyData)
  | [] => some []
  | d :: ds => match pyOf m d, pyOfs m ds with
    | some x, some xs => some (x :: xs)
    | _, _ => none
end
section
variable {G : Gd} {T : Tie} {m : Mem}
mutual
theorem dp0 : ∀ (d : D) (v : V) (y : PyData), RD G T d v → py0 d = some y → Dp G.K T.H v y
  | .non, _, _, r, h => by cases r; simp [py0] at h; subst h; exact .non
  | .bl _, _, _, r, h => by cases r; simp [py0] at h; subst h; exact .bl _
  | .int _, _, _, r, h => by cases r; simp [py0] at h; subst h; exact .int _
  | .str _, _, _, r, h => by cases r; simp [py0] at h; subst h; exact .str _
  | .tup ds, _, _, r, h => by
    cases r with
    | tup h1 h2 =>
      unfold py0 at h
      cases e : py0s ds with
      | none => rw [e] at h; cases h
      | some ys => rw [e] at h; cases h; exact .tup h1 (dp0s ds _ ys h2 e)
  | .fl ds, _, _, r, h => by
    cases r with
    | fl h1 _ h2 =>
      unfold py0 at h
      cases e : py0s ds with
      | none => rw [e] at h; cases h
      | some ys => rw [e] at h; cases h; exact .lst (.of h1) (dp0s ds _ ys h2 e)
  | .sc ds, _, _, r, h => by
    cases r with
    | sc h1 h2 =>
      unfold py0 at h
      cases e : py0s ds with
      | none => rw [e] at h; cases h
      | some ys => rw [e] at h; cases h; exact .lst h1.sq (dp0s ds _ ys h2 e)
  | .ref _, _, _, r, h => by simp [py0] at h
theorem dp0s : ∀ (ds : List D) (vs : List V) (ys : List PyData), RDs G T ds vs → py0s ds = some ys → DpAll G.K T.H vs ys
  | [], _, _, r, h => by cases r; simp [py0s] at h; subst h; exact .nil
  | d :: ds, _, _, r, h => by
    cases r with
    | cons r1 r2 =>
      unfold py0s at h
      cases e1 : py0 d with
      | none => rw [e1] at h; simp at h
      | some x =>
        cases e2 : py0s ds with
        | none => rw [e1, e2] at h; simp at h
        | some xs =>
          rw [e1, e2] at h; cases h
          exact .cons (dp0 d _ x r1 e1) (dp0s ds _ xs r2 e2)
end
mutual
theorem dpOf (S : Sim G T m) : ∀ (d : D) (v : V) (y : PyData), RD G T d v → pyOf m d = some y → Dp G.K T.H v y
  | .non, _, _, r, h => by cases r; simp [pyOf] at h; subst h; exact .non
  | .bl _, _, _, r, h => by cases r; simp [pyOf] at h; subst h; exact .bl _
  | .int _, _, _, r, h => by cases r; simp [pyOf] at h; subst h; exact .int _
  | .str _, _, _, r, h => by cases r; simp [pyOf] at h; subst h; exact .str _
  | .tup ds, _, _, r, h => by
    cases r with
    | tup h1 h2 =>
      unfold pyOf at h
      cases e : pyOfs m ds with
      | none => rw [e] at h; cases h
      | some ys => rw [e] at h; cases h; exact .tup h1 (dpOfs S ds _ ys h2 e)
  | .fl ds, _, _, r, h => by
    cases r with
    | fl h1 _ h2 =>
      unfold pyOf at h
      cases e : pyOfs m ds with
      | none => rw [e] at h; cases h
      | some ys => rw [e] at h; cases h; exact .lst (.of h1) (dpOfs S ds _ ys h2 e)
  | .sc ds, _, _, r, h => by
    cases r with
    | sc h1 h2 =>
      unfold pyOf at h
      cases e : pyOfs m ds with
      | none => rw [e] at h; cases h
      | some ys => rw [e] at h; cases h; exact .lst h1.sq (dpOfs S ds _ ys h2 e)
  | .ref a, _, _, r, h => by
    unfold pyOf at h
    cases e : (m : List O)[a]? with
    | none => rw [e] at h; cases h
    | some o =>
      rw [e] at h
      cases o with
      | lst es =>
        obtain ⟨p, vs, rfl, _, e2, r2⟩ := r.mlist S e
        replace h : (py0s es).map PyData.list = some _ := h
        cases e3 : py0s es with
        | none => rw [e3] at h; cases h
        | some ys => rw [e3] at h; cases h; exact .lst (.of e2) (dp0s es _ ys r2 e3)
      | dk _ => cases h
      | ins _ _ => cases h
theorem dpOfs (S : Sim G T m) : ∀ (ds : List D) (vs : List V) (ys : List PyData), RDs G T ds vs → pyOfs m ds = some ys → DpAll G.K T.H vs ys
  | [], _, _, r, h => by cases r; simp [pyOfs] at h; subst h; exact .nil
  | d :: ds, _, _, r, h => by
    cases r with
    | cons r1 r2 =>
      unfold pyOfs at h
      cases e1 : pyOf m d with
      | none => rw [e1] at h; simp at h
      | some x =>
        cases e2 : pyOfs m ds with
        | none => rw [e1, e2] at h; simp at h
        | some xs =>
          rw [e1, e2] at h; cases h
          exact .cons (dpOf S d _ x r1 e1) (dpOfs S ds _ xs r2 e2)
end
end
end Itp
set_option Elab.async false
set_option linter.all false
set_option maxRecDepth 100000
/-! Itp C: operators, built-in functions and methods by values. -/
namespace Itp
open PySem PySem.Spec PyProof.Rows L2

section
variable {X : Cx} {G : Gd}

/-- a list that is no frozen one -/
def plOf (m : Mem) : D → Option (List D)
  | .fl ds => some ds
  | .ref a => match (m : List O)[a]? with
    | some (.lst ds) => some ds
    | _ => none
  | _ => none
theorem RD.plist {T : Tie} {m : Mem} {d : D} {v : V} {ds : List D} (S : Sim G T m) (r : RD G T d v) (h : plOf m d = some ds) : ∃ p vs, v = .ref p ∧ T.H p = some (.lst vs) ∧ RDs G T ds vs := by
  cases d with
  | fl es => cases r with | fl h1 _ h2 => cases h; exact ⟨_, _, rfl, h1, h2⟩
  | ref a =>
    dsimp only [plOf] at h
    cases e : (m : List O)[a]? with
    | none => rw [e] at h; cases h
    | some o =>
      rw [e] at h
      cases o with
      | lst es => cases h; obtain ⟨p, vs, h1, _, h2, h3⟩ := r.mlist S e; exact ⟨p, vs, h1, h2, h3⟩
      | dk _ => cases h
      | ins _ _ => cases h
  | _ => cases h

def okD (c : Bool) (d : D) (m : Mem) : R D := if c then .ok d m else .bad
theorem okD_of {T : Tie} {m : Mem} {W : Value → Option Addr → Hp → Prop} {Q : VK} {c : Bool} {d : D} (h : post G T W (okD c d m) Q) : c = true ∧ post G T W (.ok d m) Q := by
  unfold okD at h
  split at h
  · rename_i e; exact ⟨e, h⟩
  · exact h.elim

def opAdd (mt : Bool) : D → D → Mem → R D
  | .int i, .int j, m => .ok (.int (i + j)) m
  | .str a, .str b, m => okD (decide (a.length + b.length ≤ SZ)) (.str (a ++ b)) m
  | .tup a, .tup b, m => mkT (a ++ b) m
  | x, y, m => match plOf m x, plOf m y with
    | some a, some b => mkL mt (a ++ b) m
    | _, _ => .bad
theorem stS_len (a : List Nat) : (stS a).length = a.length := by simp [stS, Str.length]
theorem stS_app (a b : List Nat) : stS a ++ stS b = stS (a ++ b) := by
  show Str.mk _ = Str.mk _
  simp [stS]
theorem s_add (hK : G.K = X.K) {mt : Bool} : OpR X (binaryOp .Add) (r2Of G (opAdd mt)) := by
  intro pins s σ H x y v u Q I rx ry h
  obtain ⟨K, cl, xs0⟩ := G; obtain rfl : K = X.K := hK
  obtain ⟨T, m, d, e, rfl, S, rd, re, p⟩ := h
  have lists : (match plOf m d, plOf m e with
    | some a, some b => mkL mt (a ++ b) m
    | _, _ => R.bad) = opAdd mt d e m → wpAny (model X.prog X.w) X.A (binaryOp .Add v u) (EP X pins σ Q) X.xe s := by
    intro q
    rw [← q] at p
    cases e1 : plOf m d with
    | none => rw [e1] at p; exact p.elim
    | some a =>
      cases e2 : plOf m e with
      | none => rw [e1, e2] at p; exact p.elim
      | some b =>
        rw [e1, e2] at p
        obtain ⟨p1, v1, rfl, h1, r1⟩ := rd.plist S e1
        obtain ⟨p2, v2, rfl, h2, r2⟩ := re.plist S e2
        have hl := mkL_len p
        rw [List.length_append, r1.length, r2.length] at hl
        exact op_cat pins s σ _ _ _ v u Q I rx ry ⟨p1, p2, v1, v2, rfl, rfl, h1, h2, hl, post_mkL S (r1.append r2) p⟩
  cases d with
  | int i =>
    cases e with
    | int j =>
      obtain rfl := rd.inti; obtain rfl := re.inti
      exact op_add pins s σ _ _ _ v u Q I rx ry ⟨i, j, rfl, rfl, post_ok S (.int _) p⟩
    | _ => exact lists rfl
  | str i =>
    cases e with
    | str j =>
      obtain rfl := rd.stri; obtain rfl := re.stri
      obtain ⟨c, p⟩ := okD_of p
      exact op_add_str pins s σ _ _ _ v u Q I rx ry ⟨_, _, rfl, rfl, by rw [stS_len, stS_len, ← SZ_eq]; exact of_decide_eq_true c, by rw [stS_app]; exact post_ok S (.str _) p⟩
    | _ => exact lists rfl
  | tup i =>
    cases e with
    | tup j =>
      obtain ⟨p1, v1, rfl, h1, r1⟩ := rd.tupl
      obtain ⟨p2, v2, rfl, h2, r2⟩ := re.tupl
      have hl := mkT_len p
      rw [List.length_append, r1.length, r2.length] at hl
      refine op_catA pins s σ _ _ _ v u Q I rx ry ⟨p1, p2, v1, v2, rfl, rfl, h1, h2, hl, fun z => ?_, fun _ z => ?_, fun _ _ => post_mkT S (r1.append r2) p⟩
      · subst z
        have : i = [] := List.length_eq_zero_iff.mp (r1.length)
        subst this
        exact post_ok S re (mkT_ok p)
      · subst z
        have : j = [] := List.length_eq_zero_iff.mp (r2.length)
        subst this
        have p' := mkT_ok p
        rw [List.append_nil] at p'
        exact post_ok S rd p'
    | _ => exact lists rfl
  | _ => exact lists rfl

/-- two ints -/
def opI (c : Int → Int → Bool) (g : Int → Int → D) : D → D → Mem → R D
  | .int i, .int j, m => okD (c i j) (g i j) m
  | _, _, _ => .bad
theorem s_opI {f : Value → Value → Sem Value} {c : Int → Int → Bool} {C : Int → Int → Prop} {g : Int → Int → D} {gv : Int → Int → V} (h : OpR X f (rI C gv)) (hc : ∀ i j, c i j = true → C i j) (hg : ∀ (T : Tie) i j, RD G T (g i j) (gv i j)) : OpR X f (r2Of G (opI c g)) := by
  intro pins s σ H x y v u Q I rx ry q
  obtain ⟨T, m, d, e, rfl, S, rd, re, p⟩ := q
  cases d with
  | int i =>
    cases e with
    | int j =>
      obtain rfl := rd.inti; obtain rfl := re.inti
      obtain ⟨k, p⟩ := okD_of p
      exact h pins s σ _ _ _ v u Q I rx ry ⟨i, j, rfl, rfl, hc i j k, post_ok S (hg T i j) p⟩
    | _ => exact p.elim
  | _ => exact p.elim
theorem opR0 {f : Value → Value → Sem Value} {gv : Int → Int → V} (h : OpR X f (rI0 gv)) : OpR X f (rI (fun _ _ => True) gv) := fun pins s σ H x y v u Q I rx ry ⟨i, j, e1, e2, _, q⟩ => h pins s σ H x y v u Q I rx ry ⟨i, j, e1, e2, q⟩

def cT : Int → Int → Bool := fun _ _ => true
def opSub := opI cT fun i j => .int (i - j)
def cMul (i j : Int) : Bool := decide (i.natAbs.log2 + j.natAbs.log2 < 1000000)
def opMul0 := opI cMul fun i j => .int (i * j)
def cDiv (_ j : Int) : Bool := decide (0 < j ∧ j.natAbs.log2 < 9000)
def opFDiv := opI cDiv fun i j => .int (i / j)
def cMod (_ j : Int) : Bool := decide (0 < j)
def opMod := opI cMod fun i j => .int (i % j)
def cPow (i j : Int) : Bool := decide (0 ≤ j ∧ j ≤ 1000000 ∧ i.natAbs < 2 ^ 64)
def opPow := opI cPow fun i j => .int (i ^ j.toNat)
def opLt := opI cT fun i j => .bl (decide (i < j))
def opLe := opI cT fun i j => .bl (decide (i ≤ j))
def opGt := opI cT fun i j => .bl (decide (j < i))
def opGe := opI cT fun i j => .bl (decide (j ≤ i))
theorem s_sub : OpR X (binaryOp .Sub) (r2Of G opSub) := s_opI (opR0 op_sub) (fun _ _ _ => trivial) fun _ _ _ => .int _
theorem s_mul : OpR X (binaryOp .Mult) (r2Of G opMul0) := s_opI op_mulW (fun _ _ h => by have k := of_decide_eq_true h; exact k) fun _ _ _ => .int _
theorem s_fdiv : OpR X (binaryOp .FloorDiv) (r2Of G opFDiv) := s_opI op_fdivW (fun _ _ h => by have k := of_decide_eq_true h; exact k) fun _ _ _ => .int _
theorem s_mod : OpR X (binaryOp .Mod) (r2Of G opMod) := s_opI op_mod (fun _ _ h => by have k := of_decide_eq_true h; exact k) fun _ _ _ => .int _
theorem s_pow : OpR X (binaryOp .Pow) (r2Of G opPow) := s_opI op_pow (fun _ _ h => by have k := of_decide_eq_true h; exact k) fun _ _ _ => .int _
theorem s_lt : OpR X (compareOp .Lt) (r2Of G opLt) := s_opI (opR0 op_lt) (fun _ _ _ => trivial) fun _ _ _ => .bl _
theorem s_le : OpR X (compareOp .LtE) (r2Of G opLe) := s_opI (opR0 op_le) (fun _ _ _ => trivial) fun _ _ _ => .bl _
theorem s_gt : OpR X (compareOp .Gt) (r2Of G opGt) := s_opI (opR0 op_gt) (fun _ _ _ => trivial) fun _ _ _ => .bl _
theorem s_ge : OpR X (compareOp .GtE) (r2Of G opGe) := s_opI (opR0 op_ge) (fun _ _ _ => trivial) fun _ _ _ => .bl _

def eqM (m : Mem) (d e : D) : Option Bool :=
  match pyOf m d, pyOf m e with
  | some x, some y => if SeqAt.shaped x && SeqAt.shaped y then some (PyData.eqv x y) else none
  | _, _ => none
def opEq (ng : Bool) (d e : D) (m : Mem) : R D :=
  match eqM m d e with
  | some b => .ok (.bl (if ng then !b else b)) m
  | none => .bad
theorem eqM_dp {T : Tie} {m : Mem} {d e : D} {x y : V} {b : Bool} (S : Sim G T m) (rd : RD G T d x) (re : RD G T e y) (h : eqM m d e = some b) :
    ∃ a c, Dp G.K T.H x a ∧ Dp G.K T.H y c ∧ SeqAt.shaped a = true ∧ SeqAt.shaped c = true ∧ b = PyData.eqv a c := by
  unfold eqM at h
  cases e1 : pyOf m d with
  | none => rw [e1] at h; cases h
  | some a =>
    cases e2 : pyOf m e with
    | none => rw [e1, e2] at h; cases h
    | some c =>
      rw [e1, e2] at h
      replace h : (if SeqAt.shaped a && SeqAt.shaped c then some (PyData.eqv a c) else none) = some b := h
      split at h
      · rename_i k
        rw [Bool.and_eq_true] at k
        cases h
        exact ⟨a, c, dpOf S d x a rd e1, dpOf S e y c re e2, k.1, k.2, rfl⟩
      · cases h
theorem s_eq (hK : G.K = X.K) (hu : X.A.units + 64 < cLine) : OpR X (compareOp .Eq) (r2Of G (opEq false)) := by
  intro pins s σ H x y v u Q I rx ry q
  obtain ⟨K, cl, xs0⟩ := G; obtain rfl : K = X.K := hK
  obtain ⟨T, m, d, e, rfl, S, rd, re, p⟩ := q
  unfold opEq at p
  cases h : eqM m d e with
  | none => rw [h] at p; exact p.elim
  | some b =>
    rw [h] at p
    obtain ⟨a, c, h1, h2, h3, h4, rfl⟩ := eqM_dp S rd re h
    exact op_eqD hu pins s σ _ _ _ v u Q I rx ry ⟨a, c, h1, h2, h3, h4, post_ok S (.bl _) p⟩
theorem s_ne (hK : G.K = X.K) (hu : X.A.units + 64 < cLine) : OpR X (compareOp .NotEq) (r2Of G (opEq true)) := by
  intro pins s σ H x y v u Q I rx ry q
  obtain ⟨K, cl, xs0⟩ := G; obtain rfl : K = X.K := hK
  obtain ⟨T, m, d, e, rfl, S, rd, re, p⟩ := q
  unfold opEq at p
  cases h : eqM m d e with
  | none => rw [h] at p; exact p.elim
  | some b =>
    rw [h] at p
    obtain ⟨a, c, h1, h2, h3, h4, rfl⟩ := eqM_dp S rd re h
    exact op_neD hu pins s σ _ _ _ v u Q I rx ry ⟨a, c, h1, h2, h3, h4, post_ok S (.bl _) p⟩
def isNonB : D → Bool
  | .non => true
  | _ => false
/-- is None, is not None -/
def opIsN (ng : Bool) : D → D → Mem → R D
  | .non, .non, m => .ok (.bl (!ng)) m
  | .ref _, .non, m => .ok (.bl ng) m
  | .bl _, .non, m => .ok (.bl ng) m
  | .int _, .non, m => .ok (.bl ng) m
  | .str _, .non, m => .ok (.bl ng) m
  | .tup _, .non, m => .ok (.bl ng) m
  | .fl _, .non, m => .ok (.bl ng) m
  | .sc _, .non, m => .ok (.bl ng) m
  | _, _, _ => .bad
theorem RD.nonb {T : Tie} {d : D} {x : V} (r : RD G T d x) : decide (x = .non) = (isNonB d) := by
  cases r <;> rfl
theorem opIsN_ok {ng : Bool} {d e : D} {m : Mem} : opIsN ng d e m = .bad ∨ (e = .non ∧ opIsN ng d e m = .ok (.bl (if ng then !(isNonB d) else (isNonB d))) m) := by
  cases e <;> first
    | (refine .inl ?_; cases d <;> rfl)
    | (refine .inr ⟨rfl, ?_⟩; cases d <;> cases ng <;> rfl)
theorem s_is : OpR X (compareOp .Is) (r2Of G (opIsN false)) := by
  intro pins s σ H x y v u Q I rx ry q
  obtain ⟨T, m, d, e, rfl, S, rd, re, p⟩ := q
  rcases opIsN_ok (ng := false) (d := d) (e := e) (m := m) with z | ⟨rfl, z⟩
  · rw [z] at p; exact p.elim
  · rw [z] at p
    obtain rfl := re.none
    exact op_isN pins s σ _ _ _ v u Q I rx ry ⟨rfl, by rw [rd.nonb]; exact post_ok S (.bl _) p⟩
theorem s_isnot : OpR X (compareOp .IsNot) (r2Of G (opIsN true)) := by
  intro pins s σ H x y v u Q I rx ry q
  obtain ⟨T, m, d, e, rfl, S, rd, re, p⟩ := q
  rcases opIsN_ok (ng := true) (d := d) (e := e) (m := m) with z | ⟨rfl, z⟩
  · rw [z] at p; exact p.elim
  · rw [z] at p
    obtain rfl := re.none
    exact op_notN pins s σ _ _ _ v u Q I rx ry ⟨rfl, by rw [rd.nonb]; exact post_ok S (.bl _) p⟩

/-! ### subscripts -/
def atD (ds : List D) (i : Int) : Option D := atI ds i
def opIx0 : D → D → Mem → R D
  | .tup ds, .int i, m => match atD ds i with | some d => .ok d m | none => .bad
  | .str s, .int i, m => match atI s i with | some c => okD (decide (s.length ≤ SZ)) (.str [c]) m | none => .bad
  | x, .int i, m => match lstOf m x with
    | some ds => match atD ds i with | some d => .ok d m | none => .bad
    | none => .bad
  | _, _, _ => .bad
theorem RDs.atI {T : Tie} {ds : List D} {vs : List V} {i : Int} {d : D} (r : RDs G T ds vs) (h : atD ds i = some d) : ∃ v, L2.atI vs i = some v ∧ RD G T d v := by
  unfold atD L2.atI at *
  rw [← r.length]
  cases e : ixN ds.length i with
  | none => rw [e] at h; cases h
  | some j =>
    rw [e] at h
    obtain ⟨v, h1, h2⟩ := r.get h
    exact ⟨v, h1, h2⟩
theorem s_ix (hK : G.K = X.K) : IxR X (r2Of G opIx0) := by
  intro value slice pins s σ H x y v u Q I rx ry q hs
  obtain ⟨K, cl, xs0⟩ := G; obtain rfl : K = X.K := hK
  obtain ⟨T, m, d, e, rfl, S, rd, re, p⟩ := q
  cases e with
  | int i =>
    obtain rfl := re.inti
    have lists : (match lstOf m d with
      | some ds => match atD ds i with | some d => R.ok d m | none => .bad
      | none => .bad) = opIx0 d (.int i) m → wpAny (model X.prog X.w) X.A (subscriptTail value slice v u) (EP X pins σ Q) X.xe s := by
      intro q
      rw [← q] at p
      cases e1 : lstOf m d with
      | none => rw [e1] at p; exact p.elim
      | some ds =>
        rw [e1] at p
        obtain ⟨p1, v1, rfl, h1, r1⟩ := rd.list S e1
        replace p : post _ T W0 (match atD ds i with | some d => R.ok d m | none => .bad) Q := p
        cases e2 : atD ds i with
        | none => rw [e2] at p; exact p.elim
        | some d2 =>
          rw [e2] at p
          obtain ⟨w, h2, r2⟩ := r1.atI e2
          exact ix_list value slice pins s σ _ _ _ v u Q I rx ry ⟨p1, v1, i, w, rfl, rfl, h1, h2, post_ok S r2 p⟩ hs
    cases d with
    | tup ds =>
      obtain ⟨p1, v1, rfl, h1, r1⟩ := rd.tupl
      replace p : post _ T W0 (match atD ds i with | some d => R.ok d m | none => .bad) Q := p
      cases e2 : atD ds i with
      | none => rw [e2] at p; exact p.elim
      | some d2 =>
        rw [e2] at p
        obtain ⟨w, h2, r2⟩ := r1.atI e2
        exact ix_tup value slice pins s σ _ _ _ v u Q I rx ry ⟨p1, v1, i, w, rfl, rfl, h1, h2, post_ok S r2 p⟩ hs
    | str z =>
      obtain rfl := rd.stri
      replace p : post _ T W0 (match atI z i with | some c => okD (decide (z.length ≤ SZ)) (.str [c]) m | none => .bad) Q := p
      cases e2 : atI z i with
      | none => rw [e2] at p; exact p.elim
      | some c =>
        rw [e2] at p
        obtain ⟨k, p⟩ := okD_of p
        exact ix_str value slice pins s σ _ _ _ v u Q I rx ry ⟨_, i, c, rfl, rfl, by rw [stS_len, ← SZ_eq]; exact of_decide_eq_true k, e2, post_ok S (.str [c]) p⟩ hs
    | _ => exact lists rfl
  | _ =>
    exfalso
    cases d <;> exact p
end
end Itp
set_option Elab.async false
set_option linter.all false
set_option maxRecDepth 100000
/-! Itp C2: built-in functions, methods, slices, in. -/
namespace Itp
open PySem PySem.Spec PyProof.Rows L2

section
variable {X : Cx} {G : Gd}

inductive Ty where
  | nt | bl | int | str | tup | lst | dct
  deriving DecidableEq
def Ty.nm : Ty → String
  | .nt => "NoneType" | .bl => "bool" | .int => "int" | .str => "str" | .tup => "tuple" | .lst => "list" | .dct => "dict"
def isT : Ty → Ty → Bool
  | .nt, .nt => true
  | .bl, .bl => true
  | .bl, .int => true
  | .int, .int => true
  | .str, .str => true
  | .tup, .tup => true
  | .lst, .lst => true
  | .dct, .dct => true
  | _, _ => false
theorem kit_isT : ∀ a b : Ty, kitB a.nm b.nm = some (isT a b) := by
  intro a b
  cases a <;> cases b <;> decide +kernel
def tyD (m : Mem) : D → Option Ty
  | .non => some .nt
  | .bl _ => some .bl
  | .int _ => some .int
  | .str _ => some .str
  | .tup _ => some .tup
  | .fl _ => some .lst
  | .sc _ => some .lst
  | .ref a => match (m : List O)[a]? with
    | some (.lst _) => some .lst
    | some (.dk _) => some .dct
    | _ => none
theorem tyD_ty {T : Tie} {m : Mem} {d : D} {v : V} {t : Ty} (S : Sim G T m) (r : RD G T d v) (h : tyD m d = some t) : TyX G.K T.H v (.type t.nm) := by
  cases r with
  | non => cases h; exact .base .non
  | bl _ => cases h; exact .base (.bl _)
  | int _ => cases h; exact .base (.int _)
  | str _ => cases h; exact .base (.str _)
  | tup h1 _ =>
    cases h
    rcases h1 with (h1 | ⟨o, h1⟩) | ⟨o, _, _, h1, h2, _⟩
    · exact .base (.tup h1)
    · exact .fTuple h1
    · exact .kTuple h1 h2
  | fl h1 _ _ => cases h; exact .base (.lst h1)
  | sc h1 _ =>
    cases h
    rcases h1 with ⟨o, h1⟩ | ⟨o, _, _, h1, h2, _⟩
    · exact .base (.frz h1)
    · exact .kList h1 h2
  | ref h1 =>
    rename_i a p
    dsimp only [tyD] at h
    cases e : (m : List O)[a]? with
    | none => rw [e] at h; cases h
    | some o =>
      rw [e] at h
      have q := S.obj _ _ _ e h1
      cases o with
      | lst es => cases h; obtain ⟨vs, e2, _⟩ := q; exact .base (.lst e2)
      | dk _ => cases h; obtain ⟨vs, e2, _⟩ := q; exact .base (.dK e2)
      | ins _ _ => cases h
theorem kitAny_ts {K : PySem.W.Frag} {t : Ty} : ∀ ts : List Ty, PySem.W.kitAny K (.type t.nm) (ts.map fun x => .type x.nm) = some (ts.any (isT t))
  | [] => rfl
  | c :: cs => by
    rw [List.map_cons, List.any_cons]
    refine kitAny_cons (b := isT t c) (kit_ty (kit_isT t c)) (fun e => ?_) (fun e => by rw [e]; rfl)
    rw [e, Bool.false_or]
    exact kitAny_ts cs
theorem paired_ts : ∀ ts : List Ty, Paired ClsV (ts.map fun x => V.ty x.nm) (ts.map fun x => Value.type x.nm)
  | [] => .nil
  | c :: cs => .cons (.ty _) (paired_ts cs)

/-! ### functions -/
theorem RDs.one {T : Tie} {d : D} {vs : List V} (r : RDs G T [d] vs) : ∃ v, vs = [v] ∧ RD G T d v := by
  cases r with
  | cons h1 h2 => cases h2; exact ⟨_, rfl, h1⟩
theorem RDs.two {T : Tie} {d e : D} {vs : List V} (r : RDs G T [d, e] vs) : ∃ v w, vs = [v, w] ∧ RD G T d v ∧ RD G T e w := by
  cases r with
  | cons h1 h2 => cases h2 with | cons h2 h3 => cases h3; exact ⟨_, _, rfl, h1, h2⟩

/-- list or tuple -/
def sqOf (m : Mem) : D → Option (List D)
  | .tup ds => some ds
  | d => lstOf m d
theorem RD.sq {T : Tie} {m : Mem} {d : D} {v : V} {ds : List D} (S : Sim G T m) (r : RD G T d v) (h : sqOf m d = some ds) : ∃ p vs, v = .ref p ∧ (SqL G.K T.H p vs ∨ SqT G.K T.H p vs) ∧ RDs G T ds vs := by
  have l : lstOf m d = some ds → ∃ p vs, v = .ref p ∧ (SqL G.K T.H p vs ∨ SqT G.K T.H p vs) ∧ RDs G T ds vs := fun e => by
    obtain ⟨p, vs, h1, h2, h3⟩ := r.list S e
    exact ⟨p, vs, h1, .inl h2, h3⟩
  cases d with
  | tup es => cases h; obtain ⟨p, vs, h1, h2, h3⟩ := r.tupl; exact ⟨p, vs, h1, .inr h2, h3⟩
  | _ => exact l h

/-- one argument -/
def b1 (f : D → Mem → R D) : List D → Mem → R D
  | [d], m => f d m
  | _, _ => .bad
def bLen : List D → Mem → R D := b1 fun d m => match d with
  | .str s => okD (decide (s.length ≤ SZ)) (.int s.length) m
  | d => match sqOf m d with
    | some ds => .ok (.int ds.length) m
    | none => .bad
theorem b1_post {f : D → Mem → R D} {T : Tie} {m : Mem} {ds : List D} {vs : List V} {W : Value → Option Addr → Hp → Prop} {Q : VK} (r : RDs G T ds vs) (h : post G T W (b1 f ds m) Q) : ∃ d v, ds = [d] ∧ vs = [v] ∧ RD G T d v ∧ post G T W (f d m) Q := by
  match ds, h with
  | [d], h => obtain ⟨v, e, r1⟩ := r.one; exact ⟨d, v, rfl, e, r1, h⟩
  | [], h => exact h.elim
  | _ :: _ :: _, h => exact h.elim
theorem c_len (hK : G.K = X.K) : CallR X (.builtin "len") (rcOf G bLen) := by
  intro pins s σ H vs us Q I r q
  obtain ⟨K, cl, xs0⟩ := G; obtain rfl : K = X.K := hK
  obtain ⟨T, m, ds, rfl, S, rs, p⟩ := q
  obtain ⟨d, v, rfl, rfl, rd, p⟩ := b1_post rs p
  have sq : (match sqOf m d with
    | some ds => R.ok (.int ds.length) m
    | none => .bad) = bLen [d] m → wpAny (model X.prog X.w) X.A (call (.builtin "len") us) (EP X pins σ Q) X.xe s := fun e => by
    have p : post ⟨X.K, cl, xs0⟩ T W0 (bLen [d] m) Q := p
    rw [← e] at p
    cases e1 : sqOf m d with
    | none => rw [e1] at p; exact p.elim
    | some es =>
      rw [e1] at p
      obtain ⟨a, ws, rfl, hq, r1⟩ := rd.sq S e1
      exact call_len_seq pins s σ _ _ us Q I r ⟨a, ws, rfl, hq, by rw [← r1.length]; exact post_ok S (.int _) p⟩
  cases d with
  | str z =>
    obtain rfl := rd.stri
    obtain ⟨k, p⟩ := okD_of p
    exact call_len_str pins s σ _ _ us Q I r ⟨_, rfl, by rw [stS_len, ← SZ_eq]; exact of_decide_eq_true k, by rw [stS_len]; exact post_ok S (.int _) p⟩
  | _ => exact sq rfl

def bInt : List D → Mem → R D := b1 fun d m => match d with
  | .int i => .ok (.int i) m
  | .bl k => .ok (.int (if k then 1 else 0)) m
  | _ => .bad
theorem c_int : CallR X (.type "int") (rcOf G bInt) := by
  intro pins s σ H vs us Q I r q
  obtain ⟨T, m, ds, rfl, S, rs, p⟩ := q
  obtain ⟨d, v, rfl, rfl, rd, p⟩ := b1_post rs p
  cases d with
  | int i => obtain rfl := rd.inti; exact call_int1 pins s σ _ _ us Q I r (.inl ⟨i, rfl, post_ok S (.int _) p⟩)
  | bl k => obtain rfl := rd.bool; exact call_int1 pins s σ _ _ us Q I r (.inr ⟨k, rfl, post_ok S (.int _) p⟩)
  | _ => exact p.elim

def bTuple : List D → Mem → R D := b1 fun d m => match d with
  | .tup ds => .ok (.tup ds) m
  | d => match lstOf m d with
    | some ds => mkT ds m
    | none => .bad
theorem c_tuple (hK : G.K = X.K) : CallR X (.type "tuple") (rcOf G bTuple) := by
  intro pins s σ H vs us Q I r q
  obtain ⟨K, cl, xs0⟩ := G; obtain rfl : K = X.K := hK
  obtain ⟨T, m, ds, rfl, S, rs, p⟩ := q
  obtain ⟨d, v, rfl, rfl, rd, p⟩ := b1_post rs p
  have sq : (match lstOf m d with
    | some ds => mkT ds m
    | none => .bad) = bTuple [d] m → wpAny (model X.prog X.w) X.A (call (.type "tuple") us) (EP X pins σ Q) X.xe s := fun e => by
    have p : post ⟨X.K, cl, xs0⟩ T W0 (bTuple [d] m) Q := p
    rw [← e] at p
    cases e1 : lstOf m d with
    | none => rw [e1] at p; exact p.elim
    | some es =>
      rw [e1] at p
      obtain ⟨a, ws, rfl, hq, r1⟩ := rd.list S e1
      exact call_tuple_of pins s σ _ _ us Q I r ⟨a, ws, rfl, .inl ⟨hq, post_mkT S r1 p⟩⟩
  cases d with
  | tup es =>
    obtain ⟨a, ws, rfl, hq, r1⟩ := rd.tupl
    exact call_tuple_of pins s σ _ _ us Q I r ⟨a, ws, rfl, .inr ⟨hq, post_ok S rd p⟩⟩
  | _ => exact sq rfl

def bList (mt : Bool) : List D → Mem → R D := b1 fun d m => match sqOf m d with
    | some ds => mkL mt ds m
    | none => .bad
theorem c_list (hK : G.K = X.K) {mt : Bool} : CallR X (.type "list") (rcOf G (bList mt)) := by
  intro pins s σ H vs us Q I r q
  obtain ⟨K, cl, xs0⟩ := G; obtain rfl : K = X.K := hK
  obtain ⟨T, m, ds, rfl, S, rs, p⟩ := q
  obtain ⟨d, v, rfl, rfl, rd, p⟩ := b1_post rs p
  cases e1 : sqOf m d with
  | none => rw [e1] at p; exact p.elim
  | some es =>
    rw [e1] at p
    obtain ⟨a, ws, rfl, hq, r1⟩ := rd.sq S e1
    exact call_list_of pins s σ _ _ us Q I r ⟨a, ws, rfl, hq, post_mkL S r1 p⟩

def bOrd : List D → Mem → R D := b1 fun d m => match d with
  | .str [c] => .ok (.int c) m
  | _ => .bad
theorem c_ord : CallR X (.builtin "ord") (rcOf G bOrd) := by
  intro pins s σ H vs us Q I r q
  obtain ⟨T, m, ds, rfl, S, rs, p⟩ := q
  obtain ⟨d, v, rfl, rfl, rd, p⟩ := b1_post rs p
  cases d with
  | str z =>
    match z, rd, p with
    | [c], rd, p =>
      obtain rfl := rd.stri
      exact call_ord pins s σ _ _ us Q I r ⟨_, rfl, rfl, post_ok S (.int _) p⟩
    | [], rd, p => exact p.elim
    | _ :: _ :: _, rd, p => exact p.elim
  | _ => exact p.elim

/-- a list of truth values -/
def blsOf : List D → Option (List Bool)
  | [] => some []
  | .bl b :: r => (blsOf r).map (b :: ·)
  | _ => none
theorem RDs.bls {T : Tie} : ∀ {ds : List D} {vs : List V} {bs : List Bool}, RDs G T ds vs → blsOf ds = some bs → vs = bs.map V.bl
  | [], _, _, r, h => by cases r; cases h; rfl
  | d :: ds, _, bs, r, h => by
    cases r with
    | cons r1 r2 =>
      cases d with
      | bl b =>
        obtain rfl := r1.bool
        cases e : blsOf ds with
        | none => simp [blsOf, e] at h
        | some cs =>
          have hh : cs = bs.tail ∧ bs = b :: cs := by simp [blsOf, e] at h; subst h; exact ⟨rfl, rfl⟩
          rw [hh.2, RDs.bls r2 e]
          rfl
      | _ => simp [blsOf] at h
def bAll (any : Bool) : List D → Mem → R D := b1 fun d m => match lstOf m d with
  | some ds => match blsOf ds with
    | some bs => .ok (.bl (if any then bs.any id else bs.all id)) m
    | none => .bad
  | none => .bad
theorem c_all (hK : G.K = X.K) (hc : X.calm = true) : CallR X (.builtin "all") (rcOf G (bAll false)) := by
  intro pins s σ H vs us Q I r q
  obtain ⟨K, cl, xs0⟩ := G; obtain rfl : K = X.K := hK
  obtain ⟨T, m, ds, rfl, S, rs, p⟩ := q
  obtain ⟨d, v, rfl, rfl, rd, p⟩ := b1_post rs p
  cases e1 : lstOf m d with
  | none => rw [e1] at p; exact p.elim
  | some es =>
    rw [e1] at p
    obtain ⟨a, ws, rfl, hq, r1⟩ := rd.list S e1
    replace p : post _ T W0 (match blsOf es with | some bs => R.ok (.bl (if false then bs.any id else bs.all id)) m | none => .bad) Q := p
    cases e2 : blsOf es with
    | none => rw [e2] at p; exact p.elim
    | some bs =>
      rw [e2] at p
      obtain rfl := r1.bls e2
      exact cr_all hc pins s σ _ _ us Q I r ⟨a, bs, rfl, hq, post_ok S (.bl _) p⟩
theorem c_any (hK : G.K = X.K) (hc : X.calm = true) : CallR X (.builtin "any") (rcOf G (bAll true)) := by
  intro pins s σ H vs us Q I r q
  obtain ⟨K, cl, xs0⟩ := G; obtain rfl : K = X.K := hK
  obtain ⟨T, m, ds, rfl, S, rs, p⟩ := q
  obtain ⟨d, v, rfl, rfl, rd, p⟩ := b1_post rs p
  cases e1 : lstOf m d with
  | none => rw [e1] at p; exact p.elim
  | some es =>
    rw [e1] at p
    obtain ⟨a, ws, rfl, hq, r1⟩ := rd.list S e1
    replace p : post _ T W0 (match blsOf es with | some bs => R.ok (.bl (if true then bs.any id else bs.all id)) m | none => .bad) Q := p
    cases e2 : blsOf es with
    | none => rw [e2] at p; exact p.elim
    | some bs =>
      rw [e2] at p
      obtain rfl := r1.bls e2
      exact cr_any hc pins s σ _ _ us Q I r ⟨a, bs, rfl, hq, post_ok S (.bl _) p⟩

/-! ### methods -/
def setM (m : Mem) (a : Nat) (o : O) : Mem := (m : List O).set a o
theorem post_chg {T : Tie} {m : Mem} {a : Nat} {p : Addr} {ds : List D} {vs : List V} {W : Value → Option Addr → Hp → Prop} {Q : VK} {d : D} {v : V} (S : Sim G T m) (hp : T.mu[a]? = some p) (r : RDs G T ds vs) (rd : RD G T d v)
    (h : post G T W (.ok d (setM m a (.lst ds))) Q) : Q v (upd T.H p (.lst vs)) := by
  have E := ext_chg (o := .lst vs) S (List.mem_of_getElem? hp)
  exact h (T.chg p (.lst vs)) v E (sim_chg S hp ⟨vs, upd_same, E.rds S _ _ r⟩) (E.rd S _ _ rd)
/-- a method of a list of the memory -/
def mLst (f : Nat → List D → List D → Mem → R D) : D → List D → Mem → R D
  | .ref a, as, m => match (m : List O)[a]? with
    | some (.lst ds) => f a ds as m
    | _ => .bad
  | _, _, _ => .bad
theorem mLst_post {f : Nat → List D → List D → Mem → R D} {T : Tie} {m : Mem} {d : D} {as : List D} {x : V} {W : Value → Option Addr → Hp → Prop} {Q : VK} (S : Sim G T m) (rd : RD G T d x) (h : post G T W (mLst f d as m) Q) :
    ∃ a ds p vs, d = .ref a ∧ x = .ref p ∧ T.mu[a]? = some p ∧ T.H p = some (.lst vs) ∧ RDs G T ds vs ∧ post G T W (f a ds as m) Q := by
  cases d with
  | ref a =>
    dsimp only [mLst] at h
    cases e : (m : List O)[a]? with
    | none => rw [e] at h; exact h.elim
    | some o =>
      rw [e] at h
      cases o with
      | lst ds => obtain ⟨p, vs, h1, h2, h3, h4⟩ := rd.mlist S e; exact ⟨a, ds, p, vs, rfl, h1, h2, h3, h4, h⟩
      | dk _ => exact h.elim
      | ins _ _ => exact h.elim
  | _ => exact h.elim
def mAppend := mLst fun a ds as m => match as with
  | [y] => if ds.length < SZ then .ok .non (setM m a (.lst (ds ++ [y]))) else .bad
  | _ => .bad
theorem m_append : MtR X "list.append" (rmOf G mAppend) := by
  intro pins s σ H x xs v us Q I rx rs q
  obtain ⟨T, m, d, as, rfl, S, rd, ra, p⟩ := q
  obtain ⟨a, ds, p1, vs, rfl, rfl, h1, h2, r2, p⟩ := mLst_post S rd p
  match as, ra, p with
  | [y], ra, p =>
    obtain ⟨w, rfl, rw'⟩ := ra.one
    replace p : post G T W0 (if ds.length < SZ then .ok .non (setM m a (.lst (ds ++ [y]))) else .bad) Q := p
    split at p
    · rename_i hl
      exact mt_append pins s σ _ _ _ v us Q I rx rs ⟨p1, vs, w, rfl, rfl, h2, by rw [← r2.length, ← SZ_eq]; exact hl, post_chg S h1 (r2.append (.cons rw' .nil)) .non p⟩
    · exact p.elim
  | [], ra, p => exact p.elim
  | _ :: _ :: _, ra, p => exact p.elim
def mExtend := mLst fun a ds as m => match as with
  | [y] => match plOf m y with
    | some es => if ds.length + es.length ≤ SZ then .ok .non (setM m a (.lst (ds ++ es))) else .bad
    | none => .bad
  | _ => .bad
theorem m_extend : MtR X "list.extend" (rmOf G mExtend) := by
  intro pins s σ H x xs v us Q I rx rs q
  obtain ⟨T, m, d, as, rfl, S, rd, ra, p⟩ := q
  obtain ⟨a, ds, p1, vs, rfl, rfl, h1, h2, r2, p⟩ := mLst_post S rd p
  match as, ra, p with
  | [y], ra, p =>
    obtain ⟨w, rfl, rw'⟩ := ra.one
    replace p : post G T W0 (match plOf m y with
      | some es => if ds.length + es.length ≤ SZ then .ok .non (setM m a (.lst (ds ++ es))) else .bad
      | none => .bad) Q := p
    cases e : plOf m y with
    | none => rw [e] at p; exact p.elim
    | some es =>
      rw [e] at p
      replace p : post G T W0 (if ds.length + es.length ≤ SZ then .ok .non (setM m a (.lst (ds ++ es))) else .bad) Q := p
      obtain ⟨p2, ws, rfl, h3, r3⟩ := rw'.plist S e
      split at p
      · rename_i hl
        exact mt_extend pins s σ _ _ _ v us Q I rx rs ⟨p1, p2, vs, ws, rfl, rfl, h2, h3, by rw [← r2.length, ← r3.length, ← SZ_eq]; exact hl, post_chg S h1 (r2.append r3) .non p⟩
      · exact p.elim
  | [], ra, p => exact p.elim
  | _ :: _ :: _, ra, p => exact p.elim
def mInsert := mLst fun a ds as m => match as with
  | [.int i, y] => if ds.length < SZ ∧ 0 ≤ i ∧ i < 2 ^ 63 then .ok .non (setM m a (.lst (ds.take i.toNat ++ [y] ++ ds.drop i.toNat))) else .bad
  | _ => .bad
theorem m_insert : MtR X "list.insert" (rmOf G mInsert) := by
  intro pins s σ H x xs v us Q I rx rs q
  obtain ⟨T, m, d, as, rfl, S, rd, ra, p⟩ := q
  obtain ⟨a, ds, p1, vs, rfl, rfl, h1, h2, r2, p⟩ := mLst_post S rd p
  match as, ra, p with
  | [.int i, y], ra, p =>
    obtain ⟨w0, w, rfl, r0, rw'⟩ := ra.two
    obtain rfl := r0.inti
    replace p : post G T W0 (if ds.length < SZ ∧ 0 ≤ i ∧ i < 2 ^ 63 then .ok .non (setM m a (.lst (ds.take i.toNat ++ [y] ++ ds.drop i.toNat))) else .bad) Q := p
    split at p
    · rename_i hl
      exact mt_insert pins s σ _ _ _ v us Q I rx rs ⟨p1, vs, i, w, rfl, rfl, h2, by rw [← r2.length, ← SZ_eq]; exact hl.1, hl.2.1, hl.2.2, post_chg S h1 (((r2.take _).append (.cons rw' .nil)).append (r2.drop _)) .non p⟩
    · exact p.elim
  | [], ra, p => exact p.elim
  | [.non], ra, p => exact p.elim
  | [.bl _], ra, p => exact p.elim
  | [.int _], ra, p => exact p.elim
  | [.str _], ra, p => exact p.elim
  | [.tup _], ra, p => exact p.elim
  | [.fl _], ra, p => exact p.elim
  | [.sc _], ra, p => exact p.elim
  | [.ref _], ra, p => exact p.elim
  | .non :: _ :: _, ra, p => exact p.elim
  | .bl _ :: _ :: _, ra, p => exact p.elim
  | .str _ :: _ :: _, ra, p => exact p.elim
  | .tup _ :: _ :: _, ra, p => exact p.elim
  | .fl _ :: _ :: _, ra, p => exact p.elim
  | .sc _ :: _ :: _, ra, p => exact p.elim
  | .ref _ :: _ :: _, ra, p => exact p.elim
  | .int _ :: _ :: _ :: _, ra, p => exact p.elim

/-- a list of texts -/
def strsOf : List D → Option (List (List Nat))
  | [] => some []
  | .str b :: r => (strsOf r).map (b :: ·)
  | _ => none
theorem RDs.strs {T : Tie} : ∀ {ds : List D} {vs : List V} {bs : List (List Nat)}, RDs G T ds vs → strsOf ds = some bs → vs = (bs.map stS).map V.str
  | [], _, _, r, h => by cases r; cases h; rfl
  | d :: ds, _, bs, r, h => by
    cases r with
    | cons r1 r2 =>
      cases d with
      | str b =>
        obtain rfl := r1.stri
        cases e : strsOf ds with
        | none => simp [strsOf, e] at h
        | some cs =>
          have hh : bs = b :: cs := by simp [strsOf, e] at h; exact h.symm
          rw [hh, RDs.strs r2 e]
          rfl
      | _ => simp [strsOf] at h
def joinOk (a : List Nat) (bs : List (List Nat)) : Bool := decide ((bs.map (·.length)).sum + bs.length * a.length ≤ 16777216)
def mJoin : D → List D → Mem → R D
  | .str a, [d], m => match sqOf m d with
    | some ds => match strsOf ds with
      | some bs => okD (joinOk a bs) (.str (TL.joinL a bs)) m
      | none => .bad
    | none => .bad
  | _, _, _ => .bad
theorem join_stS (a : List Nat) (ys : List (List Nat)) : Txt.join (stS a) (ys.map stS) = stS (TL.joinL a ys) := _root_.SX.join_S a ys
theorem m_join (hK : G.K = X.K) : MtR X "str.join" (rmOf G mJoin) := by
  intro pins s σ H x xs v us Q I rx rs q
  obtain ⟨K, cl, xs0⟩ := G; obtain rfl : K = X.K := hK
  obtain ⟨T, m, d, as, rfl, S, rd, ra, p⟩ := q
  cases d with
  | str a =>
    match as, ra, p with
    | [y], ra, p =>
      obtain ⟨w, rfl, rw'⟩ := ra.one
      obtain rfl := rd.stri
      dsimp only [mJoin] at p
      cases e : sqOf m y with
      | none => rw [e] at p; exact p.elim
      | some es =>
        rw [e] at p
        dsimp only at p
        obtain ⟨p2, ws, rfl, h3, r3⟩ := rw'.sq S e
        cases e2 : strsOf es with
        | none => rw [e2] at p; exact p.elim
        | some bs =>
          rw [e2] at p
          obtain ⟨k, p⟩ := okD_of p
          obtain rfl := r3.strs e2
          have k' := of_decide_eq_true k
          refine mt_join pins s σ _ _ _ v us Q I rx rs ⟨_, p2, bs.map stS, rfl, rfl, h3, ?_, by rw [join_stS]; exact post_ok S (.str _) p⟩
          rw [List.map_map, List.length_map, stS_len]
          have : ((fun x => x.length) ∘ stS) = fun x : List Nat => x.length := funext stS_len
          rw [show ((fun x : Str => x.length) ∘ stS) = fun x : List Nat => x.length from this]
          exact k'
    | [], ra, p => exact p.elim
    | _ :: _ :: _, ra, p => exact p.elim
  | _ => exact p.elim
end
end Itp
set_option Elab.async false
set_option linter.all false
set_option maxRecDepth 100000
/-! Itp D: the functions that expressions stand for, and that they are right. -/
namespace Itp
open PySem PySem.Spec PyProof.Rows L2

/-! ### the functions -/
def noex {α : Type} : R α → R α
  | .ok a m => .ok a m
  | _ => .bad
def dVar (i : Nat) : EV := fun env m => match env[i]? with
  | some (some d) => .ok d m
  | _ => .bad
def dC (d : D) : EV := fun _ m => .ok d m
def dBin (h : D → D → Mem → R D) (f g : EV) : EV := fun env m => (f env m).bind fun x m1 => (g env m1).bind fun y m2 => noex (h x y m2)
def dUn (h : D → Mem → R D) (f : EV) : EV := fun env m => (f env m).bind fun x m1 => noex (h x m1)
def dArgs : List EV → AV
  | [] => fun _ m => .ok [] m
  | f :: fs => fun env m => (f env m).bind fun x m1 => (dArgs fs env m1).bind fun xs m2 => .ok (x :: xs) m2
def dCB (h : List D → Mem → R D) (fs : List EV) : EV := fun env m => (dArgs fs env m).bind fun xs m1 => noex (h xs m1)
def dCall (F : List D → Mem → R D) (fs : List EV) : EV := fun env m => (dArgs fs env m).bind fun xs m1 => F xs m1
def dMet (h : D → List D → Mem → R D) (f : EV) (fs : List EV) : EV := fun env m => (f env m).bind fun x m1 => (dArgs fs env m1).bind fun xs m2 => noex (h x xs m2)
def truthD (m : Mem) : D → Option Bool
  | .non => some false
  | .bl b => some b
  | .int i => some (i != 0)
  | .str s => if s.length ≤ SZ then some (!s.isEmpty) else none
  | .tup ds => some (!ds.isEmpty)
  | .fl ds => some (!ds.isEmpty)
  | .sc ds => some (!ds.isEmpty)
  | .ref a => match (m : List O)[a]? with
    | some (.lst ds) => some (!ds.isEmpty)
    | some (.dk ks) => some (!ks.isEmpty)
    | _ => none
def dTest (f : EV) : TV := fun env m => (f env m).bind fun x m1 => match truthD m1 x with
  | some b => .ok b m1
  | none => .bad
def dBl (f : EV) : TV := fun env m => (f env m).bind fun x m1 => match x with
  | .bl b => .ok b m1
  | _ => .bad
def dAndV (f g : EV) : EV := fun env m => (f env m).bind fun x m1 => match truthD m1 x with
  | some true => g env m1
  | some false => .ok x m1
  | none => .bad
def dOrV (f g : EV) : EV := fun env m => (f env m).bind fun x m1 => match truthD m1 x with
  | some true => .ok x m1
  | some false => g env m1
  | none => .bad
def dNotV (f : EV) : EV := fun env m => (f env m).bind fun x m1 => match truthD m1 x with
  | some b => .ok (.bl (!b)) m1
  | none => .bad
def dAndT (f g : TV) : TV := fun env m => (f env m).bind fun b m1 => if b then g env m1 else .ok false m1
def dOrT (f g : TV) : TV := fun env m => (f env m).bind fun b m1 => if b then .ok true m1 else g env m1
def dNotT (f : TV) : TV := fun env m => (f env m).bind fun b m1 => .ok (!b) m1
def dIf (t : TV) (f g : EV) : EV := fun env m => (t env m).bind fun b m1 => if b then f env m1 else g env m1
def dTup (fs : List EV) : EV := fun env m => (dArgs fs env m).bind fun xs m1 => mkT xs m1
def dLst (mt : Bool) (fs : List EV) : EV := fun env m => (dArgs fs env m).bind fun xs m1 => mkL mt xs m1
/-- a < b < c -/
def dChain (h1 h2 : D → D → Mem → R D) (f g k : EV) : EV := fun env m => (f env m).bind fun x m1 => (g env m1).bind fun y m2 => (noex (h1 x y m2)).bind fun z m3 => match z with
  | .bl true => (k env m3).bind fun w m4 => noex (h2 y w m4)
  | .bl false => .ok (.bl false) m3
  | _ => .bad
def dIsi (ts : List Ty) (f : EV) : EV := fun env m => (f env m).bind fun x m1 => match tyD m1 x with
  | some t => .ok (.bl (ts.any (isT t))) m1
  | none => .bad

/-! ### the combinators of readings -/
section
variable {X : Cx} {G : Gd} {W : WX} {T T' : Tie} {m : Mem} {env : Env} {σ : L2.St} {H : Hp}

theorem post_noex {P : Value → Option Addr → Hp → Prop} {r : R D} {Q : VK} (h : post G T P (noex r) Q) : post G T W0 r Q := by
  cases r with
  | ok d m => exact h
  | ex e m => exact h.elim
  | bad => exact h.elim
theorem post_ext {P : Value → Option Addr → Hp → Prop} {r : R D} {Q : VK} (E : Ext T T') (h : post G T P r Q) : post G T' P r Q := by
  cases r with
  | ok d m => exact fun T1 v E1 => h T1 v (E.trans E1)
  | ex e m => exact fun T1 c d E1 => h T1 c d (E.trans E1)
  | bad => exact h
theorem postB_ext {P : Value → Option Addr → Hp → Prop} {r : R Bool} {Q : Bool → Hp → Prop} (E : Ext T T') (h : postB G T P r Q) : postB G T' P r Q := by
  cases r with
  | ok d m => exact fun T1 E1 => h T1 (E.trans E1)
  | ex e m => exact fun T1 c d E1 => h T1 c d (E.trans E1)
  | bad => exact h
theorem postA_ext {P : Value → Option Addr → Hp → Prop} {r : R (List D)} {Q : List V → Hp → Prop} (E : Ext T T') (h : postA G T P r Q) : postA G T' P r Q := by
  cases r with
  | ok d m => exact fun T1 v E1 => h T1 v (E.trans E1)
  | ex e m => exact fun T1 c d E1 => h T1 c d (E.trans E1)
  | bad => exact h
/-- step of an expression; what follows is any of the three -/
theorem stepE {f : EV} {Q' : V → Hp → Prop} (S : Sim G T m) (re : REnv G T env σ) (hb : f env m ≠ .bad)
    (hx : ∀ e m1, f env m = .ex e m1 → ∀ (T1 : Tie) (cls : Value) (d : Option Addr), Ext T T1 → Sim G T1 m1 → RX G T1 e cls d → WS W σ cls d T1.H)
    (hk : ∀ d m1 T1 v, f env m = .ok d m1 → Ext T T1 → Sim G T1 m1 → REnv G T1 env σ → RD G T1 d v → Q' v T1.H) : tOf G W f σ T.H Q' := by
  refine ⟨T, env, m, rfl, S, re, ?_⟩
  cases e : f env m with
  | bad => exact hb e
  | ex x m1 => exact hx x m1 e
  | ok d m1 => exact fun T1 v E1 S1 r1 => hk d m1 T1 v e E1 S1 (re.ext E1 S) r1
theorem stepT {f : TV} {Q' : Bool → Hp → Prop} (S : Sim G T m) (re : REnv G T env σ) (hb : f env m ≠ .bad)
    (hx : ∀ e m1, f env m = .ex e m1 → ∀ (T1 : Tie) (cls : Value) (d : Option Addr), Ext T T1 → Sim G T1 m1 → RX G T1 e cls d → WS W σ cls d T1.H)
    (hk : ∀ d m1 T1, f env m = .ok d m1 → Ext T T1 → Sim G T1 m1 → REnv G T1 env σ → Q' d T1.H) : ttOf G W f σ T.H Q' := by
  refine ⟨T, env, m, rfl, S, re, ?_⟩
  cases e : f env m with
  | bad => exact hb e
  | ex x m1 => exact hx x m1 e
  | ok d m1 => exact fun T1 E1 S1 => hk d m1 T1 e E1 S1 (re.ext E1 S)
theorem stepA {f : AV} {Q' : List V → Hp → Prop} (S : Sim G T m) (re : REnv G T env σ) (hb : f env m ≠ .bad)
    (hx : ∀ e m1, f env m = .ex e m1 → ∀ (T1 : Tie) (cls : Value) (d : Option Addr), Ext T T1 → Sim G T1 m1 → RX G T1 e cls d → WS W σ cls d T1.H)
    (hk : ∀ d m1 T1 v, f env m = .ok d m1 → Ext T T1 → Sim G T1 m1 → REnv G T1 env σ → RDs G T1 d v → Q' v T1.H) : taOf G W f σ T.H Q' := by
  refine ⟨T, env, m, rfl, S, re, ?_⟩
  cases e : f env m with
  | bad => exact hb e
  | ex x m1 => exact hx x m1 e
  | ok d m1 => exact fun T1 v E1 S1 r1 => hk d m1 T1 v e E1 S1 (re.ext E1 S) r1

/-- the three wants of a bind -/
theorem bindP {α : Type} {P : Value → Option Addr → Hp → Prop} {r : R α} {k : α → Mem → R D} {Q : VK} (h : post G T P (r.bind k) Q) :
    r ≠ .bad ∧ (∀ e m1, r = .ex e m1 → ∀ (T1 : Tie) (cls : Value) (d : Option Addr), Ext T T1 → Sim G T1 m1 → RX G T1 e cls d → P cls d T1.H) ∧ ∀ a m1, r = .ok a m1 → post G T P (k a m1) Q := by
  cases r with
  | bad => exact h.elim
  | ex e m1 => exact ⟨nofun, fun _ _ q => by cases q; exact h, nofun⟩
  | ok a m1 => exact ⟨nofun, nofun, fun _ _ q => by cases q; exact h⟩
theorem bindPB {α : Type} {P : Value → Option Addr → Hp → Prop} {r : R α} {k : α → Mem → R Bool} {Q : Bool → Hp → Prop} (h : postB G T P (r.bind k) Q) :
    r ≠ .bad ∧ (∀ e m1, r = .ex e m1 → ∀ (T1 : Tie) (cls : Value) (d : Option Addr), Ext T T1 → Sim G T1 m1 → RX G T1 e cls d → P cls d T1.H) ∧ ∀ a m1, r = .ok a m1 → postB G T P (k a m1) Q := by
  cases r with
  | bad => exact h.elim
  | ex e m1 => exact ⟨nofun, fun _ _ q => by cases q; exact h, nofun⟩
  | ok a m1 => exact ⟨nofun, nofun, fun _ _ q => by cases q; exact h⟩
theorem bindPA {α : Type} {P : Value → Option Addr → Hp → Prop} {r : R α} {k : α → Mem → R (List D)} {Q : List V → Hp → Prop} (h : postA G T P (r.bind k) Q) :
    r ≠ .bad ∧ (∀ e m1, r = .ex e m1 → ∀ (T1 : Tie) (cls : Value) (d : Option Addr), Ext T T1 → Sim G T1 m1 → RX G T1 e cls d → P cls d T1.H) ∧ ∀ a m1, r = .ok a m1 → postA G T P (k a m1) Q := by
  cases r with
  | bad => exact h.elim
  | ex e m1 => exact ⟨nofun, fun _ _ q => by cases q; exact h, nofun⟩
  | ok a m1 => exact ⟨nofun, nofun, fun _ _ q => by cases q; exact h⟩

variable {a b c : Expr} {pos : Pos} {f g k : EV}

theorem d_var {i : Nat} {x : Str} (hN : X.N[i]? = some x) (hv : Vis X.env.scope x) (hd : (x == ("__debug__" : Str)) = false) (hcd : (x == ("__classdict__" : Str)) = false) : PE X (.Name x pos) (tOf G W (dVar i)) := by
  refine PE.wk (pe_var hN hv hd hcd) fun σ H Q ⟨T, env, m, e, S, re, p⟩ => ?_
  subst e
  unfold dVar at p
  cases e1 : env[i]? with
  | none => rw [e1] at p; exact p.elim
  | some o =>
    cases o with
    | none => rw [e1] at p; exact p.elim
    | some d =>
      rw [e1] at p
      obtain ⟨v, e2, r⟩ := re.get i d e1
      exact ⟨v, e2, post_ok S r p⟩
theorem d_const {e : Expr} {v : V} {d : D} (h : PE X e (tC v)) (r : ∀ T, RD G T d v) : PE X e (tOf G W (dC d)) := by
  refine PE.wk h fun σ H Q ⟨T, env, m, e, S, re, p⟩ => ?_
  subst e
  exact post_ok S (r T) p
theorem d_bin2 {h : D → D → Mem → R D} {Q : VK} (q : tOf G W (dBin h f g) σ H Q) : tOp (r2Of G h) (tOf G W f) (tOf G W g) σ H Q := by
  obtain ⟨T, env, m, e, S, re, p⟩ := q
  subst e
  obtain ⟨p1, p2, p3⟩ := bindP p
  refine stepE S re p1 p2 fun x m1 T1 v e1 E1 S1 re1 r1 => ?_
  obtain ⟨q1, q2, q3⟩ := bindP (post_ext E1 (p3 x m1 e1))
  refine stepE S1 re1 q1 q2 fun y m2 T2 w e2 E2 S2 re2 r2 => ?_
  exact ⟨T2, m2, x, y, rfl, S2, E2.rd S1 _ _ r1, r2, post_noex (post_ext E2 (q3 y m2 e2))⟩
theorem d_bin {op : Operator} {h : D → D → Mem → R D} (ho : OpR X (binaryOp op) (r2Of G h)) (ha : PE X a (tOf G W f)) (hb : PE X b (tOf G W g)) : PE X (.BinOp a op b pos) (tOf G W (dBin h f g)) :=
  PE.wk (pe_op ho ha hb) fun _ _ _ q => d_bin2 q
theorem d_cmp {op : CmpOp} {h : D → D → Mem → R D} (ho : OpR X (compareOp op) (r2Of G h)) (ha : PE X a (tOf G W f)) (hb : PE X b (tOf G W g)) (hm : behindInMarks op b = false) : PE X (.Compare a [op] [b] pos) (tOf G W (dBin h f g)) :=
  PE.wk (pe_cmpR ho ha hb hm) fun _ _ _ q => d_bin2 q
theorem dBl_post {Q : Bool → Hp → Prop} (q : ttOf G W (dBl f) σ H Q) : tOf G W f σ H fun x H' => ∃ c, x = .bl c ∧ Q c H' := by
  obtain ⟨T, env, m, e, S, re, p⟩ := q
  subst e
  obtain ⟨p1, p2, p3⟩ := bindPB p
  refine stepE S re p1 p2 fun x m1 T1 v e1 E1 S1 re1 r1 => ?_
  have q := postB_ext E1 (p3 x m1 e1)
  cases x with
  | bl c => obtain rfl := r1.bool; exact ⟨c, rfl, q T1 (Ext.refl _) S1⟩
  | _ => exact q.elim
theorem d_cmpT {op : CmpOp} {h : D → D → Mem → R D} (ho : OpR X (compareOp op) (r2Of G h)) (ha : PE X a (tOf G W f)) (hb : PE X b (tOf G W g)) (hm : behindInMarks op b = false) : PT X (.Compare a [op] [b] pos) (ttOf G W (dBl (dBin h f g))) :=
  PT.wk (pt_cmpR ho ha hb hm) fun _ _ _ q => d_bin2_test (dBl_post q)
where
  d_bin2_test {Q' : V → Hp → Prop} {h : D → D → Mem → R D} {σ : L2.St} {H : Hp} (q : tOf G W (dBin h f g) σ H Q') : tOp (r2Of G h) (tOf G W f) (tOf G W g) σ H Q' := d_bin2 q
theorem d_chain2 {h1 h2 : D → D → Mem → R D} {Q : VK} (q : tOf G W (dChain h1 h2 f g k) σ H Q) : tOf G W f σ H fun x H1 => tOf G W g σ H1 fun y H2 => r2Of G h1 x y H2 fun z H3 => ∃ c, z = .bl c ∧
    if c = true then tOf G W k σ H3 fun w H4 => r2Of G h2 y w H4 Q else Q (.bl false) H3 := by
  obtain ⟨T, env, m, e, S, re, p⟩ := q
  subst e
  obtain ⟨p1, p2, p3⟩ := bindP p
  refine stepE S re p1 p2 fun x m1 T1 v e1 E1 S1 re1 r1 => ?_
  obtain ⟨q1, q2, q3⟩ := bindP (post_ext E1 (p3 x m1 e1))
  refine stepE S1 re1 q1 q2 fun y m2 T2 w e2 E2 S2 re2 r2 => ?_
  have q4 := post_ext E2 (q3 y m2 e2)
  refine ⟨T2, m2, x, y, rfl, S2, E2.rd S1 _ _ r1, r2, ?_⟩
  cases e3 : h1 x y m2 with
  | bad => rw [e3] at q4; exact q4.elim
  | ex _ _ => rw [e3] at q4; exact q4.elim
  | ok z m3 =>
    rw [e3] at q4
    intro T3 z' E3 S3 r3
    cases z with
    | bl c =>
      obtain rfl := r3.bool
      refine ⟨c, rfl, ?_⟩
      cases c with
      | true =>
        rw [if_pos rfl]
        have q5 : post G T2 (WS W σ) ((k env m3).bind fun w m4 => noex (h2 y w m4)) Q := q4
        obtain ⟨s1, s2, s3⟩ := bindP (post_ext E3 q5)
        refine stepE S3 (re2.ext E3 S2) s1 s2 fun u m4 T4 u' e4 E4 S4 re4 r4 => ?_
        exact ⟨T4, m4, y, u, rfl, S4, E4.rd S3 _ _ (E3.rd S2 _ _ r2), r4, post_noex (post_ext E4 (s3 u m4 e4))⟩
      | false =>
        rw [if_neg Bool.false_ne_true]
        exact post_ok S3 (.bl false) (post_ext E3 q4)
    | _ => exact q4.elim
theorem d_not (ha : PT X a (ttOf G W p)) : PT X (.UnaryOp .Not a pos) (ttOf G W (dNotT p)) := by
  refine PT.wk (pt_not ha) fun σ H Q ⟨T, env, m, e, S, re, q⟩ => ?_
  subst e
  obtain ⟨p1, p2, p3⟩ := bindPB q
  exact stepT S re p1 p2 fun x m1 T1 e1 E1 S1 re1 => postB_ext E1 (p3 x m1 e1) T1 (Ext.refl _) S1
theorem d_if {t : TV} (ht : PT X c (ttOf G W t)) (ha : PE X a (tOf G W f)) (hb : PE X b (tOf G W g)) : PE X (.IfExp c a b pos) (tOf G W (dIf t f g)) := by
  refine PE.wk (pe_ifExp ht ha hb) fun σ H Q ⟨T, env, m, e, S, re, q⟩ => ?_
  subst e
  obtain ⟨p1, p2, p3⟩ := bindP q
  refine stepT S re p1 p2 fun x m1 T1 e1 E1 S1 re1 => ?_
  have q := post_ext E1 (p3 x m1 e1)
  cases x with
  | true => exact ⟨T1, env, m1, rfl, S1, re1, q⟩
  | false => exact ⟨T1, env, m1, rfl, S1, re1, q⟩
theorem truthD_tru {d : D} {v : V} {b : Bool} (S : Sim G T m) (r : RD G T d v) (h : truthD m d = some b) : TruV G.K v T.H b := by
  have em : ∀ {ds : List D} {vs : List V}, RDs G T ds vs → (!ds.isEmpty) = !vs.isEmpty := fun r => by cases r <;> rfl
  cases r with
  | non => cases h; rfl
  | bl b => cases h; rfl
  | int i => cases h; rfl
  | str s =>
    dsimp only [truthD] at h
    split at h
    · rename_i hl
      cases h
      refine ⟨by rw [stS_len, ← SZ_eq]; exact hl, ?_⟩
      rw [stS_len]
      cases s with
      | nil => rfl
      | cons c r =>
        have z : (((c :: r).length : Nat) : Int) ≠ 0 := by simp only [List.length_cons]; omega
        simp only [List.isEmpty_cons, Bool.not_false]
        exact (bne_iff_ne.mpr z).symm
    · cases h
  | tup h1 h2 => cases h; exact .inr (.inl ⟨_, h1, em h2⟩)
  | fl h1 _ h2 => cases h; exact .inl ⟨_, .of h1, em h2⟩
  | sc h1 h2 => cases h; exact .inl ⟨_, h1.sq, em h2⟩
  | ref h1 =>
    rename_i a p
    dsimp only [truthD] at h
    cases e : (m : List O)[a]? with
    | none => rw [e] at h; cases h
    | some o =>
      rw [e] at h
      have q := S.obj _ _ _ e h1
      cases o with
      | lst es => cases h; obtain ⟨vs, e2, r2⟩ := q; exact .inl ⟨_, .of e2, em r2⟩
      | dk ks => cases h; obtain ⟨vs, e2, r2⟩ := q; exact .inr (.inr ⟨_, e2, by cases r2 <;> rfl⟩)
      | ins _ _ => cases h
theorem d_test (hK : G.K = X.K) (ha : PE X a (tOf G W f)) (he : ∀ whole, isTrue a X.env whole = (do let v ← whole; standAt a.pos; holding [v] (truthy v))) : PT X a (ttOf G W (dTest f)) := by
  refine PT.wk (pt_truth ha he) fun σ H Q ⟨T, env, m, e, S, re, q⟩ => ?_
  subst e
  obtain ⟨p1, p2, p3⟩ := bindPB q
  refine stepE S re p1 p2 fun x m1 T1 v e1 E1 S1 re1 r1 => ?_
  have q := postB_ext E1 (p3 x m1 e1)
  cases e2 : truthD m1 x with
  | none => rw [e2] at q; exact q.elim
  | some b =>
    rw [e2] at q
    exact ⟨b, by rw [← hK]; exact truthD_tru S1 r1 e2, q T1 (Ext.refl _) S1⟩
theorem d_andV {rest : List Expr} (hK : G.K = X.K) (ha : PE X a (tOf G W f)) (hb : PE X (.BoolOp .And (b :: rest) pos) (tOf G W g)) : PE X (.BoolOp .And (a :: b :: rest) pos) (tOf G W (dAndV f g)) := by
  refine PE.wk (pe_andT ha hb) fun σ H Q ⟨T, env, m, e, S, re, q⟩ => ?_
  subst e
  obtain ⟨p1, p2, p3⟩ := bindP q
  refine stepE S re p1 p2 fun x m1 T1 v e1 E1 S1 re1 r1 => ?_
  have q := post_ext E1 (p3 x m1 e1)
  cases e2 : truthD m1 x with
  | none => rw [e2] at q; exact q.elim
  | some b =>
    rw [e2] at q
    refine ⟨b, by rw [← hK]; exact truthD_tru S1 r1 e2, ?_⟩
    cases b with
    | true => exact ⟨T1, env, m1, rfl, S1, re1, q⟩
    | false => exact post_ok S1 r1 q
theorem d_orV {rest : List Expr} (hK : G.K = X.K) (ha : PE X a (tOf G W f)) (hb : PE X (.BoolOp .Or (b :: rest) pos) (tOf G W g)) : PE X (.BoolOp .Or (a :: b :: rest) pos) (tOf G W (dOrV f g)) := by
  refine PE.wk (pe_orT ha hb) fun σ H Q ⟨T, env, m, e, S, re, q⟩ => ?_
  subst e
  obtain ⟨p1, p2, p3⟩ := bindP q
  refine stepE S re p1 p2 fun x m1 T1 v e1 E1 S1 re1 r1 => ?_
  have q := post_ext E1 (p3 x m1 e1)
  cases e2 : truthD m1 x with
  | none => rw [e2] at q; exact q.elim
  | some b =>
    rw [e2] at q
    refine ⟨b, by rw [← hK]; exact truthD_tru S1 r1 e2, ?_⟩
    cases b with
    | false => exact ⟨T1, env, m1, rfl, S1, re1, q⟩
    | true => exact post_ok S1 r1 q
theorem d_notV (hK : G.K = X.K) (ha : PE X a (tOf G W f)) : PE X (.UnaryOp .Not a pos) (tOf G W (dNotV f)) := by
  refine PE.wk (pe_notT ha) fun σ H Q ⟨T, env, m, e, S, re, q⟩ => ?_
  subst e
  obtain ⟨p1, p2, p3⟩ := bindP q
  refine stepE S re p1 p2 fun x m1 T1 v e1 E1 S1 re1 r1 => ?_
  have q := post_ext E1 (p3 x m1 e1)
  cases e2 : truthD m1 x with
  | none => rw [e2] at q; exact q.elim
  | some b =>
    rw [e2] at q
    exact ⟨b, by rw [← hK]; exact truthD_tru S1 r1 e2, post_ok S1 (.bl _) q⟩
theorem d_andT {rest : List Expr} {t u : TV} (ha : PT X a (ttOf G W t)) (hb : PW X (.BoolOp .And (b :: rest) pos) (ttOf G W u)) : PW X (.BoolOp .And (a :: b :: rest) pos) (ttOf G W (dAndT t u)) := by
  refine ⟨fun wh pins s σ H Q I q => (pw_and ha hb).run wh pins s σ H Q I ?_⟩
  obtain ⟨T, env, m, e, S, re, q⟩ := q
  subst e
  obtain ⟨p1, p2, p3⟩ := bindPB q
  refine stepT S re p1 p2 fun x m1 T1 e1 E1 S1 re1 => ?_
  have q := postB_ext E1 (p3 x m1 e1)
  cases x with
  | true => exact ⟨T1, env, m1, rfl, S1, re1, q⟩
  | false => exact q T1 (Ext.refl _) S1
theorem d_orT {rest : List Expr} {t u : TV} (ha : PT X a (ttOf G W t)) (hb : PW X (.BoolOp .Or (b :: rest) pos) (ttOf G W u)) : PW X (.BoolOp .Or (a :: b :: rest) pos) (ttOf G W (dOrT t u)) := by
  refine ⟨fun wh pins s σ H Q I q => (pw_or ha hb).run wh pins s σ H Q I ?_⟩
  obtain ⟨T, env, m, e, S, re, q⟩ := q
  subst e
  obtain ⟨p1, p2, p3⟩ := bindPB q
  refine stepT S re p1 p2 fun x m1 T1 e1 E1 S1 re1 => ?_
  have q := postB_ext E1 (p3 x m1 e1)
  cases x with
  | false => exact ⟨T1, env, m1, rfl, S1, re1, q⟩
  | true => exact q T1 (Ext.refl _) S1

/-! ### arguments, displays, calls -/
def notStar : Expr → Bool
  | .Starred _ _ => false
  | _ => true
theorem star_of {e : Expr} {es : List Expr} {env : PySem.Env} (h : notStar e = true) : starEach (e :: es) env = (false, eval e env) :: starEach es env := by
  cases e <;> first | rfl | (cases h)
theorem star_back {env : PySem.Env} : ∀ {es : List Expr}, es.all notStar = true → ((starEach es env)).any (·.1) = false
  | [], _ => rfl
  | e :: es, h => by
    rw [List.all_cons, Bool.and_eq_true] at h
    rw [star_of h.1, List.any_cons, star_back h.2]
    rfl
theorem d_nil : PA X [] (taOf G W (dArgs [])) := by
  refine PA.wk pa_nil fun σ H Q ⟨T, env, m, e, S, re, q⟩ => ?_
  subst e
  exact q T [] (Ext.refl _) S .nil
theorem d_cons {e : Expr} {es : List Expr} {fs : List EV} (hn : notStar e = true) (ha : PE X e (tOf G W f)) (hr : PA X es (taOf G W (dArgs fs))) : PA X (e :: es) (taOf G W (dArgs (f :: fs))) := by
  refine PA.wk (pa_cons ha hr (star_of hn)) fun σ H Q ⟨T, env, m, e, S, re, q⟩ => ?_
  subst e
  obtain ⟨p1, p2, p3⟩ := bindPA q
  refine stepE S re p1 p2 fun x m1 T1 v e1 E1 S1 re1 r1 => ?_
  obtain ⟨q1, q2, q3⟩ := bindPA (postA_ext E1 (p3 x m1 e1))
  refine stepA S1 re1 q1 q2 fun xs m2 T2 w e2 E2 S2 re2 r2 => ?_
  exact postA_ext E2 (q3 xs m2 e2) T2 _ (Ext.refl _) S2 (.cons (E2.rd S1 _ _ r1) r2)
theorem d_tup {es : List Expr} {fs : List EV} {x1} (h : PA X es (taOf G W (dArgs fs))) : PE X (.Tuple es x1 pos) (tOf G W (dTup fs)) := by
  refine PE.wk (pe_tup h) fun σ H Q ⟨T, env, m, e, S, re, q⟩ => ?_
  subst e
  obtain ⟨p1, p2, p3⟩ := bindP q
  refine stepA S re p1 p2 fun x m1 T1 v e1 E1 S1 re1 r1 => ?_
  have q := post_ext E1 (p3 x m1 e1)
  exact ⟨by rw [← r1.length]; exact mkT_len q, post_mkT S1 r1 q⟩
theorem d_lst {es : List Expr} {fs : List EV} {mt : Bool} (h : PA X es (taOf G W (dArgs fs))) : PE X (.List es pos) (tOf G W (dLst mt fs)) := by
  refine PE.wk (pe_lst h) fun σ H Q ⟨T, env, m, e, S, re, q⟩ => ?_
  subst e
  obtain ⟨p1, p2, p3⟩ := bindP q
  refine stepA S re p1 p2 fun x m1 T1 v e1 E1 S1 re1 r1 => ?_
  have q := post_ext E1 (p3 x m1 e1)
  exact ⟨by rw [← r1.length]; exact mkL_len q, post_mkL S1 r1 q⟩
theorem d_cb2 {h : List D → Mem → R D} {fs : List EV} {Q : VK} (q : tOf G W (dCB h fs) σ H Q) : taOf G W (dArgs fs) σ H fun vs H1 => rcOf G h vs H1 Q := by
  obtain ⟨T, env, m, e, S, re, q⟩ := q
  subst e
  obtain ⟨p1, p2, p3⟩ := bindP q
  refine stepA S re p1 p2 fun x m1 T1 v e1 E1 S1 re1 r1 => ?_
  exact ⟨T1, m1, x, rfl, S1, r1, post_noex (post_ext E1 (p3 x m1 e1))⟩
theorem back_any {env : PySem.Env} {es : List Expr} {pos : Pos} (h : es.all notStar = true) : (backTo pos (starEach es env)).any (·.1) = false := by
  have e : ∀ l : List (Bool × Sem Value), (backTo pos l).any (·.1) = l.any (·.1) := fun l => by
    unfold backTo
    simp [List.any_map, Function.comp_def]
  rw [e]
  exact star_back h
theorem d_cb {x : Str} {id : String} {p : Pos} {e : Expr} {es : List Expr} {h : List D → Mem → R D} {fs : List EV} (hc : CallR X (.builtin id) (rcOf G h)) (hg : Gl X x) (hm : X.mg x = none) (hv : bootBuiltins x = some (.builtin id)) (hn : x ≠ "__name__") (hdb : (x == ("__debug__" : Str)) = false)
    (hs : (e :: es).all notStar = true) (ha : PA X (e :: es) (taOf G W (dArgs fs))) : PE X (.Call (.Name x p) (e :: es) [] pos) (tOf G W (dCB h fs)) := by
  rw [List.all_cons, Bool.and_eq_true] at hs
  exact PE.wk (pe_callB hc hg hm hv ha hn hdb (star_of hs.1) (back_any hs.2)) fun _ _ _ q => d_cb2 q
theorem d_cty {x : Str} {id : String} {p : Pos} {e : Expr} {es : List Expr} {h : List D → Mem → R D} {fs : List EV} (hc : CallR X (.type id) (rcOf G h)) (hg : Gl X x) (hm : X.mg x = none) (hv : bootBuiltins x = some (.type id)) (hn : x ≠ "__name__") (hdb : (x == ("__debug__" : Str)) = false)
    (hs : (e :: es).all notStar = true) (ha : PA X (e :: es) (taOf G W (dArgs fs))) : PE X (.Call (.Name x p) (e :: es) [] pos) (tOf G W (dCB h fs)) := by
  rw [List.all_cons, Bool.and_eq_true] at hs
  exact PE.wk (pe_callTy hc hg hm hv ha hn hdb (star_of hs.1) (back_any hs.2)) fun _ _ _ q => d_cb2 q
end
end Itp
set_option Elab.async false
set_option linter.all false
set_option maxRecDepth 100000
/-! Itp N1: more operators: -, in, repetition, slices. -/
namespace Itp
open PySem PySem.Spec PyProof.Rows L2

section
variable {X : Cx} {G : Gd} {W : WX} {T T' : Tie} {m : Mem} {env : Env} {σ : L2.St} {H : Hp} {a b c e : Expr} {pos : Pos} {f g k : EV}
theorem post_set {T : Tie} {m : Mem} {a : Nat} {p : Addr} {o : O} {u : HO} {W : Value → Option Addr → Hp → Prop} {Q : VK} {d : D} {v : V} (S : Sim G T m) (hp : T.mu[a]? = some p) (r : RO G (T.chg p u) p o) (rd : RD G T d v)
    (h : post G T W (.ok d (setM m a o)) Q) : Q v (upd T.H p u) := by
  have E := ext_chg (o := u) S (List.mem_of_getElem? hp)
  exact h (T.chg p u) v E (sim_chg S hp r) (E.rd S _ _ rd)

/-! ### minus -/
def opNeg : D → Mem → R D
  | .int i, m => .ok (.int (-i)) m
  | _, _ => .bad
theorem d_neg (h : PE X e (tOf G W f)) : PE X (.UnaryOp .USub e pos) (tOf G W (dUn opNeg f)) := by
  refine PE.wk (pe_un un_neg h) fun σ H Q ⟨T, env, m, e, S, re, q⟩ => ?_
  subst e
  obtain ⟨p1, p2, p3⟩ := bindP q
  refine stepE S re p1 p2 fun x m1 T1 v e1 E1 S1 re1 r1 => ?_
  have q := post_noex (post_ext E1 (p3 x m1 e1))
  cases x with
  | int i =>
    obtain rfl := r1.inti
    exact ⟨i, rfl, post_ok S1 (.int _) q⟩
  | _ => exact q.elim

/-! ### in -/
def flatD : D → Bool
  | .non => true
  | .bl _ => true
  | .int _ => true
  | .str _ => true
  | _ => false
def eqA : D → D → Bool
  | .non, .non => true
  | .bl a, .bl b => a == b
  | .bl a, .int b => (if a then 1 else 0) == b
  | .int a, .bl b => a == (if b then 1 else 0)
  | .int a, .int b => a == b
  | .str a, .str b => a == b
  | _, _ => false
theorem stS_inj {a b : List Nat} (h : stS a = stS b) : a = b := by
  have := congrArg (fun z : Str => z.cps.toList) h
  simpa [stS] using this
theorem stS_beq (a b : List Nat) : (stS a == stS b) = (a == b) := by
  by_cases h : a = b
  · subst h; simp
  · have : stS a ≠ stS b := fun z => h (stS_inj z)
    rw [beq_eq_false_iff_ne.mpr h, beq_eq_false_iff_ne.mpr this]
theorem flatD_V {d : D} {v : V} (r : RD G T d v) (h : flatD d = true) : flatV v = true := by
  cases r <;> first | rfl | (cases h)
theorem eqA_V {d e : D} {v w : V} (r : RD G T d v) (r2 : RD G T e w) (h : flatD d = true) (h2 : flatD e = true) : eqV v w = eqA d e := by
  cases r <;> first | (cases h; done) | (cases r2 <;> first | (cases h2; done) | rfl | exact stS_beq _ _)
theorem flats_V : ∀ {ds : List D} {vs : List V}, RDs G T ds vs → ds.all flatD = true → vs.all flatV = true
  | [], _, r, _ => by cases r; rfl
  | d :: ds, _, r, h => by
    cases r with
    | cons r1 r2 =>
      rw [List.all_cons, Bool.and_eq_true] at h
      rw [List.all_cons, flatD_V r1 h.1, flats_V r2 h.2]; rfl
def inA (x : D) (ds : List D) : Bool := ds.any fun d => eqA d x
theorem inA_V {x : D} {v : V} (r : RD G T x v) (hx : flatD x = true) : ∀ {ds : List D} {vs : List V}, RDs G T ds vs → ds.all flatD = true → inV v vs = inA x ds
  | [], _, r2, _ => by cases r2; rfl
  | d :: ds, _, r2, h => by
    cases r2 with
    | cons r1 r2 =>
      rw [List.all_cons, Bool.and_eq_true] at h
      have := inA_V r hx r2 h.2
      unfold inV at this ⊢
      unfold inA at this ⊢
      rw [List.any_cons, List.any_cons, this, eqA_V r1 r h.1 hx]
def strIn (a b : List Nat) : Bool := match a with
  | [c] => decide (c ∈ b)
  | _ => !(Builtin.Str.occurrences (stS b) (stS a) 0 b.length 1).isEmpty
def kyOf : D → Option Ky
  | .int i => some (.inl i)
  | .str s => some (.inr s)
  | _ => none
def valK (kvs : List (Ky × D)) (k : Ky) : Option D := (kvs.find? fun kv => decide (kv.1 = k)).map (·.2)
def inB (m : Mem) (x y : D) : Option Bool := match y with
  | .str b => match x with
    | .str a => some (strIn a b)
    | _ => none
  | y => match sqOf m y with
    | some ds => if flatD x && ds.all flatD then some (inA x ds) else match pyOf m x, pyOf m y with
      | some d, some (.list es) => if SeqAt.shaped d && SeqAt.shaped (.list es) then some (es.any fun z => PyData.eqv z d) else none
      | some d, some (.tuple es) => if SeqAt.shaped d && SeqAt.shaped (.tuple es) then some (es.any fun z => PyData.eqv z d) else none
      | _, _ => none
    | none => match y with
      | .ref a => match (m : List O)[a]? with
        | some (.dk kvs) => (kyOf x).map fun k => (valK kvs k).isSome
        | _ => none
      | _ => none
def opIn (ng : Bool) (x y : D) (m : Mem) : R D := match inB m x y with
  | some b => .ok (.bl (if ng then !b else b)) m
  | none => .bad
theorem Ky.toK_inj {a b : Ky} (h : a.toK = b.toK) : a = b := by
  cases a <;> cases b <;> simp [Ky.toK] at h
  · rw [h]
  · rw [stS_inj h]
theorem kyOf_V {d : D} {k : Ky} {v : V} (r : RD G T d v) (h : kyOf d = some k) : v = kV k.toK := by
  cases r <;> first | (cases h; done) | (cases h; rfl)
theorem RKs.find {kvs : List (Ky × D)} {ks : List (Key × V)} (r : RKs G T kvs ks) (k : Ky) : (valK kvs k = none ∧ valV ks k.toK = none) ∨ ∃ d v, valK kvs k = some d ∧ valV ks k.toK = some v ∧ RD G T d v := by
  induction r with
  | nil => exact .inl ⟨rfl, rfl⟩
  | @cons x d v fs gs r1 r2 ih =>
    by_cases c : x = k
    · subst c
      refine .inr ⟨d, v, ?_, valV_pos rfl, r1⟩
      unfold valK; rw [List.find?_cons_of_pos (by simp)]; rfl
    · have c2 : ¬ x.toK = k.toK := fun z => c (Ky.toK_inj z)
      have e1 : valK ((x, d) :: fs) k = valK fs k := by unfold valK; rw [List.find?_cons_of_neg (by simpa using c)]
      have e2 : valV ((x.toK, v) :: gs) k.toK = valV gs k.toK := valV_neg c2
      rw [e1, e2]; exact ih
theorem RD.mdict (S : Sim G T m) {a : Nat} {v : V} {kvs : List (Ky × D)} (r : RD G T (.ref a) v) (h : (m : List O)[a]? = some (.dk kvs)) : ∃ p ks, v = .ref p ∧ T.mu[a]? = some p ∧ T.H p = some (.dK ks) ∧ RKs G T kvs ks := by
  cases r with
  | ref h1 =>
    obtain ⟨ks, e2, r2⟩ := S.obj _ _ _ h h1
    exact ⟨_, ks, rfl, h1, e2, r2⟩
theorem in_ways {K : PySem.W.Frag} (hK : G.K = K) {x y : D} {v w : V} {b : Bool} (S : Sim G T m) (rx : RD G T x v) (ry : RD G T y w) (h : inB m x y = some b) :
    (∃ i j, v = .str i ∧ w = .str j ∧ b = !(Builtin.Str.occurrences j i 0 j.length 1).isEmpty) ∨
    (∃ (c : Nat) (z : Str), v = .str ⟨#[c]⟩ ∧ w = .str z ∧ b = decide (c ∈ z.cps.toList)) ∨
    (∃ p xs, w = .ref p ∧ (SqL K T.H p xs ∨ SqT K T.H p xs) ∧ flatV v = true ∧ xs.all flatV = true ∧ b = inV v xs) ∨
    (∃ d ds, Dp K T.H v d ∧ (Dp K T.H w (.list ds) ∧ SeqAt.shaped (.list ds) = true ∨ Dp K T.H w (.tuple ds) ∧ SeqAt.shaped (.tuple ds) = true) ∧ SeqAt.shaped d = true ∧ b = ds.any fun z => PyData.eqv z d) ∨
    (∃ p o, w = .ref p ∧ DGet T.H p v o ∧ b = o.isSome) := by
  subst hK
  have other : (match sqOf m y with
    | some ds => if flatD x && ds.all flatD then some (inA x ds) else match pyOf m x, pyOf m y with
      | some d, some (.list es) => if SeqAt.shaped d && SeqAt.shaped (.list es) then some (es.any fun z => PyData.eqv z d) else none
      | some d, some (.tuple es) => if SeqAt.shaped d && SeqAt.shaped (.tuple es) then some (es.any fun z => PyData.eqv z d) else none
      | _, _ => none
    | none => match y with
      | .ref a => match (m : List O)[a]? with
        | some (.dk kvs) => (kyOf x).map fun k => (valK kvs k).isSome
        | _ => none
      | _ => none) = some b → (∃ p xs, w = .ref p ∧ (SqL G.K T.H p xs ∨ SqT G.K T.H p xs) ∧ flatV v = true ∧ xs.all flatV = true ∧ b = inV v xs) ∨
    (∃ d ds, Dp G.K T.H v d ∧ (Dp G.K T.H w (.list ds) ∧ SeqAt.shaped (.list ds) = true ∨ Dp G.K T.H w (.tuple ds) ∧ SeqAt.shaped (.tuple ds) = true) ∧ SeqAt.shaped d = true ∧ b = ds.any fun z => PyData.eqv z d) ∨
    (∃ p o, w = .ref p ∧ DGet T.H p v o ∧ b = o.isSome) := by
    intro h
    cases e1 : sqOf m y with
    | some ds =>
      rw [e1] at h
      dsimp only at h
      obtain ⟨p, vs, rfl, h1, r1⟩ := ry.sq S e1
      split at h
      · rename_i hc
        rw [Bool.and_eq_true] at hc
        cases h
        exact .inl ⟨p, vs, rfl, h1, flatD_V rx hc.1, flats_V r1 hc.2, (inA_V rx hc.1 r1 hc.2).symm⟩
      · right; left
        cases q1 : pyOf m x with
        | none => rw [q1] at h; cases h
        | some d =>
          cases q2 : pyOf m y with
          | none => rw [q1, q2] at h; cases h
          | some z =>
            rw [q1, q2] at h
            cases z with
            | list es =>
              dsimp only at h
              split at h
              · rename_i hc
                rw [Bool.and_eq_true] at hc
                cases h
                exact ⟨d, es, dpOf S _ _ _ rx q1, .inl ⟨dpOf S _ _ _ ry q2, hc.2⟩, hc.1, rfl⟩
              · cases h
            | tuple es =>
              dsimp only at h
              split at h
              · rename_i hc
                rw [Bool.and_eq_true] at hc
                cases h
                exact ⟨d, es, dpOf S _ _ _ rx q1, .inr ⟨dpOf S _ _ _ ry q2, hc.2⟩, hc.1, rfl⟩
              · cases h
            | _ => cases h
    | none =>
      rw [e1] at h
      dsimp only at h
      right; right
      cases y with
      | ref a =>
        dsimp only at h
        cases e2 : (m : List O)[a]? with
        | none => rw [e2] at h; cases h
        | some o =>
          rw [e2] at h
          cases o with
          | dk kvs =>
            obtain ⟨p, ks, rfl, _, h2, r2⟩ := ry.mdict S e2
            cases e3 : kyOf x with
            | none => rw [e3] at h; cases h
            | some k =>
              rw [e3] at h
              cases h
              obtain rfl := kyOf_V rx e3
              refine ⟨p, _, rfl, .k h2, ?_⟩
              show (valK kvs k).isSome = _
              rcases r2.find k with ⟨q1, q2⟩ | ⟨d, v, q1, q2, _⟩ <;> rw [q1, q2] <;> rfl
          | lst _ => cases h
          | ins _ _ => cases h
      | _ => cases h
  cases y with
  | str j =>
    obtain rfl := ry.stri
    cases x with
    | str i =>
      obtain rfl := rx.stri
      have h : some (strIn i j) = some b := h
      cases h
      match i with
      | [c] => exact .inr (.inl ⟨c, stS j, rfl, rfl, by unfold strIn; dsimp only; rw [decide_eq_decide]; simp [stS]⟩)
      | [] => exact .inl ⟨_, _, rfl, rfl, by show _ = _; rw [stS_len]; rfl⟩
      | _ :: _ :: _ => exact .inl ⟨_, _, rfl, rfl, by show _ = _; rw [stS_len]; rfl⟩
    | _ => cases h
  | _ => exact .inr (.inr (other h))
theorem s_in (hK : G.K = X.K) (hu : X.A.units + 65 < cLine) : OpR X (compareOp .In) (r2Of G (opIn false)) := by
  intro pins s σ H x y v u Q I rx ry q
  obtain ⟨T, m, d, e, rfl, S, rd, re, p⟩ := q
  unfold opIn at p
  cases h : inB m d e with
  | none => rw [h] at p; exact p.elim
  | some b =>
    rw [h] at p
    have q := post_ok S (.bl _) p
    rcases in_ways hK S rd re h with ⟨i, j, rfl, rfl, rfl⟩ | ⟨c, z, rfl, rfl, rfl⟩ | ⟨l, xs, rfl, h1, h2, h3, rfl⟩ | ⟨a, ds, h1, h2, h3, rfl⟩ | ⟨l, o, rfl, h1, rfl⟩
    · exact op_in_str pins s σ _ _ _ v u Q I rx ry ⟨i, j, rfl, rfl, q⟩
    · exact op_in_sign pins s σ _ _ _ v u Q I rx ry ⟨c, z, rfl, rfl, q⟩
    · exact op_in_seq pins s σ _ _ _ v u Q I rx ry ⟨l, xs, rfl, h1, h2, h3, q⟩
    · rcases h2 with ⟨h2, h4⟩ | ⟨h2, h4⟩
      · exact op_inD hu pins s σ _ _ _ v u Q I rx ry ⟨a, ds, hK ▸ h1, hK ▸ h2, h3, h4, q⟩
      · obtain ⟨as, r1⟩ := Dp.reads I a _ v (hK ▸ h1) rx
        obtain ⟨bs, r2⟩ := Dp.reads I (.tuple ds) _ u (hK ▸ h2) ry
        exact SeqAt.in_tuple_reads r2 r1 (SeqAt.canLay_of_shaped h4) (SeqAt.canLay_of_shaped h3) (room_in_shaped h3 hu) ⟨.bl _, _, I, rfl, q⟩
    · cases ry
      exact d_in (by omega) I h1 rx fun s' I' => ⟨.bl _, _, I', rfl, q⟩
theorem s_nin (hK : G.K = X.K) (hu : X.A.units + 65 < cLine) : OpR X (compareOp .NotIn) (r2Of G (opIn true)) := by
  intro pins s σ H x y v u Q I rx ry q
  obtain ⟨T, m, d, e, rfl, S, rd, re, p⟩ := q
  unfold opIn at p
  cases h : inB m d e with
  | none => rw [h] at p; exact p.elim
  | some b =>
    rw [h] at p
    have q := post_ok S (.bl _) p
    rcases in_ways hK S rd re h with ⟨i, j, rfl, rfl, rfl⟩ | ⟨c, z, rfl, rfl, rfl⟩ | ⟨l, xs, rfl, h1, h2, h3, rfl⟩ | ⟨a, ds, h1, h2, h3, rfl⟩ | ⟨l, o, rfl, h1, rfl⟩
    · exact op_notIn_str pins s σ _ _ _ v u Q I rx ry ⟨i, j, rfl, rfl, q⟩
    · exact op_notIn_sign pins s σ _ _ _ v u Q I rx ry ⟨c, z, rfl, rfl, q⟩
    · exact op_notIn_seq pins s σ _ _ _ v u Q I rx ry ⟨l, xs, rfl, h1, h2, h3, q⟩
    · rcases h2 with ⟨h2, h4⟩ | ⟨h2, h4⟩
      · exact op_notInD hu pins s σ _ _ _ v u Q I rx ry ⟨a, ds, hK ▸ h1, hK ▸ h2, h3, h4, q⟩
      · obtain ⟨as, r1⟩ := Dp.reads I a _ v (hK ▸ h1) rx
        obtain ⟨bs, r2⟩ := Dp.reads I (.tuple ds) _ u (hK ▸ h2) ry
        exact SeqAt.notIn_tuple_reads r2 r1 (SeqAt.canLay_of_shaped h4) (SeqAt.canLay_of_shaped h3) (room_in_shaped h3 hu) ⟨.bl _, _, I, rfl, q⟩
    · cases ry
      exact d_notIn (by omega) I h1 rx fun s' I' => ⟨.bl _, _, I', rfl, q⟩

/-! ### repetition -/
def repD (n : Nat) (ds : List D) : List D := (List.replicate n ds).flatten
def opMul (mt : Bool) (x y : D) (m : Mem) : R D := match x, y with
  | .int i, .int j => okD (cMul i j) (.int (i * j)) m
  | x, .int k => match plOf m x with
    | some ds => if decide (-(2 ^ 63) ≤ k ∧ k < 2 ^ 63 ∧ ds.length * k.toNat ≤ SZ) then mkL mt (repD k.toNat ds) m else .bad
    | none => .bad
  | _, _ => .bad
theorem RDs.rep {ds : List D} {vs : List V} (r : RDs G T ds vs) : ∀ n : Nat, RDs G T (repD n ds) (List.replicate n vs).flatten
  | 0 => .nil
  | n + 1 => by
    unfold repD
    rw [List.replicate_succ, List.replicate_succ, List.flatten_cons, List.flatten_cons]
    exact r.append (RDs.rep r n)
theorem s_mulT (hK : G.K = X.K) {mt : Bool} : OpR X (binaryOp .Mult) (r2Of G (opMul mt)) := by
  intro pins s σ H x y v u Q I rx ry q
  obtain ⟨T, m, d, e, rfl, S, rd, re, p⟩ := q
  cases e with
  | int k =>
    have lists : (match plOf m d with
      | some ds => if decide (-(2 ^ 63) ≤ k ∧ k < 2 ^ 63 ∧ ds.length * k.toNat ≤ SZ) then mkL mt (repD k.toNat ds) m else .bad
      | none => .bad) = opMul mt d (.int k) m → wpAny (model X.prog X.w) X.A (binaryOp .Mult v u) (EP X pins σ Q) X.xe s := fun q => by
      rw [← q] at p
      cases e1 : plOf m d with
      | none => rw [e1] at p; exact p.elim
      | some ds =>
        rw [e1] at p
        replace p : post G T W0 (if decide (-(2 ^ 63) ≤ k ∧ k < 2 ^ 63 ∧ ds.length * k.toNat ≤ SZ) then mkL mt (repD k.toNat ds) m else .bad) Q := p
        split at p
        · rename_i hc
          have hc := of_decide_eq_true hc
          obtain ⟨p1, vs, rfl, h1, r1⟩ := rd.plist S e1
          obtain rfl := re.inti
          exact op_rep pins s σ _ _ _ v u Q I rx ry ⟨p1, k, vs, rfl, rfl, h1, hc.1, hc.2.1, by rw [← r1.length, ← SZ_eq]; exact hc.2.2, post_mkL S (r1.rep k.toNat) p⟩
        · exact p.elim
    cases d with
    | int i => exact s_mul (G := G) pins s σ _ _ _ v u Q I rx ry ⟨T, m, _, _, rfl, S, rd, re, p⟩
    | _ => exact lists rfl
  | _ => cases d <;> exact p.elim


/-! ### slices -/
def cutD (ds : List D) (lo hi : Option Int) : List D := (ds.drop (HT.sIx ds.length 0 lo)).take (HT.sIx ds.length ds.length hi - HT.sIx ds.length 0 lo)
def cutN (ds : List Nat) (lo hi : Option Int) : List Nat := (ds.drop (HT.sIx ds.length 0 lo)).take (HT.sIx ds.length ds.length hi - HT.sIx ds.length 0 lo)
theorem RDs.cut {ds : List D} {vs : List V} (r : RDs G T ds vs) (lo hi : Option Int) : RDs G T (cutD ds lo hi) (cutV vs lo hi) := by
  unfold cutD cutV
  rw [r.length]
  exact (r.drop _).take _
def slD (mt : Bool) (x : D) (lo hi : Option Int) (m : Mem) : R D := match x with
  | .str s => okD (decide (s.length ≤ SZ)) (.str (cutN s lo hi)) m
  | .tup ds => mkT (cutD ds lo hi) m
  | x => match lstOf m x with
    | some ds => mkL mt (cutD ds lo hi) m
    | none => .bad
/-- a bound of a slice -/
def dBd : Option EV → Env → Mem → R (Option Int)
  | none, _, m => .ok none m
  | some f, env, m => (f env m).bind fun x m1 => match x with
    | .int i => .ok (some i) m1
    | _ => .bad
def dSl (mt : Bool) (f : EV) (lo hi : Option EV) : EV := fun env m => (f env m).bind fun x m1 => (dBd lo env m1).bind fun l m2 => (dBd hi env m2).bind fun h m3 => noex (slD mt x l h m3)
def BdOk (X : Cx) (G : Gd) (W : WX) : Option Expr → Option EV → Prop
  | none, none => True
  | some e, some f => PE X e (tOf G W f)
  | _, _ => False
theorem cut_stS (s : List Nat) (lo hi : Option Int) : cutS (stS s) lo hi = stS (cutN s lo hi) := by
  unfold cutS cutN
  rw [stS_len]
  simp [stS]
theorem bd_post {o : Option Expr} {fo : Option EV} (h : BdOk X G W o fo) : PO X o (fun σ H Q => ∃ T env m, T.H = H ∧ Sim G T m ∧ REnv G T env σ ∧ match dBd fo env m with
      | .ok l m1 => ∀ T1, Ext T T1 → Sim G T1 m1 → Q l T1.H
      | .ex e m1 => ∀ (T1 : Tie) (cls : Value) (d : Option Addr), Ext T T1 → Sim G T1 m1 → RX G T1 e cls d → W cls d σ T1.H
      | .bad => False) := by
  cases o with
  | none =>
    cases fo with
    | none => exact ⟨fun pins s σ H Q I ⟨T, env, m, e, S, re, q⟩ => po_none.run pins s σ H Q I (by subst e; exact q T (Ext.refl _) S)⟩
    | some f => exact h.elim
  | some e =>
    cases fo with
    | none => exact h.elim
    | some f =>
      refine ⟨fun pins s σ H Q I ⟨T, env, m, e, S, re, q⟩ => (po_some h).run pins s σ H Q I ⟨T, env, m, e, S, re, ?_⟩⟩
      dsimp only [dBd] at q
      cases e1 : f env m with
      | bad => rw [e1] at q; exact q
      | ex x m1 => rw [e1] at q; exact q
      | ok d m1 =>
        rw [e1] at q
        intro T1 v E1 S1 r1
        cases d with
        | int i => obtain rfl := r1.inti; exact ⟨i, rfl, q T1 E1 S1⟩
        | _ => exact q.elim
theorem s_sl {mt : Bool} (hK : G.K = X.K) : SlR X (fun x lo hi H Q => ∃ T m d, T.H = H ∧ Sim G T m ∧ RD G T d x ∧ post G T W0 (slD mt d lo hi m) Q) := by
  intro pins s σ H x v vl vu lo hi sl Q I rx hs pl pu q
  obtain ⟨T, m, d, rfl, S, rd, p⟩ := q
  have lists : (match lstOf m d with
    | some ds => mkL mt (cutD ds lo hi) m
    | none => .bad) = slD mt d lo hi m → ∃ T id, typeLookup (.type T) "__getitem__" = pure (some (.builtin id)) ∧ s.TypeIs v T ∧ wpAny (model X.prog X.w) X.A (getItem v (.ref sl)) (EP X pins σ Q) X.xe s := fun e => by
    rw [← e] at p
    cases e1 : lstOf m d with
    | none => rw [e1] at p; exact p.elim
    | some ds =>
      rw [e1] at p
      obtain ⟨a, vs, rfl, h1, r1⟩ := rd.list S e1
      exact sl_list pins s σ _ _ v vl vu lo hi sl Q I rx hs pl pu ⟨a, vs, rfl, by rw [← hK]; exact h1, post_mkL S (r1.cut lo hi) p⟩
  cases d with
  | str z =>
    obtain rfl := rd.stri
    obtain ⟨k, p⟩ := okD_of p
    exact sl_str pins s σ _ _ v vl vu lo hi sl Q I rx hs pl pu ⟨_, rfl, by rw [stS_len, ← SZ_eq]; exact of_decide_eq_true k, by rw [cut_stS]; exact post_ok S (.str _) p⟩
  | tup ds =>
    obtain ⟨a, vs, rfl, h1, r1⟩ := rd.tupl
    refine sl_tupA pins s σ _ _ v vl vu lo hi sl Q I rx hs pl pu ⟨a, vs, rfl, by rw [← hK]; exact h1, fun z => ?_, fun _ => post_mkT S (r1.cut lo hi) p⟩
    have e : cutD ds lo hi = ds := by
      unfold cutD
      rw [r1.length, z.1, z.2, List.drop_zero, Nat.sub_zero, ← r1.length, List.take_length]
    have p' := mkT_ok p
    rw [e] at p'
    exact post_ok S rd p'
  | _ => exact lists rfl
theorem d_sl {mt : Bool} {lo hi : Option Expr} {flo fhi : Option EV} {p2 : Pos} (hK : G.K = X.K) (he : PE X e (tOf G W f))
    (hl : BdOk X G W lo flo) (hh : BdOk X G W hi fhi) : PE X (.Subscript e (.Slice lo hi none p2) pos) (tOf G W (dSl mt f flo fhi)) := by
  refine PE.wk (pe_slice (s_sl hK (mt := mt)) he (bd_post hl) (bd_post hh)) fun σ H Q ⟨T, env, m, e, S, re, q⟩ => ?_
  subst e
  obtain ⟨p1, p2, p3⟩ := bindP q
  refine stepE S re p1 p2 fun x m1 T1 v e1 E1 S1 re1 r1 => ?_
  have q := post_ext E1 (p3 x m1 e1)
  refine ⟨T1, env, m1, rfl, S1, re1, ?_⟩
  cases e2 : dBd flo env m1 with
  | bad => rw [e2] at q; exact q
  | ex y m2 => rw [e2] at q; exact q
  | ok l m2 =>
    rw [e2] at q
    intro T2 E2 S2
    have q := post_ext E2 q
    have re2 := re1.ext E2 S1
    refine ⟨T2, env, m2, rfl, S2, re2, ?_⟩
    replace q : post G T2 (WS W σ) ((dBd fhi env m2).bind fun h m3 => noex (slD mt x l h m3)) Q := q
    cases e3 : dBd fhi env m2 with
    | bad => rw [e3] at q; exact q
    | ex y m3 => rw [e3] at q; exact q
    | ok h m3 =>
      rw [e3] at q
      intro T3 E3 S3
      exact ⟨T3, m3, x, rfl, S3, E3.rd S2 _ _ (E2.rd S1 _ _ r1), post_noex (post_ext E3 q)⟩
end
end Itp
set_option Elab.async false
set_option linter.all false
set_option maxRecDepth 100000
/-! Itp N2: dicts, and more built-in functions and methods. -/
namespace Itp
open PySem PySem.Spec PyProof.Rows L2

section
variable {X : Cx} {G : Gd} {W : WX} {T T' : Tie} {m : Mem} {env : Env} {σ : L2.St} {H : Hp} {a b c e : Expr} {pos : Pos} {f g k : EV}

/-! ### o[i] -/
def opIx (x y : D) (m : Mem) : R D := match x with
  | .ref a => match (m : List O)[a]? with
    | some (.dk kvs) => match kyOf y with
      | some k => match valK kvs k with
        | some d => .ok d m
        | none => .bad
      | none => .bad
    | _ => opIx0 x y m
  | _ => opIx0 x y m
theorem tail_dict {value slice : Expr} {A : Around} {E : Value → Shared → Prop} {s : Shared} {o i : Value} {Q : Value → Shared → Prop} (hT : s.TypeIs o "dict") (h : wpAny (model X.prog X.w) A (getItem o i) Q E s)
    (hs : subscripted slice false o i = operate [o, i] (getItem o i)) : wpAny (model X.prog X.w) A (subscriptTail value slice o i) Q E s := by
  unfold subscriptTail; apply wpAny_bind; rw [getitemInPython_of_ne hT.not_modules]
  apply wpAny_bind; apply wpAny_specialOf hT PySem.F.slot_dict_getitem.lookup
  have q : wpAny (model X.prog X.w) A (subscripted slice false o i) (fun r s2 => wpAny (model X.prog X.w) A (letTemporaryGo value o r >>= fun _ => pure r) Q E s2) E s := by
    rw [hs]; exact wpAny_operating (wpAny_mono h (fun _ _ h2 => wpAny_bind (wpAny_letTemporaryGo (wpAny_pure h2))) fun _ _ x => x)
  first | exact wpAny_pure (wpAny_bind q) | exact wpAny_bind (wpAny_pure (wpAny_bind q)) | exact wpAny_bind q
theorem ix_dict (hu : X.A.units + 1 < cLine) : IxR X (fun x y H Q => ∃ a v, x = .ref a ∧ DGet H a y (some v) ∧ Q v H) := by
  intro value slice pins s σ H x y v u Q I rx ry ⟨a, w, ex, g, q⟩ hs
  subst ex
  cases rx
  exact tail_dict (dict_typeIs I g) (d_getItem hu I g ry fun w' s' I' r' => ⟨w, H, I', r', q⟩) hs
theorem s_ixA (hK : G.K = X.K) (hu : X.A.units + 1 < cLine) : IxR X (r2Of G opIx) := by
  intro value slice pins s σ H x y v u Q I rx ry q hs
  obtain ⟨T, m, d, e, rfl, S, rd, re, p⟩ := q
  have old : opIx d e m = opIx0 d e m → wpAny (model X.prog X.w) X.A (subscriptTail value slice v u) (EP X pins σ Q) X.xe s := fun h =>
    s_ix hK value slice pins s σ _ x y v u Q I rx ry ⟨T, m, d, e, rfl, S, rd, re, by rw [← h]; exact p⟩ hs
  cases d with
  | ref a =>
    cases e1 : (m : List O)[a]? with
    | none => exact old (by show (match (m : List O)[a]? with | some (.dk kvs) => _ | _ => opIx0 (.ref a) e m) = _; rw [e1])
    | some o =>
      cases o with
      | dk kvs =>
        have eq : opIx (.ref a) e m = match kyOf e with
          | some k => match valK kvs k with
            | some d => .ok d m
            | none => .bad
          | none => .bad := by show (match (m : List O)[a]? with | some (.dk kvs) => _ | _ => opIx0 (.ref a) e m) = _; rw [e1]
        rw [eq] at p
        cases e2 : kyOf e with
        | none => rw [e2] at p; exact p.elim
        | some k =>
          rw [e2] at p
          obtain ⟨q, ks, rfl, _, h2, r2⟩ := rd.mdict S e1
          obtain rfl := kyOf_V re e2
          rcases r2.find k with ⟨q1, q2⟩ | ⟨d, w, q1, q2, rr⟩
          · dsimp only at p; rw [q1] at p; exact p.elim
          · dsimp only at p; rw [q1] at p
            exact ix_dict hu value slice pins s σ _ _ _ v u Q I rx ry ⟨q, w, rfl, by rw [← q2]; exact .k h2, post_ok S rr p⟩ hs
      | lst _ => exact old (by show (match (m : List O)[a]? with | some (.dk kvs) => _ | _ => opIx0 (.ref a) e m) = _; rw [e1])
      | ins _ _ => exact old (by show (match (m : List O)[a]? with | some (.dk kvs) => _ | _ => opIx0 (.ref a) e m) = _; rw [e1])
  | _ => exact old rfl

/-! ### o[i] = v -/
def putKy (kvs : List (Ky × D)) (k : Ky) (v : D) : List (Ky × D) :=
  if (kvs.any fun kv => decide (kv.1 = k)) = true then kvs.map (fun kv => if kv.1 = k then (kv.1, v) else kv) else kvs ++ [(k, v)]
def dropKy (kvs : List (Ky × D)) (k : Ky) : List (Ky × D) := kvs.filter fun kv => decide (kv.1 ≠ k)
theorem toK_iff {x k : Ky} : x.toK = k.toK ↔ x = k := ⟨Ky.toK_inj, fun h => by rw [h]⟩
theorem RKs.anyK {kvs : List (Ky × D)} {ks : List (Key × V)} (r : RKs G T kvs ks) (k : Ky) : (ks.any fun kv => decide (kv.1 = k.toK)) = kvs.any fun kv => decide (kv.1 = k) := by
  induction r with
  | nil => rfl
  | @cons x d v fs gs r1 r2 ih =>
    rw [List.any_cons, List.any_cons, ih]
    congr 1
    rw [decide_eq_decide]
    exact toK_iff
theorem RKs.append {kvs k2 : List (Ky × D)} {ks l2 : List (Key × V)} (r : RKs G T kvs ks) (r2 : RKs G T k2 l2) : RKs G T (kvs ++ k2) (ks ++ l2) := by
  induction r with
  | nil => exact r2
  | cons h t ih => exact .cons h ih
theorem RKs.repl {kvs : List (Ky × D)} {ks : List (Key × V)} (r : RKs G T kvs ks) (k : Ky) {d : D} {v : V} (rd : RD G T d v) :
    RKs G T (kvs.map fun kv => if kv.1 = k then (kv.1, d) else kv) (ks.map fun kv => if kv.1 = k.toK then (kv.1, v) else kv) := by
  induction r with
  | nil => exact .nil
  | @cons x d2 v2 fs gs r1 r2 ih =>
    rw [List.map_cons, List.map_cons]
    by_cases c : x = k
    · rw [if_pos (show (x, d2).1 = k from c), if_pos (show (x.toK, v2).1 = k.toK by rw [c])]
      exact .cons rd ih
    · rw [if_neg (show ¬ (x, d2).1 = k from c), if_neg (show ¬ (x.toK, v2).1 = k.toK from fun z => c (Ky.toK_inj z))]
      exact .cons r1 ih
theorem RKs.put {kvs : List (Ky × D)} {ks : List (Key × V)} (r : RKs G T kvs ks) (k : Ky) {d : D} {v : V} (rd : RD G T d v) : RKs G T (putKy kvs k d) (putK ks k.toK v) := by
  unfold putKy putK
  rw [r.anyK]
  split
  · exact r.repl k rd
  · exact r.append (.cons rd .nil)
theorem RKs.drop {kvs : List (Ky × D)} {ks : List (Key × V)} (r : RKs G T kvs ks) (k : Ky) : RKs G T (dropKy kvs k) (dropK ks k.toK) := by
  unfold dropKy dropK
  induction r with
  | nil => exact .nil
  | @cons x d2 v2 fs gs r1 r2 ih =>
    by_cases c : x = k
    · rw [List.filter_cons_of_neg (by simpa using c), List.filter_cons_of_neg (by simpa using congrArg Ky.toK c)]
      exact ih
    · have c2 : ¬ x.toK = k.toK := fun z => c (Ky.toK_inj z)
      rw [List.filter_cons_of_pos (by simpa using c), List.filter_cons_of_pos (by simpa using c2)]
      exact .cons r1 ih
theorem RKs.length {kvs : List (Ky × D)} {ks : List (Key × V)} (r : RKs G T kvs ks) : kvs.length = ks.length := by
  induction r with
  | nil => rfl
  | cons _ _ ih => simp [ih]
theorem Ext.rks (E : Ext T T') (S : Sim G T m) {kvs : List (Ky × D)} {ks : List (Key × V)} (r : RKs G T kvs ks) : RKs G T' kvs ks := by
  induction r with
  | nil => exact .nil
  | cons h t ih => exact .cons (E.rd S _ _ h) ih
def setIx (o i v : D) (m : Mem) : Option Mem :=
  match o with
  | .ref a => match (m : List O)[a]? with
    | some (.lst ds) => match i with
      | .int k => match ixN ds.length k with
        | some j => some (setM m a (.lst (ds.set j v)))
        | none => none
      | _ => none
    | some (.dk kvs) => match kyOf i with
      | some k => if kvs.length < SZ then some (setM m a (.dk (putKy kvs k v))) else none
      | none => none
    | _ => none
  | _ => none
def rSetB : TSet := fun o i v H Q => rSetL o i v H Q ∨ rSetD o i v H Q
theorem set_both (hu : X.A.units + 1 < cLine) : PSet X rSetB := by
  intro pins s σ H o i v ov iv u Q I ro ri rv h
  rcases h with h | h
  · exact set_list pins s σ H o i v ov iv u Q I ro ri rv h
  · exact set_dict hu pins s σ H o i v ov iv u Q I ro ri rv h
/-- what o[i] = v does to the tie -/
theorem setIx_read {o i v : D} {m' : Mem} {vo vi vv : V} (S : Sim G T m) (ro : RD G T o vo) (ri : RD G T i vi) (rv : RD G T v vv) (h : setIx o i v m = some m') {Q : Hp → Prop} (q : ∀ T', Ext T T' → Sim G T' m' → Q T'.H) : rSetB vo vi vv T.H Q := by
  cases o with
  | ref a =>
    dsimp only [setIx] at h
    cases e5 : (m : List O)[a]? with
    | none => rw [e5] at h; cases h
    | some ob =>
      rw [e5] at h
      cases ob with
      | lst ds =>
        cases i with
        | int k =>
          dsimp only at h
          cases e6 : ixN ds.length k with
          | none => rw [e6] at h; cases h
          | some j =>
            rw [e6] at h
            cases h
            obtain ⟨p, vs, rfl, h1, h2, h3⟩ := ro.mlist S e5
            obtain rfl := ri.inti
            have E4 := ext_chg (o := .lst (vs.set j vv)) S (List.mem_of_getElem? h1)
            refine .inl ⟨p, vs, k, j, rfl, rfl, h2, by rw [← h3.length]; exact e6, ?_⟩
            exact q (T.chg p (.lst (vs.set j vv))) E4 (sim_chg S h1 ⟨_, upd_same, E4.rds S _ _ (h3.set rv j)⟩)
        | _ => cases h
      | dk kvs =>
        dsimp only at h
        cases e6 : kyOf i with
        | none => rw [e6] at h; cases h
        | some k =>
          rw [e6] at h
          dsimp only at h
          split at h
          · rename_i hl
            cases h
            obtain ⟨p, ks, rfl, h1, h2, h3⟩ := ro.mdict S e5
            obtain rfl := kyOf_V ri e6
            have E4 := ext_chg (o := .dK (putK ks k.toK vv)) S (List.mem_of_getElem? h1)
            refine .inr ⟨p, _, rfl, .k h2 (by rw [← h3.length, ← SZ_eq]; exact hl), ?_⟩
            exact q (T.chg p (.dK (putK ks k.toK vv))) E4 (sim_chg S h1 ⟨_, upd_same, E4.rks S (h3.put k rv)⟩)
          · cases h
      | ins _ _ => cases h
  | _ => cases h

/-! ### methods of dicts -/
def mDct (f : Nat → List (Ky × D) → List D → Mem → R D) : D → List D → Mem → R D
  | .ref a, as, m => match (m : List O)[a]? with
    | some (.dk kvs) => f a kvs as m
    | _ => .bad
  | _, _, _ => .bad
theorem mDct_post {f : Nat → List (Ky × D) → List D → Mem → R D} {T : Tie} {m : Mem} {d : D} {as : List D} {x : V} {W : Value → Option Addr → Hp → Prop} {Q : VK} (S : Sim G T m) (rd : RD G T d x) (h : post G T W (mDct f d as m) Q) :
    ∃ a kvs p ks, d = .ref a ∧ x = .ref p ∧ T.mu[a]? = some p ∧ T.H p = some (.dK ks) ∧ RKs G T kvs ks ∧ post G T W (f a kvs as m) Q := by
  cases d with
  | ref a =>
    dsimp only [mDct] at h
    cases e : (m : List O)[a]? with
    | none => rw [e] at h; exact h.elim
    | some o =>
      rw [e] at h
      cases o with
      | dk kvs => obtain ⟨p, ks, h1, h2, h3, h4⟩ := rd.mdict S e; exact ⟨a, kvs, p, ks, rfl, h1, h2, h3, h4, h⟩
      | lst _ => exact h.elim
      | ins _ _ => exact h.elim
  | _ => exact h.elim
def mGet := mDct fun _ kvs as m => match as with
  | [y] => match kyOf y with
    | some k => .ok ((valK kvs k).getD .non) m
    | none => .bad
  | [y, z] => match kyOf y with
    | some k => .ok ((valK kvs k).getD z) m
    | none => .bad
  | _ => .bad
theorem m_get (hu : X.A.units + 1 < cLine) : MtR X "dict.get" (rmOf G mGet) := by
  intro pins s σ H x xs v us Q I rx rs q
  obtain ⟨T, m, d, as, rfl, S, rd, ra, p⟩ := q
  obtain ⟨a, kvs, p1, ks, rfl, rfl, h1, h2, r2, p⟩ := mDct_post S rd p
  cases rx
  match as, ra, p with
  | [y], ra, p =>
    obtain ⟨w, rfl, rw'⟩ := ra.one
    dsimp only at p
    cases e : kyOf y with
    | none => rw [e] at p; exact p.elim
    | some k =>
      rw [e] at p
      obtain rfl := kyOf_V rw' e
      cases rs with
      | cons ry rt =>
        cases rt
        refine d_get1 hu I (.k h2) ry fun w' s' I' r' => ?_
        rcases r2.find k with ⟨q1, q2⟩ | ⟨d, u, q1, q2, rr⟩
        · rw [q2] at r'; dsimp only at p; rw [q1] at p; exact ⟨.non, _, I', r', post_ok S .non p⟩
        · rw [q2] at r'; dsimp only at p; rw [q1] at p; exact ⟨u, _, I', r', post_ok S rr p⟩
  | [y, z], ra, p =>
    obtain ⟨w, w2, rfl, rw', rz⟩ := ra.two
    dsimp only at p
    cases e : kyOf y with
    | none => rw [e] at p; exact p.elim
    | some k =>
      rw [e] at p
      obtain rfl := kyOf_V rw' e
      cases rs with
      | cons ry rt =>
        cases rt with
        | cons ry2 rt =>
          cases rt
          refine d_get2 hu I (.k h2) ry ry2 fun w' s' I' r' => ?_
          rcases r2.find k with ⟨q1, q2⟩ | ⟨d, u, q1, q2, rr⟩
          · rw [q2] at r'; dsimp only at p; rw [q1] at p; exact ⟨w2, _, I', r', post_ok S rz p⟩
          · rw [q2] at r'; dsimp only at p; rw [q1] at p; exact ⟨u, _, I', r', post_ok S rr p⟩
  | [], ra, p => exact p.elim
  | _ :: _ :: _ :: _, ra, p => exact p.elim
theorem post_dct {T : Tie} {m : Mem} {a : Nat} {p : Addr} {kvs : List (Ky × D)} {ks : List (Key × V)} {W : Value → Option Addr → Hp → Prop} {Q : VK} {d : D} {v : V} (S : Sim G T m) (hp : T.mu[a]? = some p) (r : RKs G T kvs ks) (rd : RD G T d v)
    (h : post G T W (.ok d (setM m a (.dk kvs))) Q) : Q v (upd T.H p (.dK ks)) :=
  post_set (o := .dk kvs) (u := .dK ks) S hp ⟨ks, upd_same, (ext_chg (o := .dK ks) S (List.mem_of_getElem? hp)).rks S r⟩ rd h
def mDPop := mDct fun a kvs as m => match as with
  | [y] => match kyOf y with
    | some k => match valK kvs k with
      | some d => .ok d (setM m a (.dk (dropKy kvs k)))
      | none => .bad
    | none => .bad
  | [y, z] => match kyOf y with
    | some k => match valK kvs k with
      | some d => .ok d (setM m a (.dk (dropKy kvs k)))
      | none => .ok z m
    | none => .bad
  | _ => .bad
theorem m_dpop : MtR X "dict.pop" (rmOf G mDPop) := by
  intro pins s σ H x xs v us Q I rx rs q
  obtain ⟨T, m, d, as, rfl, S, rd, ra, p⟩ := q
  obtain ⟨a, kvs, p1, ks, rfl, rfl, h1, h2, r2, p⟩ := mDct_post S rd p
  cases rx
  match as, ra, p with
  | [y], ra, p =>
    obtain ⟨w, rfl, rw'⟩ := ra.one
    dsimp only at p
    cases e : kyOf y with
    | none => rw [e] at p; exact p.elim
    | some k =>
      rw [e] at p
      obtain rfl := kyOf_V rw' e
      cases rs with
      | cons ry rt =>
        cases rt
        rcases r2.find k with ⟨q1, q2⟩ | ⟨d, u, q1, q2, rr⟩
        · dsimp only at p; rw [q1] at p; exact p.elim
        · dsimp only at p; rw [q1] at p
          exact d_pop I h2 ry q2 (.inl rfl) fun w' s' I' r' => ⟨u, _, I', r', post_dct S h1 (r2.drop k) rr p⟩
  | [y, z], ra, p =>
    obtain ⟨w, w2, rfl, rw', rz⟩ := ra.two
    dsimp only at p
    cases e : kyOf y with
    | none => rw [e] at p; exact p.elim
    | some k =>
      rw [e] at p
      obtain rfl := kyOf_V rw' e
      cases rs with
      | cons ry rt =>
        cases rt with
        | cons ry2 rt =>
          cases rt
          rcases r2.find k with ⟨q1, q2⟩ | ⟨d, u, q1, q2, rr⟩
          · dsimp only at p; rw [q1] at p
            exact d_popD I h2 ry q2 fun s' I' => ⟨w2, _, I', ry2, post_ok S rz p⟩
          · dsimp only at p; rw [q1] at p
            exact d_pop I h2 ry q2 (.inr ⟨_, rfl⟩) fun w' s' I' r' => ⟨u, _, I', r', post_dct S h1 (r2.drop k) rr p⟩
  | [], ra, p => exact p.elim
  | _ :: _ :: _ :: _, ra, p => exact p.elim
def mDClear := mDct fun a _ as m => match as with
  | [] => .ok .non (setM m a (.dk []))
  | _ => .bad
theorem m_dclear : MtR X "dict.clear" (rmOf G mDClear) := by
  intro pins s σ H x xs v us Q I rx rs q
  obtain ⟨T, m, d, as, rfl, S, rd, ra, p⟩ := q
  obtain ⟨a, kvs, p1, ks, rfl, rfl, h1, h2, r2, p⟩ := mDct_post S rd p
  match as, ra, p with
  | [], ra, p =>
    cases ra
    exact mtd_clear pins s σ _ _ _ v us Q I rx rs ⟨p1, ks, rfl, rfl, h2, post_dct S h1 .nil .non p⟩
  | _ :: _, ra, p => exact p.elim
/-- {} -/
def dNewD : EV := fun _ m => .ok (.ref m.length) (m ++ [.dk []])
theorem d_newD : PE X (.Dict [] [] pos) (tOf G W dNewD) := by
  refine PE.wk pe_dnewK fun σ H Q ⟨T, env, m, e, S, re, q⟩ => ?_
  subst e
  intro p hp
  have E := ext_add (o := .dK []) S hp
  refine q (T.add p (.dK [])) (.ref p) E (sim_add S hp ⟨[], upd_same, .nil⟩) (.ref ?_)
  show (T.mu ++ [p])[m.length]? = some p
  rw [← S.len]
  simp

/-! ### methods of lists -/
def mPop := mLst fun a ds as m => match as with
  | [] => match ds[ds.length - 1]? with
    | some d => .ok d (setM m a (.lst ds.dropLast))
    | none => .bad
  | [.int i] => match seqIndex? i ds.length with
    | some k => match ds[k]? with
      | some d => if decide (-(2 ^ 63) ≤ i ∧ i < 2 ^ 63) then .ok d (setM m a (.lst (ds.eraseIdx k))) else .bad
      | none => .bad
    | none => .bad
  | _ => .bad
theorem RDs.dropLast : ∀ {ds : List D} {vs : List V}, RDs G T ds vs → RDs G T ds.dropLast vs.dropLast
  | [], _, h => by cases h; exact .nil
  | [_], _, h => by cases h with | cons h1 h2 => cases h2; exact .nil
  | _ :: b :: ds, _, h => by
    cases h with
    | cons h1 h2 =>
      cases h2 with
      | cons h3 h4 => exact .cons h1 (RDs.dropLast (.cons h3 h4))
theorem RDs.erase : ∀ {ds : List D} {vs : List V} (i : Nat), RDs G T ds vs → RDs G T (ds.eraseIdx i) (vs.eraseIdx i)
  | [], _, _, h => by cases h; exact .nil
  | _ :: _, _, 0, h => by cases h with | cons h1 h2 => exact h2
  | _ :: _, _, i + 1, h => by cases h with | cons h1 h2 => exact .cons h1 (RDs.erase i h2)
theorem RDs.reverse {ds : List D} {vs : List V} (h : RDs G T ds vs) : RDs G T ds.reverse vs.reverse := by
  induction ds generalizing vs with
  | nil => cases h; exact .nil
  | cons d ds ih =>
    cases h with
    | cons h1 h2 =>
      rw [List.reverse_cons, List.reverse_cons]
      exact (ih h2).append (.cons h1 .nil)
theorem m_pop : MtR X "list.pop" (rmOf G mPop) := by
  intro pins s σ H x xs v us Q I rx rs q
  obtain ⟨T, m, d, as, rfl, S, rd, ra, p⟩ := q
  obtain ⟨a, ds, p1, vs, rfl, rfl, h1, h2, r2, p⟩ := mLst_post S rd p
  match as, ra, p with
  | [], ra, p =>
    cases ra
    dsimp only at p
    cases e : ds[ds.length - 1]? with
    | none => rw [e] at p; exact p.elim
    | some d =>
      rw [e] at p
      obtain ⟨w, h3, r3⟩ := r2.get e
      exact mt_pop pins s σ _ _ _ v us Q I rx rs ⟨p1, vs, w, rfl, rfl, h2, by rw [← r2.length]; exact h3, post_chg S h1 r2.dropLast r3 p⟩
  | [.int i], ra, p =>
    obtain ⟨w, rfl, rw'⟩ := ra.one
    obtain rfl := rw'.inti
    dsimp only at p
    cases e : seqIndex? i ds.length with
    | none => rw [e] at p; exact p.elim
    | some k =>
      rw [e] at p
      dsimp only at p
      cases e2 : ds[k]? with
      | none => rw [e2] at p; exact p.elim
      | some d =>
        rw [e2] at p
        replace p : post G T W0 (if decide (-(2 ^ 63) ≤ i ∧ i < 2 ^ 63) then .ok d (setM m a (.lst (ds.eraseIdx k))) else .bad) Q := p
        split at p
        · rename_i hc
          have hc := of_decide_eq_true hc
          obtain ⟨w, h3, r3⟩ := r2.get e2
          exact mt_popAt pins s σ _ _ _ v us Q I rx rs ⟨p1, vs, i, k, w, rfl, rfl, h2, hc.1, hc.2, by rw [← r2.length]; exact e, h3, post_chg S h1 (r2.erase k) r3 p⟩
        · exact p.elim
  | .non :: _, ra, p => exact p.elim
  | .bl _ :: _, ra, p => exact p.elim
  | .str _ :: _, ra, p => exact p.elim
  | .tup _ :: _, ra, p => exact p.elim
  | .fl _ :: _, ra, p => exact p.elim
  | .sc _ :: _, ra, p => exact p.elim
  | .ref _ :: _, ra, p => exact p.elim
  | .int _ :: _ :: _, ra, p => exact p.elim
def mReverse := mLst fun a ds as m => match as with
  | [] => .ok .non (setM m a (.lst ds.reverse))
  | _ => .bad
theorem m_reverse : MtR X "list.reverse" (rmOf G mReverse) := by
  intro pins s σ H x xs v us Q I rx rs q
  obtain ⟨T, m, d, as, rfl, S, rd, ra, p⟩ := q
  obtain ⟨a, ds, p1, vs, rfl, rfl, h1, h2, r2, p⟩ := mLst_post S rd p
  match as, ra, p with
  | [], ra, p => cases ra; exact mt_reverse pins s σ _ _ _ v us Q I rx rs ⟨p1, vs, rfl, rfl, h2, post_chg S h1 r2.reverse .non p⟩
  | _ :: _, ra, p => exact p.elim
def mClear := mLst fun a ds as m => match as with
  | [] => .ok .non (setM m a (.lst []))
  | _ => .bad
theorem m_clear : MtR X "list.clear" (rmOf G mClear) := by
  intro pins s σ H x xs v us Q I rx rs q
  obtain ⟨T, m, d, as, rfl, S, rd, ra, p⟩ := q
  obtain ⟨a, ds, p1, vs, rfl, rfl, h1, h2, r2, p⟩ := mLst_post S rd p
  match as, ra, p with
  | [], ra, p => cases ra; exact mt_clear pins s σ _ _ _ v us Q I rx rs ⟨p1, vs, rfl, rfl, h2, post_chg S h1 .nil .non p⟩
  | _ :: _, ra, p => exact p.elim

/-! ### texts -/
def unS (x : Str) : List Nat := x.cps.toList
theorem stS_unS (x : Str) : stS (unS x) = x := by simp [stS, unS]
theorem unS_stS (x : List Nat) : unS (stS x) = x := by simp [stS, unS]
def itoa (i : Int) : List Nat := unS (toString i : String)
def bStr : List D → Mem → R D := b1 fun d m => match d with
  | .int i => okD (decide (i.natAbs.log2 < 1920)) (.str (itoa i)) m
  | .str s => .ok (.str s) m
  | _ => .bad
theorem c_str : CallR X (.type "str") (rcOf G bStr) := by
  intro pins s σ H vs us Q I r q
  obtain ⟨T, m, ds, rfl, S, rs, p⟩ := q
  obtain ⟨d, v, rfl, rfl, rd, p⟩ := b1_post rs p
  cases d with
  | int i =>
    obtain rfl := rd.inti
    obtain ⟨k, p⟩ := okD_of p
    have q := post_ok S (.str _) p
    unfold itoa at q
    rw [stS_unS] at q
    exact call_str_int pins s σ _ _ us Q I r ⟨i, rfl, of_decide_eq_true k, q⟩
  | str z =>
    obtain rfl := rd.stri
    exact _root_.SkE.call_str_str pins s σ _ _ us Q I r ⟨_, rfl, post_ok S (.str _) p⟩
  | _ => exact p.elim
def mLower : D → List D → Mem → R D
  | .str a, [], m => okD (decide (a.length ≤ 5592405)) (.str (unS (Txt.lower (stS a)))) m
  | _, _, _ => .bad
theorem m_lower : MtR X "str.lower" (rmOf G mLower) := by
  intro pins s σ H x xs v us Q I rx rs q
  obtain ⟨T, m, d, as, rfl, S, rd, ra, p⟩ := q
  cases d with
  | str a =>
    match as, ra, p with
    | [], ra, p =>
      cases ra
      obtain rfl := rd.stri
      obtain ⟨k, p⟩ := okD_of p
      have q := post_ok S (.str _) p
      rw [stS_unS] at q
      exact mt_lower pins s σ _ _ _ v us Q I rx rs ⟨_, rfl, rfl, by rw [stS_len]; exact of_decide_eq_true k, q⟩
    | _ :: _, ra, p => exact p.elim
  | _ => exact p.elim
def mFind : D → List D → Mem → R D
  | .str a, [.str b], m => .ok (.int (Txt.find (stS a) (stS b))) m
  | _, _, _ => .bad
theorem m_find : MtR X "str.find" (rmOf G mFind) := by
  intro pins s σ H x xs v us Q I rx rs q
  obtain ⟨T, m, d, as, rfl, S, rd, ra, p⟩ := q
  cases d with
  | str a =>
    match as, ra, p with
    | [.str b], ra, p =>
      obtain ⟨w, rfl, rw'⟩ := ra.one
      obtain rfl := rd.stri
      obtain rfl := rw'.stri
      exact mt_find pins s σ _ _ _ v us Q I rx rs ⟨_, _, rfl, rfl, post_ok S (.int _) p⟩
    | [], ra, p => exact p.elim
    | [.non], ra, p => exact p.elim
    | [.bl _], ra, p => exact p.elim
    | [.int _], ra, p => exact p.elim
    | [.tup _], ra, p => exact p.elim
    | [.fl _], ra, p => exact p.elim
    | [.sc _], ra, p => exact p.elim
    | [.ref _], ra, p => exact p.elim
    | x :: _ :: _, ra, p => cases x <;> exact p.elim
  | _ => exact p.elim
theorem RDs.texts : ∀ ys : List Str, RDs G T (ys.map fun y => D.str (unS y)) (ys.map V.str)
  | [] => .nil
  | y :: ys => by
    have : RD G T (.str (unS y)) (.str (stS (unS y))) := .str _
    rw [stS_unS] at this
    exact .cons this (RDs.texts ys)
def mSplit (mt : Bool) : D → List D → Mem → R D
  | .str a, [.str b], m => if b ≠ [] ∧ a.length + 2 ≤ SZ then mkL mt ((Txt.split (stS a) (stS b)).map fun y => D.str (unS y)) m else .bad
  | _, _, _ => .bad
theorem m_split {mt : Bool} : MtR X "str.split" (rmOf G (mSplit mt)) := by
  intro pins s σ H x xs v us Q I rx rs q
  obtain ⟨T, m, d, as, rfl, S, rd, ra, p⟩ := q
  cases d with
  | str a =>
    match as, ra, p with
    | [.str b], ra, p =>
      obtain ⟨w, rfl, rw'⟩ := ra.one
      obtain rfl := rd.stri
      obtain rfl := rw'.stri
      replace p : post G T W0 (if b ≠ [] ∧ a.length + 2 ≤ SZ then mkL mt ((Txt.split (stS a) (stS b)).map fun y => D.str (unS y)) m else .bad) Q := p
      split at p
      · rename_i hc
        refine mt_split pins s σ _ _ _ v us Q I rx rs ⟨_, _, rfl, rfl, ?_, by rw [stS_len, ← SZ_eq]; exact hc.2, post_mkL S (RDs.texts _) p⟩
        rw [stS_len, beq_eq_false_iff_ne]
        exact fun z => hc.1 (List.length_eq_zero_iff.mp z)
      · exact p.elim
    | [], ra, p => exact p.elim
    | [.non], ra, p => exact p.elim
    | [.bl _], ra, p => exact p.elim
    | [.int _], ra, p => exact p.elim
    | [.tup _], ra, p => exact p.elim
    | [.fl _], ra, p => exact p.elim
    | [.sc _], ra, p => exact p.elim
    | [.ref _], ra, p => exact p.elim
    | x :: _ :: _, ra, p => cases x <;> exact p.elim
  | _ => exact p.elim

/-! ### numbers -/
def bAbs : List D → Mem → R D := b1 fun d m => match d with
  | .int i => .ok (.int (if i < 0 then -i else i)) m
  | _ => .bad
theorem c_abs : CallR X (.builtin "abs") (rcOf G bAbs) := by
  intro pins s σ H vs us Q I r q
  obtain ⟨T, m, ds, rfl, S, rs, p⟩ := q
  obtain ⟨d, v, rfl, rfl, rd, p⟩ := b1_post rs p
  cases d with
  | int i => obtain rfl := rd.inti; exact call_abs pins s σ _ _ us Q I r ⟨i, rfl, post_ok S (.int _) p⟩
  | _ => exact p.elim
def bI2 (F : Int → Int → Int) : List D → Mem → R D
  | [.int i, .int j], m => .ok (.int (F i j)) m
  | _, _ => .bad
def bMax := bI2 fun i j => if j > i then j else i
def bMin := bI2 fun i j => if j < i then j else i
theorem two_ints {F : Int → Int → Int} {ds : List D} {vs : List V} {W : Value → Option Addr → Hp → Prop} {Q : VK} (r : RDs G T ds vs) (p : post G T W (bI2 F ds m) Q) : ∃ i j, ds = [.int i, .int j] ∧ vs = [.int i, .int j] ∧ post G T W (.ok (.int (F i j)) m) Q := by
  match ds, r, p with
  | [x, y], r, p =>
    obtain ⟨v, w, rfl, r1, r2⟩ := r.two
    cases x <;> first | exact p.elim | (cases y <;> first | exact p.elim | (obtain rfl := r1.inti; obtain rfl := r2.inti; exact ⟨_, _, rfl, rfl, p⟩))
  | [], r, p => exact p.elim
  | [x], r, p => cases x <;> exact p.elim
  | x :: y :: _ :: _, r, p => cases x <;> first | exact p.elim | (cases y <;> exact p.elim)
theorem c_max (hc : X.calm = true) : CallR X (.builtin "max") (rcOf G bMax) := by
  intro pins s σ H vs us Q I r q
  obtain ⟨T, m, ds, rfl, S, rs, p⟩ := q
  obtain ⟨i, j, rfl, rfl, p⟩ := two_ints rs p
  exact call_max2 hc pins s σ _ _ us Q I r ⟨i, j, rfl, post_ok S (.int _) p⟩
theorem c_min (hc : X.calm = true) : CallR X (.builtin "min") (rcOf G bMin) := by
  intro pins s σ H vs us Q I r q
  obtain ⟨T, m, ds, rfl, S, rs, p⟩ := q
  obtain ⟨i, j, rfl, rfl, p⟩ := two_ints rs p
  exact call_min2 hc pins s σ _ _ us Q I r ⟨i, j, rfl, post_ok S (.int _) p⟩
end
end Itp
set_option Elab.async false
set_option linter.all false
set_option maxRecDepth 100000
/-! Itp E: calls of defs, isinstance, subscripts, methods; what a loop walks; targets; comprehensions. -/
namespace Itp
open PySem PySem.Spec PyProof.Rows L2

/-- the promise of a def that does what h does -/
def spOf (G : Gd) (n : Nat) (h : List D → Mem → R D) : Sp := fun vs H Q E => vs.length = n ∧ ∃ T m ds, T.H = H ∧ Sim G T m ∧ RDs G T ds vs ∧ post G T E (h ds m) Q

/-- what stands at f, called with values by position, keeps a promise -/
structure CaF (P : Program) (w : World) (K : PySem.W.Frag) (mg : Str → Option Value) (base : Heap) (k : Nat) (f : Addr) (sp : Sp) : Prop where
  run : ∀ (A : Around) (outer : List PySem.Env) (s : Shared) (H : Hp) (us : List Value) (vs : List V) (Q : VK) (E : XK), Room k A → Env0 P w K mg base A outer s H → K.In s.heap → Vals vs us → sp vs H Q E →
    codeAny (model P w) A (.call (.ref f) ⟨us, []⟩) (CR (L2.CX P w) outer P w H s Q E) s
theorem CaF.of {P : Program} {w : World} {K : PySem.W.Frag} {mg : Str → Option Value} {base : Heap} {k n : Nat} {f : Addr} {fd : FuncData} {ps : List Str} {ds : List Value} {dvs : List V} {dl : List D} {G : Gd} {h : List D → Mem → R D}
    (F : FnOk P w K mg base (L2.CX P w) k f fd ps (spOf G (n + dl.length) h)) (hb : Binds K fd ps ds) (hd : Vals dvs ds) (hr : ∀ T, RDs G T dl dvs) : CaF P w K mg base k f (spOf G n fun xs m => h (xs ++ dl) m) := by
  refine ⟨fun A outer s H us vs Q E room e0 inK r ⟨hl, T, m, xs, e, S, rx, q⟩ => ?_⟩
  have sp : spOf G (n + dl.length) h (vs ++ dvs) H Q E := ⟨by rw [List.length_append, hl, (hr T).length], T, m, xs ++ dl, e, S, rx.append (hr T), q⟩
  have rr := r.append hd
  exact F.run A outer s H ⟨us, []⟩ _ _ Q E room e0 (hb s us inK (by rw [← rr.length]; exact F.len _ _ _ _ sp)) rr sp
theorem run_ca {X : Cx} {k : Nat} {f : Addr} {sp : Sp} {pins : List (Addr × Obj)} {σ : L2.St} {H : Hp} {s : Shared} {us : List Value} {vs : List V} {Q : VK} {E : XK} (F : CaF X.prog X.w X.K X.mg X.base k f sp) (hr : Room k X.A) (hx : PassesAt (L2.CX X.prog X.w) X σ E) (I : L2.Inv X pins σ H s) (r : Vals vs us)
    (h : sp vs H Q E) : wpAny (model X.prog X.w) X.A (call (.ref f) us) (EP X pins σ Q) X.xe s := by
  apply wpAny_call
  apply codeAny_mono (F.run X.A X.stack s H us vs Q E hr I.env0 I.kIn r h)
  intro res s2 h2
  match res, h2 with
  | .error e, h2 => exact hx pins H s e s2 I h2
  | .ok (.ret u), h2 => exact I.after h2
  | .ok .next, h2 => exact h2.elim
  | .ok .brk, h2 => exact h2.elim
  | .ok .cont, h2 => exact h2.elim
section
variable {X : Cx} {G : Gd} {W : WX} {T T' : Tie} {m : Mem} {env : Env} {σ : L2.St} {H : Hp} {a b c : Expr} {pos : Pos} {f g k : EV}

/-- where the def x stands, and what it does -/
structure FnIs (X : Cx) (G : Gd) (x : Str) (n : Nat) (k : Nat) (h : List D → Mem → R D) : Prop where
  ex : ∃ f : Addr, X.mg x = some (.ref f) ∧ PySem.W.keepIn X.K (.ref f) = true ∧ CaF X.prog X.w X.K X.mg X.base k f (spOf G n h)
theorem dArgs_cnt : ∀ (fs : List EV) (env : Env) (m : Mem) (xs : List D) (m1 : Mem), dArgs fs env m = .ok xs m1 → xs.length = fs.length := by
  intro fs
  induction fs with
  | nil => intro env m xs m1 h; cases h; rfl
  | cons f fs ih =>
    intro env m xs m1 h
    dsimp only [dArgs] at h
    cases e1 : f env m with
    | bad => rw [e1] at h; cases h
    | ex _ _ => rw [e1] at h; cases h
    | ok x m2 =>
      rw [e1] at h
      dsimp only [R.bind] at h
      cases e2 : dArgs fs env m2 with
      | bad => rw [e2] at h; cases h
      | ex _ _ => rw [e2] at h; cases h
      | ok ys m3 => rw [e2] at h; cases h; simp [ih env m2 ys _ e2]
theorem d_call {x : Str} {n j : Nat} {p : Pos} {e : Expr} {es : List Expr} {h : List D → Mem → R D} {fs : List EV} (hf : FnIs X G x n j h) (tk : Takes X W) (hr : Room j X.A) (hg : Gl X x) (hdb : (x == ("__debug__" : Str)) = false)
    (hs : (e :: es).all notStar = true) (hl : fs.length = n) (hl2 : (e :: es).length = fs.length) (ha : PA X (e :: es) (taOf G W (dArgs fs))) : PE X (.Call (.Name x p) (e :: es) [] pos) (tOf G W (dCall h fs)) := by
  rw [List.all_cons, Bool.and_eq_true] at hs
  obtain ⟨f, h1, h2, F⟩ := hf.ex
  refine ⟨fun pins s σ H Q I q => ?_⟩
  apply wpAny_Call_Name_kw (ld_glob I hg h1 ?_ hdb)
  have args : taOf G W (dArgs fs) σ H fun vs H1 => spOf G n h vs H1 Q (WE W σ) := by
    obtain ⟨T, env, m, e, S, re, q⟩ := q
    subst e
    obtain ⟨p1, p2, p3⟩ := bindP q
    refine stepA S re p1 p2 fun xs m1 T1 v e1 E1 S1 re1 r1 => ?_
    exact ⟨by rw [← r1.length, dArgs_cnt fs env m xs m1 e1, hl], T1, m1, xs, rfl, S1, r1, post_ext E1 (p3 xs m1 e1)⟩
  refine PySem.W.callWith_K (h₀ := X.base) I.ok.mod.kin h2 (thn (ha.run pos pins s σ H _ I args) ?_) (star_of hs.1) (back_any hs.2)
  rintro us s2 ⟨vs, H1, I1, r, q2⟩
  exact ⟨I1.kIn, run_ca F hr (passAt tk σ) I1 r q2⟩
theorem d_call0 {x : Str} {j : Nat} {p : Pos} {h : List D → Mem → R D} (hf : FnIs X G x 0 j h) (tk : Takes X W) (hr : Room j X.A) (hg : Gl X x) (hdb : (x == ("__debug__" : Str)) = false) : PE X (.Call (.Name x p) [] [] pos) (tOf G W (dCall h [])) := by
  obtain ⟨f, h1, h2, F⟩ := hf.ex
  refine ⟨fun pins s σ H Q I q => ?_⟩
  refine wpAny_Call_Name_kw (ld_glob I hg h1 ?_ hdb)
  obtain ⟨T, env, m, e, S, re, q⟩ := q
  subst e
  exact PySem.W.callWith_K0 I.kIn h2 (run_ca (us := []) F hr (passAt tk σ) I .nil ⟨rfl, T, m, [], rfl, S, .nil, q⟩)

/-! ### isinstance -/
theorem isi_have (hK : G.K = X.K) {ts : List Ty} {Q : VK} (q : tOf G W (dIsi ts f) σ H Q) : tOf G W f σ H fun x H1 => ∃ t : Ty, TyX X.K H1 x (.type t.nm) ∧ (∀ p o, H1 p = Option.none → TyX X.K (upd H1 p o) x (.type t.nm)) ∧ (∀ p o, H1 p = Option.none → Q (.bl (ts.any (isT t))) (upd H1 p (.tup o))) ∧ Q (.bl (ts.any (isT t))) H1 := by
  obtain ⟨T, env, m, e, S, re, q⟩ := q
  subst e
  obtain ⟨p1, p2, p3⟩ := bindP q
  refine stepE S re p1 p2 fun x m1 T1 v e1 E1 S1 re1 r1 => ?_
  have q := post_ext E1 (p3 x m1 e1)
  cases e2 : tyD m1 x with
  | none => rw [e2] at q; exact q.elim
  | some t =>
    rw [e2] at q
    rw [← hK]
    refine ⟨t, tyD_ty S1 r1 e2, fun p o hp => ?_, fun p o hp => ?_, post_ok S1 (.bl _) q⟩
    · exact tyD_ty (sim_frz S1 hp) ((ext_frz S1 hp).rd S1 _ _ r1) e2
    · exact q (T1.frz p (.tup o)) (.bl _) (ext_frz S1 hp) (sim_frz S1 hp) (.bl _)
theorem pa_tys {ts : List Ty} {es : List Expr} (h : Paired (fun e t => ∃ (x : Str) (p : Pos), e = Expr.Name x p ∧ Gl X x ∧ X.mg x = none ∧ bootBuiltins x = some (.type (Ty.nm t)) ∧ x ≠ "__name__" ∧ (x == ("__debug__" : Str)) = false) es ts) : PA X es (fun _ H Q => Q (ts.map fun t => V.ty t.nm) H) := by
  induction h with
  | nil => exact PA.wk pa_nil fun _ _ _ q => q
  | cons h1 h2 ih =>
    obtain ⟨x, p, rfl, hg, hm, hv, hn, hd⟩ := h1
    exact PA.wk (pa_cons (pe_bltn (v := V.ty (Ty.nm _)) hg hm hv rfl hn hd) ih (star_of rfl)) fun _ _ _ q => q
theorem d_isi1 (hK : G.K = X.K) {t : Ty} {e : Expr} {x : Str} {p p2 : Pos} (ha : PE X e (tOf G W f)) (hst : notStar e = true) (hg : Gl X "isinstance") (hm : X.mg "isinstance" = none)
    (hg2 : Gl X x) (hm2 : X.mg x = none) (hv2 : bootBuiltins x = some (.type t.nm)) (hn2 : x ≠ "__name__") (hd2 : (x == ("__debug__" : Str)) = false) : PE X (.Call (.Name "isinstance" p) [e, .Name x p2] [] pos) (tOf G W (dIsi [t] f)) := by
  refine PE.wk (pe_callB call_isi hg hm (by decide +kernel) (pa_cons ha (pa_cons (pe_bltn (v := V.ty t.nm) hg2 hm2 hv2 rfl hn2 hd2) pa_nil (star_of rfl)) (star_of hst)) (by decide) (by decide) (star_of hst) (back_any rfl)) fun σ H Q q => ?_
  obtain ⟨T, env, m, e, S, re, p⟩ := isi_have hK q
  refine ⟨T, env, m, e, S, re, ?_⟩
  revert p
  cases f env m with
  | bad => exact fun p => p
  | ex _ _ => exact fun p => p
  | ok d m1 =>
    intro p T1 v E1 S1 r1
    obtain ⟨t', h1, _, _, h4⟩ := p T1 v E1 S1 r1
    exact ⟨v, _, _, _, _, rfl, .ty _, h1, kit_ty (kit_isT t' t), by simpa using h4⟩
theorem d_isiT (hK : G.K = X.K) {ts : List Ty} {e : Expr} {es : List Expr} {x : Str} {p p2 : Pos} {kk : Nat} (ha : PE X e (tOf G W f)) (hst : notStar e = true) (hg : Gl X "isinstance") (hm : X.mg "isinstance" = none) (hz : ts.length ≤ 1000)
    (h : Paired (fun e t => ∃ (x : Str) (p : Pos), e = Expr.Name x p ∧ Gl X x ∧ X.mg x = none ∧ bootBuiltins x = some (.type (Ty.nm t)) ∧ x ≠ "__name__" ∧ (x == ("__debug__" : Str)) = false) es ts) : PE X (.Call (.Name "isinstance" p) [e, .Tuple es kk p2] [] pos) (tOf G W (dIsi ts f)) := by
  refine PE.wk (pe_callB call_isiT hg hm (by decide +kernel) (pa_cons ha (pa_cons (pe_tup (pa_tys h)) pa_nil (star_of rfl)) (star_of hst)) (by decide) (by decide) (star_of hst) (back_any rfl)) fun σ H Q q => ?_
  obtain ⟨T, env, m, e, S, re, p⟩ := isi_have hK q
  refine ⟨T, env, m, e, S, re, ?_⟩
  revert p
  cases f env m with
  | bad => exact fun p => p
  | ex _ _ => exact fun p => p
  | ok d m1 =>
    intro p T1 v E1 S1 r1
    obtain ⟨t', h1, h2, h3, h4⟩ := p T1 v E1 S1 r1
    refine ⟨by rw [List.length_map]; exact Nat.le_trans hz (by decide), fun tp htp => ?_⟩
    exact ⟨v, tp, _, _, _, _, rfl, upd_same, paired_ts ts, h2 tp _ htp, kitAny_ts ts, h3 tp _ htp⟩

/-! ### subscripts and methods -/
def plainIx : Expr → Bool
  | .Slice _ _ none _ => false
  | _ => true
theorem plainIx_of {e : Expr} (h : plainIx e = true) : PlainIx e := by
  intro o i
  cases e <;> first | rfl | skip
  rename_i lo hi st p
  cases st with
  | none => cases h
  | some _ => rfl
theorem d_ix (hK : G.K = X.K) (hu : X.A.units + 1 < cLine) (ha : PE X a (tOf G W f)) (hb : PE X b (tOf G W g)) (hs : plainIx b = true) : PE X (.Subscript a b pos) (tOf G W (dBin opIx f g)) :=
  PE.wk (pe_ix (s_ixA hK hu) ha hb (plainIx_of hs)) fun _ _ _ q => d_bin2 q

/-- the type of a method's object -/
theorem tyV_lst {a : Nat} {p : Addr} {ds : List D} {v : V} (hK : G.K = X.K) (S : Sim G T m) (r : RD G T (.ref a) v) (h : (m : List O)[a]? = some (.lst ds)) : tyV X.K "list" v T.H := by
  obtain ⟨p, vs, rfl, _, h2, _⟩ := r.mlist S h
  exact .inl ⟨rfl, vs, .of h2⟩
/-- what a method of a type does, by the type's name -/
def tyOk (T : String) (m : Mem) : D → Bool
  | .ref a => match (m : List O)[a]? with
    | some (.lst _) => T == "list"
    | some (.dk _) => T == "dict"
    | _ => false
  | .fl _ => T == "list"
  | .sc _ => T == "list"
  | .str _ => T == "str"
  | _ => false
def dMt (ty : String) (h : D → List D → Mem → R D) (f : EV) (fs : List EV) : EV := fun env m => (f env m).bind fun x m1 => if tyOk ty m1 x then (dArgs fs env m1).bind fun xs m2 => noex (h x xs m2) else .bad
theorem tyOk_tyV {ty : String} {d : D} {v : V} (hK : G.K = X.K) (S : Sim G T m) (r : RD G T d v) (h : tyOk ty m d = true) : tyV X.K ty v T.H := by
  rw [← hK]
  cases r with
  | fl h1 _ _ => exact .inl ⟨by simpa [tyOk] using h, _, .of h1⟩
  | sc h1 _ => exact .inl ⟨by simpa [tyOk] using h, _, h1.sq⟩
  | str s => simpa [tyOk, tyV] using h
  | ref h1 =>
    rename_i a p
    dsimp only [tyOk] at h
    cases e : (m : List O)[a]? with
    | none => rw [e] at h; cases h
    | some o =>
      rw [e] at h
      have q := S.obj _ _ _ e h1
      cases o with
      | lst es => obtain ⟨vs, e2, _⟩ := q; exact .inl ⟨by simpa using h, vs, .of e2⟩
      | dk ks => obtain ⟨vs, e2, _⟩ := q; exact .inr (.inr (.inl ⟨by simpa using h, .inl ⟨vs, e2⟩⟩))
      | ins _ _ => cases h
  | _ => cases h
theorem mt_post {ty : String} (hK : G.K = X.K) {h : D → List D → Mem → R D} {fs : List EV} {Q : VK} (q : tOf G W (dMt ty h f fs) σ H Q) : tOf G W f σ H fun x H1 => tyV X.K ty x H1 ∧ taOf G W (dArgs fs) σ H1 fun xs H2 => rmOf G h x xs H2 Q := by
  obtain ⟨T, env, m, e, S, re, q⟩ := q
  subst e
  obtain ⟨p1, p2, p3⟩ := bindP q
  refine stepE S re p1 p2 fun x m1 T1 v e1 E1 S1 re1 r1 => ?_
  have q := post_ext E1 (p3 x m1 e1)
  split at q
  · rename_i ht
    refine ⟨tyOk_tyV hK S1 r1 ht, ?_⟩
    obtain ⟨q1, q2, q3⟩ := bindP q
    refine stepA S1 re1 q1 q2 fun xs m2 T2 w e2 E2 S2 re2 r2 => ?_
    exact ⟨T2, m2, x, xs, rfl, S2, E2.rd S1 _ _ r1, r2, post_noex (post_ext E2 (q3 xs m2 e2))⟩
  · exact q.elim
theorem mt_few {env : PySem.Env} {e : Expr} {es : List Expr} {cpos : Pos} (hs : (e :: es).all notStar = true) (hl : (e :: es).length < 29) : ((backTo cpos (starEach (e :: es) env)).all (fun x => !x.1) && (backToKw cpos (keywordEach [] env)).all (fun x => x.1.isSome) && decide ((e :: es).length + ([] : List Keyword).length + (if ([] : List Keyword).isEmpty then 0 else 1) < 30)) = true := by
  have h1 := back_any (env := env) (pos := cpos) hs
  have h2 : (backTo cpos (starEach (e :: es) env)).all (fun x => !x.1) = true := by
    rw [List.all_eq_true]
    intro x hx
    have := List.any_eq_false.mp h1 x hx
    simpa using this
  rw [h2, Bool.true_and, Bool.and_eq_true]
  refine ⟨rfl, ?_⟩
  simp only [List.length_nil, List.isEmpty_nil, if_true]
  exact decide_eq_true (by omega)
def noSuper : Expr → Bool
  | .Call _ _ _ _ => false
  | _ => true
theorem base_of {o : Expr} {m : Str} {env : PySem.Env} (h : noSuper o = true) : attributeBase o m env (eval o env) = eval o env := by
  cases o <;> first | rfl | (cases h)
theorem d_mt {ty : String} {id : String} {name : Str} {apos cpos : Pos} {o e : Expr} {es : List Expr} {h : D → List D → Mem → R D} {fs : List EV} (hK : G.K = X.K) (pa : PlainAttrs ty) (slot : Slot ty name id) (hty : typeOf (.builtin id) = pure (.type "method_descriptor"))
    (hm : MtR X id (rmOf G h)) (ho : PE X o (tOf G W f)) (ha : PA X (e :: es) (taOf G W (dArgs fs))) (hb : noSuper o = true) (hl : (apos.endLine == cpos.line) = true) (hs : (e :: es).all notStar = true) (hfew : (e :: es).length < 29) :
    PE X (.Call (.Attribute o name apos) (e :: es) [] cpos) (tOf G W (dMt ty h f fs)) := by
  have hs' := hs
  rw [List.all_cons, Bool.and_eq_true] at hs'
  exact PE.wk (pe_bm pa slot hty hm ho ha (base_of hb) (mt_few hs hfew) hl (star_of hs'.1) (back_any hs'.2)) fun _ _ _ q => mt_post hK q
theorem d_mt0 {ty : String} {id : String} {name : Str} {apos cpos : Pos} {o : Expr} {h : D → List D → Mem → R D} (hK : G.K = X.K) (pa : PlainAttrs ty) (slot : Slot ty name id) (hty : typeOf (.builtin id) = pure (.type "method_descriptor"))
    (hm : MtR X id (rmOf G h)) (ho : PE X o (tOf G W f)) (hb : noSuper o = true) (hl : (apos.endLine == cpos.line) = true) :
    PE X (.Call (.Attribute o name apos) [] [] cpos) (tOf G W (dMt ty h f [])) := by
  refine PE.wk (pe_bm0 pa slot hty hm ho (base_of hb) hl) fun σ H Q q => ?_
  obtain ⟨T, env, m, e, S, re, p⟩ := mt_post hK q
  refine ⟨T, env, m, e, S, re, ?_⟩
  revert p
  cases f env m with
  | bad => exact fun p => p
  | ex _ _ => exact fun p => p
  | ok d m1 =>
    intro p T1 v E1 S1 r1
    obtain ⟨h1, T2, env2, m2, e2, S2, re2, h2⟩ := p T1 v E1 S1 r1
    refine ⟨h1, ?_⟩
    have := h2 T2 [] (Ext.refl _) S2 .nil
    rw [e2] at this
    exact this
end
end Itp
set_option Elab.async false
set_option linter.all false
set_option maxRecDepth 100000
/-! Itp N3: classes of the program: making, attributes, methods. -/
namespace Itp
open PySem PySem.Spec PyProof.Rows L2

section
variable {X : Cx} {G : Gd} {W : WX} {T T' : Tie} {m : Mem} {env : Env} {σ : L2.St} {H : Hp} {a b c e o : Expr} {pos p2 : Pos} {f g k : EV} {x y : Str}
theorem RFs.look {fs : List (Str × D)} {gs : List (Str × V)} (r : RFs G T fs gs) (x : Str) : (fs.lookup x = none ∧ gs.lookup x = none) ∨ ∃ d v, fs.lookup x = some d ∧ gs.lookup x = some v ∧ RD G T d v := by
  induction r with
  | nil => exact .inl ⟨rfl, rfl⟩
  | @cons y d v fs gs r1 r2 ih =>
    rw [List.lookup_cons, List.lookup_cons]
    cases x == y with
    | true => exact .inr ⟨d, v, rfl, rfl, r1⟩
    | false => exact ih
def putFd (f : Str) (v : D) : List (Str × D) → List (Str × D)
  | [] => [(f, v)]
  | (g, x) :: r => if g = f then (g, v) :: r else (g, x) :: putFd f v r
theorem RFs.put {fs : List (Str × D)} {gs : List (Str × V)} (r : RFs G T fs gs) (x : Str) {d : D} {v : V} (rd : RD G T d v) : RFs G T (putFd x d fs) (putF x v gs) := by
  induction r with
  | nil => exact .cons rd .nil
  | @cons y d2 v2 fs gs r1 r2 ih =>
    unfold putFd putF
    by_cases h : y = x
    · rw [if_pos h, if_pos h]; exact .cons rd r2
    · rw [if_neg h, if_neg h]; exact .cons r1 ih
theorem RFs.length {fs : List (Str × D)} {gs : List (Str × V)} (r : RFs G T fs gs) : fs.length = gs.length := by
  induction r with
  | nil => rfl
  | cons _ _ ih => simp [ih]
theorem putFd_look (x y : Str) (v : D) : ∀ fs : List (Str × D), (putFd x v fs).lookup y = if y = x then some v else fs.lookup y
  | [] => by
    unfold putFd
    rw [List.lookup_cons, List.lookup_nil]
    by_cases h : y = x
    · subst h; simp
    · rw [if_neg h, beq_eq_false_iff_ne.mpr h]
  | (g, z) :: r => by
    unfold putFd
    by_cases h : g = x
    · subst h
      rw [if_pos rfl, List.lookup_cons, List.lookup_cons]
      by_cases h2 : y = g
      · subst h2; simp
      · rw [if_neg h2, beq_eq_false_iff_ne.mpr h2]
    · rw [if_neg h, List.lookup_cons, List.lookup_cons, putFd_look x y v r]
      by_cases h2 : y = g
      · subst h2; rw [beq_self_eq_true]; exact (if_neg h).symm
      · rw [beq_eq_false_iff_ne.mpr h2]
theorem RD.minst (S : Sim G T m) {a : Nat} {v : V} {c : Str} {fs : List (Str × D)} (r : RD G T (.ref a) v) (h : (m : List O)[a]? = some (.ins c fs)) :
    ∃ p dx gs, v = .ref p ∧ T.mu[a]? = some p ∧ T.H p = some (.ins (G.cl c) dx gs) ∧ RFs G T fs gs ∧ Cls G.K (G.cl c) ∧ ∀ x d, fs.lookup x = some d → NoAttr G.K (G.cl c) x := by
  cases r with
  | ref h1 =>
    obtain ⟨dx, gs, e2, r2, r3, r4⟩ := S.obj _ _ _ h h1
    exact ⟨_, dx, gs, rfl, h1, e2, r2, r3, r4⟩

/-! ### attributes -/
def insOf (m : Mem) : D → Option (Str × List (Str × D))
  | .ref a => match (m : List O)[a]? with
    | some (.ins c fs) => some (c, fs)
    | _ => none
  | _ => none
theorem insOf_ref {d : D} {c : Str} {fs : List (Str × D)} (h : insOf m d = some (c, fs)) : ∃ a, d = .ref a ∧ (m : List O)[a]? = some (.ins c fs) := by
  cases d with
  | ref a =>
    dsimp only [insOf] at h
    cases e : (m : List O)[a]? with
    | none => rw [e] at h; cases h
    | some o =>
      rw [e] at h
      cases o with
      | ins c fs => cases h; exact ⟨a, rfl, e⟩
      | lst _ => cases h
      | dk _ => cases h
  | _ => cases h
def dAttr (x : Str) (f : EV) : EV := fun env m => (f env m).bind fun d m1 => match insOf m1 d with
  | some (_, fs) => match fs.lookup x with
    | some v => .ok v m1
    | none => .bad
  | none => .bad
theorem d_attr (hK : G.K = X.K) (he : PE X e (tOf G W f)) (hb : noSuper e = true) : PE X (.Attribute e x pos) (tOf G W (dAttr x f)) := by
  refine PE.wk (pe_fld he (base_of hb)) fun σ H Q ⟨T, env, m, e, S, re, q⟩ => ?_
  subst e
  obtain ⟨p1, p2, p3⟩ := bindP q
  refine stepE S re p1 p2 fun d m1 T1 v e1 E1 S1 re1 r1 => ?_
  have q := post_ext E1 (p3 d m1 e1)
  cases e2 : insOf m1 d with
  | none => rw [e2] at q; exact q.elim
  | some cf =>
    obtain ⟨c, fs⟩ := cf
    rw [e2] at q
    obtain ⟨a, rfl, e3⟩ := insOf_ref e2
    obtain ⟨p, dx, gs, rfl, h1, h2, r2, cl, na⟩ := r1.minst S1 e3
    dsimp only at q
    rcases r2.look x with ⟨l1, l2⟩ | ⟨d2, v2, l1, l2, rr⟩
    · rw [l1] at q; exact q.elim
    · rw [l1] at q
      rw [← hK]
      exact ⟨p, _, dx, gs, v2, rfl, h2, cl, na x d2 l1, l2, post_ok S1 rr q⟩
/-- o.x = v: where the attribute is there, or the class is one of cs -/
def setA (cs : List Str) (o : D) (x : Str) (v : D) (m : Mem) : Option Mem := match o with
  | .ref a => match (m : List O)[a]? with
    | some (.ins c fs) => if ((fs.lookup x).isSome || cs.contains c) && decide (fs.length < 1000) then some (setM m a (.ins c (putFd x v fs))) else none
    | _ => none
  | _ => none
theorem Ext.rfs (E : Ext T T') (S : Sim G T m) {fs : List (Str × D)} {gs : List (Str × V)} (r : RFs G T fs gs) : RFs G T' fs gs := r.ext E S
theorem setA_read {cs : List Str} {o v : D} {m' : Mem} {vo vv : V} (hcs : ∀ c ∈ cs, NoAttr G.K (G.cl c) x) (S : Sim G T m) (ro : RD G T o vo) (rv : RD G T v vv) (h : setA cs o x v m = some m') {Q : Hp → Prop} (q : ∀ T', Ext T T' → Sim G T' m' → Q T'.H) :
    ∃ a C dx fs, vo = .ref a ∧ T.H a = some (.ins C dx fs) ∧ Cls G.K C ∧ NoAttr G.K C x ∧ fs.length < 1000 ∧ Q (upd T.H a (.ins C dx (putF x vv fs))) := by
  cases o with
  | ref a =>
    dsimp only [setA] at h
    cases e5 : (m : List O)[a]? with
    | none => rw [e5] at h; cases h
    | some ob =>
      rw [e5] at h
      cases ob with
      | ins c fs =>
        dsimp only at h
        split at h
        · rename_i hc
          rw [Bool.and_eq_true, Bool.or_eq_true] at hc
          cases h
          obtain ⟨p, dx, gs, rfl, h1, h2, r2, cl, na⟩ := ro.minst S e5
          have n : NoAttr G.K (G.cl c) x := by
            rcases hc.1 with z | z
            · obtain ⟨d, hd⟩ := Option.isSome_iff_exists.mp z
              exact na x d hd
            · exact hcs c (by simpa using z)
          have E4 := ext_chg (o := .ins (G.cl c) dx (putF x vv gs)) S (List.mem_of_getElem? h1)
          refine ⟨p, _, dx, gs, rfl, h2, cl, n, by rw [← r2.length]; exact of_decide_eq_true hc.2, ?_⟩
          refine q (T.chg p (.ins (G.cl c) dx (putF x vv gs))) E4 (sim_chg S h1 ⟨dx, _, upd_same, E4.rfs S (r2.put x rv), cl, fun y d hy => ?_⟩)
          rw [putFd_look] at hy
          split at hy
          · rename_i hyx; subst hyx; exact n
          · exact na y d hy
        · cases h
      | lst _ => cases h
      | dk _ => cases h
  | _ => cases h

/-! ### methods -/
/-- where the class c has the method x, and what it does -/
structure MethIs (X : Cx) (G : Gd) (c x : Str) (n : Nat) (k : Nat) (h : List D → Mem → R D) : Prop where
  ex : ∃ g : Addr, Meth X.K (G.cl c) x g ∧ CaF X.prog X.w X.K X.mg X.base k g (spOf G n h)
def dMeth (x : Str) (tab : List (Str × (List D → Mem → R D))) (f : EV) (fs : List EV) : EV := fun env m => (f env m).bind fun d m1 => match insOf m1 d with
  | some (c, gs) => match tab.lookup c, gs.lookup x with
    | some h, none => (dArgs fs env m1).bind fun xs m2 => h (d :: xs) m2
    | _, _ => .bad
  | none => .bad
/-- what a method call is, its receiver in hand -/
theorem meth_form {o : Expr} {m : Str} {apos pos : Pos} {n : Nat} {env : PySem.Env} {A : List (Bool × Sem Value)} {kw : List (Option Str × Sem Value)} (few : methodCallForm n A kw = true) (hl : (apos.endLine == pos.line) = true) (ov : Value) :
    methodCall o m apos pos env ov n A kw = (do
      let (f, first) ← holding [ov] (getMethod ov m (do return (← importBound o env).getD true))
      callWith pos f first A kw) := by
  have e1 : calleeOf (methodCallForm n A kw) o env ov m = getMethod ov m (do return (← importBound o env).getD true) := by rw [few]; rfl
  have e2 : methodCallPos (methodCallForm n A kw) o env apos pos = pure pos := by unfold methodCallPos; rw [few, hl]; rfl
  unfold methodCall
  rw [e1, e2]
  rfl
theorem meth_tree {o : Expr} {m : Str} {apos pos : Pos} {args : List Expr} {env : PySem.Env} (hb : noSuper o = true) (hs : args.all notStar = true) (hfew : args.length < 29) (hl : (apos.endLine == pos.line) = true) :
    eval (.Call (.Attribute o m apos) args [] pos) env = (do
      let ov ← eval o env
      standAt apos.atName
      let (f, first) ← holding [ov] (getMethod ov m (do return (← importBound o env).getD true))
      callWith pos f first (backTo pos (starEach args env)) (backToKw pos (keywordEach [] env))) := by
  refine mcall_of (base_of hb) fun ov => meth_form ?_ hl ov
  have h2 : (backTo pos (starEach args env)).all (fun x => !x.1) = true := by
    rw [List.all_eq_true]
    intro x hx
    have h1 := back_any (env := env) (pos := pos) hs
    simpa using List.any_eq_false.mp h1 x hx
  unfold methodCallForm
  rw [h2, Bool.true_and, Bool.and_eq_true]
  refine ⟨rfl, ?_⟩
  exact decide_eq_true (by simp [backToKw, keywordEach]; omega)
def tMethW (X : Cx) (k : Nat) (x : Str) (E : L2.St → XK) (ta : TE) (t : TA) : TE := fun σ H Q => ta σ H fun y H1 => ∃ (a C dx : Addr) (fs : List (Str × V)) (sp : Sp) (g : Addr),
  y = .ref a ∧ H1 a = some (.ins C dx fs) ∧ Cls X.K C ∧ Meth X.K C x g ∧ CaF X.prog X.w X.K X.mg X.base k g sp ∧ fs.lookup x = none ∧ t σ H1 fun vs H2 => sp (y :: vs) H2 Q (E σ)
theorem pe_methW {k : Nat} {ta : TE} {t : TA} {apos : Pos} {es : List Expr} (tk : Takes X W) (hr : Room k X.A) (ho : PE X o ta) (ha : PA X es t) (hb : noSuper o = true) (hs : es.all notStar = true) (hfew : es.length < 29) (hl : (apos.endLine == pos.line) = true) (h0 : es ≠ [] ∨ ∀ σ H Q, t σ H Q → Q [] H) :
    PE X (.Call (.Attribute o x apos) es [] pos) (tMethW X k x (WE W) ta t) := by
  refine ⟨fun pins s σ H Q I h => PySem.W.methodCall_KW (pl := do return (← importBound o X.env).getD true) (thn (ho.run pins s σ H _ I h) ?_) (meth_tree hb hs hfew hl)⟩
  rintro u s1 ⟨y, H1, I1, rx, a, C, dx, fs, sp, g, rfl, ea, cl, hm, F, l, q⟩
  cases rx
  apply getmeth_ok I1 ea cl hm l
  cases es with
  | nil =>
    have q2 := h0.resolve_left (fun z => z rfl) σ H1 _ q
    exact PySem.W.callWith_K0 (first := [.ref a]) I1.kIn hm.kp (run_ca (E := WE W σ) (us := [.ref a]) (vs := [.ref a]) F hr (passAt tk σ) I1 (.cons rfl .nil) q2)
  | cons e es =>
    have hs2 := hs
    rw [List.all_cons, Bool.and_eq_true] at hs2
    refine PySem.W.callWith_K (first := [.ref a]) (h₀ := X.base) I1.ok.mod.kin hm.kp (thn (ha.run pos pins s1 σ H1 _ I1 q) fun us s2 ⟨vs, H2, I2, r, q2⟩ => ⟨I2.kIn, ?_⟩) (star_of hs2.1) (back_any hs2.2)
    exact run_ca (E := WE W σ) (us := .ref a :: us) (vs := .ref a :: vs) F hr (passAt tk σ) I2 (.cons rfl r) q2
theorem dArgs_many : ∀ (fs : List EV) (env : Env) (m : Mem) (xs : List D) (m1 : Mem), dArgs fs env m = .ok xs m1 → xs.length = fs.length := by
  intro fs
  induction fs with
  | nil => intro env m xs m1 h; cases h; rfl
  | cons f fs ih =>
    intro env m xs m1 h
    dsimp only [dArgs] at h
    cases e1 : f env m with
    | bad => rw [e1] at h; cases h
    | ex _ _ => rw [e1] at h; cases h
    | ok x m2 =>
      rw [e1] at h
      dsimp only [R.bind] at h
      cases e2 : dArgs fs env m2 with
      | bad => rw [e2] at h; cases h
      | ex _ _ => rw [e2] at h; cases h
      | ok ys m3 => rw [e2] at h; cases h; simp [ih env m2 ys _ e2]

theorem d_meth {k : Nat} {tab : List (Str × (List D → Mem → R D))} {apos : Pos} {es : List Expr} {fs : List EV} (hK : G.K = X.K) (tk : Takes X W) (hr : Room k X.A) (ho : PE X o (tOf G W f)) (ha : PA X es (taOf G W (dArgs fs))) (hb : noSuper o = true) (hs : es.all notStar = true) (hfew : es.length < 29) (hl : (apos.endLine == pos.line) = true)
    (hn : es.length = fs.length) (ht : ∀ c h, tab.lookup c = some h → MethIs X G c x (fs.length + 1) k h) : PE X (.Call (.Attribute o x apos) es [] pos) (tOf G W (dMeth x tab f fs)) := by
  refine PE.wk (pe_methW (t := taOf G W (dArgs fs)) tk hr ho ha hb hs hfew hl ?_) fun σ H Q ⟨T, env, m, eH, S, re, q⟩ => ?_
  · cases es with
    | cons _ _ => exact .inl nofun
    | nil =>
      refine .inr fun σ H Q ⟨T, env, m, eH, S, re, q⟩ => ?_
      subst eH
      cases fs with
      | cons _ _ => cases hn
      | nil => exact q T [] (Ext.refl _) S .nil
  subst eH
  obtain ⟨p1, p2, p3⟩ := bindP q
  refine stepE S re p1 p2 fun d m1 T1 v e1 E1 S1 re1 r1 => ?_
  have q := post_ext E1 (p3 d m1 e1)
  cases e2 : insOf m1 d with
  | none => rw [e2] at q; exact q.elim
  | some cf =>
    obtain ⟨c, gs⟩ := cf
    rw [e2] at q
    obtain ⟨a, rfl, e3⟩ := insOf_ref e2
    obtain ⟨p, dx, gs', rfl, h1, h2, r2, cl, na⟩ := r1.minst S1 e3
    dsimp only at q
    cases e4 : tab.lookup c with
    | none => rw [e4] at q; exact q.elim
    | some h =>
      rcases r2.look x with ⟨l1, l2⟩ | ⟨d2, v2, l1, l2, rr⟩
      · rw [e4, l1] at q
        obtain ⟨g, hm, F⟩ := (ht c h e4).ex
        obtain ⟨q1, q2, q3⟩ := bindP q
        refine ⟨p, G.cl c, dx, gs', _, g, rfl, h2, by rw [← hK]; exact cl, hm, F, l2, ?_⟩
        refine stepA S1 re1 q1 q2 fun xs m2 T2 w e5 E2 S2 re2 r5 => ?_
        refine ⟨?_, T2, m2, _, rfl, S2, .cons (E2.rd S1 _ _ r1) r5, post_ext E2 (q3 xs m2 e5)⟩
        rw [List.length_cons, ← r5.length, dArgs_many fs env m1 xs m2 e5]
      · rw [e4, l1] at q; exact q.elim

/-! ### new instances -/
/-- where the class c stands, and what its __init__ does -/
structure MakeIs (X : Cx) (G : Gd) (c : Str) (n : Nat) (k : Nat) (h : List D → Mem → R D) : Prop where
  at_ : X.mg c = some (.ref (G.cl c))
  cl : Cls X.K (G.cl c)
  ex : ∃ (g : Addr), Mk X.K (G.cl c) g ∧ ((h = fun _ _ => .bad) ∨ ∃ j : Nat, k = j + 1 ∧ CaF X.prog X.w X.K X.mg X.base j g (spOf G n h))
def dMake (c : Str) (h : List D → Mem → R D) (fs : List EV) : EV := fun env m => (dArgs fs env m).bind fun xs m1 => (h (.ref m1.length :: xs) (m1 ++ [.ins c []])).bind fun r m2 => match r with
  | .non => .ok (.ref m1.length) m2
  | _ => .bad
def tMakeW (X : Cx) (C g : Addr) (E : L2.St → XK) (t : TA) : TE := fun σ H Q => t σ H fun vs H1 => ∃ (sp : Sp) (j : Nat), Room (j + 1) X.A ∧ CaF X.prog X.w X.K X.mg X.base j g sp ∧
  ∀ y dx, H1 y = none → H1 dx = none → dx ≠ y → sp (.ref y :: vs) (upd (upd H1 dx (.own y)) y (.ins C dx [])) (fun v H2 => v = .non ∧ Q (.ref y) H2) (E σ)
theorem make_call {C g : Addr} {sp : Sp} {j : Nat} {pins : List (Addr × Obj)} {s : Shared} {Q : VK} {us : List Value} {vs : List V} {E : XK} (M : Mk X.K C g) (F : CaF X.prog X.w X.K X.mg X.base j g sp) (hr : Room (j + 1) X.A)
    (hx : PassesAt (L2.CX X.prog X.w) X σ E) (I : Inv X pins σ H s) (r : Vals vs us)
    (h : ∀ y dx, H y = none → H dx = none → dx ≠ y → sp (.ref y :: vs) (upd (upd H dx (.own y)) y (.ins C dx [])) (fun v H2 => v = .non ∧ Q (.ref y) H2) E) :
    wpAny (model X.prog X.w) X.A (call (.ref C) us) (EP X pins σ Q) X.xe s := by
  have n1 : H (s.heap.objs.size + 1) = none := I.hok.fresh (Nat.le_succ _)
  have n0 : H s.heap.objs.size = none := I.hok.fresh (Nat.le_refl _)
  have hq := h _ _ n1 n0 (Nat.ne_of_lt (Nat.lt_succ_self _))
  have J := Inv.made (C := C) I
  have rr : Vals (V.ref (s.heap.objs.size + 1) :: vs) (Value.ref (s.heap.objs.size + 1) :: us) := .cons rfl r
  have run := F.run _ X.stack _ _ (Value.ref (s.heap.objs.size + 1) :: us) _ _ _ (hr.make C us []) (J.env0.make C us []) J.kIn rr hq
  refine wpAny_call (make_map (f := g) I.kIn M.makes M.init (beq_iff_eq.mp M.fn) (codeAny_mono run fun z s2 hz => ?_))
  match z, hz with
  | .error ee, hz => exact hx pins _ _ ee s2 J hz
  | .ok (.ret u), hz =>
    obtain ⟨v, H3, I3, rv, ev, q3⟩ := J.after hz
    subst ev
    exact ⟨rv, ⟨V.ref (s.heap.objs.size + 1), H3, I3, rfl, q3⟩⟩
  | .ok .next, hz => exact False.elim hz
  | .ok .brk, hz => exact False.elim hz
  | .ok .cont, hz => exact False.elim hz
theorem pe_makeW {C g : Addr} {t : TA} {p : Pos} {es : List Expr} (tk : Takes X W) (M : Mk X.K C g)
    (hg : Gl X x) (hm : X.mg x = some (.ref C)) (ha : PA X es t) (hs : es.all notStar = true) (hdb : (x == ("__debug__" : Str)) = false) (h0 : es ≠ [] ∨ ∀ σ H Q, t σ H Q → Q [] H) : PE X (.Call (.Name x p) es [] pos) (tMakeW X C g (WE W) t) := by
  refine ⟨fun pins s σ H Q I h => wpAny_Call_Name_kw (ld_glob I hg hm ?_ hdb)⟩
  cases es with
  | nil =>
    obtain ⟨sp, j, hr, F, q⟩ := h0.resolve_left (fun z => z rfl) σ H _ h
    exact PySem.W.callWith_K0 I.kIn M.kp (make_call (us := []) M F hr (passAt tk σ) I .nil q)
  | cons e es =>
    rw [List.all_cons, Bool.and_eq_true] at hs
    refine PySem.W.callWith_K (h₀ := X.base) I.ok.mod.kin M.kp (thn (ha.run pos pins s σ H _ I h) fun us s1 ⟨vs, H1, I1, r, sp, j, hr, F, q⟩ => ⟨I1.kIn, ?_⟩) (star_of hs.1) (back_any hs.2)
    exact make_call M F hr (passAt tk σ) I1 r q
theorem d_make {k n : Nat} {h : List D → Mem → R D} {p : Pos} {es : List Expr} {fs : List EV} (hK : G.K = X.K) (tk : Takes X W) (hr : Room k X.A) (hg : Gl X x) (hM : MakeIs X G x n k h) (ha : PA X es (taOf G W (dArgs fs))) (hs : es.all notStar = true) (hdb : (x == ("__debug__" : Str)) = false)
    (hl : es.length = fs.length) (hn : fs.length + 1 = n) : PE X (.Call (.Name x p) es [] pos) (tOf G W (dMake x h fs)) := by
  have hz : es ≠ [] ∨ ∀ σ H Q, taOf G W (dArgs fs) σ H Q → Q [] H := by
    cases es with
    | cons _ _ => exact .inl nofun
    | nil =>
      refine .inr fun σ H Q ⟨T, env, m, eH, S, re, q⟩ => ?_
      subst eH
      cases fs with
      | cons _ _ => cases hl
      | nil => exact q T [] (Ext.refl _) S .nil
  obtain ⟨g, M, hz2⟩ := hM.ex
  refine PE.wk (pe_makeW (t := taOf G W (dArgs fs)) tk M hg hM.at_ ha hs hdb hz) fun σ H Q ⟨T, env, m, eH, S, re, q⟩ => ?_
  subst eH
  obtain ⟨p1, p2, p3⟩ := bindP q
  refine stepA S re p1 p2 fun xs m1 T1 v e1 E1 S1 re1 r1 => ?_
  have q := post_ext E1 (p3 xs m1 e1)
  rcases hz2 with rfl | ⟨j, rfl, F⟩
  · exact q.elim
  refine ⟨_, j, hr, F, ?_⟩
  intro y dx hy hdx hne
  have Sa := sim_frz (o := .own y) S1 hdx
  have Ea := ext_frz (o := .own y) S1 hdx
  have hy2 : (T1.frz dx (.own y)).H y = none := by show upd T1.H dx (.own y) y = _; rw [upd_ne hne.symm]; exact hy
  have Sb : Sim G ((T1.frz dx (.own y)).add y (.ins (G.cl x) dx [])) (m1 ++ [.ins x []]) := sim_add Sa hy2 ⟨dx, [], upd_same, .nil, by rw [hK]; exact hM.cl, fun _ _ z => by cases z⟩
  have Eb := ext_add (o := .ins (G.cl x) dx []) Sa hy2
  have E2 := Ea.trans Eb
  have ry : RD G ((T1.frz dx (.own y)).add y (.ins (G.cl x) dx [])) (.ref m1.length) (.ref y) := by
    refine .ref ?_
    show (T1.mu ++ [y])[m1.length]? = some y
    rw [← S1.len]; simp
  refine ⟨by rw [List.length_cons, ← r1.length, dArgs_many fs env m xs m1 e1]; exact hn, _, _, .ref m1.length :: xs, rfl, Sb, .cons ry (Eb.rds Sa _ _ (Ea.rds S1 _ _ r1)), ?_⟩
  have q := post_ext E2 q
  cases e2 : h (.ref m1.length :: xs) (m1 ++ [.ins x []]) with
  | bad => rw [e2] at q; exact q
  | ex ee m2 => rw [e2] at q; exact q
  | ok r m2 =>
    rw [e2] at q
    intro T3 w E3 S3 r3
    have q := post_ext E3 q
    cases r with
    | non => obtain rfl := r3.none; exact ⟨rfl, post_ok S3 (E3.rd Sb _ _ ry) q⟩
    | _ => exact q.elim
end
end Itp
set_option Elab.async false
set_option linter.all false
set_option maxRecDepth 100000
/-! Itp P: behind a call, what was made in it and is not handed out is left out of the memory; lists handed out are plain data from then on. -/
namespace Itp
open PySem PySem.Spec PyProof.Rows L2

/-! ### the functions -/
mutual
def D.mapR (h : Nat → Option D) : D → Option D
  | .non => some .non
  | .bl b => some (.bl b)
  | .int i => some (.int i)
  | .str s => some (.str s)
  | .tup ds => (D.mapRs h ds).map .tup
  | .fl ds => (D.mapRs h ds).map .fl
  | .sc ds => (D.mapRs h ds).map .sc
  | .ref a => h a
def D.mapRs (h : Nat → Option D) : List D → Option (List D)
  | [] => some []
  | d :: ds => match D.mapR h d, D.mapRs h ds with
    | some x, some xs => some (x :: xs)
    | _, _ => none
end
def frzRef (m : Mem) (n : Nat) : Nat → Nat → Option D
  | 0, a => if a < n then some (.ref a) else none
  | f + 1, a => if a < n then some (.ref a) else match (m : List O)[a]? with
    | some (.lst ds) => (D.mapRs (frzRef m n f) ds).map .fl
    | _ => none
def frzD (m : Mem) (n : Nat) (d : D) : Option D := D.mapR (frzRef m n 6) d
def frzFs {α : Type} (m : Mem) (n : Nat) : List (α × D) → Option (List (α × D))
  | [] => some []
  | (x, d) :: r => match frzD m n d, frzFs m n r with
    | some y, some ys => some ((x, y) :: ys)
    | _, _ => none
def frzO (m : Mem) (n : Nat) : O → Option O
  | .lst ds => (D.mapRs (frzRef m n 6) ds).map .lst
  | .dk ks => (frzFs m n ks).map .dk
  | .ins c fs => (frzFs m n fs).map (.ins c)
def fsB {α : Type} [DecidableEq α] : List (α × D) → List (α × D) → Bool
  | [], [] => true
  | (x, d) :: r, (y, e) :: s => decide (x = y) && (D.beq d e && fsB r s)
  | _, _ => false
def O.beq : O → O → Bool
  | .lst a, .lst b => D.beqs a b
  | .dk a, .dk b => fsB a b
  | .ins c a, .ins d b => decide (c = d) && fsB a b
  | _, _ => false
def popM (g : O → Option O) : List O → List O → Option (List O)
  | [], _ => some []
  | o :: m, o' :: m' => if O.beq o o' then (popM g m m').map (o :: ·) else match g o', popM g m m' with
    | some x, some xs => some (x :: xs)
    | _, _ => none
  | _, [] => none
def popR (m : Mem) : R D → R D
  | .ok d m' => match popM (frzO m' m.length) m m', frzD m' m.length d with
    | some m2, some d2 => .ok d2 m2
    | _, _ => .bad
  | .ex e m' => match popM (frzO m' m.length) m m', frzFs m' m.length e.fs with
    | some m2, some fs => .ex ⟨e.cls, fs⟩ m2
    | _, _ => .bad
  | .bad => .bad

theorem fsB_eq {α : Type} [DecidableEq α] : ∀ {a b : List (α × D)}, fsB a b = true → a = b
  | [], [], _ => rfl
  | [], _ :: _, h => by cases h
  | _ :: _, [], h => by cases h
  | (x, d) :: r, (y, e) :: s, h => by
    unfold fsB at h
    rw [Bool.and_eq_true, Bool.and_eq_true] at h
    rw [of_decide_eq_true h.1, D.beq_eq _ _ h.2.1, fsB_eq h.2.2]
theorem fsB_refl {α : Type} [DecidableEq α] : ∀ a : List (α × D), fsB a a = true
  | [] => rfl
  | (x, d) :: r => by unfold fsB; rw [D.beq_refl, fsB_refl r]; simp
theorem O.beq_eq : ∀ {a b : O}, O.beq a b = true → a = b
  | .lst a, .lst b, h => by rw [D.beqs_eq _ _ h]
  | .dk a, .dk b, h => by rw [fsB_eq h]
  | .ins c a, .ins d b, h => by
    unfold O.beq at h
    rw [Bool.and_eq_true] at h
    rw [of_decide_eq_true h.1, fsB_eq h.2]
  | .lst _, .dk _, h => by cases h
  | .lst _, .ins _ _, h => by cases h
  | .dk _, .lst _, h => by cases h
  | .dk _, .ins _ _, h => by cases h
  | .ins _ _, .lst _, h => by cases h
  | .ins _ _, .dk _, h => by cases h
theorem O.beq_refl : ∀ a : O, O.beq a a = true
  | .lst a => D.beqs_refl a
  | .dk a => fsB_refl a
  | .ins c a => by show (decide (c = c) && fsB a a) = true; rw [fsB_refl]; simp

/-! ### that they are right -/
section
variable {G : Gd} {T T1 T2 : Tie} {m m' : Mem} {n : Nat}
mutual
theorem mapR_rd {h : Nat → Option D} (eH : T2.H = T1.H) (eo : ∀ q, T2.own q → T1.own q) (hh : ∀ a v d2, RD G T1 (.ref a) v → h a = some d2 → RD G T2 d2 v) : ∀ (d : D) (v : V) (d2 : D), RD G T1 d v → D.mapR h d = some d2 → RD G T2 d2 v
  | .non, _, _, r, e => by cases r; cases e; exact .non
  | .bl _, _, _, r, e => by cases r; cases e; exact .bl _
  | .int _, _, _, r, e => by cases r; cases e; exact .int _
  | .str _, _, _, r, e => by cases r; cases e; exact .str _
  | .tup ds, _, _, r, e => by
    unfold D.mapR at e
    cases e1 : D.mapRs h ds with
    | none => rw [e1] at e; cases e
    | some es =>
      rw [e1] at e; cases e
      cases r with
      | tup h1 h2 => exact .tup (by rw [eH]; exact h1) (mapRs_rd eH eo hh ds _ es h2 e1)
  | .fl ds, _, _, r, e => by
    unfold D.mapR at e
    cases e1 : D.mapRs h ds with
    | none => rw [e1] at e; cases e
    | some es =>
      rw [e1] at e; cases e
      cases r with
      | fl h1 hn h2 => exact .fl (by rw [eH]; exact h1) (fun z => hn (eo _ z)) (mapRs_rd eH eo hh ds _ es h2 e1)
  | .sc ds, _, _, r, e => by
    unfold D.mapR at e
    cases e1 : D.mapRs h ds with
    | none => rw [e1] at e; cases e
    | some es =>
      rw [e1] at e; cases e
      cases r with
      | sc h1 h2 => exact .sc (by rw [eH]; exact h1) (mapRs_rd eH eo hh ds _ es h2 e1)
  | .ref a, v, d2, r, e => hh a v d2 r e
theorem mapRs_rd {h : Nat → Option D} (eH : T2.H = T1.H) (eo : ∀ q, T2.own q → T1.own q) (hh : ∀ a v d2, RD G T1 (.ref a) v → h a = some d2 → RD G T2 d2 v) : ∀ (ds : List D) (vs : List V) (es : List D), RDs G T1 ds vs → D.mapRs h ds = some es → RDs G T2 es vs
  | [], _, _, r, e => by cases r; cases e; exact .nil
  | d :: ds, _, _, r, e => by
    unfold D.mapRs at e
    cases e1 : D.mapR h d with
    | none => rw [e1] at e; cases e
    | some x =>
      cases e2 : D.mapRs h ds with
      | none => rw [e1, e2] at e; cases e
      | some xs =>
        rw [e1, e2] at e; cases e
        cases r with
        | cons r1 r2 => exact .cons (mapR_rd eH eo hh d _ x r1 e1) (mapRs_rd eH eo hh ds _ xs r2 e2)
end
/-- the tie behind the call -/
def Tie.cut (T1 : Tie) (n : Nat) : Tie := ⟨T1.mu.take n, fun q => T1.own q ∧ (q ∈ T1.mu → q ∈ T1.mu.take n), T1.H⟩
theorem frzRef_rd (S : Sim G T1 m') : ∀ (f a : Nat) (v : V) (d2 : D), RD G T1 (.ref a) v → frzRef m' n f a = some d2 → RD G (T1.cut n) d2 v := by
  have low : ∀ {a : Nat} {v : V}, RD G T1 (.ref a) v → a < n → RD G (T1.cut n) (.ref a) v := fun r h => by
    cases r with
    | ref h1 => exact .ref (by show (T1.mu.take n)[_]? = _; rw [List.getElem?_take_of_lt h]; exact h1)
  intro f
  induction f with
  | zero =>
    intro a v d2 r e
    unfold frzRef at e
    split at e
    · rename_i h; cases e; exact low r h
    · cases e
  | succ f ih =>
    intro a v d2 r e
    unfold frzRef at e
    split at e
    · rename_i h; cases e; exact low r h
    · rename_i h
      cases e1 : (m' : List O)[a]? with
      | none => rw [e1] at e; cases e
      | some o =>
        rw [e1] at e
        cases o with
        | lst ds =>
          replace e : (D.mapRs (frzRef m' n f) ds).map D.fl = some d2 := e
          cases e2 : D.mapRs (frzRef m' n f) ds with
          | none => rw [e2] at e; cases e
          | some es =>
            rw [e2] at e; cases e
            cases r with
            | ref h1 =>
              obtain ⟨vs, h2, r2⟩ := S.obj _ _ _ e1 h1
              refine .fl h2 (fun z => ?_) (mapRs_rd (T1 := T1) (T2 := T1.cut n) rfl (fun q z => z.1) ih ds vs es r2 e2)
              have hm := z.2 (List.mem_of_getElem? h1)
              obtain ⟨j, hj, ej⟩ := List.mem_iff_getElem.mp hm
              have hj2 : j < T1.mu.length := by rw [List.length_take] at hj; omega
              have hjn : j < n := by rw [List.length_take] at hj; omega
              rw [List.getElem_take] at ej
              obtain ⟨ha, ea⟩ := List.getElem?_eq_some_iff.mp h1
              have := (List.getElem_inj S.nd).mp (ej.trans ea.symm)
              omega
        | dk _ => cases e
        | ins _ _ => cases e
theorem frzD_rd (S : Sim G T1 m') {d d2 : D} {v : V} (r : RD G T1 d v) (e : frzD m' n d = some d2) : RD G (T1.cut n) d2 v := mapR_rd (T1 := T1) (T2 := T1.cut n) rfl (fun _ z => z.1) (frzRef_rd S 6) d v d2 r e
theorem frzFs_rd (S : Sim G T1 m') : ∀ {fs fs2 : List (Str × D)} {gs : List (Str × V)}, RFs G T1 fs gs → frzFs m' n fs = some fs2 → RFs G (T1.cut n) fs2 gs
  | _, _, _, .nil, e => by cases e; exact .nil
  | _, _, _, .cons (x := x) (d := d) (fs := fs) r rs, e => by
    unfold frzFs at e
    cases e1 : frzD m' n d with
    | none => rw [e1] at e; cases e
    | some y =>
      cases e2 : frzFs m' n fs with
      | none => rw [e1, e2] at e; cases e
      | some ys => rw [e1, e2] at e; cases e; exact .cons (frzD_rd S r e1) (frzFs_rd S rs e2)
theorem frzKs_rd (S : Sim G T1 m') : ∀ {fs fs2 : List (Ky × D)} {gs : List (Key × V)}, RKs G T1 fs gs → frzFs m' n fs = some fs2 → RKs G (T1.cut n) fs2 gs
  | _, _, _, .nil, e => by cases e; exact .nil
  | _, _, _, .cons (x := x) (d := d) (fs := fs) r rs, e => by
    unfold frzFs at e
    cases e1 : frzD m' n d with
    | none => rw [e1] at e; cases e
    | some y =>
      cases e2 : frzFs m' n fs with
      | none => rw [e1, e2] at e; cases e
      | some ys => rw [e1, e2] at e; cases e; exact .cons (frzD_rd S r e1) (frzKs_rd S rs e2)
theorem frzFs_look : ∀ {fs fs2 : List (Str × D)}, frzFs m' n fs = some fs2 → ∀ x d, fs2.lookup x = some d → ∃ d0, fs.lookup x = some d0
  | [], _, e, x, d, h => by cases e; cases h
  | (y, d0) :: fs, _, e, x, d, h => by
    unfold frzFs at e
    cases e1 : frzD m' n d0 with
    | none => rw [e1] at e; cases e
    | some z =>
      cases e2 : frzFs m' n fs with
      | none => rw [e1, e2] at e; cases e
      | some zs =>
        rw [e1, e2] at e; cases e
        rw [List.lookup_cons] at h ⊢
        cases q : x == y with
        | true => exact ⟨d0, rfl⟩
        | false => rw [q] at h; exact frzFs_look e2 x d h
theorem frzO_ro (S : Sim G T1 m') {p : Addr} {o o2 : O} (r : RO G T1 p o) (e : frzO m' n o = some o2) : RO G (T1.cut n) p o2 := by
  cases o with
  | lst ds =>
    obtain ⟨vs, h1, r1⟩ := r
    replace e : (D.mapRs (frzRef m' n 6) ds).map O.lst = some o2 := e
    cases e1 : D.mapRs (frzRef m' n 6) ds with
    | none => rw [e1] at e; cases e
    | some es => rw [e1] at e; cases e; exact ⟨vs, h1, mapRs_rd (T1 := T1) (T2 := T1.cut n) rfl (fun _ z => z.1) (frzRef_rd S 6) ds vs es r1 e1⟩
  | dk ks =>
    obtain ⟨vs, h1, r1⟩ := r
    replace e : (frzFs m' n ks).map O.dk = some o2 := e
    cases e1 : frzFs m' n ks with
    | none => rw [e1] at e; cases e
    | some es => rw [e1] at e; cases e; exact ⟨vs, h1, frzKs_rd S r1 e1⟩
  | ins c fs =>
    obtain ⟨dx, gs, h1, r1, h2, h3⟩ := r
    replace e : (frzFs m' n fs).map (O.ins c) = some o2 := e
    cases e1 : frzFs m' n fs with
    | none => rw [e1] at e; cases e
    | some es =>
      rw [e1] at e; cases e
      exact ⟨dx, gs, h1, frzFs_rd S r1 e1, h2, fun x d hx => let ⟨d0, q⟩ := frzFs_look e1 x d hx; h3 x d0 q⟩
mutual
theorem rd_back (hl : T.mu.length = n) (hp : T.mu <+: T1.mu) : ∀ (d : D) (v v0 : V), RD G T1 d v → RD G T d v0 → RD G (T1.cut n) d v
  | .non, _, _, r, _ => by cases r; exact .non
  | .bl _, _, _, r, _ => by cases r; exact .bl _
  | .int _, _, _, r, _ => by cases r; exact .int _
  | .str _, _, _, r, _ => by cases r; exact .str _
  | .tup ds, _, _, r, r0 => by
    cases r with
    | tup h1 h2 => cases r0 with | tup _ h3 => exact .tup h1 (rds_back hl hp ds _ _ h2 h3)
  | .fl ds, _, _, r, r0 => by
    cases r with
    | fl h1 hn h2 => cases r0 with | fl _ _ h3 => exact .fl h1 (fun z => hn z.1) (rds_back hl hp ds _ _ h2 h3)
  | .sc ds, _, _, r, r0 => by
    cases r with
    | sc h1 h2 => cases r0 with | sc _ h3 => exact .sc h1 (rds_back hl hp ds _ _ h2 h3)
  | .ref a, _, _, r, r0 => by
    cases r with
    | ref h1 =>
      cases r0 with
      | ref h2 =>
        refine .ref ?_
        show (T1.mu.take n)[a]? = _
        rw [List.getElem?_take_of_lt (by rw [← hl]; exact (List.getElem?_eq_some_iff.mp h2).1)]
        exact h1
theorem rds_back (hl : T.mu.length = n) (hp : T.mu <+: T1.mu) : ∀ (ds : List D) (vs vs0 : List V), RDs G T1 ds vs → RDs G T ds vs0 → RDs G (T1.cut n) ds vs
  | [], _, _, r, _ => by cases r; exact .nil
  | d :: ds, _, _, r, r0 => by
    cases r with
    | cons h1 h2 => cases r0 with | cons h3 h4 => exact .cons (rd_back hl hp d _ _ h1 h3) (rds_back hl hp ds _ _ h2 h4)
end
theorem rfs_back (hl : T.mu.length = n) (hp : T.mu <+: T1.mu) : ∀ {fs : List (Str × D)} {gs gs0 : List (Str × V)}, RFs G T1 fs gs → RFs G T fs gs0 → RFs G (T1.cut n) fs gs
  | _, _, _, .nil, _ => .nil
  | _, _, _, .cons r rs, r0 => by cases r0 with | cons h1 h2 => exact .cons (rd_back hl hp _ _ _ r h1) (rfs_back hl hp rs h2)
theorem rks_back (hl : T.mu.length = n) (hp : T.mu <+: T1.mu) : ∀ {fs : List (Ky × D)} {gs gs0 : List (Key × V)}, RKs G T1 fs gs → RKs G T fs gs0 → RKs G (T1.cut n) fs gs
  | _, _, _, .nil, _ => .nil
  | _, _, _, .cons r rs, r0 => by cases r0 with | cons h1 h2 => exact .cons (rd_back hl hp _ _ _ r h1) (rks_back hl hp rs h2)
theorem ro_back (hl : T.mu.length = n) (hp : T.mu <+: T1.mu) {p p0 : Addr} {o : O} (r : RO G T1 p o) (r0 : RO G T p0 o) : RO G (T1.cut n) p o := by
  cases o with
  | lst ds => obtain ⟨vs, h1, r1⟩ := r; obtain ⟨_, _, r2⟩ := r0; exact ⟨vs, h1, rds_back hl hp _ _ _ r1 r2⟩
  | dk ks => obtain ⟨vs, h1, r1⟩ := r; obtain ⟨_, _, r2⟩ := r0; exact ⟨vs, h1, rks_back hl hp r1 r2⟩
  | ins c fs => obtain ⟨dx, gs, h1, r1, h2, h3⟩ := r; obtain ⟨_, _, _, r2, _, _⟩ := r0; exact ⟨dx, gs, h1, rfs_back hl hp r1 r2, h2, h3⟩
theorem popM_len {g : O → Option O} : ∀ {a b c : List O}, popM g a b = some c → c.length = a.length ∧ a.length ≤ b.length
  | [], _, _, e => by cases e; exact ⟨rfl, Nat.zero_le _⟩
  | _ :: _, [], _, e => by cases e
  | o :: a, o' :: b, c, e => by
    unfold popM at e
    split at e
    · cases e1 : popM g a b with
      | none => rw [e1] at e; cases e
      | some r => rw [e1] at e; cases e; have := popM_len e1; simp; omega
    · cases e1 : g o' with
      | none => rw [e1] at e; cases e
      | some x =>
        cases e2 : popM g a b with
        | none => rw [e1, e2] at e; cases e
        | some r => rw [e1, e2] at e; cases e; have := popM_len e2; simp; omega
theorem popM_get {g : O → Option O} : ∀ {a b c : List O} (i : Nat) (o2 : O), popM g a b = some c → c[i]? = some o2 → ∃ o o', a[i]? = some o ∧ b[i]? = some o' ∧ ((o2 = o ∧ o' = o) ∨ g o' = some o2)
  | [], _, _, i, o2, e, h => by cases e; simp at h
  | _ :: _, [], _, _, _, e, _ => by cases e
  | o :: a, o' :: b, c, i, o2, e, h => by
    unfold popM at e
    split at e
    · rename_i hb
      have hb := O.beq_eq hb
      cases e1 : popM g a b with
      | none => rw [e1] at e; cases e
      | some r =>
        rw [e1] at e; cases e
        cases i with
        | zero => simp at h; subst h; exact ⟨o, o', rfl, rfl, .inl ⟨rfl, hb.symm⟩⟩
        | succ i => simp at h; simpa using popM_get i o2 e1 h
    · cases e1 : g o' with
      | none => rw [e1] at e; cases e
      | some x =>
        cases e2 : popM g a b with
        | none => rw [e1, e2] at e; cases e
        | some r =>
          rw [e1, e2] at e; cases e
          cases i with
          | zero => simp at h; subst h; exact ⟨o, o', rfl, rfl, .inr e1⟩
          | succ i => simp at h; simpa using popM_get i o2 e2 h
theorem sim_cut (S : Sim G T m) (S1 : Sim G T1 m') (E : Ext T T1) {m2 : Mem} (h : popM (frzO m' m.length) m m' = some m2) : Sim G (T1.cut m.length) m2 ∧ Ext T (T1.cut m.length) := by
  obtain ⟨l1, l2⟩ := popM_len h
  have l3 : m.length ≤ T1.mu.length := by rw [S1.len]; exact l2
  obtain ⟨t, ht⟩ := E.pre
  have hmu : T1.mu.take m.length = T.mu := by rw [← ht, ← S.len, List.take_left']; rfl
  refine ⟨⟨fun p hp => ⟨S1.sub p (List.mem_of_mem_take hp), fun _ => hp⟩, S1.nd.sublist (List.take_sublist _ _), ?_, fun i o2 p e1 e2 => ?_⟩, ⟨?_, fun p u hu hn => ?_⟩⟩
  · show (T1.mu.take m.length).length = m2.length
    rw [List.length_take, l1]; omega
  · have e2' : (T1.mu.take m.length)[i]? = some p := e2
    have hi : i < m.length := by
      have := (List.getElem?_eq_some_iff.mp e1).1
      rw [← l1]; exact this
    have e3 : T1.mu[i]? = some p := by rw [List.getElem?_take_of_lt hi] at e2'; exact e2'
    obtain ⟨o, o', g1, g2, q⟩ := popM_get i o2 h e1
    have r1 := S1.obj i o' p g2 e3
    rcases q with ⟨q1, q2⟩ | q
    · subst q1; subst q2
      have e4 : T.mu[i]? = some p := by rw [← hmu]; exact e2'
      exact ro_back S.len E.pre r1 (S.obj i _ p g1 e4)
    · exact frzO_ro S1 r1 q
  · show T.mu <+: T1.mu.take m.length
    rw [hmu]; exact List.prefix_refl _
  · obtain ⟨k1, k2, k3⟩ := E.keep p u hu hn
    refine ⟨k1, fun z => k2 (List.mem_of_mem_take z), ?_⟩
    exact ⟨fun z => k3.mp z.1, fun z => ⟨k3.mpr z, fun z2 => (k2 z2).elim⟩⟩
theorem post_popR (S : Sim G T m) {W : Value → Option Addr → Hp → Prop} {r : R D} {Q : VK} (h : post G T W (popR m r) Q) : post G T W r Q := by
  cases r with
  | bad => exact h
  | ok d m' =>
    intro T1 v E1 S1 r1
    dsimp only [popR] at h
    cases e1 : popM (frzO m' m.length) m m' with
    | none => rw [e1] at h; exact h.elim
    | some m2 =>
      cases e2 : frzD m' m.length d with
      | none => rw [e1, e2] at h; exact h.elim
      | some d2 =>
        rw [e1, e2] at h
        obtain ⟨S2, E2⟩ := sim_cut S S1 E1 e1
        exact h (T1.cut m.length) v E2 S2 (frzD_rd S1 r1 e2)
  | ex e m' =>
    intro T1 cls dd E1 S1 r1
    dsimp only [popR] at h
    cases e1 : popM (frzO m' m.length) m m' with
    | none => rw [e1] at h; exact h.elim
    | some m2 =>
      cases e2 : frzFs m' m.length e.fs with
      | none => rw [e1, e2] at h; exact h.elim
      | some fs2 =>
        rw [e1, e2] at h
        obtain ⟨S2, E2⟩ := sim_cut S S1 E1 e1
        refine h (T1.cut m.length) cls dd E2 S2 ⟨r1.1, ?_⟩
        obtain ⟨c, fs⟩ := e
        obtain ⟨_, q⟩ := r1
        dsimp only at e2 q ⊢
        cases fs with
        | nil => cases e2; exact q
        | cons p fs =>
          obtain ⟨a, gs, g1, g2, g3⟩ := q
          have g4 := frzFs_rd S1 g3 e2
          cases fs2 with
          | nil => cases g4; cases g3
          | cons p2 fs2 => exact ⟨a, gs, g1, g2, g4⟩
/-! ### .. but a list that is handed out stays the memory's -/
def clRef (n : Nat) (a : Nat) : Option D := if a < n then some (.ref a) else none
def clFs {α : Type} (n : Nat) : List (α × D) → Bool
  | [] => true
  | (_, d) :: r => (D.mapR (clRef n) d).isSome && clFs n r
def clO (n : Nat) (o : O) : Option O := match o with
  | .lst ds => if (D.mapRs (clRef n) ds).isSome then some (.lst ds) else none
  | .dk ks => if clFs n ks then some (.dk ks) else none
  | .ins c fs => if clFs n fs then some (.ins c fs) else none
def popK (m : Mem) (r : R D) : R D := match r with
  | .ok (.ref a) m' => if a < m.length then popR m (.ok (.ref a) m') else match (m' : List O)[a]?, popM (clO m.length) m m' with
    | some (.lst ds), some m2 => if (D.mapRs (clRef m.length) ds).isSome then .ok (.ref m.length) (m2 ++ [.lst ds]) else .bad
    | _, _ => .bad
  | r => popR m r
mutual
theorem mapR_id {n : Nat} : ∀ (d d2 : D), D.mapR (clRef n) d = some d2 → d2 = d
  | .non, _, e => by cases e; rfl
  | .bl _, _, e => by cases e; rfl
  | .int _, _, e => by cases e; rfl
  | .str _, _, e => by cases e; rfl
  | .tup ds, _, e => by
    unfold D.mapR at e
    cases e1 : D.mapRs (clRef n) ds with
    | none => rw [e1] at e; cases e
    | some es => rw [e1] at e; cases e; rw [mapRs_id ds es e1]
  | .fl ds, _, e => by
    unfold D.mapR at e
    cases e1 : D.mapRs (clRef n) ds with
    | none => rw [e1] at e; cases e
    | some es => rw [e1] at e; cases e; rw [mapRs_id ds es e1]
  | .sc ds, _, e => by
    unfold D.mapR at e
    cases e1 : D.mapRs (clRef n) ds with
    | none => rw [e1] at e; cases e
    | some es => rw [e1] at e; cases e; rw [mapRs_id ds es e1]
  | .ref a, _, e => by
    unfold D.mapR clRef at e
    split at e
    · cases e; rfl
    · cases e
theorem mapRs_id {n : Nat} : ∀ (ds es : List D), D.mapRs (clRef n) ds = some es → es = ds
  | [], _, e => by cases e; rfl
  | d :: ds, _, e => by
    unfold D.mapRs at e
    cases e1 : D.mapR (clRef n) d with
    | none => rw [e1] at e; cases e
    | some x =>
      cases e2 : D.mapRs (clRef n) ds with
      | none => rw [e1, e2] at e; cases e
      | some xs => rw [e1, e2] at e; cases e; rw [mapR_id d x e1, mapRs_id ds xs e2]
end
def Tie.keep1 (T1 : Tie) (n : Nat) (p : Addr) : Tie := ⟨T1.mu.take n ++ [p], fun q => (T1.cut n).own q ∨ q = p, T1.H⟩
theorem keep1_own {p : Addr} (hp : T1.own p) : ∀ q, (T1.keep1 n p).own q → T1.own q := fun q z => z.elim (fun y => y.1) (fun y => y ▸ hp)
theorem clRef_rd {p : Addr} (hn : n ≤ T1.mu.length) : ∀ (a : Nat) (v : V) (d2 : D), RD G T1 (.ref a) v → clRef n a = some d2 → RD G (T1.keep1 n p) d2 v := by
  intro a v d2 r e
  unfold clRef at e
  split at e
  · rename_i h
    cases e
    cases r with
    | ref h1 =>
      refine .ref ?_
      show (T1.mu.take n ++ [p])[_]? = _
      rw [List.getElem?_append_left (by rw [List.length_take]; omega), List.getElem?_take_of_lt h]
      exact h1
  · cases e
theorem cl_rd {p : Addr} (hp : T1.own p) (hn : n ≤ T1.mu.length) {d : D} {v : V} (r : RD G T1 d v) (h : (D.mapR (clRef n) d).isSome = true) : RD G (T1.keep1 n p) d v := by
  obtain ⟨d2, e⟩ := Option.isSome_iff_exists.mp h
  have := mapR_rd (T1 := T1) (T2 := T1.keep1 n p) rfl (keep1_own hp) (clRef_rd hn) d v d2 r e
  rwa [mapR_id d d2 e] at this
theorem cl_rds {p : Addr} (hp : T1.own p) (hn : n ≤ T1.mu.length) {ds : List D} {vs : List V} (r : RDs G T1 ds vs) (h : (D.mapRs (clRef n) ds).isSome = true) : RDs G (T1.keep1 n p) ds vs := by
  obtain ⟨d2, e⟩ := Option.isSome_iff_exists.mp h
  have := mapRs_rd (T1 := T1) (T2 := T1.keep1 n p) rfl (keep1_own hp) (clRef_rd hn) ds vs d2 r e
  rwa [mapRs_id ds d2 e] at this
theorem cl_rfs {p : Addr} (hp : T1.own p) (hn : n ≤ T1.mu.length) : ∀ {fs : List (Str × D)} {gs : List (Str × V)}, RFs G T1 fs gs → clFs n fs = true → RFs G (T1.keep1 n p) fs gs
  | _, _, .nil, _ => .nil
  | _, _, .cons r rs, h => by
    unfold clFs at h
    rw [Bool.and_eq_true] at h
    exact .cons (cl_rd hp hn r h.1) (cl_rfs hp hn rs h.2)
theorem cl_rks {p : Addr} (hp : T1.own p) (hn : n ≤ T1.mu.length) : ∀ {fs : List (Ky × D)} {gs : List (Key × V)}, RKs G T1 fs gs → clFs n fs = true → RKs G (T1.keep1 n p) fs gs
  | _, _, .nil, _ => .nil
  | _, _, .cons r rs, h => by
    unfold clFs at h
    rw [Bool.and_eq_true] at h
    exact .cons (cl_rd hp hn r h.1) (cl_rks hp hn rs h.2)
theorem clO_ro {p q : Addr} (hp : T1.own p) (hn : n ≤ T1.mu.length) {o o2 : O} (r : RO G T1 q o) (e : clO n o = some o2) : RO G (T1.keep1 n p) q o2 := by
  unfold clO at e
  cases o with
  | lst ds =>
    dsimp only at e
    split at e
    · rename_i h; cases e; obtain ⟨vs, h1, r1⟩ := r; exact ⟨vs, h1, cl_rds hp hn r1 h⟩
    · cases e
  | dk ks =>
    dsimp only at e
    split at e
    · rename_i h; cases e; obtain ⟨vs, h1, r1⟩ := r; exact ⟨vs, h1, cl_rks hp hn r1 h⟩
    · cases e
  | ins c fs =>
    dsimp only at e
    split at e
    · rename_i h; cases e; obtain ⟨dx, gs, h1, r1, h2, h3⟩ := r; exact ⟨dx, gs, h1, cl_rfs hp hn r1 h, h2, h3⟩
    · cases e
mutual
theorem rd_back2 {p : Addr} (hp1 : T1.own p) (hl : T.mu.length = n) (hp : T.mu <+: T1.mu) : ∀ (d : D) (v v0 : V), RD G T1 d v → RD G T d v0 → RD G (T1.keep1 n p) d v
  | .non, _, _, r, _ => by cases r; exact .non
  | .bl _, _, _, r, _ => by cases r; exact .bl _
  | .int _, _, _, r, _ => by cases r; exact .int _
  | .str _, _, _, r, _ => by cases r; exact .str _
  | .tup ds, _, _, r, r0 => by
    cases r with
    | tup h1 h2 => cases r0 with | tup _ h3 => exact .tup h1 (rds_back2 hp1 hl hp ds _ _ h2 h3)
  | .fl ds, _, _, r, r0 => by
    cases r with
    | fl h1 hn h2 => cases r0 with | fl _ _ h3 => exact .fl h1 (fun z => hn (keep1_own hp1 _ z)) (rds_back2 hp1 hl hp ds _ _ h2 h3)
  | .sc ds, _, _, r, r0 => by
    cases r with
    | sc h1 h2 => cases r0 with | sc _ h3 => exact .sc h1 (rds_back2 hp1 hl hp ds _ _ h2 h3)
  | .ref a, _, _, r, r0 => by
    cases r0 with
    | ref h2 =>
      refine clRef_rd (by rw [← hl]; exact hp.length_le) a _ _ r ?_
      unfold clRef
      rw [if_pos (by rw [← hl]; exact (List.getElem?_eq_some_iff.mp h2).1)]
theorem rds_back2 {p : Addr} (hp1 : T1.own p) (hl : T.mu.length = n) (hp : T.mu <+: T1.mu) : ∀ (ds : List D) (vs vs0 : List V), RDs G T1 ds vs → RDs G T ds vs0 → RDs G (T1.keep1 n p) ds vs
  | [], _, _, r, _ => by cases r; exact .nil
  | d :: ds, _, _, r, r0 => by
    cases r with
    | cons h1 h2 => cases r0 with | cons h3 h4 => exact .cons (rd_back2 hp1 hl hp d _ _ h1 h3) (rds_back2 hp1 hl hp ds _ _ h2 h4)
end
theorem rfs_back2 {p : Addr} (hp1 : T1.own p) (hl : T.mu.length = n) (hp : T.mu <+: T1.mu) : ∀ {fs : List (Str × D)} {gs gs0 : List (Str × V)}, RFs G T1 fs gs → RFs G T fs gs0 → RFs G (T1.keep1 n p) fs gs
  | _, _, _, .nil, _ => .nil
  | _, _, _, .cons r rs, r0 => by cases r0 with | cons h1 h2 => exact .cons (rd_back2 hp1 hl hp _ _ _ r h1) (rfs_back2 hp1 hl hp rs h2)
theorem rks_back2 {p : Addr} (hp1 : T1.own p) (hl : T.mu.length = n) (hp : T.mu <+: T1.mu) : ∀ {fs : List (Ky × D)} {gs gs0 : List (Key × V)}, RKs G T1 fs gs → RKs G T fs gs0 → RKs G (T1.keep1 n p) fs gs
  | _, _, _, .nil, _ => .nil
  | _, _, _, .cons r rs, r0 => by cases r0 with | cons h1 h2 => exact .cons (rd_back2 hp1 hl hp _ _ _ r h1) (rks_back2 hp1 hl hp rs h2)
theorem ro_back2 {p : Addr} (hp1 : T1.own p) (hl : T.mu.length = n) (hp : T.mu <+: T1.mu) {q q0 : Addr} {o : O} (r : RO G T1 q o) (r0 : RO G T q0 o) : RO G (T1.keep1 n p) q o := by
  cases o with
  | lst ds => obtain ⟨vs, h1, r1⟩ := r; obtain ⟨_, _, r2⟩ := r0; exact ⟨vs, h1, rds_back2 hp1 hl hp _ _ _ r1 r2⟩
  | dk ks => obtain ⟨vs, h1, r1⟩ := r; obtain ⟨_, _, r2⟩ := r0; exact ⟨vs, h1, rks_back2 hp1 hl hp r1 r2⟩
  | ins c fs => obtain ⟨dx, gs, h1, r1, h2, h3⟩ := r; obtain ⟨_, _, _, r2, _, _⟩ := r0; exact ⟨dx, gs, h1, rfs_back2 hp1 hl hp r1 r2, h2, h3⟩
theorem post_popK (S : Sim G T m) {W : Value → Option Addr → Hp → Prop} {r : R D} {Q : VK} (h : post G T W (popK m r) Q) : post G T W r Q := by
  match r, h with
  | .bad, h => exact h
  | .ex e m', h => exact post_popR S h
  | .ok .non m', h => exact post_popR S h
  | .ok (.bl _) m', h => exact post_popR S h
  | .ok (.int _) m', h => exact post_popR S h
  | .ok (.str _) m', h => exact post_popR S h
  | .ok (.tup _) m', h => exact post_popR S h
  | .ok (.fl _) m', h => exact post_popR S h
  | .ok (.sc _) m', h => exact post_popR S h
  | .ok (.ref a) m', h =>
    dsimp only [popK] at h
    split at h
    · exact post_popR S h
    · rename_i ha
      intro T1 v E1 S1 r1
      cases e1 : (m' : List O)[a]? with
      | none => rw [e1] at h; exact h.elim
      | some o =>
        cases e2 : popM (clO m.length) m m' with
        | none => rw [e1, e2] at h; cases o <;> exact h.elim
        | some m2 =>
          rw [e1, e2] at h
          cases o with
          | dk _ => exact h.elim
          | ins _ _ => exact h.elim
          | lst ds =>
            replace h : post G T W (if (D.mapRs (clRef m.length) ds).isSome then .ok (.ref m.length) (m2 ++ [.lst ds]) else .bad) Q := h
            split at h
            · rename_i hd
              cases r1 with
              | ref hp =>
                rename_i p
                obtain ⟨l1, l2⟩ := popM_len e2
                have l3 : m.length ≤ T1.mu.length := by rw [S1.len]; exact l2
                have hpm := List.mem_of_getElem? hp
                have hown := S1.sub p hpm
                obtain ⟨t, ht⟩ := E1.pre
                have hmu : T1.mu.take m.length = T.mu := by rw [← ht, ← S.len, List.take_left']; rfl
                have pn : p ∉ T1.mu.take m.length := fun hm => by
                  obtain ⟨j, hj, ej⟩ := List.mem_iff_getElem.mp hm
                  have hjn : j < m.length := by rw [List.length_take] at hj; omega
                  rw [List.getElem_take] at ej
                  obtain ⟨h3, ea⟩ := List.getElem?_eq_some_iff.mp hp
                  have := (List.getElem_inj S1.nd).mp (ej.trans ea.symm)
                  omega
                refine h (T1.keep1 m.length p) _ ⟨?_, fun q u hu hq => ?_⟩ ⟨fun q hq => ?_, ?_, ?_, fun i o2 q g1 g2 => ?_⟩ (.ref ?_)
                · show T.mu <+: T1.mu.take m.length ++ [p]
                  rw [hmu]; exact List.prefix_append _ _
                · obtain ⟨k1, k2, k3⟩ := E1.keep q u hu hq
                  have qp : q ≠ p := fun z => k2 (z ▸ hpm)
                  refine ⟨k1, fun z => ?_, ⟨fun z => ?_, fun z => .inl ⟨k3.mpr z, fun y => (k2 y).elim⟩⟩⟩
                  · rcases List.mem_append.mp z with z | z
                    · exact k2 (List.mem_of_mem_take z)
                    · exact qp (by simpa using z)
                  · rcases z with z | z
                    · exact k3.mp z.1
                    · exact (qp z).elim
                · rcases List.mem_append.mp hq with z | z
                  · exact .inl ⟨S1.sub q (List.mem_of_mem_take z), fun _ => z⟩
                  · exact .inr (by simpa using z)
                · show (T1.mu.take m.length ++ [p]).Nodup
                  rw [List.nodup_append]
                  refine ⟨S1.nd.sublist (List.take_sublist _ _), by simp, fun x hx y hy e => ?_⟩
                  have : y = p := by simpa using hy
                  exact pn (this ▸ e ▸ hx)
                · show (T1.mu.take m.length ++ [p]).length = (m2 ++ [O.lst ds]).length
                  rw [List.length_append, List.length_append, List.length_take, l1]
                  show min _ _ + 1 = m.length + 1
                  omega
                · have g2' : (T1.mu.take m.length ++ [p])[i]? = some q := g2
                  by_cases hi : i < m.length
                  · rw [List.getElem?_append_left (by rw [List.length_take]; omega), List.getElem?_take_of_lt hi] at g2'
                    rw [List.getElem?_append_left (by rw [l1]; exact hi)] at g1
                    obtain ⟨o, o', q1, q2, q3⟩ := popM_get i o2 e2 g1
                    have r1 := S1.obj i o' q q2 g2'
                    rcases q3 with ⟨q3, q4⟩ | q3
                    · subst q3; subst q4
                      have e4 : T.mu[i]? = some q := by rw [← hmu, List.getElem?_take_of_lt hi]; exact g2'
                      exact ro_back2 hown S.len E1.pre r1 (S.obj i _ q q1 e4)
                    · exact clO_ro hown l3 r1 q3
                  · have hi2 : i = m.length := by
                      have := (List.getElem?_eq_some_iff.mp g1).1
                      rw [List.length_append, l1] at this
                      simp at this; omega
                    subst hi2
                    rw [List.getElem?_append_right (by rw [List.length_take]; omega)] at g2'
                    rw [List.getElem?_append_right (by rw [l1]; omega)] at g1
                    rw [List.length_take, show m.length - min m.length T1.mu.length = 0 by omega] at g2'
                    rw [l1, Nat.sub_self] at g1
                    simp at g1 g2'
                    subst g1; subst g2'
                    obtain ⟨vs, k1, k2⟩ := S1.obj _ _ _ e1 hp
                    exact ⟨vs, k1, cl_rds hown l3 k2 hd⟩
                · show (T1.mu.take m.length ++ [p])[m.length]? = some p
                  rw [List.getElem?_append_right (by rw [List.length_take]; omega), List.length_take, show m.length - min m.length T1.mu.length = 0 by omega]
                  rfl
            · exact h.elim
end
end Itp
set_option Elab.async false
set_option linter.all false
set_option maxRecDepth 100000
/-! Itp F: what a loop walks; targets; comprehensions. -/
namespace Itp
open PySem PySem.Spec PyProof.Rows L2

structure IterV where
  its : List D
  gd : Mem → Bool
abbrev IV := Env → Mem → R IterV
def gT : Mem → Bool := fun _ => true
def gL (a : Nat) (ds : List D) : Mem → Bool := fun m => match (m : List O)[a]? with
  | some (.lst es) => D.beqs es ds
  | _ => false
theorem gL_of {a : Nat} {ds : List D} {m : Mem} (h : gL a ds m = true) : (m : List O)[a]? = some (.lst ds) := by
  unfold gL at h
  split at h
  · rename_i es e
    rw [e, D.beqs_eq _ _ h]
  · cases h
theorem gL_ok {a : Nat} {ds : List D} {m : Mem} (h : (m : List O)[a]? = some (.lst ds)) : gL a ds m = true := by
  unfold gL
  rw [h]
  exact D.beqs_refl _

structure ItOk (G : Gd) (T0 : Tie) (iv : IterV) (J : It) : Prop where
  step : ∀ (T : Tie) (m : Mem) (i : Nat) (d : D), Ext T0 T → Sim G T m → iv.gd m → iv.its[i]? = some d → J.go i T.H ∧ ∀ x H', J.yld i T.H x H' → ∃ T', T'.H = H' ∧ Ext T T' ∧ Sim G T' m ∧ RD G T' d x
  stop : ∀ (T : Tie) (m : Mem), Ext T0 T → Sim G T m → iv.gd m → J.stop iv.its.length T.H

section
variable {X : Cx} {G : Gd} {W : WX} {T T' : Tie} {m : Mem} {env : Env} {σ : L2.St} {H : Hp} {tg a b c : Expr} {pos : Pos} {f g k : EV}

def postI (G : Gd) (T : Tie) (W : Value → Option Addr → Hp → Prop) (r : R IterV) (Q : It → Hp → Prop) : Prop :=
  match r with
  | .ok d m => ∀ (T' : Tie) (J : It), Ext T T' → Sim G T' m → ItOk G T' d J → Q J T'.H
  | .ex e m => ∀ (T' : Tie) (cls : Value) (d : Option Addr), Ext T T' → Sim G T' m → RX G T' e cls d → W cls d T'.H
  | .bad => False
def iOf (G : Gd) (W : WX) (f : IV) : TI := fun σ H Q => ∃ T env m, T.H = H ∧ Sim G T m ∧ REnv G T env σ ∧ postI G T (WS W σ) (f env m) Q
theorem bindPI {α : Type} {P : Value → Option Addr → Hp → Prop} {r : R α} {k : α → Mem → R IterV} {Q : It → Hp → Prop} (h : postI G T P (r.bind k) Q) :
    r ≠ .bad ∧ (∀ e m1, r = .ex e m1 → ∀ (T1 : Tie) (cls : Value) (d : Option Addr), Ext T T1 → Sim G T1 m1 → RX G T1 e cls d → P cls d T1.H) ∧ ∀ a m1, r = .ok a m1 → postI G T P (k a m1) Q := by
  cases r with
  | bad => exact h.elim
  | ex e m1 => exact ⟨nofun, fun _ _ q => by cases q; exact h, nofun⟩
  | ok a m1 => exact ⟨nofun, nofun, fun _ _ q => by cases q; exact h⟩
theorem postI_ext {P : Value → Option Addr → Hp → Prop} {r : R IterV} {Q : It → Hp → Prop} (E : Ext T T') (h : postI G T P r Q) : postI G T' P r Q := by
  cases r with
  | ok d m => exact fun T1 v E1 => h T1 v (E.trans E1)
  | ex e m => exact fun T1 c d E1 => h T1 c d (E.trans E1)
  | bad => exact h
theorem PI.wk {w w' : TI} (h : PI X tg a w) (i : ∀ σ H Q, w' σ H Q → w σ H Q) : PI X tg a w' := ⟨fun pins s σ H R I q => h.run pins s σ H R I (i _ _ _ q)⟩
theorem PI.or {w w' : TI} (h : PI X tg a w) (h' : PI X tg a w') : PI X tg a (fun σ H R => w σ H R ∨ w' σ H R) := ⟨fun pins s σ H R I q => q.elim (h.run pins s σ H R I) (h'.run pins s σ H R I)⟩

def itD (d : D) (m : Mem) : R IterV := match d with
  | .tup ds => .ok ⟨ds, gT⟩ m
  | .fl ds => .ok ⟨ds, gT⟩ m
  | .sc ds => .ok ⟨ds, gT⟩ m
  | .str s => .ok ⟨s.map fun c => .str [c], gT⟩ m
  | .ref a => match (m : List O)[a]? with
    | some (.lst ds) => .ok ⟨ds, gL a ds⟩ m
    | _ => .bad
  | _ => .bad
def dIt (f : EV) : IV := fun env m => (f env m).bind itD

theorem itOk_l {T0 : Tie} {p : Addr} {iv : IterV} (hK : G.K = X.K) (h : ∀ (T : Tie) (m : Mem), Ext T0 T → Sim G T m → iv.gd m → ∃ vs, T.H p = some (.lst vs) ∧ RDs G T iv.its vs) : ItOk G T0 iv (Itl X.K p) := by
  refine ⟨fun T m i d E S g e => ?_, fun T m E S g => ?_⟩
  · obtain ⟨vs, h1, r⟩ := h T m E S g
    obtain ⟨v, e2, rv⟩ := r.get e
    refine ⟨⟨vs, v, .of h1, e2⟩, fun x H' ⟨e3, e4⟩ => ?_⟩
    subst e3
    have q := e4 vs (.of h1)
    rw [e2] at q; cases q
    exact ⟨T, rfl, Ext.refl _, S, rv⟩
  · obtain ⟨vs, h1, r⟩ := h T m E S g
    exact ⟨vs, .of h1, by rw [r.length]; exact Nat.le_refl _⟩
theorem itOk_fl {T0 : Tie} {p : Addr} {vs : List V} {ds : List D} {m0 : Mem} (hK : G.K = X.K) (S0 : Sim G T0 m0) (h : T0.H p = some (.lst vs)) (n : ¬ T0.own p) (r : RDs G T0 ds vs) : ItOk G T0 ⟨ds, gT⟩ (Itl X.K p) :=
  itOk_l hK fun T m E S _ => ⟨vs, (E.keep p _ h fun z => n (S0.sub p z)).1, E.rds S0 _ _ r⟩
theorem itOk_sc {T0 : Tie} {p : Addr} {vs : List V} {ds : List D} {m0 : Mem} (hK : G.K = X.K) (S0 : Sim G T0 m0) (h : SqF G.K T0.H p vs) (r : RDs G T0 ds vs) : ItOk G T0 ⟨ds, gT⟩ (Itl X.K p) := by
  have hk : ∀ T, Ext T0 T → SqL X.K T.H p vs := fun T E => by
    rw [← hK]
    rcases h with ⟨o, h⟩ | h
    · exact .inl (.inr ⟨o, (E.keep p _ h (S0.notin h fun z => z)).1⟩)
    · exact .inr h
  refine ⟨fun T m i d E S g e => ?_, fun T m E S g => ?_⟩
  · obtain ⟨v, e2, rv⟩ := (E.rds S0 _ _ r).get e
    refine ⟨⟨vs, v, hk T E, e2⟩, fun x H' ⟨e3, e4⟩ => ?_⟩
    subst e3
    have q := e4 vs (hk T E)
    rw [e2] at q; cases q
    exact ⟨T, rfl, Ext.refl _, S, rv⟩
  · exact ⟨vs, hk T E, by rw [r.length]; exact Nat.le_refl _⟩
theorem itOk_t {T0 : Tie} {p : Addr} {vs : List V} {ds : List D} {m0 : Mem} (hK : G.K = X.K) (S0 : Sim G T0 m0) (h : SqT G.K T0.H p vs) (r : RDs G T0 ds vs) : ItOk G T0 ⟨ds, gT⟩ (Itt X.K p) := by
  refine ⟨fun T m i d E S g e => ?_, fun T m E S g => ?_⟩
  · obtain ⟨v, e2, rv⟩ := (E.rds S0 _ _ r).get e
    have h1 : SqT X.K T.H p vs := by rw [← hK]; exact E.sqT S0 h
    refine ⟨⟨vs, v, h1, e2⟩, fun x H' ⟨e3, e4⟩ => ?_⟩
    subst e3
    have q := e4 vs h1
    rw [e2] at q; cases q
    exact ⟨T, rfl, Ext.refl _, S, rv⟩
  · exact ⟨vs, by rw [← hK]; exact E.sqT S0 h, by rw [r.length]; exact Nat.le_refl _⟩
theorem itOk_s {T0 : Tie} {s : List Nat} : ItOk G T0 ⟨s.map fun c => .str [c], gT⟩ (Its (stS s)) := by
  refine ⟨fun T m i d E S g e => ?_, fun T m E S g => ?_⟩
  · rw [List.getElem?_map] at e
    cases e1 : s[i]? with
    | none => rw [e1] at e; cases e
    | some c =>
      rw [e1] at e
      cases e
      have hi := (List.getElem?_eq_some_iff.mp e1).1
      refine ⟨by show i < (stS s).cps.size; simpa [stS] using hi, fun x H' ⟨e3, c2, e4, e5⟩ => ?_⟩
      subst e3
      have : c2 = c := by simpa [stS, e1] using e4.symm
      subst this
      subst e5
      exact ⟨T, rfl, Ext.refl _, S, .str [c2]⟩
  · show (stS s).cps.size ≤ _
    simp [stS]
theorem i_any (hK : G.K = X.K) (ha : PE X a (tOf G W f)) : PI X tg a (iOf G W (dIt f)) := by
  have h0 : ∀ σ H Q, iOf G W (dIt f) σ H Q → tOf G W f σ H fun x H1 => (∃ p, x = .ref p ∧ (∃ xs, SqL X.K H1 p xs) ∧ Q (Itl X.K p) H1) ∨ (∃ p, x = .ref p ∧ (∃ xs, SqT X.K H1 p xs) ∧ Q (Itt X.K p) H1) ∨ ∃ z, x = .str z ∧ Q (Its z) H1 := by
    intro σ H Q ⟨T, env, m, e, S, re, q⟩
    subst e
    obtain ⟨p1, p2, p3⟩ := bindPI q
    refine stepE S re p1 p2 fun x m1 T1 v e1 E1 S1 re1 r1 => ?_
    have q := postI_ext E1 (p3 x m1 e1)
    cases r1 with
    | tup h1 h2 => exact .inr (.inl ⟨_, rfl, ⟨_, by rw [← hK]; exact h1⟩, q T1 _ (Ext.refl _) S1 (itOk_t hK S1 h1 h2)⟩)
    | fl h1 n h2 => exact .inl ⟨_, rfl, ⟨_, .of h1⟩, q T1 _ (Ext.refl _) S1 (itOk_fl hK S1 h1 n h2)⟩
    | sc h1 h2 => exact .inl ⟨_, rfl, ⟨_, by rw [← hK]; exact h1.sq⟩, q T1 _ (Ext.refl _) S1 (itOk_sc hK S1 h1 h2)⟩
    | str s => exact .inr (.inr ⟨_, rfl, q T1 _ (Ext.refl _) S1 itOk_s⟩)
    | ref h1 =>
      rename_i a p
      replace q : postI G T1 (WS W σ) (match (m1 : List O)[a]? with
        | some (.lst ds) => .ok ⟨ds, gL a ds⟩ m1
        | _ => .bad) Q := q
      cases e2 : (m1 : List O)[a]? with
      | none => rw [e2] at q; exact q.elim
      | some o =>
        rw [e2] at q
        cases o with
        | lst ds =>
          obtain ⟨vs, e3, r3⟩ := S1.obj _ _ _ e2 h1
          refine .inl ⟨_, rfl, ⟨_, .of e3⟩, q T1 _ (Ext.refl _) S1 (itOk_l hK fun T m E S gd => ?_)⟩
          obtain ⟨t, et⟩ := E.pre
          have h2 : T.mu[a]? = some p := by
            rw [← et, List.getElem?_append_left (List.getElem?_eq_some_iff.mp h1).1]; exact h1
          exact S.obj _ _ _ (gL_of gd) h2
        | dk _ => exact q.elim
        | ins _ _ => exact q.elim
    | _ => exact q.elim
  refine ⟨fun pins s σ H Q I q => ?_⟩
  have z := h0 σ H Q q
  -- by the value's kind
  have run : wpAny (model X.prog X.w) X.A (eval a X.env) (fun v s1 => ∃ x H1, Inv X pins σ H1 s1 ∧ RelV x v ∧ ((∃ p, x = .ref p ∧ (∃ xs, SqL X.K H1 p xs) ∧ Q (Itl X.K p) H1) ∨ (∃ p, x = .ref p ∧ (∃ xs, SqT X.K H1 p xs) ∧ Q (Itt X.K p) H1) ∨ ∃ z, x = .str z ∧ Q (Its z) H1)) X.xe s :=
    thn (ha.run pins s σ H _ I z) fun v s1 ⟨x, H1, I1, r1, q1⟩ => ⟨x, H1, I1, r1, q1⟩
  refine thn run fun v s1 ⟨x, H1, I1, r1, q1⟩ => ?_
  rcases q1 with ⟨p, rfl, ⟨xs, hq⟩, q⟩ | ⟨p, rfl, ⟨xs, hq⟩, q⟩ | ⟨z, rfl, q⟩
  · cases r1
    obtain ⟨its, rv, pl, hz⟩ := I1.list hq
    refine wpAny_pyIter_list pl.isList ?_
    refine ⟨s1.heap.objs.size, [s1.heap.objs.size], _, _, H1, rfl, I1.kept (t' := s1.toks) fun b o e => Heap.get?_push_of_some _ e, turn_list p _, ⟨_, Heap.get?_push_size _ rfl, rfl, rfl⟩, fun b hb => ?_, q⟩
    have e : b = s1.heap.objs.size := by simpa using hb
    subst e
    exact I1.fpOk (Nat.le_refl _) (I1.hok.fresh (Nat.le_refl _))
  · cases r1
    obtain ⟨its, rv, pl, hz⟩ := I1.tuple hq
    refine wpAny_pyIter_tuple (show s1.heap.IsTuple p its.toArray from pl) ?_
    refine ⟨s1.heap.objs.size, [s1.heap.objs.size], _, _, H1, rfl, I1.kept (t' := s1.toks) fun b o e => Heap.get?_push_of_some _ e, turn_tuple p _, ⟨_, Heap.get?_push_size _ rfl, rfl, rfl⟩, fun b hb => ?_, q⟩
    have e : b = s1.heap.objs.size := by simpa using hb
    subst e
    exact I1.fpOk (Nat.le_refl _) (I1.hok.fresh (Nat.le_refl _))
  · exact str_it I1 r1 q
where
  str_it {X : Cx} {tg : Expr} {pins : List (Addr × Obj)} {σ : L2.St} {H1 : Hp} {s1 : Shared} {z : Str} {v : Value} {Q : It → Hp → Prop} (I1 : Inv X pins σ H1 s1) (r1 : RelV (.str z) v) (q : Q (Its z) H1) : wpAny (model X.prog X.w) X.A (pyIter v) (PIE X pins σ tg Q) X.xe s1 := by
    obtain ⟨t, rfl⟩ := r1
    cases ha : z.cps.all (· < 128)
    · exact wpAny_pyIter_wide ha (pi_one (tk := s1.toks) I1 _ (turn_str _ z t "str_iterator" (.inr rfl)) ⟨_, Heap.get?_push_size _ rfl, rfl, rfl⟩ q)
    · exact wpAny_pyIter_ascii ha (pi_one (tk := s1.toks) I1 _ (turn_str _ z t "str_ascii_iterator" (.inl rfl)) ⟨_, Heap.get?_push_size _ rfl, rfl, rfl⟩ q)

theorem dArgs_len : ∀ {fs : List EV} {env : Env} {m : Mem} {xs : List D} {m1 : Mem}, dArgs fs env m = .ok xs m1 → xs.length = fs.length
  | [], _, _, _, _, h => by cases h; rfl
  | f :: fs, env, m, xs, m1, h => by
    dsimp only [dArgs] at h
    cases e1 : f env m with
    | bad => rw [e1] at h; cases h
    | ex _ _ => rw [e1] at h; cases h
    | ok x m2 =>
      rw [e1] at h
      dsimp only [R.bind] at h
      cases e2 : dArgs fs env m2 with
      | bad => rw [e2] at h; cases h
      | ex _ _ => rw [e2] at h; cases h
      | ok ys m3 => rw [e2] at h; cases h; simp [dArgs_len e2]
/-! ### range -/
def rngL (lo : Int) (n : Nat) : List D := (List.range n).map fun (i : Nat) => .int (lo + i)
/-- hi, hi - 1, .. -/
def rngD (hi : Int) (n : Nat) : List D := (List.range n).map fun (i : Nat) => .int (hi - i)
def smallI (i : Int) : Bool := decide (-(2 ^ 62) ≤ i ∧ i < 2 ^ 62)
def dRng (fs : List EV) : IV := fun env m => (dArgs fs env m).bind fun ds m1 => match ds with
  | [.int j] => if smallI j then .ok ⟨rngL 0 j.toNat, gT⟩ m1 else .bad
  | [.int i, .int j] => if smallI i && smallI j then .ok ⟨rngL i (j - i).toNat, gT⟩ m1 else .bad
  | [.int i, .int j, .int k] => if decide (k = -1) && (smallI i && smallI j) then .ok ⟨rngD i (i - j).toNat, gT⟩ m1 else .bad
  | _ => .bad
theorem itOk_r {T0 : Tie} {lo : Int} {n : Nat} : ItOk G T0 ⟨rngL lo n, gT⟩ (Itr lo n) := by
  refine ⟨fun T m i d E S g e => ?_, fun T m E S g => ?_⟩
  · have hi : i < n := by
      have := (List.getElem?_eq_some_iff.mp e).1
      simpa [rngL] using this
    have e2 : d = .int (lo + i) := by
      unfold rngL at e
      rw [List.getElem?_map, List.getElem?_range hi] at e
      simpa using e.symm
    subst e2
    exact ⟨hi, fun x H' ⟨e3, e4⟩ => ⟨T, e3.symm, Ext.refl _, S, by subst e4; exact .int _⟩⟩
  · show n ≤ _
    simp [rngL]
theorem i_rng1 {p : Pos} (hg : Gl X "range") (hm : X.mg "range" = none) (hn : notStar a = true) (ha : PA X [a] (taOf G W (dArgs [f]))) : PI X tg (.Call (.Name "range" p) [a] [] pos) (iOf G W (dRng [f])) := by
  refine PI.wk (pi_range1 hg hm ha (star_of hn)) fun σ H Q ⟨T, env, m, e, S, re, q⟩ => ?_
  subst e
  obtain ⟨p1, p2, p3⟩ := bindPI q
  refine stepA S re p1 p2 fun xs m1 T1 v e1 E1 S1 re1 r1 => ?_
  have q := postI_ext E1 (p3 xs m1 e1)
  match xs, r1, q with
  | [.int j], r1, q =>
    obtain ⟨w, rfl, r2⟩ := r1.one
    obtain rfl := r2.inti
    replace q : postI G T1 (WS W σ) (if smallI j then .ok ⟨rngL 0 j.toNat, gT⟩ m1 else .bad) Q := q
    split at q
    · rename_i c
      have c' := of_decide_eq_true c
      exact ⟨j, rfl, c'.1, c'.2, q T1 _ (Ext.refl _) S1 itOk_r⟩
    · exact q.elim
  | [.int i, .int j], r1, q => exact absurd r1.length (by
      have := dArgs_len e1
      simp at this)
  | [], r1, q => exact q.elim
  | [.non], r1, q => exact q.elim
  | [.bl _], r1, q => exact q.elim
  | [.str _], r1, q => exact q.elim
  | [.tup _], r1, q => exact q.elim
  | [.fl _], r1, q => exact q.elim
  | [.sc _], r1, q => exact q.elim
  | [.ref _], r1, q => exact q.elim
  | _ :: _ :: _, r1, q => exact absurd (dArgs_len e1) (by simp)
theorem i_rng2 {p : Pos} {f2 : EV} (hg : Gl X "range") (hm : X.mg "range" = none) (hn : notStar a = true) (hn2 : notStar b = true) (ha : PA X [a, b] (taOf G W (dArgs [f, f2]))) : PI X tg (.Call (.Name "range" p) [a, b] [] pos) (iOf G W (dRng [f, f2])) := by
  refine PI.wk (pi_range2 hg hm ha (by rw [star_of hn, star_of hn2]; rfl) (by rw [star_of hn2]; rfl)) fun σ H Q ⟨T, env, m, e, S, re, q⟩ => ?_
  subst e
  obtain ⟨p1, p2, p3⟩ := bindPI q
  refine stepA S re p1 p2 fun xs m1 T1 v e1 E1 S1 re1 r1 => ?_
  have q := postI_ext E1 (p3 xs m1 e1)
  have hl : xs.length = 2 := dArgs_len e1
  match xs, hl with
  | [x, y], _ =>
    obtain ⟨w, w2, rfl, r2, r3⟩ := r1.two
    cases x with
    | int i =>
      cases y with
      | int j =>
        obtain rfl := r2.inti
        obtain rfl := r3.inti
        replace q : postI G T1 (WS W σ) (if smallI i && smallI j then .ok ⟨rngL i (j - i).toNat, gT⟩ m1 else .bad) Q := q
        split at q
        · rename_i c
          rw [Bool.and_eq_true] at c
          have c1 := of_decide_eq_true c.1
          have c2 := of_decide_eq_true c.2
          exact ⟨i, j, rfl, ⟨c1.1, c1.2, c2.1, c2.2⟩, q T1 _ (Ext.refl _) S1 itOk_r⟩
        · exact q.elim
      | _ => exact q.elim
    | _ => exact q.elim

theorem itOk_rd {T0 : Tie} {hi : Int} {n : Nat} : ItOk G T0 ⟨rngD hi n, gT⟩ (Itc hi (-1) n) := by
  refine ⟨fun T m i d E S g e => ?_, fun T m E S g => ?_⟩
  · have h2 : i < n := by
      have := (List.getElem?_eq_some_iff.mp e).1
      simpa [rngD] using this
    have e2 : d = .int (hi - i) := by
      unfold rngD at e
      rw [List.getElem?_map, List.getElem?_range h2] at e
      simpa using e.symm
    subst e2
    refine ⟨h2, fun x H' ⟨e3, e4⟩ => ⟨T, e3.symm, Ext.refl _, S, by subst e4; rw [show hi + (i : Int) * -1 = hi - i from by omega]; exact .int _⟩⟩
  · show n ≤ _
    simp [rngD]
theorem i_rng3 {p : Pos} {f2 f3 : EV} (hg : Gl X "range") (hm : X.mg "range" = none) (hn : notStar a = true) (hn2 : notStar b = true) (hn3 : notStar c = true) (ha : PA X [a, b, c] (taOf G W (dArgs [f, f2, f3]))) : PI X tg (.Call (.Name "range" p) [a, b, c] [] pos) (iOf G W (dRng [f, f2, f3])) := by
  refine PI.wk (pi_range3 hg hm ha (star_of hn) (by rw [star_of hn2, star_of hn3]; rfl)) fun σ H Q ⟨T, env, m, e, S, re, q⟩ => ?_
  subst e
  obtain ⟨p1, p2, p3⟩ := bindPI q
  refine stepA S re p1 p2 fun xs m1 T1 v e1 E1 S1 re1 r1 => ?_
  have q := postI_ext E1 (p3 xs m1 e1)
  have hl : xs.length = 3 := dArgs_len e1
  match xs, hl with
  | [x, y, z], _ =>
    cases r1 with
    | cons r2 r1 =>
    cases r1 with
    | cons r3 r1 =>
    cases r1 with
    | cons r4 r1 =>
    cases r1
    cases x with
    | int i =>
      cases y with
      | int j =>
        cases z with
        | int k =>
          obtain rfl := r2.inti
          obtain rfl := r3.inti
          obtain rfl := r4.inti
          replace q : postI G T1 (WS W σ) (if decide (k = -1) && (smallI i && smallI j) then .ok ⟨rngD i (i - j).toNat, gT⟩ m1 else .bad) Q := q
          split at q
          · rename_i c
            rw [Bool.and_eq_true, Bool.and_eq_true] at c
            have c0 := of_decide_eq_true c.1
            have c1 := of_decide_eq_true c.2.1
            have c2 := of_decide_eq_true c.2.2
            subst c0
            exact ⟨i, j, -1, _, rfl, RgC.neg c1.1 c1.2 c2.1 c2.2, q T1 _ (Ext.refl _) S1 itOk_rd⟩
          · exact q.elim
        | _ => exact q.elim
      | _ => exact q.elim
    | _ => exact q.elim

/-! ### zip of two lists, of two tuples -/
def zipD : List D → List D → List D
  | a :: as, b :: bs => .tup [a, b] :: zipD as bs
  | _, _ => []
theorem zipD_get : ∀ {as bs : List D} {i : Nat} {d : D}, (zipD as bs)[i]? = some d → ∃ x y, as[i]? = some x ∧ bs[i]? = some y ∧ d = .tup [x, y]
  | [], _, _, _, h => by simp [zipD] at h
  | _ :: _, [], _, _, h => by simp [zipD] at h
  | a :: as, b :: bs, 0, d, h => by simp [zipD] at h; exact ⟨a, b, rfl, rfl, h.symm⟩
  | a :: as, b :: bs, i + 1, d, h => by simp [zipD] at h; simpa using zipD_get h
theorem zipD_len : ∀ {as bs : List D}, as.length ≤ (zipD as bs).length ∨ bs.length ≤ (zipD as bs).length
  | [], _ => .inl (by simp [zipD])
  | _ :: _, [] => .inr (by simp [zipD])
  | a :: as, b :: bs => by
    rcases zipD_len (as := as) (bs := bs) with h | h
    · exact .inl (by simp [zipD]; exact h)
    · exact .inr (by simp [zipD]; exact h)
/-- what must stand while both are walked -/
def zGd (x : D) (as : List D) (y : D) (bs : List D) : Mem → Bool := match x, y with
  | .ref a, .ref b => fun m => gL a as m && gL b bs m
  | .ref a, _ => gL a as
  | _, .ref b => gL b bs
  | _, _ => gT
def zipOf (m : Mem) (x y : D) : Option IterV := match x, y with
  | .tup as, .tup bs => some ⟨zipD as bs, gT⟩
  | x, y => match lstOf m x, lstOf m y with
    | some as, some bs => some ⟨zipD as bs, zGd x as y bs⟩
    | _, _ => none
def dZip (f g : EV) : IV := fun env m => (f env m).bind fun x m1 => (g env m1).bind fun y m2 => match zipOf m2 x y with
  | some iv => .ok iv m2
  | none => .bad
theorem zGd_l {x y : D} {as bs : List D} {m : Mem} (h : zGd x as y bs m = true) : ∀ a, x = .ref a → (m : List O)[a]? = some (.lst as) := by
  intro a e
  subst e
  cases y <;> first | exact gL_of h | (unfold zGd at h; dsimp only at h; rw [Bool.and_eq_true] at h; exact gL_of h.1)
theorem zGd_r {x y : D} {as bs : List D} {m : Mem} (h : zGd x as y bs m = true) : ∀ a, y = .ref a → (m : List O)[a]? = some (.lst bs) := by
  intro a e
  subst e
  cases x <;> first | exact gL_of h | (unfold zGd at h; dsimp only at h; rw [Bool.and_eq_true] at h; exact gL_of h.2)
/-- a list, later -/
theorem lst_later {T0 T : Tie} {m0 m : Mem} {x : D} {v : V} {as : List D} (S0 : Sim G T0 m0) (r : RD G T0 x v) (h : lstOf m0 x = some as) (E : Ext T0 T) (S : Sim G T m) (g : ∀ a, x = .ref a → (m : List O)[a]? = some (.lst as)) : ∃ p vs, v = .ref p ∧ SqL G.K T.H p vs ∧ RDs G T as vs := by
  have r' := E.rd S0 _ _ r
  refine r'.list S (ds := as) ?_
  cases x with
  | ref a => dsimp only [lstOf]; rw [g a rfl]
  | _ => exact h
theorem i_zip {p tpos : Pos} {elts : List Expr} {kk : Nat} (hK : G.K = X.K) (hg : Gl X "zip") (hm : X.mg "zip" = none) (hn : notStar a = true) (hn2 : notStar b = true) (ha : PE X a (tOf G W f)) (hb : PE X b (tOf G W g)) :
    PI X (.Tuple elts kk tpos) (.Call (.Name "zip" p) [a, b] [] pos) (iOf G W (dZip f g)) := by
  refine PI.wk (_root_.RZ.pi_zipA hg hm (pa_cons ha (pa_cons hb pa_nil (star_of hn2)) (star_of hn)) (star_of hn) (back_any (by simp [hn2]))) fun σ H Q ⟨T, env, m, e, S, re, q⟩ => ?_
  subst e
  obtain ⟨p1, p2, p3⟩ := bindPI q
  refine stepE S re p1 p2 fun x m1 T1 v e1 E1 S1 re1 r1 => ?_
  obtain ⟨q1, q2, q3⟩ := bindPI (postI_ext E1 (p3 x m1 e1))
  refine stepE S1 re1 q1 q2 fun y m2 T2 w e2 E2 S2 re2 r2 => ?_
  have q := postI_ext E2 (q3 y m2 e2)
  have r1 := E2.rd S1 _ _ r1
  have lists : (match lstOf m2 x, lstOf m2 y with
    | some as, some bs => some (⟨zipD as bs, zGd x as y bs⟩ : IterV)
    | _, _ => none) = zipOf m2 x y → ∃ a b xs ys, [v, w] = [V.ref a, V.ref b] ∧ ((SqL X.K T2.H a xs ∧ SqL X.K T2.H b ys ∧ Q (Itz X.K a b) T2.H) ∨ (SqT X.K T2.H a xs ∧ SqT X.K T2.H b ys ∧ Q (_root_.RZ.ItzT X.K a b) T2.H)) := fun e => by
    rw [← e] at q
    cases ex : lstOf m2 x with
    | none => rw [ex] at q; exact q.elim
    | some as =>
      cases ey : lstOf m2 y with
      | none => rw [ex, ey] at q; exact q.elim
      | some bs =>
        rw [ex, ey] at q
        obtain ⟨pa, va, rfl, ha, ra⟩ := r1.list S2 ex
        obtain ⟨pb, vb, rfl, hb, rb⟩ := r2.list S2 ey
        rw [hK] at ha hb
        have later : ∀ (T : Tie) (m : Mem), Ext T2 T → Sim G T m → zGd x as y bs m = true → ∃ va vb, SqL X.K T.H pa va ∧ SqL X.K T.H pb vb ∧ RDs G T as va ∧ RDs G T bs vb := fun T m E S gd => by
          obtain ⟨p1, va, e1, h1, k1⟩ := lst_later S2 r1 ex E S (zGd_l gd)
          obtain ⟨p2, vb, e2, h2, k2⟩ := lst_later S2 r2 ey E S (zGd_r gd)
          cases e1; cases e2
          rw [hK] at h1 h2
          exact ⟨va, vb, h1, h2, k1, k2⟩
        refine ⟨pa, pb, va, vb, rfl, .inl ⟨ha, hb, q T2 _ (Ext.refl _) S2 ⟨fun T m i d E S g e => ?_, fun T m E S g => ?_⟩⟩⟩
        · obtain ⟨x, y, ex, ey, rfl⟩ := zipD_get e
          obtain ⟨va, vb, h1, h2, ra', rb'⟩ := later T m E S g
          obtain ⟨v1, f1, g1⟩ := ra'.get ex
          obtain ⟨v2, f2, g2⟩ := rb'.get ey
          refine ⟨⟨va, vb, v1, v2, h1, h2, f1, f2⟩, fun z H' ⟨t, x1, y1, e3, e4, e5, e6, e7⟩ => ?_⟩
          subst e3; subst e5
          have k1 := e6 va h1
          have k2 := e7 vb h2
          rw [f1] at k1; cases k1
          rw [f2] at k2; cases k2
          have E' := ext_frz (o := .tup [v1, v2]) S e4
          exact ⟨T.frz t (.tup [v1, v2]), rfl, E', sim_frz S e4, .tup (.of upd_same) (.cons (E'.rd S _ _ g1) (.cons (E'.rd S _ _ g2) .nil))⟩
        · obtain ⟨va, vb, h1, h2, ra', rb'⟩ := later T m E S g
          refine ⟨va, vb, h1, h2, ?_⟩
          rw [← ra'.length, ← rb'.length]
          exact zipD_len
  cases x with
  | tup as =>
    cases y with
    | tup bs =>
      obtain ⟨pa, va, rfl, ha, ra⟩ := r1.tupl
      obtain ⟨pb, vb, rfl, hb, rb⟩ := r2.tupl
      replace q : postI G T2 (WS W σ) (.ok ⟨zipD as bs, gT⟩ m2) Q := q
      refine ⟨pa, pb, va, vb, rfl, .inr ⟨by rw [← hK]; exact ha, by rw [← hK]; exact hb, q T2 _ (Ext.refl _) S2 ⟨fun T m i d E S g e => ?_, fun T m E S g => ?_⟩⟩⟩
      · obtain ⟨x, y, ex, ey, rfl⟩ := zipD_get e
        have ra' := E.rds S2 _ _ ra
        have rb' := E.rds S2 _ _ rb
        obtain ⟨v1, f1, g1⟩ := ra'.get ex
        obtain ⟨v2, f2, g2⟩ := rb'.get ey
        have h1 : SqT X.K T.H pa va := by rw [← hK]; exact E.sqT S2 ha
        have h2 : SqT X.K T.H pb vb := by rw [← hK]; exact E.sqT S2 hb
        refine ⟨⟨va, vb, v1, v2, h1, h2, f1, f2⟩, fun z H' ⟨t, x1, y1, e3, e4, e5, e6, e7⟩ => ?_⟩
        subst e3; subst e5
        have k1 := e6 va h1
        have k2 := e7 vb h2
        rw [f1] at k1; cases k1
        rw [f2] at k2; cases k2
        have E' := ext_frz (o := .tup [v1, v2]) S e4
        exact ⟨T.frz t (.tup [v1, v2]), rfl, E', sim_frz S e4, .tup (.of upd_same) (.cons (E'.rd S _ _ g1) (.cons (E'.rd S _ _ g2) .nil))⟩
      · refine ⟨va, vb, by rw [← hK]; exact E.sqT S2 ha, by rw [← hK]; exact E.sqT S2 hb, ?_⟩
        rw [← ra.length, ← rb.length]
        exact zipD_len
    | _ => exact lists rfl
  | _ => exact lists rfl

/-! ### targets -/
inductive Pat where
  | nm (i : Nat)
  | tup (ps : List Pat)
mutual
def bindD : Pat → D → Env → Option Env
  | .nm i, d, env => some (env.set i (some d))
  | .tup ps, .tup ds, env => bindDs ps ds env
  | .tup _, _, _ => none
def bindDs : List Pat → List D → Env → Option Env
  | [], [], env => some env
  | p :: ps, d :: ds, env => (bindD p d env).bind fun env' => bindDs ps ds env'
  | _, _, _ => none
end
mutual
def Pat.slots : Pat → List Nat
  | .nm i => [i]
  | .tup ps => Pat.slotss ps
def Pat.slotss : List Pat → List Nat
  | [] => []
  | p :: ps => p.slots ++ Pat.slotss ps
end
/-- only these slots differ -/
def OnlyAt (is : List Nat) (σ σ' : L2.St) : Prop := σ'.length = σ.length ∧ ∀ i, i ∉ is → σ'[i]? = σ[i]?
theorem OnlyAt.refl (is : List Nat) (σ : L2.St) : OnlyAt is σ σ := ⟨rfl, fun _ _ => rfl⟩
theorem OnlyAt.trans {is js : List Nat} {σ σ' σ'' : L2.St} (a : OnlyAt is σ σ') (b : OnlyAt js σ' σ'') : OnlyAt (is ++ js) σ σ'' :=
  ⟨b.1.trans a.1, fun i h => by
    rw [List.mem_append, not_or] at h
    rw [b.2 i h.2, a.2 i h.1]⟩
theorem OnlyAt.set (σ : L2.St) (i : Nat) (v : Option V) : OnlyAt [i] σ (σ.set i v) := ⟨by simp, fun j h => by rw [List.getElem?_set_ne]; simp at h; exact fun e => h e.symm⟩

/-- a target's reading -/
def gOf (G : Gd) (p : Pat) : TG := fun v σ H Q => ∃ T env m d env', T.H = H ∧ Sim G T m ∧ REnv G T env σ ∧ RD G T d v ∧ bindD p d env = some env' ∧ ∀ σ', REnv G T env' σ' → OnlyAt p.slots σ σ' → Q σ' H
def gsOf (G : Gd) (ps : List Pat) : TGs := fun vs σ H Q => ∃ T env m ds env', T.H = H ∧ Sim G T m ∧ REnv G T env σ ∧ RDs G T ds vs ∧ bindDs ps ds env = some env' ∧ ∀ σ', REnv G T env' σ' → OnlyAt (Pat.slotss ps) σ σ' → Q σ' H
theorem PG.wk {t t' : TG} (h : PG X tg t) (i : ∀ v σ H Q, t' v σ H Q → t v σ H Q) : PG X tg t' := ⟨fun pins s σ H v u Q I r q => h.run pins s σ H v u Q I r (i _ _ _ _ q)⟩
theorem PGs.wk {ts : List Expr} {t t' : TGs} (h : PGs X ts t) (i : ∀ v σ H Q, t' v σ H Q → t v σ H Q) : PGs X ts t' := ⟨fun pins s σ H v u Q I r q => h.run pins s σ H v u Q I r (i _ _ _ _ q)⟩
theorem g_nm {i : Nat} {x : Str} (hi0 : G.fr i) (hN : X.N.Nodup) (hi : X.N[i]? = some x) (hx : Loc X.env.scope x) (hf : X.fn x = true ∨ X.env.scope.names.lookup x = some .local) : PG X (.Name x pos) (gOf G (.nm i)) := by
  refine PG.wk (pg_name hN hi hx hf) fun v σ H Q ⟨T, env, m, d, env', e, S, re, r, b, q⟩ => ?_
  subst e
  cases b
  exact q _ (re.set hi0 r) (OnlyAt.set _ _ _)
theorem g_nil : PGs X [] (gsOf G []) := by
  refine PGs.wk pgs_nil fun v σ H Q ⟨T, env, m, d, env', e, S, re, r, b, q⟩ => ?_
  subst e
  match d, r, b with
  | [], r, b => cases r; cases b; exact ⟨rfl, q _ re (OnlyAt.refl _ _)⟩
  | _ :: _, r, b => cases b
theorem g_cons {e : Expr} {es : List Expr} {p : Pat} {ps : List Pat} (h1 : PG X e (gOf G p)) (h2 : PGs X es (gsOf G ps)) (hs : (assignEach (e :: es) X.env).map (·.2) = assign e X.env :: (assignEach es X.env).map (·.2)) : PGs X (e :: es) (gsOf G (p :: ps)) := by
  refine PGs.wk (pgs_cons h1 h2 hs) fun v σ H Q ⟨T, env, m, ds, env', e, S, re, r, b, q⟩ => ?_
  subst e
  match ds, r, b with
  | [], r, b => cases b
  | d :: ds, r, b =>
    cases r with
    | cons r1 r2 =>
      dsimp only [bindDs] at b
      cases e1 : bindD p d env with
      | none => rw [e1] at b; cases b
      | some env1 =>
        rw [e1] at b
        refine ⟨_, _, rfl, T, env, m, d, env1, rfl, S, re, r1, e1, fun σ1 re1 o1 => ?_⟩
        exact ⟨T, env1, m, ds, env', rfl, S, re1, r2, b, fun σ2 re2 o2 => q σ2 re2 (o1.trans o2)⟩
theorem bindDs_len : ∀ {ps : List Pat} {ds : List D} {env env' : Env}, bindDs ps ds env = some env' → ps.length = ds.length
  | [], [], _, _, _ => rfl
  | [], _ :: _, _, _, h => by cases h
  | _ :: _, [], _, _, h => by cases h
  | p :: ps, d :: ds, env, env', h => by
    dsimp only [bindDs] at h
    cases e1 : bindD p d env with
    | none => rw [e1] at h; cases h
    | some env1 => rw [e1] at h; simp [bindDs_len h]
theorem g_tup {es : List Expr} {kk : Nat} {ps : List Pat} (hK : G.K = X.K) (hc : X.calm = true) (h : PGs X es (gsOf G ps)) (hn : (assignEach es X.env).length = ps.length) (hst : (assignEach es X.env).findIdx? (·.1) = none) : PG X (.Tuple es kk pos) (gOf G (.tup ps)) := by
  refine PG.wk (pg_tup hc h hn hst) fun v σ H Q ⟨T, env, m, d, env', e, S, re, r, b, q⟩ => ?_
  subst e
  cases d with
  | tup ds =>
    obtain ⟨p, vs, rfl, h1, r1⟩ := r.tupl
    exact ⟨p, vs, rfl, by rw [← hK]; exact h1, by rw [← r1.length]; exact (bindDs_len b).symm, T, env, m, ds, env', rfl, S, re, r1, b, q⟩
  | _ => cases b
end
end Itp
set_option Elab.async false
set_option linter.all false
set_option maxRecDepth 100000
/-! Itp N4: enumerate over tuples. -/
namespace Itp
open PySem PySem.Spec PyProof.Rows L2
open Sem (wp)
open AutoSeq1 (wpAny_loadPart')
set_option maxHeartbeats 1000000 in
theorem en_new (t : Addr) (items : Array Value) (n : Nat) (dct : Option Addr) (sl : Array (Option Value)) :
    Meets (Builtin.«enumerate.__new__» ⟨[.type "enumerate", .ref t], []⟩) (fun _ R s => s.heap.get? t = some ⟨.type "tuple", dct, .seq items n, sl⟩ ∧
      R (.ok (.ret (.ref (s.heap.push { cls := .type "tuple_iterator", data := .fields #[.ref t, .int 0 0] }).objs.size)))
        { s with heap := (s.heap.push { cls := .type "tuple_iterator", data := .fields #[.ref t, .int 0 0] }).push { cls := .type "enumerate", data := .fields #[.none, .bool false, .ref s.heap.objs.size, rawInt 0, .none, .none] } }) :=
  .of_wp fun prog w A R s h => by
    obtain ⟨hp, g, d, tk, os⟩ := s; obtain ⟨ht, h⟩ := h
    have hsub := sub_enumerate
    have hT : Heap.IsTuple (Shared.heap ⟨hp, g, d, tk, os⟩) t items := ⟨_, ht, rfl, n, rfl⟩
    wp_walk using wpAny_loadPart' ht
    apply wpAny_stack_any; intro st; apply wpAny_pure
    split
    · rename_i c _ _ _ _ _
      cases hce : (c == Value.type "enumerate")
      · wp_walk using wpAny_loadPart' ht, wpAny_pyIter_tuple hT
        exact ⟨_, rfl, h⟩
      · wp_walk using wpAny_loadPart' ht, wpAny_pyIter_tuple hT
        exact ⟨_, rfl, h⟩
    · wp_walk using wpAny_loadPart' ht, wpAny_pyIter_tuple hT
      exact ⟨_, rfl, h⟩

theorem en_call {prog : Program} {w : World} {A : Around} {E : Value → Shared → Prop} {s : Shared} {t : Addr} {items : Array Value} {Q : Value → Shared → Prop} (ht : s.heap.IsTuple t items)
    (h : ∀ h', IsEnum h' (s.heap.objs.size + 1) s.heap.objs.size 0 .none → h'.IsTupleIter s.heap.objs.size t 0 → (∀ b o, s.heap.get? b = some o → h'.get? b = some o) → Q (.ref (s.heap.objs.size + 1)) { s with heap := h' }) :
    wpAny (model prog w) A (call (.type "enumerate") [.ref t]) Q E s := by
  obtain ⟨⟨c, dct, dt, sl⟩, hl, hc, n, hd⟩ := ht
  cases (show c = .type "tuple" from hc)
  cases (show dt = .seq items n from hd)
  refine callType_new F.called_enumerate (by decide) (F.typeCall_enumerate_1 _) (F.newCall_enumerate_1 _) (fun obj => F.args_object_init_2 obj _) F.entry_enumerate_new (en_new t items n dct sl) ⟨hl, ?_⟩
  have hz : (s.heap.push { cls := .type "tuple_iterator", data := .fields #[.ref t, .int 0 0] }).objs.size = s.heap.objs.size + 1 := Heap.size_push ..
  have he : IsEnum ((s.heap.push { cls := .type "tuple_iterator", data := .fields #[.ref t, .int 0 0] }).push { cls := .type "enumerate", data := .fields #[.none, .bool false, .ref s.heap.objs.size, rawInt 0, .none, .none] }) (s.heap.objs.size + 1) s.heap.objs.size 0 .none := by
    have z := Heap.get?_push_size (s.heap.push { cls := .type "tuple_iterator", data := .fields #[.ref t, .int 0 0] }) (o := { cls := .type "enumerate", data := .fields #[.none, .bool false, .ref s.heap.objs.size, rawInt 0, .none, .none] }) rfl
    rw [hz] at z; exact z
  show _ ∧ _; rw [hz]
  exact ⟨⟨_, he, rfl⟩, h _ he ⟨_, Heap.get?_push_of_some _ (Heap.get?_push_size _ rfl), rfl, rfl⟩ fun b o x => Heap.get?_push_of_some _ (Heap.get?_push_of_some _ x)⟩
/-- the tuple at a, each item in a new pair with its place -/
def ItEt (K : PySem.W.Frag) (a : Addr) : It where
  go := fun i H => ∃ (xs : List V) (x : V), SqT K H a xs ∧ xs[i]? = some x
  yld := fun i H v H' => ∃ t x, v = .ref t ∧ H t = none ∧ H' = upd H t (.tup [.int (i : Nat), x]) ∧ ∀ xs, SqT K H a xs → xs[i]? = some x
  stop := fun i H => ∃ xs : List V, SqT K H a xs ∧ xs.length = i
theorem turn_enT {P : Program} {w : World} {K : PySem.W.Frag} {elts : List Expr} {kk : Nat} {tpos : Pos} (a e it : Addr) :
    Turn P w K (.Tuple elts kk tpos) (ItEt K a) [e, it] e (fun i h => (∃ old, IsEnum h e it ((i : Nat) : Int) old) ∧ h.IsTupleIter it a i ∧ e ≠ it ∧ e ≠ a ∧ a ≠ it) where
  mem := by simp
  obj := fun i h st b hb => by
    obtain ⟨⟨old, he⟩, ⟨o, ho, hc, hd⟩, _⟩ := st
    rcases (by simpa using hb : b = e ∨ b = it) with rfl | rfl
    · exact ⟨_, he, fun v q => nomatch q⟩
    · exact ⟨o, ho, fun v q => by rw [hd] at q; cases q⟩
  keep := fun i h h' st k => by
    obtain ⟨⟨old, he⟩, hi, hne⟩ := st
    exact ⟨⟨old, k e (by simp) _ he⟩, hi.at fun o q => k it (by simp) o q, hne⟩
  item := by
    intro X hP hw hK hc i pins s σ H E I hf st ⟨xs, x, hq, hx⟩
    subst hP hw hK
    obtain ⟨⟨old, he⟩, hit, hne, hna, hni⟩ := st
    obtain ⟨its, rv, p, hz⟩ := I.tuple hq
    obtain ⟨u, hu, ru⟩ := rv.get hx
    have hel : e < s.heap.objs.size := Heap.lt_size he
    have hil : it < s.heap.objs.size := by obtain ⟨_, q, _⟩ := hit; exact Heap.lt_size q
    have hlt : i < its.toArray.size := by have := (List.getElem?_eq_some_iff.mp hu).1; simpa using this
    refine wpAny_pyNext_enum_itemD (Draws.tuple (A := X.A.in1) (I.ok.hd hc) it a hni its.toArray) he ⟨hit, show s.heap.IsTuple a its.toArray from p⟩ hlt hne (by simp [hne, hna]) fun u2 h' tk hu2 ho st' hT hsz hk => ?_
    have eu : u2 = u := by
      have hu3 : its.toArray[i]? = some u := by simpa using hu
      exact Option.some.inj (hu2.symm.trans hu3)
    subst eu
    refine ⟨_, rfl, wpAny_letOwnedTupleGo_enum (s := { s with heap := h', toks := tk + 1 }) ho fun h2 he' sb => ?_⟩
    have hT2 := (sb.2 _ (Nat.ne_of_gt hel)).trans hT
    have new : ObjOk X.prog X.w (upd H s.heap.objs.size (.tup [.int (i : Nat), x])) h2 s.heap.objs.size (.tup [.int (i : Nat), x]) :=
      ⟨show 2 ≤ sizeLine by decide, [.int i tk, u2], .cons ⟨_, rfl⟩ (.cons ru .nil), ⟨_, hT2, rfl, _, rfl⟩⟩
    have I1 : Inv X pins σ (upd H s.heap.objs.size (.tup [.int (i : Nat), x])) { s with heap := h2, toks := tk + 1 } :=
      I.turnedNew (ch := [e, it]) (fun b ob hb q => (sb.2 b (fun z => hb (by simp [z]))).trans (hk b ob (fun z => hb (by simp [z])) (fun z => hb (by simp [z])) q)) hf (Nat.le_refl _) new
    refine ⟨.ref s.heap.objs.size, _, I1, rfl, ⟨_, x, rfl, I.hok.fresh (Nat.le_refl _), rfl, fun ys hy => by rw [I.tuple_inj hy hq]; exact hx⟩, ⟨⟨u2, ?_⟩, st'.1.at fun o q => (sb.2 it hne.symm).trans q, hne, hna, hni⟩, fun b hb => ?_⟩
    · rw [show ((i + 1 : Nat) : Int) = (i : Int) + 1 by omega]; exact he'
    · have hb' : b < s.heap.objs.size := by
        rcases (by simpa using hb : b = e ∨ b = it) with rfl | rfl
        · exact hel
        · exact hil
      rw [upd_ne (Nat.ne_of_lt hb')]; exact (hf b hb).1
  done := by
    intro X hP hw hK hc i pins s σ H E I hf st ⟨xs, hq, hx⟩
    subst hP hw hK
    obtain ⟨⟨old, he⟩, hit, hne, hna, hni⟩ := st
    obtain ⟨its, rv, p, hz⟩ := I.tuple hq
    obtain ⟨f0, f1, f2, f3, f4, f5⟩ := hf it (by simp)
    have hl : its.toArray.size = i := by rw [List.size_toArray, ← rv.length]; exact hx
    subst hl
    exact wpAny_pyNext_enum_endD (Draws.tuple (A := X.A.in1) (I.ok.hd hc) it a hni its.toArray) he ⟨hit, show s.heap.IsTuple a its.toArray from p⟩ fun h' eb => ⟨rfl, I.turned (t' := s.toks) (fun b o hb q => eb b o hb q) f0 f1 f3 f4 f5⟩
  self := fun A i s Q E st h => by
    obtain ⟨⟨_, he⟩, _⟩ := st
    exact wpAny_pyIter_enum he h
def iEnumA (K : PySem.W.Frag) (ta : TA) : TI := fun σ H R => ta σ H fun vs H1 => ∃ a xs, vs = [.ref a] ∧ ((SqL K H1 a xs ∧ R (Ite K a) H1) ∨ (SqT K H1 a xs ∧ R (ItEt K a) H1))
theorem pi_enA {X : Cx} {e : Expr} {ta : TA} {p pos tpos : Pos} {elts : List Expr} {kk : Nat} (hg : Gl X "enumerate") (hm : X.mg "enumerate" = none) (ha : PA X [e] ta) (hs : starEach [e] X.env = [(false, eval e X.env)]) :
    PI X (.Tuple elts kk tpos) (.Call (.Name "enumerate" p) [e] [] pos) (iEnumA X.K ta) := by
  refine ⟨fun pins s σ H R I h => Call_ (ld_blt I hg hm boot_enumerate (PyProof.Rows.callWith_type1 (thn (ha.run pos pins s σ H _ I h) fun us s1 ⟨vs, H1, I1, r1, a, xs, ex, q⟩ => ?_) hs rfl))⟩
  subst ex
  cases r1 with
  | cons r rr =>
    cases rr
    cases r
    have hle : ∀ b, b = s1.heap.objs.size + 1 ∨ b = s1.heap.objs.size → s1.heap.objs.size ≤ b := fun b z => by omega
    rcases q with ⟨hq, q⟩ | ⟨hq, q⟩
    · obtain ⟨its, rv, p', hz⟩ := I1.list hq
      refine call_enumerate_list p'.isList fun h' he hit hsz hk => wpAny_pyIter_enum he ?_
      exact ⟨s1.heap.objs.size + 1, [s1.heap.objs.size + 1, s1.heap.objs.size], _, _, H1, rfl, I1.kept (t' := s1.toks) hk, turn_enum a _ _, ⟨⟨.none, he⟩, hit, Nat.succ_ne_self _⟩, fun b hb => I1.fpOk (hle b (by simpa using hb)) (I1.hok.fresh (hle b (by simpa using hb))), q⟩
    · obtain ⟨its, rv, p', hz⟩ := I1.tuple hq
      have hal : a < s1.heap.objs.size := by obtain ⟨o, ho, _⟩ := (show s1.heap.IsTuple a its.toArray from p'); exact Heap.lt_size ho
      refine en_call (show s1.heap.IsTuple a its.toArray from p') fun h' he hit hk => wpAny_pyIter_enum he ?_
      exact ⟨s1.heap.objs.size + 1, [s1.heap.objs.size + 1, s1.heap.objs.size], _, _, H1, rfl, I1.kept (t' := s1.toks) hk, turn_enT a _ _, ⟨⟨.none, he⟩, hit, Nat.succ_ne_self _, Nat.ne_of_gt (Nat.lt_succ_of_lt hal), Nat.ne_of_lt hal⟩, fun b hb => I1.fpOk (hle b (by simpa using hb)) (I1.hok.fresh (hle b (by simpa using hb))), q⟩

/-! ### by values -/
def enD : Nat → List D → List D
  | _, [] => []
  | i, d :: ds => .tup [.int i, d] :: enD (i + 1) ds
theorem enD_get : ∀ {ds : List D} {k i : Nat} {d : D}, (enD k ds)[i]? = some d → ∃ x, ds[i]? = some x ∧ d = .tup [.int (k + i : Nat), x]
  | [], _, _, _, h => by simp [enD] at h
  | x :: ds, k, 0, d, h => by simp [enD] at h; exact ⟨x, rfl, h.symm⟩
  | x :: ds, k, i + 1, d, h => by
    simp [enD] at h
    obtain ⟨y, h1, h2⟩ := enD_get h
    exact ⟨y, by simpa using h1, by rw [h2, show k + 1 + i = k + (i + 1) by omega]⟩
theorem enD_len : ∀ {ds : List D} {k : Nat}, (enD k ds).length = ds.length
  | [], _ => rfl
  | x :: ds, k => by simp [enD, enD_len]
def oGd (x : D) (as : List D) : Mem → Bool := match x with
  | .ref a => gL a as
  | _ => gT
theorem oGd_of {x : D} {as : List D} {m : Mem} (h : oGd x as m = true) : ∀ a, x = .ref a → (m : List O)[a]? = some (.lst as) := by
  intro a e
  subst e
  exact gL_of h
def enOf (m : Mem) (x : D) : Option IterV := match x with
  | .tup as => some ⟨enD 0 as, gT⟩
  | x => match lstOf m x with
    | some as => some ⟨enD 0 as, oGd x as⟩
    | none => none
def dEnum (f : EV) : IV := fun env m => (f env m).bind fun x m1 => match enOf m1 x with
  | some iv => .ok iv m1
  | none => .bad
section
variable {X : Cx} {G : Gd} {W : WX} {f : EV} {a : Expr} {pos : Pos}
theorem i_enum {p tpos : Pos} {elts : List Expr} {kk : Nat} (hK : G.K = X.K) (hg : Gl X "enumerate") (hm : X.mg "enumerate" = none) (hn : notStar a = true) (ha : PE X a (tOf G W f)) :
    PI X (.Tuple elts kk tpos) (.Call (.Name "enumerate" p) [a] [] pos) (iOf G W (dEnum f)) := by
  refine PI.wk (pi_enA hg hm (pa_cons ha pa_nil (star_of hn)) (star_of hn)) fun σ H Q ⟨T, env, m, e, S, re, q⟩ => ?_
  subst e
  obtain ⟨p1, p2, p3⟩ := bindPI q
  refine stepE S re p1 p2 fun x m1 T1 v e1 E1 S1 re1 r1 => ?_
  have q := postI_ext E1 (p3 x m1 e1)
  have lists : (match lstOf m1 x with
    | some as => some (⟨enD 0 as, oGd x as⟩ : IterV)
    | none => none) = enOf m1 x → ∃ a xs, [v] = [V.ref a] ∧ ((SqL X.K T1.H a xs ∧ Q (Ite X.K a) T1.H) ∨ (SqT X.K T1.H a xs ∧ Q (ItEt X.K a) T1.H)) := fun e => by
    rw [← e] at q
    cases ex : lstOf m1 x with
    | none => rw [ex] at q; exact q.elim
    | some as =>
      rw [ex] at q
      obtain ⟨pa, va, rfl, ha, ra⟩ := r1.list S1 ex
      rw [hK] at ha
      have later : ∀ (T : Tie) (m : Mem), Ext T1 T → Sim G T m → oGd x as m = true → ∃ va, SqL X.K T.H pa va ∧ RDs G T as va := fun T m E S gd => by
        obtain ⟨p1, va, e1, h1, k1⟩ := lst_later S1 r1 ex E S (oGd_of gd)
        cases e1
        rw [hK] at h1
        exact ⟨va, h1, k1⟩
      refine ⟨pa, va, rfl, .inl ⟨ha, q T1 _ (Ext.refl _) S1 ⟨fun T m i d E S g e => ?_, fun T m E S g => ?_⟩⟩⟩
      · obtain ⟨y, ey, rfl⟩ := enD_get e
        obtain ⟨va, h1, ra'⟩ := later T m E S g
        obtain ⟨v1, f1, g1⟩ := ra'.get ey
        refine ⟨⟨va, v1, h1, f1⟩, fun z H' ⟨t, x1, e3, e4, e5, e6⟩ => ?_⟩
        subst e3; subst e5
        have k1 := e6 va h1
        rw [f1] at k1; cases k1
        have E' := ext_frz (o := .tup [.int (i : Nat), v1]) S e4
        refine ⟨T.frz t (.tup [.int (i : Nat), v1]), rfl, E', sim_frz S e4, .tup (.of upd_same) (.cons ?_ (.cons (E'.rd S _ _ g1) .nil))⟩
        rw [Nat.zero_add]; exact .int _
      · obtain ⟨va, h1, ra'⟩ := later T m E S g
        refine ⟨va, h1, ?_⟩
        rw [← ra'.length]
        exact Nat.le_of_eq enD_len.symm
  cases x with
  | tup as =>
    obtain ⟨pa, va, rfl, ha, ra⟩ := r1.tupl
    replace q : postI G T1 (WS W σ) (.ok ⟨enD 0 as, gT⟩ m1) Q := q
    refine ⟨pa, va, rfl, .inr ⟨by rw [← hK]; exact ha, q T1 _ (Ext.refl _) S1 ⟨fun T m i d E S g e => ?_, fun T m E S g => ?_⟩⟩⟩
    · obtain ⟨y, ey, rfl⟩ := enD_get e
      have ra' := E.rds S1 _ _ ra
      have h1 : SqT X.K T.H pa va := by rw [← hK]; exact E.sqT S1 ha
      obtain ⟨v1, f1, g1⟩ := ra'.get ey
      refine ⟨⟨va, v1, h1, f1⟩, fun z H' ⟨t, x1, e3, e4, e5, e6⟩ => ?_⟩
      subst e3; subst e5
      have k1 := e6 va h1
      rw [f1] at k1; cases k1
      have E' := ext_frz (o := .tup [.int (i : Nat), v1]) S e4
      refine ⟨T.frz t (.tup [.int (i : Nat), v1]), rfl, E', sim_frz S e4, .tup (.of upd_same) (.cons ?_ (.cons (E'.rd S _ _ g1) .nil))⟩
      rw [Nat.zero_add]; exact .int _
    · refine ⟨va, by rw [← hK]; exact E.sqT S1 ha, ?_⟩
      rw [← ra.length]
      exact enD_len.symm
  | _ => exact lists rfl
end
end Itp
set_option Elab.async false
set_option linter.all false
set_option maxRecDepth 100000
/-! Itp G: comprehensions. -/
namespace Itp
open PySem PySem.Spec PyProof.Rows L2
/-- the turns of a comprehension -/
def loopC (gd : Mem → Bool) (body : D → Mem → R (Option D)) : List D → List D → Mem → R (List D)
  | [], acc, m => if gd m then .ok acc m else .bad
  | d :: ds, acc, m => if gd m then (body d m).bind fun o m1 => match o with
      | some y => if acc.length < SZ then loopC gd body ds (acc ++ [y]) m1 else .bad
      | none => loopC gd body ds acc m1
    else .bad
def wipeE (env : Env) : List Nat → Env
  | [] => env
  | v :: vs => (wipeE env vs).set v none
def dNil : TV := fun _ m => .ok true m
def bodyC (vs : List Nat) (p : Pat) (t : TV) (f : EV) (env : Env) (d : D) (m : Mem) : R (Option D) :=
  match bindD p d (wipeE env vs) with
  | none => .bad
  | some env' => (noex (t env' m)).bind fun b m1 => if b then (noex (f env' m1)).bind fun y m2 => .ok (some y) m2 else .ok none m1
def dLc (mt : Bool) (vs : List Nat) (it : IV) (p : Pat) (t : TV) (f : EV) : EV := fun env m => (it env m).bind fun iv m1 =>
  (loopC iv.gd (bodyC vs p t f env) iv.its [] m1).bind fun acc m2 => mkL mt acc m2

section
variable {X : Cx} {G : Gd} {W : WX} {T T' : Tie} {m : Mem} {env : Env} {σ : L2.St} {H : Hp} {tg a b c : Expr} {pos : Pos} {f g k : EV}

theorem loopC_nil {gd : Mem → Bool} {body : D → Mem → R (Option D)} {acc : List D} {m : Mem} (h : gd m) : loopC gd body [] acc m = .ok acc m := by unfold loopC; rw [if_pos h]
theorem loopC_no {gd : Mem → Bool} {body : D → Mem → R (Option D)} {ds acc : List D} {m : Mem} (h : ¬ gd m) : loopC gd body ds acc m = .bad := by cases ds <;> (unfold loopC; rw [if_neg h])
theorem loopC_cons {gd : Mem → Bool} {body : D → Mem → R (Option D)} {d : D} {ds acc : List D} {m : Mem} (h : gd m) : loopC gd body (d :: ds) acc m = (body d m).bind fun o m1 => match o with
      | some y => if acc.length < SZ then loopC gd body ds (acc ++ [y]) m1 else .bad
      | none => loopC gd body ds acc m1 := by
  conv => lhs; unfold loopC
  rw [if_pos h]
mutual
theorem rd_mono {T T' : Tie} (hH : T'.H = T.H) (hm : T.mu <+: T'.mu) (ho : ∀ q, T'.own q → T.own q) : ∀ (d : D) (v : V), RD G T d v → RD G T' d v
  | .non, _, h => by cases h; exact .non
  | .bl _, _, h => by cases h; exact .bl _
  | .int _, _, h => by cases h; exact .int _
  | .str _, _, h => by cases h; exact .str _
  | .tup ds, _, h => by
    cases h with
    | tup h1 h2 => exact .tup (by rw [hH]; exact h1) (rds_mono hH hm ho ds _ h2)
  | .fl ds, _, h => by
    cases h with
    | fl h1 n h2 => exact .fl (by rw [hH]; exact h1) (fun z => n (ho _ z)) (rds_mono hH hm ho ds _ h2)
  | .sc ds, _, h => by
    cases h with
    | sc h1 h2 => exact .sc (by rw [hH]; exact h1) (rds_mono hH hm ho ds _ h2)
  | .ref a, _, h => by
    cases h with
    | ref h1 =>
      obtain ⟨t, e⟩ := hm
      refine .ref ?_
      rw [← e, List.getElem?_append_left (List.getElem?_eq_some_iff.mp h1).1]
      exact h1
theorem rds_mono {T T' : Tie} (hH : T'.H = T.H) (hm : T.mu <+: T'.mu) (ho : ∀ q, T'.own q → T.own q) : ∀ (ds : List D) (vs : List V), RDs G T ds vs → RDs G T' ds vs
  | [], _, h => by cases h; exact .nil
  | d :: ds, _, h => by
    cases h with
    | cons h1 h2 => exact .cons (rd_mono hH hm ho d _ h1) (rds_mono hH hm ho ds _ h2)
end
theorem rfs_mono {T T' : Tie} (hH : T'.H = T.H) (hm : T.mu <+: T'.mu) (ho : ∀ q, T'.own q → T.own q) : ∀ {fs : List (Str × D)} {gs : List (Str × V)}, RFs G T fs gs → RFs G T' fs gs
  | _, _, .nil => .nil
  | _, _, .cons r t => .cons (rd_mono hH hm ho _ _ r) (rfs_mono hH hm ho t)
theorem rks_mono {T T' : Tie} (hH : T'.H = T.H) (hm : T.mu <+: T'.mu) (ho : ∀ q, T'.own q → T.own q) : ∀ {fs : List (Ky × D)} {gs : List (Key × V)}, RKs G T fs gs → RKs G T' fs gs
  | _, _, .nil => .nil
  | _, _, .cons r t => .cons (rd_mono hH hm ho _ _ r) (rks_mono hH hm ho t)
theorem ro_mono {T T' : Tie} (hH : T'.H = T.H) (hm : T.mu <+: T'.mu) (ho : ∀ q, T'.own q → T.own q) {p : Addr} {o : O} (h : RO G T p o) : RO G T' p o := by
  cases o with
  | lst ds => obtain ⟨vs, h1, r⟩ := h; exact ⟨vs, by rw [hH]; exact h1, rds_mono hH hm ho _ _ r⟩
  | dk kvs => obtain ⟨ks, h1, r⟩ := h; exact ⟨ks, by rw [hH]; exact h1, rks_mono hH hm ho r⟩
  | ins c fs => obtain ⟨dx, gs, h1, r, rn⟩ := h; exact ⟨dx, gs, by rw [hH]; exact h1, rfs_mono hH hm ho r, rn⟩
theorem wipeE_len (env : Env) : ∀ vs, (wipeE env vs).length = env.length
  | [] => rfl
  | v :: vs => by unfold wipeE; rw [List.length_set, wipeE_len env vs]
theorem renv_wipe (hx : G.xs = none) (re : REnv G T env σ) : ∀ vs, REnv G T (wipeE env vs) (wipe σ vs)
  | [] => re
  | v :: vs => by
    obtain ⟨h1, h2, h3⟩ := renv_wipe hx re vs
    refine ⟨by unfold wipeE wipe; rw [List.length_set, List.length_set, h1], fun i d e => ?_, fun z e => by rw [hx] at e; cases e⟩
    unfold wipeE at e
    unfold wipe
    by_cases c : i = v
    · subst c
      have hi : i < (wipeE env vs).length := by
        have := (List.getElem?_eq_some_iff.mp e).1
        simpa using this
      rw [List.getElem?_set_self hi] at e
      cases e
    · rw [List.getElem?_set_ne (Ne.symm c)] at e
      rw [List.getElem?_set_ne (Ne.symm c)]
      exact h2 i d e
theorem wipe_get {σ : L2.St} {i : Nat} : ∀ {vs : List Nat}, (wipe σ vs)[i]? = if i ∈ vs then (if i < σ.length then some none else none) else σ[i]?
  | [] => by simp [wipe]
  | v :: vs => by
    unfold wipe
    by_cases c : i = v
    · subst c
      rw [if_pos List.mem_cons_self]
      by_cases h : i < σ.length
      · rw [if_pos h, List.getElem?_set_self (by rw [wipe_length]; exact h)]
      · rw [if_neg h]
        exact List.getElem?_eq_none (by rw [List.length_set, wipe_length]; omega)
    · rw [List.getElem?_set_ne (Ne.symm c), wipe_get (vs := vs)]
      by_cases h : i ∈ vs
      · rw [if_pos h, if_pos (List.mem_cons_of_mem _ h)]
      · rw [if_neg h, if_neg]
        intro z
        rcases List.mem_cons.mp z with z | z
        · exact c z
        · exact h z
theorem wipe_only {is vs : List Nat} {σ σ' : L2.St} (o : OnlyAt is (wipe σ vs) σ') (h : ∀ i ∈ is, i ∈ vs) : wipe σ' vs = wipe σ vs := by
  apply List.ext_getElem?
  intro i
  rw [wipe_get, wipe_get]
  have hl : σ'.length = σ.length := by rw [o.1, wipe_length]
  by_cases c : i ∈ vs
  · rw [if_pos c, if_pos c, hl]
  · rw [if_neg c, if_neg c, o.2 i fun z => c (h i z), wipe_get, if_neg c]

/-- an address that is ours beside the memory: the list that a comprehension makes -/
def Tie.res (T : Tie) (p : Addr) (o : HO) : Tie := ⟨T.mu, fun q => T.own q ∨ q = p, upd T.H p o⟩
theorem ext_res (S : Sim G T m) {p : Addr} {o : HO} (hp : T.H p = none) : Ext T (T.res p o) :=
  ⟨List.prefix_refl _, fun q u h n => by
    have ne : q ≠ p := fun e => by rw [e, hp] at h; cases h
    exact ⟨by show upd T.H p o q = _; rw [upd_ne ne]; exact h, n, ⟨fun z => z.resolve_right ne, .inl⟩⟩⟩
theorem sim_res (S : Sim G T m) {p : Addr} {o : HO} (hp : T.H p = none) : Sim G (T.res p o) m :=
  ⟨fun q h => .inl (S.sub q h), S.nd, S.len, fun i u q h1 h2 => (S.obj i u q h1 h2).ext (ext_res S hp) S (upd_ne (S.ne hp (List.mem_of_getElem? h2)))⟩

mutual
theorem rd_chg (S : Sim G T m) {p : Addr} {xs : List V} {o : HO} (hp : T.H p = some (.lst xs)) (ho : T.own p) : ∀ (d : D) (v : V), RD G T d v → RD G (T.chg p o) d v
  | .non, _, h => by cases h; exact .non
  | .bl _, _, h => by cases h; exact .bl _
  | .int _, _, h => by cases h; exact .int _
  | .str _, _, h => by cases h; exact .str _
  | .tup ds, _, h => by
    cases h with
    | tup h1 h2 =>
      rename_i q vs
      refine .tup ?_ (rds_chg S hp ho ds _ h2)
      rcases h1 with (h1 | ⟨o, h1⟩) | h1
      · exact .inl (.inl (by show upd T.H p _ q = _; rw [upd_ne (fun e => by rw [e, hp] at h1; cases h1)]; exact h1))
      · exact .inl (.inr ⟨o, by show upd T.H p _ q = _; rw [upd_ne (fun e => by rw [e, hp] at h1; cases h1)]; exact h1⟩)
      · exact .inr h1
  | .fl ds, _, h => by
    cases h with
    | fl h1 n h2 =>
      rename_i q vs
      refine .fl ?_ n (rds_chg S hp ho ds _ h2)
      show upd T.H p _ q = _
      rw [upd_ne (fun e => n (by rw [e]; exact ho))]
      exact h1
  | .sc ds, _, h => by
    cases h with
    | sc h1 h2 =>
      rename_i q vs
      refine .sc ?_ (rds_chg S hp ho ds _ h2)
      rcases h1 with ⟨o, h1⟩ | h1
      · refine .inl ⟨o, ?_⟩
        show upd T.H p _ q = _
        rw [upd_ne (fun e => by rw [e, hp] at h1; cases h1)]
        exact h1
      · exact .inr h1
  | .ref a, _, h => by cases h with | ref h1 => exact .ref h1
theorem rds_chg (S : Sim G T m) {p : Addr} {xs : List V} {o : HO} (hp : T.H p = some (.lst xs)) (ho : T.own p) : ∀ (ds : List D) (vs : List V), RDs G T ds vs → RDs G (T.chg p o) ds vs
  | [], _, h => by cases h; exact .nil
  | d :: ds, _, h => by
    cases h with
    | cons h1 h2 => exact .cons (rd_chg S hp ho d _ h1) (rds_chg S hp ho ds _ h2)
end
theorem rfs_chg (S : Sim G T m) {p : Addr} {xs : List V} {o : HO} (hp : T.H p = some (.lst xs)) (ho : T.own p) : ∀ {fs : List (Str × D)} {gs : List (Str × V)}, RFs G T fs gs → RFs G (T.chg p o) fs gs
  | _, _, .nil => .nil
  | _, _, .cons r t => .cons (rd_chg S hp ho _ _ r) (rfs_chg S hp ho t)
theorem rks_chg (S : Sim G T m) {p : Addr} {xs : List V} {o : HO} (hp : T.H p = some (.lst xs)) (ho : T.own p) : ∀ {fs : List (Ky × D)} {gs : List (Key × V)}, RKs G T fs gs → RKs G (T.chg p o) fs gs
  | _, _, .nil => .nil
  | _, _, .cons r t => .cons (rd_chg S hp ho _ _ r) (rks_chg S hp ho t)
theorem sim_chgr (S : Sim G T m) {p : Addr} {xs : List V} {o : HO} (hp : T.H p = some (.lst xs)) (ho : T.own p) (np : p ∉ T.mu) : Sim G (T.chg p o) m := by
  refine ⟨S.sub, S.nd, S.len, fun i u q h1 h2 => ?_⟩
  have ne : q ≠ p := fun e => np (e ▸ List.mem_of_getElem? h2)
  have h := S.obj i u q h1 h2
  have e : (T.chg p o).H q = T.H q := upd_ne ne
  cases u with
  | lst ds => obtain ⟨vs, h1, r⟩ := h; exact ⟨vs, by rw [e]; exact h1, rds_chg S hp ho _ _ r⟩
  | dk kvs => obtain ⟨ks, h1, r⟩ := h; exact ⟨ks, by rw [e]; exact h1, rks_chg S hp ho r⟩
  | ins c fs => obtain ⟨dx, gs, h1, r, rn⟩ := h; exact ⟨dx, gs, by rw [e]; exact h1, rfs_chg S hp ho r, rn⟩

theorem loopC_noex {gd : Mem → Bool} {vs : List Nat} {p : Pat} {t : TV} {f : EV} {env : Env} : ∀ {ds acc : List D} {m : Mem} {e : Exn} {m1 : Mem}, loopC gd (bodyC vs p t f env) ds acc m ≠ .ex e m1
  | [], acc, m, e, m1 => by unfold loopC; split <;> nofun
  | d :: ds, acc, m, e, m1 => by
    unfold loopC
    split
    · cases hb : bodyC vs p t f env d m with
      | bad => nofun
      | ex x m2 =>
        exfalso
        unfold bodyC at hb
        split at hb
        · cases hb
        · rename_i env' _
          cases ht : noex (t env' m) with
          | bad => rw [ht] at hb; cases hb
          | ex x2 m3 => unfold noex at ht; split at ht <;> cases ht
          | ok b m3 =>
            rw [ht] at hb
            dsimp only [R.bind] at hb
            split at hb
            · cases hf : noex (f env' m3) with
              | bad => rw [hf] at hb; cases hb
              | ex x2 m3 => unfold noex at hf; split at hf <;> cases hf
              | ok y m4 => rw [hf] at hb; cases hb
            · cases hb
      | ok o m2 =>
        dsimp only [R.bind]
        cases o with
        | none => exact loopC_noex
        | some y =>
          dsimp only
          split
          · exact loopC_noex
          · nofun
    · nofun

/-- the heart: a comprehension's reading -/
theorem lc_read (hxn : G.xs = none) {mt : Bool} {vs : List Nat} {it : IV} {p : Pat} {t : TV} {Q : VK} (hv : ∀ i ∈ p.slots, i ∈ vs) (q : tOf G W (dLc mt vs it p t f) σ H Q) :
    tLc (iOf G W it) (gOf G p) (ttOf G (fun _ _ _ _ => False) t) (tOf G (fun _ _ _ _ => False) f) vs σ H Q := by
  obtain ⟨T0, env, m0, e, S0, re0, q⟩ := q
  subst e
  obtain ⟨p1, p2, p3⟩ := bindP q
  refine ⟨T0, env, m0, rfl, S0, re0, ?_⟩
  cases e0 : it env m0 with
  | bad => exact p1 e0
  | ex x m1 => exact p2 x m1 e0
  | ok iv m1 =>
  intro T1 J E1 S1 hJ D0 hD
  have q1 := post_ext E1 (p3 iv m1 e0)
  generalize hRR : loopC iv.gd (bodyC vs p t f env) iv.its [] m1 = RR at q1
  have re1 := re0.ext E1 S0
  have er := ext_res (o := .lst []) S1 hD
  have sr := sim_res (o := .lst []) S1 hD
  -- the invariant
  refine ⟨fun i k H => k = iv.its.length - i ∧ i ≤ iv.its.length ∧ ∃ (T : Tie) (m : Mem) (acc : List D) (vacc : List V), T.H = H ∧ Ext T1 T ∧ Sim G T m ∧ T.own D0 ∧ D0 ∉ T.mu ∧ T.H D0 = some (.lst vacc) ∧ RDs G T acc vacc ∧
      loopC iv.gd (bodyC vs p t f env) (iv.its.drop i) acc m = RR, ⟨_, rfl, Nat.zero_le _, T1.res D0 (.lst []), m1, [], [], rfl, er, sr, .inr rfl, fun z => S1.ne hD z rfl, upd_same, .nil, hRR⟩, ?_⟩
  rintro i k H ⟨rfl, hi, T, m, acc, vacc, rfl, E, S, hown, hnm, hH, ra, hl⟩
  by_cases hlt : i < iv.its.length
  · right
    have ed : iv.its.drop i = iv.its[i] :: iv.its.drop (i + 1) := List.drop_eq_getElem_cons hlt
    rw [ed] at hl
    have ei : iv.its[i]? = some iv.its[i] := List.getElem?_eq_getElem hlt
    -- not bad
    obtain ⟨b1, _, b3⟩ := bindP q1
    by_cases hg : iv.gd m
    · obtain ⟨hgo, hy⟩ := hJ.step T m i _ E S hg ei
      refine ⟨hgo, fun H' => ∃ (T' : Tie) (m' : Mem) (acc' : List D) (vacc' : List V), T'.H = H' ∧ Ext T1 T' ∧ Sim G T' m' ∧ T'.own D0 ∧ D0 ∉ T'.mu ∧ T'.H D0 = some (.lst vacc') ∧ RDs G T' acc' vacc' ∧
          loopC iv.gd (bodyC vs p t f env) (iv.its.drop (i + 1)) acc' m' = RR, fun H' h' => ⟨_, by omega, rfl, hlt, h'⟩, fun x H' yl => ?_⟩
      obtain ⟨T2, rfl, E2, S2, r2⟩ := hy x H' yl
      have E12 := E.trans E2
      have re2 := re1.ext E12 S1
      have hl2 := hl
      rw [loopC_cons hg] at hl2
      have nb : ∀ {r : R (Option D)}, bodyC vs p t f env iv.its[i] m = r → r ≠ .bad := fun {r} e1 e2 => by
        rw [e1, e2] at hl2
        exact b1 hl2.symm
      cases eb : bindD p iv.its[i] (wipeE env vs) with
      | none => exact (nb (r := .bad) (by unfold bodyC; rw [eb]) rfl).elim
      | some env' =>
        have eB : bodyC vs p t f env iv.its[i] m = (noex (t env' m)).bind fun b m1 => if b then (noex (f env' m1)).bind fun y m2 => .ok (some y) m2 else .ok none m1 := by unfold bodyC; rw [eb]
        refine ⟨T2, wipeE env vs, m, _, env', rfl, S2, renv_wipe hxn re2 vs, r2, eb, fun σ' re' o' => ⟨wipe_only o' hv, ?_⟩⟩
        refine ⟨T2, env', m, rfl, S2, re', ?_⟩
        cases et : t env' m with
        | bad => exact nb (r := .bad) (by rw [eB, et]; rfl) rfl
        | ex x m2 => exact (nb (r := .bad) (by rw [eB, et]; rfl) rfl).elim
        | ok bb m2 =>
          intro T3 E3 S3
          have k3 := E2.keep D0 _ hH hnm
          have k4 := E3.keep D0 _ k3.1 k3.2.1
          cases bb with
          | false =>
            rw [if_neg Bool.false_ne_true]
            have eB2 : bodyC vs p t f env iv.its[i] m = .ok none m2 := by rw [eB, et]; rfl
            rw [eB2] at hl2
            exact ⟨T3, m2, acc, vacc, rfl, E12.trans E3, S3, k4.2.2.mpr (k3.2.2.mpr hown), k4.2.1, k4.1, E3.rds S2 _ _ (E2.rds S _ _ ra), hl2⟩
          | true =>
            rw [if_pos rfl]
            refine ⟨T3, env', m2, rfl, S3, re'.ext E3 S2, ?_⟩
            cases ef : f env' m2 with
            | bad => exact nb (r := .bad) (by rw [eB, et]; show (noex (f env' m2)).bind _ = _; rw [ef]; rfl) rfl
            | ex x m3 => exact (nb (r := .bad) (by rw [eB, et]; show (noex (f env' m2)).bind _ = _; rw [ef]; rfl) rfl).elim
            | ok y m3 =>
              intro T4 v4 E4 S4 r4
              have k5 := E4.keep D0 _ k4.1 k4.2.1
              have ho4 := k5.2.2.mpr (k4.2.2.mpr (k3.2.2.mpr hown))
              have eB2 : bodyC vs p t f env iv.its[i] m = .ok (some y) m3 := by rw [eB, et]; show (noex (f env' m2)).bind _ = _; rw [ef]; rfl
              rw [eB2] at hl2
              replace hl2 : (if acc.length < SZ then loopC iv.gd (bodyC vs p t f env) (iv.its.drop (i + 1)) (acc ++ [y]) m3 else .bad) = RR := hl2
              by_cases hz : acc.length < SZ
              · rw [if_pos hz] at hl2
                have ra4 := E4.rds S3 _ _ (E3.rds S2 _ _ (E2.rds S _ _ ra))
                refine ⟨vacc, k5.1, by rw [← ra4.length, ← SZ_eq]; exact hz, T4.chg D0 (.lst (vacc ++ [v4])), m3, acc ++ [y], vacc ++ [v4], rfl, ?_, sim_chgr S4 k5.1 ho4 k5.2.1, ho4, k5.2.1, upd_same, rds_chg S4 k5.1 ho4 _ _ (ra4.append (.cons r4 .nil)), hl2⟩
                have E14 := ((E12.trans E3).trans E4)
                refine ⟨E14.pre, fun q u h n => ?_⟩
                have ne : q ≠ D0 := fun e => by rw [e, hD] at h; cases h
                obtain ⟨z1, z2, z3⟩ := E14.keep q u h n
                exact ⟨by show upd T4.H D0 _ q = _; rw [upd_ne ne]; exact z1, z2, z3⟩
              · rw [if_neg hz] at hl2
                exact (b1 hl2.symm).elim
    · exfalso
      rw [loopC_no hg] at hl
      exact b1 hl.symm
  · left
    have e2 : i = iv.its.length := by omega
    subst e2
    rw [List.drop_length] at hl
    obtain ⟨b1, _, b3⟩ := bindP q1
    by_cases hg : iv.gd m
    · rw [loopC_nil hg] at hl
      refine ⟨hJ.stop T m E S hg, ?_⟩
      have q2 := b3 acc m hl.symm
      have hz := mkL_len q2
      unfold mkL at q2
      have hz' : acc.length ≤ SZ := by rw [SZ_eq]; exact hz
      rw [if_pos hz'] at q2
      cases mt with
      | true =>
        rw [if_pos rfl] at q2
        refine q2 ⟨T.mu ++ [D0], T.own, T.H⟩ (.ref D0) ⟨E.pre.trans (List.prefix_append _ _), fun q u h n => ?_⟩ ⟨fun q h => ?_, ?_, by simp [S.len], fun j w q h1 h2 => ?_⟩ (.ref (by show (T.mu ++ [D0])[m.length]? = _; rw [← S.len]; simp))
        · obtain ⟨z1, z2, z3⟩ := E.keep q u h n
          refine ⟨z1, fun z => ?_, z3⟩
          rcases List.mem_append.mp z with z | z
          · exact z2 z
          · have : q = D0 := by simpa using z
            rw [this, hD] at h; cases h
        · rcases List.mem_append.mp h with z | z
          · exact S.sub q z
          · have : q = D0 := by simpa using z
            rw [this]; exact hown
        · show (T.mu ++ [D0]).Nodup
          rw [List.nodup_append]
          refine ⟨S.nd, by simp, fun a ha b hb => ?_⟩
          have : b = D0 := by simpa using hb
          subst this
          exact fun e => hnm (e ▸ ha)
        · have h2' : (T.mu ++ [D0])[j]? = some q := h2
          by_cases c : j < m.length
          · rw [List.getElem?_append_left c] at h1
            rw [List.getElem?_append_left (by rw [S.len]; exact c)] at h2'
            exact ro_mono (T := T) (T' := ⟨T.mu ++ [D0], T.own, T.H⟩) rfl (List.prefix_append _ _) (fun _ z => z) (S.obj j w q h1 h2')
          · have c2 : j = m.length := by
              have := (List.getElem?_eq_some_iff.mp h1).1
              simp at this; omega
            subst c2
            rw [List.getElem?_append_right (by omega)] at h1
            rw [List.getElem?_append_right (by rw [S.len]; omega)] at h2'
            simp [S.len] at h1 h2'
            subst h1; subst h2'
            exact ⟨vacc, hH, rds_mono (T := T) (T' := ⟨T.mu ++ [D0], T.own, T.H⟩) rfl (List.prefix_append _ _) (fun _ z => z) _ _ ra⟩
      | false =>
        rw [if_neg Bool.false_ne_true] at q2
        have mono : ∀ q, (fun q => T.own q ∧ q ≠ D0) q → T.own q := fun q z => z.1
        refine q2 ⟨T.mu, fun q => T.own q ∧ q ≠ D0, T.H⟩ (.ref D0) ⟨E.pre, fun q u h n => ?_⟩ ⟨fun q h => ⟨S.sub q h, fun e => hnm (e ▸ h)⟩, S.nd, S.len, fun j w q h1 h2 => ro_mono (T := T) (T' := ⟨T.mu, fun q => T.own q ∧ q ≠ D0, T.H⟩) rfl (List.prefix_refl _) mono (S.obj j w q h1 h2)⟩
          (.fl hH (fun z => z.2 rfl) (rds_mono (T := T) (T' := ⟨T.mu, fun q => T.own q ∧ q ≠ D0, T.H⟩) rfl (List.prefix_refl _) mono _ _ ra))
        obtain ⟨z1, z2, z3⟩ := E.keep q u h n
        have ne : q ≠ D0 := fun e => by rw [e, hD] at h; cases h
        exact ⟨z1, z2, fun z => z3.mp z.1, fun z => ⟨z3.mpr z, ne⟩⟩
    · rw [loopC_no hg] at hl
      exact (b1 hl.symm).elim
end
end Itp
set_option Elab.async false
set_option linter.all false
set_option maxRecDepth 100000
/-! Itp H: statements. -/
namespace Itp
open PySem PySem.Spec PyProof.Rows L2

inductive Fl where
  | nx | brk | cont | ret (d : D)
inductive RS where
  | ok (f : Fl) (env : Env) (m : Mem)
  | ex (e : Exn) (env : Env) (m : Mem)
  | bad
abbrev SV := Env → Mem → RS

def ofE {α : Type} (r : R α) (env : Env) (k : α → Mem → RS) : RS :=
  match r with
  | .ok a m => k a m
  | .ex e m => .ex e env m
  | .bad => .bad
def sNil : SV := fun env m => .ok .nx env m
def sSeq (f g : SV) : SV := fun env m => match f env m with
  | .ok .nx env' m' => g env' m'
  | r => r
def sRet (f : EV) : SV := fun env m => ofE (f env m) env fun d m1 => .ok (.ret d) env m1
def sRetN : SV := fun env m => .ok (.ret .non) env m
def sBrk : SV := fun env m => .ok .brk env m
def sCont : SV := fun env m => .ok .cont env m
def sDrop (f : EV) : SV := fun env m => ofE (f env m) env fun _ m1 => .ok .nx env m1
def sAsg (p : Pat) (f : EV) : SV := fun env m => ofE (f env m) env fun d m1 => match bindD p d env with
  | some env' => .ok .nx env' m1
  | none => .bad
def sPar (i j : Nat) (f g : EV) : SV := fun env m => ofE (f env m) env fun d m1 => ofE (g env m1) env fun e m2 => .ok .nx ((env.set i (some d)).set j (some e)) m2
def sPar3 (i j l : Nat) (f g h : EV) : SV := fun env m => ofE (f env m) env fun d m1 => ofE (g env m1) env fun e m2 => ofE (h env m2) env fun r m3 => .ok .nx (((env.set i (some d)).set j (some e)).set l (some r)) m3
def sIf (t : TV) (f g : SV) : SV := fun env m => ofE (t env m) env fun b m1 => if b then f env m1 else g env m1
def sSub (fv fo fi : EV) : SV := fun env m => ofE (fv env m) env fun v m1 => ofE (fo env m1) env fun o m2 => ofE (fi env m2) env fun i m3 => match setIx o i v m3 with
  | some m4 => .ok .nx env m4
  | none => .bad
def sSetA (cs : List Str) (x : Str) (fv fo : EV) : SV := fun env m => ofE (fv env m) env fun v m1 => ofE (fo env m1) env fun o m2 => match setA cs o x v m2 with
  | some m3 => .ok .nx env m3
  | none => .bad
def loopF (gd : Mem → Bool) (body : D → SV) : List D → SV
  | [], env, m => if gd m then .ok .nx env m else .bad
  | d :: ds, env, m => if gd m then match body d env m with
      | .ok .nx env' m' => loopF gd body ds env' m'
      | .ok .cont env' m' => loopF gd body ds env' m'
      | .ok .brk env' m' => .ok .nx env' m'
      | r => r
    else .bad
def bodyF (p : Pat) (b : SV) (d : D) : SV := fun env m => match bindD p d env with
  | some env' => b env' m
  | none => .bad
def sFor (it : IV) (p : Pat) (b : SV) : SV := fun env m => ofE (it env m) env fun iv m1 => loopF iv.gd (bodyF p b) iv.its env m1
def whileN (t : TV) (b : SV) : Nat → SV
  | 0, _, _ => .bad
  | n + 1, env, m => ofE (t env m) env fun c m1 => if c then match b env m1 with
      | .ok .nx env' m' => whileN t b n env' m'
      | .ok .cont env' m' => whileN t b n env' m'
      | .ok .brk env' m' => .ok .nx env' m'
      | r => r
    else .ok .nx env m1
/-- how often a while may turn -/
@[irreducible] def FU : Nat := 2 ^ 1000001
theorem FU_gt {k : Nat} (h : k ≤ 1000000) : 2 ^ k < FU := by unfold FU; exact Nat.pow_lt_pow_right (by omega) (by omega)
def sWhile (t : TV) (b : SV) : SV := whileN t b FU
def runB (n : Nat) (body : SV) (ds : List D) (m : Mem) : R D :=
  match body (ds.map some ++ List.replicate (n - ds.length) none) m with
  | .ok .nx _ m' => .ok .non m'
  | .ok (.ret d) _ m' => .ok d m'
  | .ex e _ m' => .ex e m'
  | _ => .bad

def spost (G : Gd) (T : Tie) (W : WX) (r : RS) (D : Ends) : Prop :=
  match r with
  | .ok .nx env m => ∀ (T' : Tie) (σ : L2.St), Ext T T' → Sim G T' m → REnv G T' env σ → D.nx σ T'.H
  | .ok .brk env m => ∀ (T' : Tie) (σ : L2.St), Ext T T' → Sim G T' m → REnv G T' env σ → D.bk σ T'.H
  | .ok .cont env m => ∀ (T' : Tie) (σ : L2.St), Ext T T' → Sim G T' m → REnv G T' env σ → D.ct σ T'.H
  | .ok (.ret d) env m => ∀ (T' : Tie) (v : V), Ext T T' → Sim G T' m → RD G T' d v → D.rt v T'.H
  | .ex e env m => ∀ (T' : Tie) (σ : L2.St) (cls : Value) (d : Option Addr), Ext T T' → Sim G T' m → REnv G T' env σ → RX G T' e cls d → W cls d σ T'.H
  | .bad => False
def sOf (G : Gd) (W : WX) (f : SV) : TS := fun D σ H => ∃ T env m, T.H = H ∧ Sim G T m ∧ REnv G T env σ ∧ spost G T W (f env m) D

section
variable {X : Cx} {G : Gd} {W : WX} {T T' : Tie} {m : Mem} {env : Env} {σ : L2.St} {H : Hp} {tg a b c e : Expr} {pos : Pos} {f g k : EV} {st : Stmt} {rest : List Stmt} {s u : SV}

theorem spost_ext {r : RS} {D : Ends} (E : Ext T T') (h : spost G T W r D) : spost G T' W r D := by
  cases r with
  | ok f env m =>
    cases f with
    | nx => exact fun T1 σ E1 => h T1 σ (E.trans E1)
    | brk => exact fun T1 σ E1 => h T1 σ (E.trans E1)
    | cont => exact fun T1 σ E1 => h T1 σ (E.trans E1)
    | ret d => exact fun T1 v E1 => h T1 v (E.trans E1)
  | ex e env m => exact fun T1 σ c d E1 => h T1 σ c d (E.trans E1)
  | bad => exact h
/-- the wants of an expression in a statement -/
theorem bindS {α : Type} {r : R α} {k : α → Mem → RS} {D : Ends} (re : ∀ T1, Ext T T1 → REnv G T1 env σ) (h : spost G T W (ofE r env k) D) :
    r ≠ .bad ∧ (∀ e m1, r = .ex e m1 → ∀ (T1 : Tie) (cls : Value) (d : Option Addr), Ext T T1 → Sim G T1 m1 → RX G T1 e cls d → WS W σ cls d T1.H) ∧ ∀ a m1, r = .ok a m1 → spost G T W (k a m1) D := by
  cases r with
  | bad => exact h.elim
  | ex e m1 => exact ⟨nofun, fun _ _ q => by cases q; exact fun T1 cls d E S x => h T1 σ cls d E S (re T1 E) x, nofun⟩
  | ok a m1 => exact ⟨nofun, nofun, fun _ _ q => by cases q; exact h⟩

theorem s_nil : PSs X [] (sOf G W sNil) := PSs.wk pss_nil fun D σ H ⟨T, env, m, e, S, re, q⟩ => by
  subst e; exact q T σ (Ext.refl _) S re
theorem s_seq (h1 : PS X st (sOf G W s)) (h2 : PSs X rest (sOf G W u)) : PSs X (st :: rest) (sOf G W (sSeq s u)) := by
  refine PSs.wk (pss_cons h1 h2) fun D σ H ⟨T, env, m, e, S, re, q⟩ => ?_
  subst e
  refine ⟨T, env, m, rfl, S, re, ?_⟩
  unfold sSeq at q
  cases e1 : s env m with
  | bad => rw [e1] at q; exact q
  | ex x env' m' => rw [e1] at q; exact q
  | ok fl env' m' =>
    rw [e1] at q
    cases fl with
    | nx => exact fun T1 σ1 E1 S1 re1 => ⟨T1, env', m', rfl, S1, re1, spost_ext E1 q⟩
    | brk => exact q
    | cont => exact q
    | ret d => exact q
theorem s_one (h1 : PS X st (sOf G W s)) : PSs X [st] (sOf G W s) := PSs.wk (pss_one h1) fun _ _ _ q => q
theorem s_ret (h : PE X e (tOf G W f)) : PS X (.Return (some e) pos) (sOf G W (sRet f)) := by
  refine PS.wk (ps_ret h) fun D σ H ⟨T, env, m, e, S, re, q⟩ => ?_
  subst e
  obtain ⟨p1, p2, p3⟩ := bindS (fun T1 E => re.ext E S) q
  exact stepE S re p1 p2 fun d m1 T1 v e1 E1 S1 re1 r1 => spost_ext E1 (p3 d m1 e1) T1 v (Ext.refl _) S1 r1
theorem s_retN : PS X (.Return none pos) (sOf G W sRetN) := PS.wk ps_retN fun D σ H ⟨T, env, m, e, S, re, q⟩ => by
  subst e; exact q T .non (Ext.refl _) S .non
theorem s_pass : PS X (.Pass pos) (sOf G W sNil) := PS.wk ps_pass fun D σ H ⟨T, env, m, e, S, re, q⟩ => by
  subst e; exact q T σ (Ext.refl _) S re
theorem s_doc {x j pos'} : PS X (.Expr (.Constant (.str x) j pos) pos') (sOf G W sNil) := PS.wk ps_doc fun D σ H ⟨T, env, m, e, S, re, q⟩ => by
  subst e; exact q T σ (Ext.refl _) S re
theorem s_brk : PS X (.Break pos) (sOf G W sBrk) := PS.wk ps_break fun D σ H ⟨T, env, m, e, S, re, q⟩ => by
  subst e; exact q T σ (Ext.refl _) S re
theorem s_cont : PS X (.Continue pos) (sOf G W sCont) := PS.wk ps_continue fun D σ H ⟨T, env, m, e, S, re, q⟩ => by
  subst e; exact q T σ (Ext.refl _) S re
theorem s_drop (h : PE X e (tOf G W f)) (hs : swapsWith e none pos.line X.env = pure false) : PS X (.Expr e pos) (sOf G W (sDrop f)) := by
  refine PS.wk (ps_expr h hs) fun D σ H ⟨T, env, m, e, S, re, q⟩ => ?_
  subst e
  obtain ⟨p1, p2, p3⟩ := bindS (fun T1 E => re.ext E S) q
  exact stepE S re p1 p2 fun d m1 T1 v e1 E1 S1 re1 r1 => spost_ext E1 (p3 d m1 e1) T1 σ (Ext.refl _) S1 re1
theorem asg_read {p : Pat} {D : Ends} (q : sOf G W (sAsg p f) D σ H) : tAsg (tOf G W f) (gOf G p) D σ H := by
  obtain ⟨T, env, m, e, S, re, q⟩ := q
  subst e
  obtain ⟨p1, p2, p3⟩ := bindS (fun T1 E => re.ext E S) q
  refine stepE S re p1 p2 fun d m1 T1 v e1 E1 S1 re1 r1 => ?_
  have q := spost_ext E1 (p3 d m1 e1)
  cases e2 : bindD p d env with
  | none => rw [e2] at q; exact q.elim
  | some env' =>
    rw [e2] at q
    exact ⟨T1, env, m1, d, env', rfl, S1, re1, r1, e2, fun σ' re' o' => q T1 σ' (Ext.refl _) S1 re'⟩
theorem s_asg {p : Pat} (he : PE X e (tOf G W f)) (hg : PG X tg (gOf G p)) (hs : swapsWithSole [tg] e pos.line X.env = pure false) (hw : swappedStores [tg] e X.env = pure none)
    (h1 : (assignEach [tg] X.env).map (·.2) = [assign tg X.env]) : PS X (.Assign [tg] e pos) (sOf G W (sAsg p f)) :=
  PS.wk (ps_asg he hg hs hw h1) fun _ _ _ q => asg_read q
theorem s_par (hxn : G.xs = none) {i j : Nat} {x y : Str} {px py pt : Pos} {kt k2 pt2} (hc : X.calm = true) (hN : X.N.Nodup) (hi : X.N[i]? = some x) (hj : X.N[j]? = some y) (hij : i ≠ j)
    (hx : X.env.scope.names.lookup x = some .local) (hy : X.env.scope.names.lookup y = some .local) (hna : notStar a = true) (hnb : notStar b = true) (ha : PE X a (tOf G W f)) (hb : PE X b (tOf G W g))
    (hw : swappedStores [.Tuple [.Name x px, .Name y py] kt pt] (.Tuple [a, b] k2 pt2) X.env = pure (some [x, y])) :
    PS X (.Assign [.Tuple [.Name x px, .Name y py] kt pt] (.Tuple [a, b] k2 pt2) pos) (sOf G W (sPar i j f g)) := by
  refine PS.wk (ps_par hc hN hi hj hij hx hy (pa_cons ha (pa_cons hb pa_nil (star_of hnb)) (star_of hna)) hw) fun D σ H ⟨T, env, m, e, S, re, q⟩ => ?_
  subst e
  obtain ⟨p1, p2, p3⟩ := bindS (fun T1 E => re.ext E S) q
  refine stepE S re p1 p2 fun d m1 T1 v e1 E1 S1 re1 r1 => ?_
  obtain ⟨q1, q2, q3⟩ := bindS (fun T2 E => re1.ext E S1) (spost_ext E1 (p3 d m1 e1))
  refine stepE S1 re1 q1 q2 fun d2 m2 T2 v2 e2 E2 S2 re2 r2 => ?_
  exact ⟨v, v2, rfl, spost_ext E2 (q3 d2 m2 e2) T2 _ (Ext.refl _) S2 ((re2.set (G.fr_none hxn _) (E2.rd S1 _ _ r1)).set (G.fr_none hxn _) r2)⟩
theorem s_par3 (hxn : G.xs = none) {i j l : Nat} {x y z : Str} {px py pz pt : Pos} {kt k2 pt2} {h : EV} (hc : X.calm = true) (hN : X.N.Nodup) (hi : X.N[i]? = some x) (hj : X.N[j]? = some y) (hl : X.N[l]? = some z) (hij : i ≠ j) (hil : i ≠ l) (hjl : j ≠ l)
    (hx : X.env.scope.names.lookup x = some .local) (hy : X.env.scope.names.lookup y = some .local) (hz : X.env.scope.names.lookup z = some .local) (hna : notStar a = true) (hnb : notStar b = true) (hnc : notStar c = true) (ha : PE X a (tOf G W f)) (hb : PE X b (tOf G W g)) (hcc : PE X c (tOf G W h))
    (hw : swappedStores [.Tuple [.Name x px, .Name y py, .Name z pz] kt pt] (.Tuple [a, b, c] k2 pt2) X.env = pure (some [x, y, z])) :
    PS X (.Assign [.Tuple [.Name x px, .Name y py, .Name z pz] kt pt] (.Tuple [a, b, c] k2 pt2) pos) (sOf G W (sPar3 i j l f g h)) := by
  refine PS.wk (ps_par3 hc hN hi hj hl hij hil hjl hx hy hz (pa_cons ha (pa_cons hb (pa_cons hcc pa_nil (star_of hnc)) (star_of hnb)) (star_of hna)) hw) fun D σ H ⟨T, env, m, e, S, re, q⟩ => ?_
  subst e
  obtain ⟨p1, p2, p3⟩ := bindS (fun T1 E => re.ext E S) q
  refine stepE S re p1 p2 fun d m1 T1 v e1 E1 S1 re1 r1 => ?_
  obtain ⟨q1, q2, q3⟩ := bindS (fun T2 E => re1.ext E S1) (spost_ext E1 (p3 d m1 e1))
  refine stepE S1 re1 q1 q2 fun d2 m2 T2 v2 e2 E2 S2 re2 r2 => ?_
  obtain ⟨s1, s2, s3⟩ := bindS (fun T3 E => re2.ext E S2) (spost_ext E2 (q3 d2 m2 e2))
  refine stepE S2 re2 s1 s2 fun d3 m3 T3 v3 e3 E3 S3 re3 r3 => ?_
  exact ⟨v, v2, v3, rfl, spost_ext E3 (s3 d3 m3 e3) T3 _ (Ext.refl _) S3 (((re3.set (G.fr_none hxn _) (E3.rd S2 _ _ (E2.rd S1 _ _ r1))).set (G.fr_none hxn _) (E3.rd S2 _ _ r2)).set (G.fr_none hxn _) r3)⟩
theorem s_if {t : TV} {p q : List Stmt} (hc : PT X c (ttOf G W t)) (ha : PSs X p (sOf G W s)) (hb : PSs X q (sOf G W u)) : PS X (.If c p q pos) (sOf G W (sIf t s u)) := by
  refine PS.wk (ps_if hc ha hb) fun D σ H ⟨T, env, m, e, S, re, q⟩ => ?_
  subst e
  obtain ⟨p1, p2, p3⟩ := bindS (fun T1 E => re.ext E S) q
  refine stepT S re p1 p2 fun d m1 T1 e1 E1 S1 re1 => ?_
  have q := spost_ext E1 (p3 d m1 e1)
  cases d with
  | true => rw [if_pos rfl]; exact ⟨T1, env, m1, rfl, S1, re1, q⟩
  | false => rw [if_neg Bool.false_ne_true]; exact ⟨T1, env, m1, rfl, S1, re1, q⟩
theorem s_setIx {o i : Expr} (hu : X.A.units + 1 < cLine) {fv fo fi : EV} {p2 : Pos} (hv : PE X e (tOf G W fv)) (ho : PE X o (tOf G W fo)) (hi : PE X i (tOf G W fi))
    (ha : ∀ v, assign (.Subscript o i p2) X.env v = (do
      let ov ← holding [v] (eval o X.env)
      let iv ← holding [v, ov] (eval i X.env)
      standAt p2
      holding [v, ov, iv] (setItem ov iv v)
      release [v, ov, iv] [])) (hs : swapsWithSole [.Subscript o i p2] e pos.line X.env = pure false) : PS X (.Assign [.Subscript o i p2] e pos) (sOf G W (sSub fv fo fi)) := by
  refine PS.wk (ps_asg hv (pg_sub ho hi (set_both hu) ha) hs rfl rfl) fun D σ H ⟨T, env, m, e, S, re, q⟩ => ?_
  subst e
  obtain ⟨p1, p2, p3⟩ := bindS (fun T1 E => re.ext E S) q
  refine stepE S re p1 p2 fun d m1 T1 v e1 E1 S1 re1 r1 => ?_
  obtain ⟨q1, q2, q3⟩ := bindS (fun T2 E => re1.ext E S1) (spost_ext E1 (p3 d m1 e1))
  refine stepE S1 re1 q1 q2 fun d2 m2 T2 v2 e2 E2 S2 re2 r2 => ?_
  obtain ⟨s1, s2, s3⟩ := bindS (fun T3 E => re2.ext E S2) (spost_ext E2 (q3 d2 m2 e2))
  refine stepE S2 re2 s1 s2 fun d3 m3 T3 v3 e3 E3 S3 re3 r3 => ?_
  have q := spost_ext E3 (s3 d3 m3 e3)
  have r2 := E3.rd S2 _ _ r2
  have r1 := E3.rd S2 _ _ (E2.rd S1 _ _ r1)
  cases e4 : setIx d2 d3 d m3 with
  | none => rw [e4] at q; exact q.elim
  | some m4 =>
    rw [e4] at q
    exact setIx_read S3 r2 r3 r1 e4 fun T4 E4 S4 => q T4 σ E4 S4 (re3.ext E4 S3)
theorem s_setA {o : Expr} {x : Str} {cs : List Str} {fv fo : EV} {p2 : Pos} (hK : G.K = X.K) (hcs : ∀ c ∈ cs, NoAttr G.K (G.cl c) x) (hv : PE X e (tOf G W fv)) (ho : PE X o (tOf G W fo)) (hs : swapsWith e (some (.Attribute o x p2)) pos.line X.env = pure false) :
    PS X (.Assign [.Attribute o x p2] e pos) (sOf G W (sSetA cs x fv fo)) := by
  refine PS.wk (ps_fld ho hv hs) fun D σ H ⟨T, env, m, e, S, re, q⟩ => ?_
  subst e
  obtain ⟨p1, p2, p3⟩ := bindS (fun T1 E => re.ext E S) q
  refine stepE S re p1 p2 fun d m1 T1 v e1 E1 S1 re1 r1 => ?_
  obtain ⟨q1, q2, q3⟩ := bindS (fun T2 E => re1.ext E S1) (spost_ext E1 (p3 d m1 e1))
  refine stepE S1 re1 q1 q2 fun d2 m2 T2 v2 e2 E2 S2 re2 r2 => ?_
  have q := spost_ext E2 (q3 d2 m2 e2)
  cases e4 : setA cs d2 x d m2 with
  | none => rw [e4] at q; exact q.elim
  | some m4 =>
    rw [e4] at q
    rw [← hK]
    exact setA_read hcs S2 r2 (E2.rd S1 _ _ r1) e4 fun T4 E4 S4 => q T4 σ E4 S4 (re2.ext E4 S2)
theorem s_for {iter : Expr} {body : List Stmt} {it : IV} {p : Pat} (hp : PassesOwn (model X.prog X.w) X.A X.env X.xe) (hc : X.calm = true) (hi : PI X tg iter (iOf G W it)) (hg : PG X tg (gOf G p)) (hb : PSs X body (sOf G W s))
    (hs : ∀ x, foldedSetIterable iter X.env x = pure x) : PS X (.For tg iter body [] pos) (sOf G W (sFor it p s)) := by
  refine PS.wk (ps_for hp hc hi hg hb hs) fun D σ H ⟨T0, env, m0, e, S0, re0, q⟩ => ?_
  subst e
  obtain ⟨p1, p2, p3⟩ := bindS (fun T1 E => re0.ext E S0) q
  refine ⟨T0, env, m0, rfl, S0, re0, ?_⟩
  cases e0 : it env m0 with
  | bad => exact p1 e0
  | ex x m1 => exact p2 x m1 e0
  | ok iv m1 =>
  intro T1 J E1 S1 hJ
  have q1 := spost_ext E1 (p3 iv m1 e0)
  have re1 := re0.ext E1 S0
  refine ⟨fun i k σ H => k = iv.its.length - i ∧ i ≤ iv.its.length ∧ ∃ (T : Tie) (m : Mem) (env : Env), T.H = H ∧ Ext T1 T ∧ Sim G T m ∧ REnv G T env σ ∧ spost G T W (loopF iv.gd (bodyF p s) (iv.its.drop i) env m) D, ⟨_, rfl, Nat.zero_le _, T1, m1, env, rfl, Ext.refl _, S1, re1, q1⟩, ?_⟩
  rintro i k σ H ⟨rfl, hi, T, m, env, rfl, E, S, re, hl⟩
  by_cases hgd : iv.gd m
  · by_cases hlt : i < iv.its.length
    · right
      have ei : iv.its[i]? = some iv.its[i] := List.getElem?_eq_getElem hlt
      rw [List.drop_eq_getElem_cons hlt] at hl
      unfold loopF at hl
      rw [if_pos hgd] at hl
      obtain ⟨hgo, hy⟩ := hJ.step T m i _ E S hgd ei
      refine ⟨hgo, fun σ' H' => ∃ (T : Tie) (m : Mem) (env : Env), T.H = H' ∧ Ext T1 T ∧ Sim G T m ∧ REnv G T env σ' ∧ spost G T W (loopF iv.gd (bodyF p s) (iv.its.drop (i + 1)) env m) D, fun σ' H' h' => ⟨_, by omega, rfl, hlt, h'⟩, fun x H' yl => ?_⟩
      obtain ⟨T2, rfl, E2, S2, r2⟩ := hy x H' yl
      have E12 := E.trans E2
      have re2 := re.ext E2 S
      have hl := spost_ext E2 hl
      cases eb : bindD p iv.its[i] env with
      | none =>
        have : bodyF p s iv.its[i] env m = .bad := by unfold bodyF; rw [eb]
        rw [this] at hl
        exact hl.elim
      | some env' =>
        have eB : bodyF p s iv.its[i] env m = s env' m := by unfold bodyF; rw [eb]
        rw [eB] at hl
        refine ⟨T2, env, m, _, env', rfl, S2, re2, r2, eb, fun σ' re' o' => ⟨T2, env', m, rfl, S2, re', ?_⟩⟩
        cases es : s env' m with
        | bad => rw [es] at hl; exact hl
        | ex x env2 m2 => rw [es] at hl; exact hl
        | ok fl env2 m2 =>
          rw [es] at hl
          cases fl with
          | nx => exact fun T3 σ3 E3 S3 re3 => ⟨T3, m2, env2, rfl, E12.trans E3, S3, re3, spost_ext E3 hl⟩
          | cont => exact fun T3 σ3 E3 S3 re3 => ⟨T3, m2, env2, rfl, E12.trans E3, S3, re3, spost_ext E3 hl⟩
          | brk => exact hl
          | ret d => exact hl
    · left
      have e2 : i = iv.its.length := by omega
      subst e2
      rw [List.drop_length] at hl
      unfold loopF at hl
      rw [if_pos hgd] at hl
      exact ⟨hJ.stop T m E S hgd, hl T σ (Ext.refl _) S re⟩
  · exfalso
    unfold loopF at hl
    split at hl <;> (rw [if_neg hgd] at hl; exact hl)
theorem s_while {body : List Stmt} {t : TV} (hp : PassesOwn (model X.prog X.w) X.A X.env X.xe) (hc : PT X c (ttOf G W t)) (hb : PSs X body (sOf G W s)) : PS X (.While c body [] pos) (sOf G W (sWhile t s)) := by
  refine PS.wk (ps_while hp hc hb) fun D σ H ⟨T0, env, m0, e, S0, re0, q⟩ => ?_
  subst e
  refine ⟨fun k σ H => ∃ (T : Tie) (m : Mem) (env : Env), T.H = H ∧ Sim G T m ∧ REnv G T env σ ∧ spost G T W (whileN t s k env m) D, ⟨FU, T0, m0, env, rfl, S0, re0, q⟩, ?_⟩
  rintro k σ H ⟨T, m, env, rfl, S, re, hl⟩
  cases k with
  | zero => exact hl.elim
  | succ k =>
    unfold whileN at hl
    obtain ⟨p1, p2, p3⟩ := bindS (fun T1 E => re.ext E S) hl
    refine stepT S re p1 p2 fun d m1 T1 e1 E1 S1 re1 => ?_
    have q := spost_ext E1 (p3 d m1 e1)
    cases d with
    | false => rw [if_neg Bool.false_ne_true]; exact q T1 σ (Ext.refl _) S1 re1
    | true =>
      rw [if_pos rfl]
      rw [if_pos rfl] at q
      refine ⟨fun σ' H' => ∃ (T : Tie) (m : Mem) (env : Env), T.H = H' ∧ Sim G T m ∧ REnv G T env σ' ∧ spost G T W (whileN t s k env m) D, fun σ' H' h' => ⟨k, by omega, h'⟩, T1, env, m1, rfl, S1, re1, ?_⟩
      cases es : s env m1 with
      | bad => rw [es] at q; exact q
      | ex x env2 m2 => rw [es] at q; exact q
      | ok fl env2 m2 =>
        rw [es] at q
        cases fl with
        | nx => exact fun T3 σ3 E3 S3 re3 => ⟨T3, m2, env2, rfl, S3, re3, spost_ext E3 q⟩
        | cont => exact fun T3 σ3 E3 S3 re3 => ⟨T3, m2, env2, rfl, S3, re3, spost_ext E3 q⟩
        | brk => exact q
        | ret d => exact q

/-- a def's promise from its body -/
theorem body_read (hxn : G.xs = none) {N : List Str} {n : Nat} {body : SV} {vs : List V} {Q : VK} {E : XK} (hn : n ≤ N.length) (q : spOf G n (runB N.length body) vs H Q E) :
    sOf G (fun cls d _ H => E cls d H) body { nx := fun _ H' => Q .non H', rt := Q } (L2.start N vs) H := by
  obtain ⟨hl, T, m, ds, e, S, r, q⟩ := q
  subst e
  have re : REnv G T (ds.map some ++ List.replicate (N.length - ds.length) none) (L2.start N vs) := by
    unfold L2.start
    refine ⟨by simp [r.length], fun i d h => ?_, fun z e => by rw [hxn] at e; cases e⟩
    by_cases c : i < ds.length
    · rw [List.getElem?_append_left (by simpa using c), List.getElem?_map] at h
      cases e1 : ds[i]? with
      | none => rw [e1] at h; cases h
      | some d' =>
        rw [e1] at h
        cases h
        obtain ⟨v, h1, h2⟩ := r.get e1
        refine ⟨v, ?_, h2⟩
        rw [List.getElem?_append_left (by rw [List.length_map, ← r.length]; exact c), List.getElem?_map, h1]
        rfl
    · rw [List.getElem?_append_right (by simpa using c), List.getElem?_replicate] at h
      split at h <;> cases h
  refine ⟨T, _, m, rfl, S, re, ?_⟩
  unfold runB at q
  cases eb : body (ds.map some ++ List.replicate (N.length - ds.length) none) m with
  | bad => rw [eb] at q; exact q
  | ex x env' m' => rw [eb] at q; exact fun T' σ cls d E S _ x => q T' cls d E S x
  | ok fl env' m' =>
    rw [eb] at q
    cases fl with
    | nx => exact fun T' σ E S _ => q T' .non E S .non
    | brk => exact q.elim
    | cont => exact q.elim
    | ret d => exact q
end
end Itp
set_option Elab.async false
set_option linter.all false
set_option maxRecDepth 100000
/-! Itp N5: dict displays; statements that are not reached. -/
namespace Itp
open PySem PySem.Spec PyProof.Rows L2

/-! ### {k: v, ..} -/
def dPairs : List (EV × EV) → Env → Mem → R (List (D × D))
  | [], _, m => .ok [] m
  | (f, g) :: r, env, m => (f env m).bind fun x m1 => (g env m1).bind fun y m2 => (dPairs r env m2).bind fun ps m3 => .ok ((x, y) :: ps) m3
def keysOf : List (D × D) → Option (List (Ky × D))
  | [] => some []
  | (x, y) :: r => match kyOf x, keysOf r with
    | some k, some ks => some ((k, y) :: ks)
    | _, _ => none
def mergeKy (kvs more : List (Ky × D)) : List (Ky × D) := more.foldl (fun acc kv => putKy acc kv.1 kv.2) kvs
def dDisp (ps : List (EV × EV)) : EV := fun env m => (dPairs ps env (m ++ [.dk []])).bind fun xs m1 => match keysOf xs, (m1 : List O)[m.length]? with
  | some kvs, some (.dk []) => if kvs.length ≤ 15 then .ok (.ref m.length) (setM m1 m.length (.dk (mergeKy [] kvs))) else .bad
  | _, _ => .bad
section
variable {X : Cx} {G : Gd} {W : WX} {T T' : Tie} {m : Mem} {env : Env} {σ : L2.St} {H : Hp} {pos : Pos}
inductive RPs (G : Gd) (T : Tie) : List (D × D) → List (V × V) → Prop
  | nil : RPs G T [] []
  | cons {d e : D} {v w : V} {ds : List (D × D)} {vs : List (V × V)} : RD G T d v → RD G T e w → RPs G T ds vs → RPs G T ((d, e) :: ds) ((v, w) :: vs)
theorem keys_rk {ds : List (D × D)} {vs : List (V × V)} (r : RPs G T ds vs) : ∀ {kvs : List (Ky × D)}, keysOf ds = some kvs → ∃ ks : List (Key × V), vs = ks.map (fun kv => (kV kv.1, kv.2)) ∧ RKs G T kvs ks := by
  induction r with
  | nil => intro kvs e; cases e; exact ⟨[], rfl, .nil⟩
  | @cons d e v w ds vs r1 r2 r3 ih =>
    intro kvs h
    unfold keysOf at h
    cases e1 : kyOf d with
    | none => rw [e1] at h; cases h
    | some k =>
      cases e2 : keysOf ds with
      | none => rw [e1, e2] at h; cases h
      | some ks =>
        rw [e1, e2] at h; cases h
        obtain ⟨ls, q1, q2⟩ := ih e2
        obtain rfl := kyOf_V r1 e1
        exact ⟨(k.toK, w) :: ls, by rw [q1]; rfl, .cons r2 q2⟩
theorem RKs.merge {more : List (Ky × D)} {rs : List (Key × V)} (r : RKs G T more rs) : ∀ {kvs : List (Ky × D)} {ks : List (Key × V)}, RKs G T kvs ks → RKs G T (mergeKy kvs more) (mergeK ks rs) := by
  induction r with
  | nil => exact fun q => q
  | @cons x d v fs gs r t ih => exact fun q => ih (q.put x r)
theorem pairs_read {Q : List (V × V) → Hp → Prop} : ∀ (ps : List (EV × EV)) (T : Tie) (m : Mem), Sim G T m → REnv G T env σ → dPairs ps env m ≠ .bad →
    (∀ e m1, dPairs ps env m = .ex e m1 → ∀ (T1 : Tie) (cls : Value) (d : Option Addr), Ext T T1 → Sim G T1 m1 → RX G T1 e cls d → WS W σ cls d T1.H) →
    (∀ xs m1 T1 vs, dPairs ps env m = .ok xs m1 → Ext T T1 → Sim G T1 m1 → REnv G T1 env σ → RPs G T1 xs vs → Q vs T1.H) → tPairs (ps.map fun p => (tOf G W p.1, tOf G W p.2)) σ T.H Q := by
  intro ps
  induction ps generalizing Q with
  | nil => intro T m S re _ _ hk; exact hk [] m T [] rfl (Ext.refl _) S re .nil
  | cons p ps ih =>
    obtain ⟨f, g⟩ := p
    intro T m S re hb hx hk
    have e0 : dPairs ((f, g) :: ps) env m = (f env m).bind fun x m1 => (g env m1).bind fun y m2 => (dPairs ps env m2).bind fun ps m3 => .ok ((x, y) :: ps) m3 := rfl
    rw [e0] at hb hx hk
    show tOf G W f σ T.H _
    refine stepE (f := f) S re (fun z => hb (by rw [z]; rfl)) (fun e m1 z => hx e m1 (by rw [z]; rfl)) fun x m1 T1 v e1 E1 S1 re1 r1 => ?_
    rw [e1] at hb hx hk
    show tOf G W g σ T1.H _
    refine stepE (f := g) S1 re1 (fun z => hb (by show (g env m1).bind _ = _; rw [z]; rfl)) (fun e m2 z T2 cls d E2 => hx e m2 (by show (g env m1).bind _ = _; rw [z]; rfl) T2 cls d (E1.trans E2)) fun y m2 T2 w e2 E2 S2 re2 r2 => ?_
    have eg : ((R.ok x m1).bind fun x m1 => (g env m1).bind fun y m2 => (dPairs ps env m2).bind fun ps m3 => R.ok ((x, y) :: ps) m3) = (dPairs ps env m2).bind fun ps m3 => R.ok ((x, y) :: ps) m3 := by
      show (g env m1).bind _ = _; rw [e2]; rfl
    rw [eg] at hb hx hk
    refine ih T2 m2 S2 re2 (fun z => hb (by rw [z]; rfl)) (fun e m3 z T3 cls d E3 => hx e m3 (by rw [z]; rfl) T3 cls d (E1.trans (E2.trans E3))) fun xs m3 T3 vs e3 E3 S3 re3 r3 => ?_
    exact hk _ m3 T3 _ (by rw [e3]; rfl) (E1.trans (E2.trans E3)) S3 re3 (.cons (E3.rd S2 _ _ (E2.rd S1 _ _ r1)) (E3.rd S2 _ _ r2) r3)
theorem d_disp {keys : List (Option Expr)} {values : List Expr} {ps : List (EV × EV)} (h : PPs X pos keys values (ps.map fun p => (tOf G W p.1, tOf G W p.2))) (hall : keys.all (·.isSome) = true) (hl : keys.length = values.length) (h0 : keys ≠ []) (h15 : keys.length ≤ 15) :
    PE X (.Dict keys values pos) (tOf G W (dDisp ps)) := by
  refine PE.wk (pe_disp h hall hl h0 h15) fun σ H Q ⟨T, env, m, e, S, re, q⟩ => ?_
  subst e
  intro p hp
  have E := ext_add (o := .dK []) S hp
  have S1 : Sim G (T.add p (.dK [])) (m ++ [.dk []]) := sim_add S hp ⟨[], upd_same, .nil⟩
  obtain ⟨p1, p2, p3⟩ := bindP q
  have re1 := re.ext E S
  refine pairs_read (W := W) ps (T.add p (.dK [])) (m ++ [.dk []]) S1 re1 p1 (fun e m1 z T1 cls d E1 => p2 e m1 z T1 cls d (E.trans E1)) fun xs m1 T1 vs e1 E1 S2 re2 r2 => ?_
  have q := post_ext (E.trans E1) (p3 xs m1 e1)
  cases e2 : keysOf xs with
  | none => rw [e2] at q; exact q.elim
  | some kvs =>
    rw [e2] at q
    cases e3 : (m1 : List O)[m.length]? with
    | none => rw [e3] at q; exact q.elim
    | some o =>
      rw [e3] at q
      match o, e3, q with
      | .dk [], e3, q =>
        dsimp only at q
        split at q
        · rename_i hz
          obtain ⟨ks, rfl, rk⟩ := keys_rk r2 e2
          have hm0 : (T.mu ++ [p])[m.length]? = some p := by rw [← S.len]; simp
          have hm : T1.mu[m.length]? = some p := by
            obtain ⟨t, ht⟩ := E1.pre
            have ht : (T.mu ++ [p]) ++ t = T1.mu := ht
            rw [← ht, List.getElem?_append_left (List.getElem?_eq_some_iff.mp hm0).1]
            exact hm0
          obtain ⟨ks0, hH, r0⟩ := S2.obj _ _ _ e3 hm
          cases r0
          refine ⟨hH, ks, rfl, by rw [← rk.length]; exact hz, ?_⟩
          have Ec := ext_chg (o := .dK (mergeK [] ks)) S2 (List.mem_of_getElem? hm)
          refine q (T1.chg p (.dK (mergeK [] ks))) (.ref p) Ec (sim_chg S2 hm ⟨_, upd_same, RKs.merge (rk.ext Ec S2) .nil⟩) (.ref hm)
        · exact q.elim
      | .dk (_ :: _), e3, q => exact q.elim
      | .lst _, e3, q => exact q.elim
      | .ins _ _, e3, q => exact q.elim

/-! ### what must not be reached -/
def sBad : SV := fun _ _ => .bad
theorem s_bad {st : Stmt} : PS X st (sOf G W sBad) := ⟨fun pins s σ H D I ⟨T, env, m, e, S, re, q⟩ => q.elim⟩
end
end Itp
set_option Elab.async false
set_option linter.all false
set_option maxRecDepth 100000
set_option maxHeartbeats 1000000
/-! Itp N6: raise. -/
namespace Itp
open PySem PySem.Spec PyProof.Rows L2

/-! ### what the written part must say of an exception class -/
def oexC1 (K : PySem.W.Frag) (C : Addr) : Bool := match K.lookup C with
  | some ⟨.type "type", _, .cls cd, sl⟩ => (match cd.mro, sl.toList with
    | .ref C' :: bm, [_, _, _, _, some (.builtin n), _] => C' == C && n == "ValueError.__new__" && !cd.hasDel && cd.hasDict && PySem.HandSPX.refsVE bm
    | _, _ => false)
  | _ => false
theorem oexC1_ok {K : PySem.W.Frag} {C : Addr} (q : oexC1 K C = true) : ∃ nm q N bs bm sn sub ab col dd k0 k1 k2 k3 k5, K.lookup C = some (excClassObj nm q C N bs bm true sn sub ab col dd k0 k1 k2 k3 k5 "ValueError.__new__") ∧ PySem.HandSPX.refsVE bm = true := by
  unfold oexC1 at q
  split at q
  · rename_i dd cd sl ho
    split at q
    · rename_i C' bm k0 k1 k2 k3 n k5 hm hs
      simp only [Bool.and_eq_true, beq_iff_eq, Bool.not_eq_true'] at q
      obtain ⟨⟨⟨⟨rfl, rfl⟩, hdel⟩, hd⟩, hv⟩ := q
      obtain ⟨nm, bs, mro, ns, qn, hd', sn, sub, ab, col, del⟩ := cd
      dsimp only at hm hdel hd
      subst hm hdel hd
      have hsl : sl = #[k0, k1, k2, k3, some (.builtin "ValueError.__new__"), k5] := by
        obtain ⟨l⟩ := sl
        simp only at hs
        rw [hs]
      subst hsl
      exact ⟨nm, qn, ns, bs, bm, sn, sub, ab, col, dd, k0, k1, k2, k3, k5, ho, hv⟩
    · cases q
  · cases q
def oexB (K : PySem.W.Frag) (C : Addr) : Bool := oexC1 K C && (decide (PySem.W.findIn K (.ref C) "__setattr__" = some (some (.builtin "object.__setattr__"))) && (decide (PySem.W.subIn K (.ref C) (.type "BaseException") = some true) && (decide (PySem.W.typeIn K (.ref C) = some (.type "type")) && PySem.W.keepIn K (.ref C))))
theorem oexB_ok {K : PySem.W.Frag} {C : Addr} (h : oexB K C = true) : OexC K C := by
  unfold oexB at h
  simp only [Bool.and_eq_true, decide_eq_true_eq] at h
  exact ⟨oexC1_ok h.1, h.2.1, h.2.2.1, h.2.2.2.1, h.2.2.2.2⟩

/-! ### __init__ of an exception class: its fields are its arguments -/
def spI (C : Addr) (flds : List Str) : Sp := fun xs H Q _ => ∃ (a : Addr) (vs : List V), xs = .ref a :: vs ∧ vs.length = flds.length ∧ H a = some (exo a C none) ∧
  ∀ d, H d = none → d ≠ a → Q .non (upd (upd H d (exd d (flds.zip vs).reverse)) a (exo a C (some d)))
/-- self.f = f, for each field -/
inductive IniB : List Str → List Stmt → Prop
  | one {s f : Str} {p1 p2 p3 p4 : Pos} : IniB [s, f] [.Assign [.Attribute (.Name s p1) f p2] (.Name f p3) p4]
  | two {s f g : Str} {p1 p2 p3 p4 q1 q2 q3 q4 : Pos} : IniB [s, f, g] [.Assign [.Attribute (.Name s p1) f p2] (.Name f p3) p4, .Assign [.Attribute (.Name s q1) g q2] (.Name g q3) q4]
section
variable {prog : Program} {w : World} {K : PySem.W.Frag} {mg : Str → Option Value} {base : Heap}
theorem tOst_var {K : PySem.W.Frag} {f : Str} {i j : Nat} {a C : Addr} {y : V} {D : Ends} {σ : L2.St} {H : Hp} (hi : σ[i]? = some (some (.ref a))) (hj : σ[j]? = some (some y)) (T : OexC K C) (hf : PySem.W.findIn K (.ref C) f = some none)
    (h : (H a = some (exo a C none) ∧ ∀ dx, H dx = none → dx ≠ a → D.nx σ (upd (upd H dx (exd dx [(f, y)])) a (exo a C (some dx)))) ∨
    ∃ (dx : Addr) (fs : List (Str × V)), H a = some (exo a C (some dx)) ∧ H dx = some (exd dx fs) ∧ fs.length ≤ 900 ∧ D.nx σ (upd H dx (exd dx ((f, y) :: fs)))) : tOst K f (tVar i) (tVar j) D σ H :=
  ⟨y, hj, .ref a, hi, a, C, rfl, T, hf, h⟩
theorem upd_upd {H : Hp} {a d : Addr} {u v v' : HO} (h : d ≠ a) : upd (upd (upd H d v) a u) d v' = upd (upd H d v') a u := by
  funext b
  by_cases c1 : b = d
  · subst c1
    rw [upd_same, upd_ne h, upd_same]
  · rw [upd_ne c1]
    by_cases c2 : b = a
    · subst c2; rw [upd_same, upd_same]
    · rw [upd_ne c2, upd_ne c2, upd_ne c1, upd_ne c1]
theorem ini_ok {N : List Str} {C fI : Addr} {nm qual : Str} {params : Arguments} {body : List Stmt} {scope : Scope} {fd : FuncData} (b : IniB N body) (F : FunD K nm qual params body scope [] [] fI fd) (S : FnScope N N scope)
    (hd : ∀ x ∈ N, (x == ("__debug__" : Str)) = false ∧ (x == ("__classdict__" : Str)) = false) (T : OexC K C) (hf : ∀ x ∈ N.drop 1, PySem.W.findIn K (.ref C) x = some none) : FnOk prog w K mg base (L2.CX prog w) 1 fI fd N (spI C (N.drop 1)) := by
  refine F.ok S (fun vs H Q E h => ?_) fun cdv A outer s H vs Q E hr h => ?_
  · obtain ⟨a, ws, rfl, hl, _⟩ := h
    cases b <;> simpa using hl
  · obtain ⟨a, ws, rfl, hl, ha, hq⟩ := h
    cases b with
    | @one s1 f p1 p2 p3 p4 =>
      match ws, hl with
      | [y], _ =>
        have v0 : Vis scope s1 := by
          rcases S.par s1 (by simp) with z | z
          · exact .inl z
          · exact .inr (.inl z)
        have v1 : Vis scope f := by
          rcases S.par f (by simp) with z | z
          · exact .inl z
          · exact .inr (.inl z)
        refine ⟨_, pss_one (ps_ost (pe_var (i := 0) rfl v0 (hd _ (by simp)).1 (hd _ (by simp)).2) (pe_var (i := 1) rfl v1 (hd _ (by simp)).1 (hd _ (by simp)).2)), ?_⟩
        exact tOst_var (a := a) (C := C) (y := y) rfl rfl T (hf _ (by simp)) (.inl ⟨ha, fun dx h1 h2 => hq dx h1 h2⟩)
    | @two s1 f g p1 p2 p3 p4 q1 q2 q3 q4 =>
      match ws, hl with
      | [y, z], _ =>
        have v0 : Vis scope s1 := by
          rcases S.par s1 (by simp) with z | z
          · exact .inl z
          · exact .inr (.inl z)
        have v1 : Vis scope f := by
          rcases S.par f (by simp) with z | z
          · exact .inl z
          · exact .inr (.inl z)
        have v2 : Vis scope g := by
          rcases S.par g (by simp) with z | z
          · exact .inl z
          · exact .inr (.inl z)
        refine ⟨_, pss_cons (ps_ost (pe_var (i := 0) rfl v0 (hd _ (by simp)).1 (hd _ (by simp)).2) (pe_var (i := 1) rfl v1 (hd _ (by simp)).1 (hd _ (by simp)).2)) (pss_one (ps_ost (pe_var (i := 0) rfl v0 (hd _ (by simp)).1 (hd _ (by simp)).2) (pe_var (i := 2) rfl v2 (hd _ (by simp)).1 (hd _ (by simp)).2))), ?_⟩
        refine tOst_var (a := a) (C := C) (y := y) rfl rfl T (hf _ (by simp)) (.inl ⟨ha, fun dx h1 h2 => ?_⟩)
        refine tOst_var (a := a) (C := C) (y := z) rfl rfl T (hf _ (by simp)) (.inr ⟨dx, [(f, y)], upd_same, by rw [upd_ne h2, upd_same], by simp, ?_⟩)
        show Q _ _
        rw [upd_upd h2]
        exact hq dx h1 h2
end

/-! ### raise C(..) -/
/-- where the exception class c stands, and what its __init__ does -/
structure ExIs (X : Cx) (G : Gd) (c : Str) (flds : List Str) : Prop where
  at_ : X.mg c = some (.ref (G.cl c))
  zd : c ≠ ("ZeroDivisionError" : Str)
  cl : OexC X.K (G.cl c)
  le : flds.length ≤ 1000
  ne : flds ≠ []
  ex : ∃ (fI : Addr) (fd : FuncData) (ps : List Str), PySem.W.findIn X.K (.ref (G.cl c)) "__init__" = some (some (.ref fI)) ∧ PySem.W.typeIn X.K (.ref fI) = some (.type "function") ∧ Binds X.K fd ps [] ∧ FnOk X.prog X.w X.K X.mg X.base (L2.CX X.prog X.w) 1 fI fd ps (spI (G.cl c) flds)
def sRaise (c : Str) (flds : List Str) (fs : List EV) : SV := fun env m => ofE (dArgs fs env m) env fun ds m1 => if ds.length = flds.length then .ex ⟨c, (flds.zip ds).reverse⟩ env m1 else .bad
def sRaiseZ : SV := fun env m => .ex ⟨("ZeroDivisionError" : Str), []⟩ env m
section
variable {X : Cx} {G : Gd} {W : WX} {T T' : Tie} {m : Mem} {env : Env} {σ : L2.St} {H : Hp} {e : Expr} {es : List Expr} {p pos pos2 : Pos} {fs : List EV}
theorem rfs_app {f1 f2 : List (Str × D)} {g1 g2 : List (Str × V)} (h : RFs G T f1 g1) (k : RFs G T f2 g2) : RFs G T (f1 ++ f2) (g1 ++ g2) := by
  induction h with
  | nil => exact k
  | cons r _ ih => exact .cons r ih
theorem rfs_zip : ∀ {flds : List Str} {ds : List D} {vs : List V}, RDs G T ds vs → RFs G T (flds.zip ds).reverse (flds.zip vs).reverse
  | [], _, _, _ => .nil
  | x :: flds, [], _, r => by cases r; exact .nil
  | x :: flds, d :: ds, _, r => by
    cases r with
    | cons r1 r2 =>
      rw [List.zip_cons_cons, List.zip_cons_cons, List.reverse_cons, List.reverse_cons]
      exact rfs_app (rfs_zip r2) (.cons r1 .nil)
theorem s_raise {c : Str} {flds : List Str} (hx : ExIs X G c flds) (hc : X.calm = true) (tk : Takes X W) (hr : Room 2 X.A) (hg : Gl X c) (hdb : (c == ("__debug__" : Str)) = false) (hs : (e :: es).all notStar = true) (ha : PA X (e :: es) (taOf G W (dArgs fs))) :
    PS X (.Raise (some (.Call (.Name c p) (e :: es) [] pos)) none pos2) (sOf G W (sRaise c flds fs)) := by
  rw [List.all_cons, Bool.and_eq_true] at hs
  obtain ⟨fI, fd, ps, h1, h2, h3, h4⟩ := hx.ex
  refine PS.wk (ps_raise hc tk (pmk_oex hx.cl h1 h2 h4 hr h3 .nil (passes_call tk fun _ _ _ _ z => z.elim) hg hx.at_ ha hdb (star_of hs.1) (back_any hs.2))) fun D σ H ⟨T, env, m, e, S, re, q⟩ => ?_
  subst e
  obtain ⟨p1, p2, p3⟩ := bindS (fun T1 E => re.ext E S) q
  refine stepA S re p1 p2 fun ds m1 T1 vs e1 E1 S1 re1 r1 => ?_
  have q := spost_ext E1 (p3 ds m1 e1)
  by_cases hl : ds.length = flds.length
  · rw [if_pos hl] at q
    have hv : vs.length = flds.length := by rw [← r1.length]; exact hl
    refine ⟨by rw [hv]; exact hx.le, fun a na => ⟨a, vs ++ [], rfl, by rw [List.append_nil]; exact hv, upd_same, fun d h5 h6 => ?_⟩⟩
    rw [List.append_nil]
    rw [upd_ne h6] at h5
    refine ⟨rfl, d, _, upd_same, by rw [upd_ne h6, upd_same], h5, ?_⟩
    have eH : upd (del (upd (upd (upd T1.H a (exo a (G.cl c) none)) d (exd d (flds.zip vs).reverse)) a (exo a (G.cl c) (some d))) a) d (.xd (flds.zip vs).reverse) = upd T1.H d (.xd (flds.zip vs).reverse) := by
      funext b
      by_cases c1 : b = d
      · subst c1; rw [upd_same, upd_same]
      · rw [upd_ne c1, upd_ne c1]
        by_cases c2 : b = a
        · subst c2; rw [del_same, na]
        · rw [del_ne c2, upd_ne c2, upd_ne c1, upd_ne c2]
    rw [eH]
    have ex := ext_res (o := .xd (flds.zip vs).reverse) S1 h5
    refine q (T1.res d (.xd (flds.zip vs).reverse)) σ _ (some d) ex (sim_res S1 h5) (re1.ext ex S1) ⟨?_, ?_⟩
    · unfold clsV
      rw [if_neg hx.zd]
    · have r2 := rfs_zip (flds := flds) (ex.rds S1 _ _ r1)
      show match (flds.zip ds).reverse with
        | [] => _
        | _ => _
      have hne : (flds.zip ds).reverse ≠ [] := fun z => by
        have z := congrArg List.length z
        rw [List.length_reverse, List.length_zip, hl, Nat.min_self] at z
        exact hx.ne (List.length_eq_zero_iff.mp z)
      cases eq : (flds.zip ds).reverse with
      | nil => exact (hne eq).elim
      | cons f fs => exact ⟨d, _, rfl, upd_same, eq ▸ r2⟩
  · rw [if_neg hl] at q; exact q.elim
theorem s_raiseZ {x : Str} {s : Str} {j : Nat} {p2 : Pos} (hxx : x = "ZeroDivisionError") (hc : X.calm = true) (tk : Takes X W) (hg : Gl X x) (hm : X.mg x = none) :
    PS X (.Raise (some (.Call (.Name x p) [.Constant (.str s) j p2] [] pos)) none pos2) (sOf G W sRaiseZ) := by
  subst hxx
  refine PS.wk (ps_raiseB hc tk exb_ZeroDivisionError hg hm (by decide +kernel)) fun D σ H ⟨T, env, m, e, S, re, q⟩ => ?_
  subst e
  exact q T σ _ none (Ext.refl _) S re ⟨rfl, rfl⟩
end
end Itp
set_option Elab.async false
set_option linter.all false
set_option maxRecDepth 100000
set_option maxHeartbeats 1000000
/-! Itp N7: raise without arguments; try .. except. -/
namespace Itp
open PySem PySem.Spec PyProof.Rows L2

/-! ### raise C(), C an own class without __init__ -/
structure Ex0Is (X : Cx) (G : Gd) (c : Str) : Prop where
  at_ : X.mg c = some (.ref (G.cl c))
  zd : c ≠ ("ZeroDivisionError" : Str)
  ex : PySem.W.excIn X.K (G.cl c) He.veBase "ValueError.__new__" = true
  kp : PySem.W.keepIn X.K (.ref (G.cl c)) = true
  sub : PySem.W.subIn X.K (.ref (G.cl c)) (.type "BaseException") = some true
  ty : PySem.W.typeIn X.K (.ref (G.cl c)) = some (.type "type")
def sRaise0 (c : Str) : SV := fun env m => .ex ⟨c, []⟩ env m
section
variable {X : Cx} {C : Addr} {bmB : List Value} {B newId initId : String}
theorem pmk_own0 {x : Str} {p pos : Pos} (F : ExcBaseFacts B newId initId bmB) (q : PySem.W.excIn X.K C bmB newId = true) (gC : X.mg x = some (.ref C)) (kC : PySem.W.keepIn X.K (.ref C) = true) (r : Raises X (.ref C)) (hg : Gl X x)
    (hdb : (x == ("__debug__" : Str)) = false := by decide) : PMk X (.Call (.Name x p) [] [] pos) (fun _ H Q => Q (.ref C) none H) := by
  intro pins s σ H Q I h
  refine wpAny_Call_Name_kw (ld_glob I hg gC ?_ hdb)
  refine PySem.W.callWith_K0 I.kIn kC ?_
  show wpAny _ _ (call (.ref C) []) _ _ _
  obtain ⟨bm, N, nm, qn, bs, hdct, sn, sub, ab, col, dd, k0, k1, k2, k3, k5, mN, hC, hN, hni, T⟩ := exc_obj I.kIn q
  refine wpAny_call_exc_subT F T hC hN hni (fun h' e hm => ?_) (Nat.zero_le _)
  exact mk_of I hm r h (I.hok.gone hm.new)
end
section
variable {X : Cx} {G : Gd} {W : WX} {p pos pos2 : Pos}
theorem s_raise0 {c : Str} (hx : Ex0Is X G c) (hc : X.calm = true) (tk : Takes X W) (hg : Gl X c) (hdb : (c == ("__debug__" : Str)) = false) :
    PS X (.Raise (some (.Call (.Name c p) [] [] pos)) none pos2) (sOf G W (sRaise0 c)) := by
  refine PS.wk (ps_raise hc tk (pmk_own0 PySem.F.excBase_ValueError hx.ex hx.at_ hx.kp (raises_own hx.sub hx.ty) hg hdb)) fun D σ H ⟨T, env, m, e, S, re, q⟩ => ?_
  subst e
  exact q T σ _ none (Ext.refl _) S re ⟨by unfold clsV; rw [if_neg hx.zd], rfl⟩
end

/-! ### with and without a caught exception, all else is alike -/
section
variable {G G' : Gd} {T : Tie} {m : Mem}
structure GEq (G G' : Gd) : Prop where
  K : G'.K = G.K
  cl : G'.cl = G.cl
theorem GEq.symm (h : GEq G G') : GEq G' G := ⟨h.K.symm, h.cl.symm⟩
mutual
theorem GEq.rd (g : GEq G G') : ∀ (d : D) (v : V), RD G T d v → RD G' T d v
  | .non, _, h => by cases h; exact .non
  | .bl _, _, h => by cases h; exact .bl _
  | .int _, _, h => by cases h; exact .int _
  | .str _, _, h => by cases h; exact .str _
  | .tup ds, _, h => by
    cases h with
    | tup h1 h2 => exact .tup (by rw [g.K]; exact h1) (GEq.rds g ds _ h2)
  | .fl ds, _, h => by
    cases h with
    | fl h1 n h2 => exact .fl h1 n (GEq.rds g ds _ h2)
  | .sc ds, _, h => by
    cases h with
    | sc h1 h2 => exact .sc (by rw [g.K]; exact h1) (GEq.rds g ds _ h2)
  | .ref a, _, h => by
    cases h with
    | ref h1 => exact .ref h1
theorem GEq.rds (g : GEq G G') : ∀ (ds : List D) (vs : List V), RDs G T ds vs → RDs G' T ds vs
  | [], _, h => by cases h; exact .nil
  | d :: ds, _, h => by
    cases h with
    | cons h1 h2 => exact .cons (GEq.rd g d _ h1) (GEq.rds g ds _ h2)
end
theorem GEq.rfs (g : GEq G G') : ∀ {fs : List (Str × D)} {gs : List (Str × V)}, RFs G T fs gs → RFs G' T fs gs
  | [], _, h => by cases h; exact .nil
  | _ :: _, _, h => by
    cases h with
    | cons h1 h2 => exact .cons (g.rd _ _ h1) (GEq.rfs g h2)
theorem GEq.rks (g : GEq G G') : ∀ {fs : List (Ky × D)} {gs : List (Key × V)}, RKs G T fs gs → RKs G' T fs gs
  | [], _, h => by cases h; exact .nil
  | _ :: _, _, h => by
    cases h with
    | cons h1 h2 => exact .cons (g.rd _ _ h1) (GEq.rks g h2)
theorem GEq.ro (g : GEq G G') {p : Addr} {o : O} (h : RO G T p o) : RO G' T p o := by
  cases o with
  | lst ds => obtain ⟨vs, e, r⟩ := h; exact ⟨vs, e, g.rds _ _ r⟩
  | dk kvs => obtain ⟨ks, e, r⟩ := h; exact ⟨ks, e, g.rks r⟩
  | ins c fs =>
    obtain ⟨dx, gs, e, r, c1, c2⟩ := h
    refine ⟨dx, gs, by rw [g.cl]; exact e, g.rfs r, by rw [g.K, g.cl]; exact c1, fun x d hx => by rw [g.K, g.cl]; exact c2 x d hx⟩
theorem GEq.sim (g : GEq G G') (S : Sim G T m) : Sim G' T m := ⟨S.sub, S.nd, S.len, fun i o p h1 h2 => g.ro (S.obj i o p h1 h2)⟩
theorem GEq.rx (g : GEq G G') {e : Exn} {cls : Value} {d : Option Addr} (h : RX G T e cls d) : RX G' T e cls d := by
  refine ⟨?_, ?_⟩
  · have := h.1
    unfold clsV at this ⊢
    rw [g.cl]; exact this
  · have h2 := h.2
    cases q : e.fs with
    | nil => rw [q] at h2; exact h2
    | cons f fs =>
      rw [q] at h2
      obtain ⟨dd, gs, e1, e2, r⟩ := h2
      exact ⟨dd, gs, e1, e2, g.rfs r⟩
end

/-! ### try .. except C [as x] -/
def noexS (r : RS) : RS := match r with
  | .ex _ _ _ => .bad
  | r => r
def delE (i : Nat) (r : RS) : RS := match r with
  | .ok (.ret d) env m => .ok (.ret d) env m
  | .ok f env m => .ok f (env.set i none) m
  | _ => .bad
/-- chk: whether the clause takes an exception of this class -/
def sTry (chk : Str → Option Bool) (b : SV) (h : Exn → SV) : SV := fun env m => match b env m with
  | .ex x env1 m1 => match chk x.cls with
    | some true => noexS (h x env1 m1)
    | some false => .ex x env1 m1
    | none => .bad
  | r => r
def sTryAs (i : Nat) (chk : Str → Option Bool) (b : SV) (h : Exn → SV) : SV := fun env m => match b env m with
  | .ex x env1 m1 => match chk x.cls with
    | some true => if i < env1.length then delE i (h x (env1.set i none) m1) else .bad
    | some false => .ex x env1 m1
    | none => .bad
  | r => r
section
variable {X : Cx} {G : Gd} {W : WX} {T T' : Tie} {m : Mem} {env : Env} {σ : L2.St} {H : Hp} {pos : Pos} {b : SV} {h : Exn → SV} {chk : Str → Option Bool}
/-- what is behind a run whose exceptions are caught -/
theorem spost_imp {W W' : WX} {D D' : Ends} {r : RS} (q : spost G T W r D) (hx : ∀ x env1 m1, r = .ex x env1 m1 → spost G T W' r D') (hn : ∀ σ H, D.nx σ H → D'.nx σ H) (hb : ∀ σ H, D.bk σ H → D'.bk σ H) (hc : ∀ σ H, D.ct σ H → D'.ct σ H) (hr : ∀ v H, D.rt v H → D'.rt v H) : spost G T W' r D' := by
  cases r with
  | bad => exact q
  | ex x env1 m1 => exact hx _ _ _ rfl
  | ok f env1 m1 =>
    cases f with
    | nx => exact fun T1 σ1 E S re => hn _ _ (q T1 σ1 E S re)
    | brk => exact fun T1 σ1 E S re => hb _ _ (q T1 σ1 E S re)
    | cont => exact fun T1 σ1 E S re => hc _ _ (q T1 σ1 E S re)
    | ret d => exact fun T1 v E S r => hr _ _ (q T1 v E S r)
/-- what the clause tells of the classes -/
def ChkOk (G : Gd) (K : PySem.W.Frag) (c : Value) (chk : Str → Option Bool) : Prop := ∀ cls b, chk cls = some b → PySem.W.exmOne K (clsV G cls) c = some b
theorem s_try {x : Str} {c : Value} {np pos' : Pos} {body : List Stmt} {b₀ : Stmt} {suite : List Stmt} (hs : X.stack = X.env :: X.outer) (hf : X.env.frame = some X.env.locals) (hc : Names X x c) (hk : ChkOk G X.K c chk) (tk : Takes X W)
    (hb : ∀ (W : WX) (pn : List (Addr × Obj)) (xe : Value → Shared → Prop), Takes (X.tr pn xe) W → PassesOwn (model X.prog X.w) X.A X.env xe → PSs (X.tr pn xe) body (sOf G W b))
    (hsu : ∀ (y : Exn) (a : Addr) (oe : Obj) (pn : List (Addr × Obj)), PSs (X.suite a ((a, oe) :: pn)) (b₀ :: suite) (sOf G (fun _ _ _ _ => False) (h y))) :
    PS X (.Try body [.ExceptHandler (some (.Name x np)) none (b₀ :: suite) pos'] [] [] pos) (sOf G W (sTry chk b h)) := by
  refine PS.wk (ps_try_only (tb := fun W => sOf G W b) (ts := fun a cls d D σ H => ∃ y, sOf G (fun _ _ _ _ => False) (h y) D σ H) hs hf hc tk hb fun a oe cls d pn _ _ => ⟨fun pins s σ H D I ⟨y, q⟩ => (hsu y a oe pn).run pins s σ H D I q⟩) fun D σ H ⟨T, env, m, e, S, re, q⟩ => ?_
  refine ⟨T, env, m, e, S, re, ?_⟩
  unfold sTry at q
  cases eb : b env m with
  | bad => rw [eb] at q; exact q
  | ok f env1 m1 => rw [eb] at q; exact spost_imp q nofun (fun _ _ z => z) (fun _ _ z => z) (fun _ _ z => z) (fun _ _ z => z)
  | ex y env1 m1 =>
    rw [eb] at q
    replace q : spost G T W (match chk y.cls with
      | some true => noexS (h y env1 m1)
      | some false => .ex y env1 m1
      | none => .bad) D := q
    intro T1 σ1 cls d E S1 re1 x1
    cases ec : chk y.cls with
    | none => rw [ec] at q; exact q.elim
    | some v =>
      rw [ec] at q
      refine ⟨v, by rw [x1.1]; exact hk _ _ ec, fun ev a na => ?_, fun ev => ?_⟩
      · subst ev
        refine ⟨y, T1, env1, m1, rfl, S1, re1, ?_⟩
        have q := spost_ext E q
        show spost G T1 _ (h y env1 m1) D
        revert q
        cases h y env1 m1 with
        | bad => exact fun z => z
        | ex _ _ _ => exact fun z => z.elim
        | ok f env2 m2 => exact fun q => spost_imp q nofun (fun _ _ z => z) (fun _ _ z => z) (fun _ _ z => z) (fun _ _ z => z)
      · subst ev
        exact q T1 σ1 cls d E S1 re1 x1
/-- the fixed things, with this exception caught -/
def Gd.with (G : Gd) (z : Xi) : Gd := ⟨G.K, G.cl, some z⟩
theorem geq_with (G : Gd) (z : Xi) : GEq G (G.with z) := ⟨rfl, rfl⟩
theorem renv_with (hn : G.xs = none) {z : Xi} (hi : z.i < env.length) (re : REnv G T env σ) (x : RX G T z.x z.cls z.d) : REnv (G.with z) T (env.set z.i none) (σ.set z.i (some (.ref z.a))) := by
  refine ⟨by simp [re.len], fun j d e => ?_, fun z' e => ?_⟩
  · by_cases c : j = z.i
    · subst c
      rw [List.getElem?_set_self hi] at e
      cases e
    · rw [List.getElem?_set_ne (Ne.symm c)] at e
      rw [List.getElem?_set_ne (Ne.symm c)]
      obtain ⟨v, e1, r⟩ := re.get j d e
      exact ⟨v, e1, (geq_with G z).rd _ _ r⟩
  · cases e
    exact ⟨List.getElem?_set_self (by rw [← re.len]; exact hi), (geq_with G z).rx x⟩
theorem renv_back (hn : G.xs = none) {z : Xi} (re : REnv (G.with z) T env σ) : REnv G T (env.set z.i none) (σ.set z.i none) := by
  refine ⟨by simp [re.len], fun j d e => ?_, fun z' e => by rw [hn] at e; cases e⟩
  by_cases c : j = z.i
  · subst c
    by_cases hi : z.i < env.length
    · rw [List.getElem?_set_self hi] at e; cases e
    · rw [List.getElem?_eq_none (by rw [List.length_set]; omega)] at e; cases e
  · rw [List.getElem?_set_ne (Ne.symm c)] at e
    rw [List.getElem?_set_ne (Ne.symm c)]
    obtain ⟨v, e1, r⟩ := re.get j d e
    exact ⟨v, e1, (geq_with G z).symm.rd _ _ r⟩
theorem s_tryAs {x n : Str} {i : Nat} {c : Value} {np pos' : Pos} {body : List Stmt} {b₀ : Stmt} {suite : List Stmt} (hxn : G.xs = none) (hs : X.stack = X.env :: X.outer) (hf : X.env.frame = some X.env.locals) (hN : X.N.Nodup) (hi : X.N[i]? = some n) (hln : X.env.kindOf n = some .local)
    (hc : Names X x c) (hk : ChkOk G X.K c chk) (tk : Takes X W)
    (hb : ∀ (W : WX) (pn : List (Addr × Obj)) (xe : Value → Shared → Prop), Takes (X.tr pn xe) W → PassesOwn (model X.prog X.w) X.A X.env xe → PSs (X.tr pn xe) body (sOf G W b))
    (hsu : ∀ (y : Exn) (a : Addr) (oe : Obj) (cls : Value) (d : Option Addr) (pn : List (Addr × Obj)), Zc cls d oe → (∃ vs, oe.data = .fields vs) → PSs (X.suite a ((a, oe) :: pn)) (b₀ :: suite) (sOf (G.with ⟨i, a, y, cls, d⟩) (fun _ _ _ _ => False) (h y))) :
    PS X (.Try body [.ExceptHandler (some (.Name x np)) (some n) (b₀ :: suite) pos'] [] [] pos) (sOf G W (sTryAs i chk b h)) := by
  refine PS.wk (ps_try_as (tb := fun W => sOf G W b) (ts := fun a cls d D σ H => ∃ y, sOf (G.with ⟨i, a, y, cls, d⟩) (fun _ _ _ _ => False) (h y) D σ H) hs hf hN hi hln hc tk hb fun a oe cls d pn hz hd => ⟨fun pins s σ H D I ⟨y, q⟩ => (hsu y a oe cls d pn hz hd).run pins s σ H D I q⟩) fun D σ H ⟨T, env, m, e, S, re, q⟩ => ?_
  refine ⟨T, env, m, e, S, re, ?_⟩
  unfold sTryAs at q
  cases eb : b env m with
  | bad => rw [eb] at q; exact q
  | ok f env1 m1 => rw [eb] at q; exact spost_imp q nofun (fun _ _ z => z) (fun _ _ z => z) (fun _ _ z => z) (fun _ _ z => z)
  | ex y env1 m1 =>
    rw [eb] at q
    replace q : spost G T W (match chk y.cls with
      | some true => if i < env1.length then delE i (h y (env1.set i none) m1) else .bad
      | some false => .ex y env1 m1
      | none => .bad) D := q
    intro T1 σ1 cls d E S1 re1 x1
    cases ec : chk y.cls with
    | none => rw [ec] at q; exact q.elim
    | some v =>
      rw [ec] at q
      refine ⟨v, by rw [x1.1]; exact hk _ _ ec, fun ev a na => ?_, fun ev => ?_⟩
      · subst ev
        have q := spost_ext E q
        by_cases hl : i < env1.length
        · replace q : spost G T1 W (if i < env1.length then delE i (h y (env1.set i none) m1) else .bad) D := q
          rw [if_pos hl] at q
          refine ⟨y, T1, env1.set i none, m1, rfl, (geq_with G _).sim S1, renv_with (z := ⟨i, a, y, cls, d⟩) hxn hl re1 x1, ?_⟩
          revert q
          cases h y (env1.set i none) m1 with
          | bad => exact fun z => z
          | ex _ _ _ => exact fun z => z.elim
          | ok f env2 m2 =>
            cases f with
            | nx => exact fun q T2 σ2 E2 S2 re2 => q T2 _ E2 ((geq_with G _).symm.sim S2) (renv_back (z := ⟨i, a, y, cls, d⟩) hxn re2)
            | brk => exact fun q T2 σ2 E2 S2 re2 => q T2 _ E2 ((geq_with G _).symm.sim S2) (renv_back (z := ⟨i, a, y, cls, d⟩) hxn re2)
            | cont => exact fun q T2 σ2 E2 S2 re2 => q T2 _ E2 ((geq_with G _).symm.sim S2) (renv_back (z := ⟨i, a, y, cls, d⟩) hxn re2)
            | ret r => exact fun q T2 v E2 S2 r2 => q T2 v E2 ((geq_with G _).symm.sim S2) ((geq_with G _).symm.rd _ _ r2)
        · replace q : spost G T1 W (if i < env1.length then delE i (h y (env1.set i none) m1) else .bad) D := q
          rw [if_neg hl] at q; exact q.elim
      · subst ev
        exact q T1 σ1 cls d E S1 re1 x1
end
end Itp
set_option Elab.async false
set_option linter.all false
set_option maxRecDepth 100000
set_option maxHeartbeats 1000000
/-! Itp N8: a caught exception's fields and classes. -/
namespace Itp
open PySem PySem.Spec PyProof.Rows L2

/-- the class that a name names: a class of the program, or one of Python's -/
def blCls (c : Str) : Bool := decide (c = ("ZeroDivisionError" : Str)) || decide (c = ("ValueError" : Str))
def clsN (G : Gd) (c : Str) : Value := if c = ("ZeroDivisionError" : Str) then .type "ZeroDivisionError" else if c = ("ValueError" : Str) then .type "ValueError" else .ref (G.cl c)
def dXf (x : Exn) (f : Str) : EV := fun _ m => match x.fs.lookup f with
  | some d => .ok d m
  | none => .bad
def dIsx (b : Option Bool) : EV := fun _ m => match b with
  | some b => .ok (.bl b) m
  | none => .bad
/-- what the written part must say of a caught exception's class -/
structure XcC (K : PySem.W.Frag) (C : Addr) : Prop where
  xf : XfC K C
  cl : (PySem.W.clsIn K C).isSome = true
  ha : PySem.W.findIn K (.ref C) "__class__" = some (some (.builtin "object.__class__"))
  hn : PySem.W.specialIn K (.builtin "object.__class__") "__get__" = some (some (.builtin "getset_descriptor.__get__"))
  ht : PySem.W.takesIn K (.builtin "object.__class__") = some true
  hm : PySem.W.mroIn K C (.type "object") = some true
def xcB (K : PySem.W.Frag) (C : Addr) : Bool := xfB K C && ((PySem.W.clsIn K C).isSome && (decide (PySem.W.findIn K (.ref C) "__class__" = some (some (.builtin "object.__class__"))) && (decide (PySem.W.specialIn K (.builtin "object.__class__") "__get__" = some (some (.builtin "getset_descriptor.__get__"))) &&
  (decide (PySem.W.takesIn K (.builtin "object.__class__") = some true) && decide (PySem.W.mroIn K C (.type "object") = some true)))))
theorem xcB_ok {K : PySem.W.Frag} {C : Addr} (h : xcB K C = true) : XcC K C := by
  unfold xcB at h
  simp only [Bool.and_eq_true, decide_eq_true_eq] at h
  exact ⟨xfB_ok h.1, h.2.1, h.2.2.1, h.2.2.2.1, h.2.2.2.2.1, h.2.2.2.2.2⟩
/-- the context of a suite with the exception z -/
structure InSuite (X : Cx) (z : Xi) : Prop where
  ex : ∃ oe : Obj, (z.a, oe) ∈ X.pn ∧ Zc z.cls z.d oe ∧ ∃ vs, oe.data = .fields vs
section
variable {X : Cx} {G : Gd} {W : WX} {T T' : Tie} {m : Mem} {env : Env} {σ : L2.St} {H : Hp} {p p1 p2 pos : Pos} {z : Xi}
/-- a field of a pinned exception -/
theorem pin_xf {a C : Addr} {oe : Obj} {cls : Value} {d : Option Addr} {e : Expr} {te : TE} {f : Str} (T : XfC X.K C) (hno : PySem.W.findIn X.K (.ref C) f = some none) (hp : (a, oe) ∈ X.pn) (hz : Zc cls d oe) (hd : ∃ vs, oe.data = .fields vs)
    (he : PE X e te) (hb : attributeBase e f X.env (eval e X.env) = eval e X.env) : PE X (.Attribute e f pos) (tXf a cls d C f te) := by
  constructor
  intro pins s σ H Q I h
  apply attr_of hb
  apply thn (he.run pins s σ H _ I h)
  rintro u s2 ⟨x, H2, I2, rx, rfl, rfl, dd, fs, v, rfl, hdd, hv, q⟩
  cases (show u = Value.ref a from rx)
  have g1 := (I2.pin (a, oe) (List.mem_append.mpr (.inl hp))).1
  obtain ⟨mA, hns, hr⟩ : ObjOk X.prog X.w H2 s2.heap dd (.xd fs) := I2.hok dd _ hdd
  obtain ⟨od, hod, hlk⟩ := lookIn_ns hns
  have hr1 := hr f
  rw [hv] at hr1
  obtain ⟨w, hw, rw1⟩ := RelO.some_of (v := v) (o := mA f) hr1
  obtain ⟨ws, hws⟩ := hd
  have inst : PySem.W.InstAt s2.heap a oe C (some od) := ⟨g1, hz.1, by simp only [PySem.W.notCls, hws], by rw [hz.2]; exact hod⟩
  have fo : PySem.W.findObj X.K C (some od) f = some (.value w) := PySem.W.findObj_own T.hdC hno rfl (by rw [hlk f, hw])
  exact HandSPX.exc_get I2.kIn inst T.ga T.gg T.exC fo (handed_of rw1) ⟨v, H2, I2.tok _, rw1, q⟩
theorem d_xf {n f : Str} (su : InSuite X z) (hG : G.xs = some z) (T : XfC X.K (G.cl z.x.cls)) (hno : PySem.W.findIn X.K (.ref (G.cl z.x.cls)) f = some none) (zd : z.x.cls ≠ ("ZeroDivisionError" : Str))
    (hN : X.N[z.i]? = some n) (hv : Vis X.env.scope n) (hd : (n == ("__debug__" : Str)) = false) (hcd : (n == ("__classdict__" : Str)) = false) : PE X (.Attribute (.Name n p) f pos) (tOf G W (dXf z.x f)) := by
  obtain ⟨oe, hp, hz, hf⟩ := su.ex
  refine PE.wk (pin_xf T hno hp hz hf (pe_var hN hv hd hcd) rfl) fun σ H Q ⟨T, env, m, e, S, re, q⟩ => ?_
  subst e
  obtain ⟨s1, rc, rx⟩ := re.xs z hG
  refine ⟨.ref z.a, s1, rfl, by rw [rc]; unfold clsV; rw [if_neg zd], ?_⟩
  unfold dXf at q
  cases e1 : z.x.fs with
  | nil => rw [e1] at q; exact q.elim
  | cons g gs =>
    rw [e1] at rx q
    obtain ⟨dd, hs, h1, h2, r⟩ := rx
    rcases r.look f with ⟨l1, _⟩ | ⟨d, v, l1, l2, rd⟩
    · rw [l1] at q; exact q.elim
    · rw [l1] at q
      exact ⟨dd, hs, v, h1, h2, l2, post_ok S rd q⟩
def rIsX (K : PySem.W.Frag) (D a : Addr) (d : Option Addr) : List V → Hp → VK → Prop := fun xs H Q => ∃ (c : V) (cv : Value) (b : Bool), xs = [.ref a, c] ∧ (∀ u, RelV c u → u = cv) ∧ PySem.W.kitOne K (.ref D) cv = some b ∧ (d = none ∨ ∃ dd gs, d = some dd ∧ H dd = some (.xd gs)) ∧ Q (.bl b) H
theorem call_isX {D : Addr} (su : InSuite X z) (C : XcC X.K D) (hz : z.cls = .ref D) : CallR X (.builtin "isinstance") (rIsX X.K D z.a z.d) := by
  obtain ⟨oe, hp, hc, hf⟩ := su.ex
  intro pins s σ H xs us Q I r h
  obtain ⟨c, cv, b, rfl, hcv, e, hd, q⟩ := h
  cases r with
  | cons rx rr =>
    cases rr with
    | cons rt rr =>
      cases rr
      cases rx
      have ec := hcv _ rt
      subst ec
      obtain ⟨hget, _⟩ := I.pin (z.a, oe) (List.mem_append.mpr (.inl hp))
      obtain ⟨vs, hv⟩ := hf
      have J : ∃ od, PySem.W.InstAt s.heap z.a oe D od := by
        obtain ⟨oc, od, oda, osl⟩ := oe
        obtain ⟨h1, h2⟩ := hc
        dsimp only at h1 h2 hv
        subst h1 hv
        rcases hd with hd | ⟨dd, gs, hd, hh⟩
        · rw [hd] at h2
          subst h2
          exact ⟨none, hget, hz, rfl, trivial⟩
        · rw [hd] at h2
          subst h2
          have hx : ObjOk X.prog X.w H s.heap dd (.xd gs) := I.hok dd _ hh
          obtain ⟨mA, hns, _⟩ := hx
          obtain ⟨o, ho, _⟩ := lookIn_ns hns
          exact ⟨some o, hget, hz, rfl, ho⟩
      obtain ⟨od, J⟩ := J
      exact PySem.W.kia_one (PySem.W.kitx_exc C.cl C.xf.ga C.xf.gg C.xf.exC C.ha C.hn C.ht C.hm) I.kIn J e (fun z => nomatch z) fun tk => ⟨.bl b, H, I.kept (t' := tk) fun _ _ z => z, rfl, q⟩
/-- a name of a class -/
structure ClsNm (X : Cx) (G : Gd) (c : Str) : Prop where
  nm : X.mg c = some (.ref (G.cl c)) ∧ blCls c = false ∨ X.mg c = none ∧ (c = ("ZeroDivisionError" : Str) ∨ c = ("ValueError" : Str))
theorem pe_clsNm {c : Str} (h : ClsNm X G c) (hg : Gl X c) (hd : (c == ("__debug__" : Str)) = false) : ∃ v, (∀ u, RelV v u → u = clsN G c) ∧ PE X (.Name c p) (tC v) := by
  rcases h.nm with ⟨h1, h2⟩ | ⟨h1, h2 | h2⟩
  · refine ⟨.ref (G.cl c), fun u r => ?_, ⟨fun _ _ _ H _ I h => ld_glob I hg h1 ⟨.ref (G.cl c), H, I, rfl, h⟩ hd⟩⟩
    unfold blCls at h2
    rw [Bool.or_eq_false_iff] at h2
    unfold clsN
    rw [if_neg (of_decide_eq_false h2.1), if_neg (of_decide_eq_false h2.2)]
    exact r
  · subst h2
    exact ⟨.ty "ZeroDivisionError", fun u r => r, pe_bltn (v := V.ty "ZeroDivisionError") hg h1 (by decide +kernel) rfl (by decide) (by decide)⟩
  · subst h2
    exact ⟨.ty "ValueError", fun u r => r, pe_bltn (v := V.ty "ValueError") hg h1 (by decide +kernel) rfl (by decide) (by decide)⟩
theorem names_clsNm {c : Str} (h : ClsNm X G c) (hg : Gl X c) (hd : (c == ("__debug__" : Str)) = false) : Names X c (clsN G c) := by
  refine ⟨hg, hd, ?_⟩
  rcases h.nm with ⟨h1, h2⟩ | ⟨h1, h2 | h2⟩
  · unfold blCls at h2
    rw [Bool.or_eq_false_iff] at h2
    unfold clsN
    rw [if_neg (of_decide_eq_false h2.1), if_neg (of_decide_eq_false h2.2)]
    exact .inl h1
  · subst h2
    have e : bootBuiltins ("ZeroDivisionError" : Str) = some (.type "ZeroDivisionError") := by decide +kernel
    exact .inr ⟨h1, e, by decide⟩
  · subst h2
    have e : bootBuiltins ("ValueError" : Str) = some (.type "ValueError") := by decide +kernel
    exact .inr ⟨h1, e, by decide⟩
theorem d_isx {n c : Str} {b : Option Bool} (su : InSuite X z) (hG : G.xs = some z) (C : XcC X.K (G.cl z.x.cls)) (zd : z.x.cls ≠ ("ZeroDivisionError" : Str)) (hk : ∀ b', b = some b' → PySem.W.kitOne X.K (clsV G z.x.cls) (clsN G c) = some b')
    (hg : Gl X "isinstance") (hm : X.mg "isinstance" = none) (hcn : ClsNm X G c) (hgc : Gl X c) (hdc : (c == ("__debug__" : Str)) = false)
    (hN : X.N[z.i]? = some n) (hv : Vis X.env.scope n) (hd : (n == ("__debug__" : Str)) = false) (hcd : (n == ("__classdict__" : Str)) = false) :
    PE X (.Call (.Name "isinstance" p) [.Name n p1, .Name c p2] [] pos) (tOf G W (dIsx b)) := by
  obtain ⟨v, h1, h2⟩ := pe_clsNm hcn hgc hdc
  by_cases hz : z.cls = .ref (G.cl z.x.cls)
  · refine PE.wk (pe_callB (call_isX su C hz) hg hm (by decide +kernel) (pa_cons (pe_var hN hv hd hcd) (pa_cons h2 pa_nil (star_of rfl)) (star_of rfl)) (by decide) (by decide) (star_of rfl) (back_any rfl)) fun σ H Q ⟨T, env, m, e, S, re, q⟩ => ?_
    subst e
    obtain ⟨s1, rc, rx⟩ := re.xs z hG
    cases b with
    | none => exact q.elim
    | some b =>
      refine ⟨.ref z.a, s1, v, _, b, rfl, h1, ?_, ?_, post_ok S (.bl b) q⟩
      · have := hk b rfl
        unfold clsV at this
        rw [if_neg zd] at this
        exact this
      · cases e1 : z.x.fs with
        | nil => rw [e1] at rx; exact .inl rx
        | cons g gs =>
          rw [e1] at rx
          obtain ⟨dd, hs, h1, h2, _⟩ := rx
          exact .inr ⟨dd, hs, h1, h2⟩
  · refine ⟨fun pins s σ H Q I ⟨T, env, m, e, S, re, q⟩ => (hz ?_).elim⟩
    obtain ⟨_, rc, _⟩ := re.xs z hG
    rw [rc]
    unfold clsV
    rw [if_neg zd]
end
end Itp
set_option Elab.async false
set_option linter.all false
set_option maxRecDepth 100000
set_option maxHeartbeats 1000000
/-! Itp N9: a def that an except suite hands its exception to. -/
namespace Itp
open PySem PySem.Spec PyProof.Rows L2

/-- nothing is caught -/
def Gd.off (G : Gd) : Gd := ⟨G.K, G.cl, none⟩
theorem geq_off (G : Gd) : GEq G G.off := ⟨rfl, rfl⟩
/-- the promise of such a def -/
def spX (G : Gd) (h : Exn → Mem → R D) (z : Xi) (H : Hp) (Q : VK) : Prop := ∃ (T : Tie) (m : Mem), T.H = H ∧ Sim G T m ∧ RX G T z.x z.cls z.d ∧ post G T W0 (h z.x m) Q
abbrev noX : XK := fun _ _ _ => False
structure FnX (P : Program) (w : World) (K : PySem.W.Frag) (mg : Str → Option Value) (base : Heap) (k : Nat) (f : Addr) (fd : FuncData) (y : Str) (G : Gd) (h : Exn → Mem → R D) : Prop where
  run : ∀ (z : Xi) (oe : Obj) (A : Around) (outer : List PySem.Env) (s : Shared) (H : Hp) (Q : VK), L2H.RoomH k A → Zc z.cls z.d oe → (∃ vs, oe.data = .fields vs) → L2H.PinOk outer H s (z.a, oe) → Env0 P w K mg base A outer s H → BindsTo s fd ⟨[.ref z.a], []⟩ [(y, .ref z.a)] → spX G h z H Q →
    codeAny (model P w) A (.call (.ref f) ⟨[.ref z.a], []⟩) (CR (L2.CX P w) outer P w H s Q noX) s
structure FnIsX (X : Cx) (G : Gd) (x : Str) (h : Exn → Mem → R D) : Prop where
  ex : ∃ (f : Addr) (fd : FuncData) (y : Str), X.mg x = some (.ref f) ∧ PySem.W.keepIn X.K (.ref f) = true ∧ (∀ (s : Shared) (u : Value), X.K.In s.heap → BindsTo s fd ⟨[u], []⟩ [(y, u)]) ∧ FnX X.prog X.w X.K X.mg X.base 1 f fd y G.off h
theorem cx_no {P : Program} {w : World} {outer : List PySem.Env} {H : Hp} {s s' : Shared} {e : Value} (c : L2.CX P w outer H s noX e s') : False := by
  obtain ⟨_, _, _, _, _, _, _, _, _, _, _, _, bad⟩ := c
  exact bad
/-- from the body -/
theorem fnX_of {P : Program} {w : World} {K : PySem.W.Frag} {mg : Str → Option Value} {base : Heap} {k : Nat} {f : Addr} {name qual : Str} {params : Arguments} {body : List Stmt} {scope : Scope} {dV kV doc pm cdv ct oc : Value} {an od : Option Addr} {osl : Array (Option Value)} {N : List Str} {y : Str} {G : Gd} {h : Exn → Mem → R D}
    (lk : K.lookup f = some ⟨oc, od, .func (PySem.W.fnOf name qual params body scope dV kV doc pm an cdv ct), osl⟩) (hcd : PySem.W.codeIn K cdv qual = true) (S : FnScope N [y] scope)
    (hbody : ∀ (z : Xi) (oe : Obj) (A : Around) (outer : List PySem.Env) (s : Shared) (H : Hp) (Q : VK), Zc z.cls z.d oe → (∃ vs, oe.data = .fields vs) → L2H.RoomH k (A.deeper (envOfC qual scope s.heap.objs.size f cdv)) → spX G h z H Q →
      ∃ t, PSs (L2H.cxH (L2.CX P w) P w K mg base N qual scope f cdv A outer s H noX (z.a, oe)) body t ∧ t { nx := fun _ H2 => Q .non H2, rt := Q } (L2.start N [.ref z.a]) H) :
    FnX P w K mg base (k + 1) f (PySem.W.fnOf name qual params body scope dV kV doc pm an cdv ct) y G h := by
  constructor
  intro z oe A outer s H Q room hz hf pin e0 hb q
  have inK := e0.mod.kin.keeps fun b o e => (e0.bs b o e).1
  have noLim := e0.mod.nolimit.keeps fun b o e => (e0.bs b o e).1
  have par : ∀ p ∈ [y].zip [Value.ref z.a], scope.names.lookup p.1 = some .local ∨ (scope.names.lookup p.1 = some .cell ∧ ((cellsFrom (s.heap.objs.size + 1) scope.names []).lookup p.1).isSome = true) := by
    intro p hp
    obtain ⟨n, v⟩ := p
    have := S.par n (List.of_mem_zip hp).1
    exact this.imp (fun c => c) fun c => ⟨c, PySem.W.cellsFrom_some _ _ _ (.inl c)⟩
  apply codeAny_call_function room.depth (inK _ _ lk) rfl S.co S.gen rfl (PySem.W.codeRec_of inK hcd)
  apply hb
  apply wpAny_newFunctionEnv_cells S.kind par
  rintro env rfl s1 x
  refine ⟨noLim.keeps x.toInCall.keep, codeAny_func ?_⟩
  obtain ⟨t, ht, qt⟩ := hbody z oe A outer s H Q hz hf (room.deeper _) q
  have inv := L2H.inv_startH (CX := L2.CX P w) (E := noX) (N := N) (vs := [.ref z.a]) S pin e0 rfl (show Vals [V.ref z.a] [Value.ref z.a] from .cons rfl .nil) x
  apply wpAny_mono (ht.run [] s1 _ H _ inv qt)
  · intro fl s2 hs
    match fl, hs with
    | .ret u, ⟨v, σ2, H2, J, rv, q2⟩ => exact ⟨v, H2, J.os, J.bare, J.base, J.hok, rv, q2⟩
    | .next, ⟨σ2, H2, J, q2⟩ => exact ⟨V.non, H2, J.os, J.bare, J.base, J.hok, rfl, q2⟩
    | .brk, ⟨_, _, _, q2⟩ => exact q2.elim
    | .cont, ⟨_, _, _, q2⟩ => exact q2.elim
  · exact fun _ _ hs => hs

def dHot (h : Exn → Mem → R D) (x : Exn) : EV := fun _ m => noex (h x m)
section
variable {X : Cx} {G : Gd} {W : WX} {T T' : Tie} {m : Mem} {env : Env} {σ : L2.St} {H : Hp} {p p1 p2 pos : Pos} {z : Xi}
theorem GEq.postW0 {G G' : Gd} (g : GEq G G') {T : Tie} {W : Value → Option Addr → Hp → Prop} {r : R D} {Q : VK} (q : post G T W (noex r) Q) : post G' T W0 r Q := by
  cases r with
  | bad => exact q
  | ex _ _ => exact q.elim
  | ok d m1 => exact fun T1 v E S r1 => q T1 v E (g.symm.sim S) (g.symm.rd _ _ r1)
theorem d_hot {x n : Str} {h : Exn → Mem → R D} (su : InSuite X z) (hG : G.xs = some z) (hf : FnIsX X G x h) (hr : L2H.RoomH 1 X.A) (hg : Gl X x) (hdb : (x == ("__debug__" : Str)) = false)
    (hN : X.N[z.i]? = some n) (hv : Vis X.env.scope n) (hd : (n == ("__debug__" : Str)) = false) (hcd : (n == ("__classdict__" : Str)) = false) :
    PE X (.Call (.Name x p) [.Name n p1] [] pos) (tOf G W (dHot h z.x)) := by
  constructor
  intro pins s σ H Q I q
  obtain ⟨f, fd, y, g1, g2, g3, F⟩ := hf.ex
  obtain ⟨oe, hp, hz, ho⟩ := su.ex
  obtain ⟨T, env, m, e, S, re, q⟩ := q
  subst e
  obtain ⟨s1, rx⟩ := re.xs z hG
  have arg := (pa_cons (pe_var hN hv hd hcd) pa_nil (star_of rfl) : PA X [.Name n p1] _).run pos pins s σ T.H (fun vs H1 => vs = [.ref z.a] ∧ H1 = T.H) I ⟨.ref z.a, s1, rfl, rfl⟩
  apply wpAny_Call_Name_kw (ld_glob I hg g1 ?_ hdb)
  refine PySem.W.callWith_K (h₀ := X.base) I.ok.mod.kin g2 (thn arg ?_) (star_of rfl) (back_any rfl)
  rintro us s2 ⟨vs, H1, I1, rv, rfl, rfl⟩
  refine ⟨I1.kIn, ?_⟩
  cases rv with
  | cons r1 r2 =>
    cases r2
    rename_i u
    cases (show u = Value.ref z.a from r1)
    have pn := I1.pin (z.a, oe) (List.mem_append.mpr (.inl hp))
    have pinOk : L2H.PinOk X.stack T.H s2 (z.a, oe) := ⟨pn.1, pn.2.1, fun hm => by
      rcases List.mem_cons.mp (I1.stkSub z.a hm) with c | c
      · exact pn.2.2.1 c
      · exact pn.2.2.2.1 c, pn.2.2.2.2⟩
    have code := F.run z oe X.A X.stack s2 T.H Q hr hz ho pinOk I1.env0 (g3 s2 (.ref z.a) I1.kIn) ⟨T, m, rfl, (geq_off G).sim S, (geq_off G).rx rx, (geq_off G).postW0 q⟩
    show wpAny _ _ (call (.ref f) [.ref z.a]) _ _ _
    apply wpAny_call
    apply codeAny_mono code
    intro r s3 hr3
    match r, hr3 with
    | .error e, c => exact (cx_no c).elim
    | .ok (.ret u), c => exact I1.after c
    | .ok .next, c => exact c.elim
    | .ok .brk, c => exact c.elim
    | .ok .cont, c => exact c.elim
/-- such a body, run -/
def runX (n : Nat) (b : SV) (m : Mem) : R D := match b (List.replicate n none) m with
  | .ok .nx _ m1 => .ok .non m1
  | .ok (.ret d) _ m1 => .ok d m1
  | _ => .bad
theorem bodyX_read {N : List Str} (h0 : 0 < N.length) {b : Exn → SV} {H : Hp} {Q : VK} (hG : G.xs = none) (q : spX G (fun x m => runX N.length (b x) m) z H Q) :
    sOf (G.with { z with i := 0 }) (fun _ _ _ _ => False) (b z.x) { nx := fun _ H2 => Q .non H2, rt := Q } (L2.start N [.ref z.a]) H := by
  obtain ⟨T, m, e, S, rx, q⟩ := q
  have g := geq_with G { z with i := 0 }
  refine ⟨T, List.replicate N.length none, m, e, g.sim S, ⟨by unfold L2.start; simp; omega, fun i d hi => ?_, fun z2 e2 => ?_⟩, ?_⟩
  · rw [List.getElem?_replicate] at hi
    split at hi <;> cases hi
  · cases e2
    refine ⟨by unfold L2.start; rfl, g.rx rx⟩
  · replace q : post G T W0 (runX N.length (b z.x) m) Q := q
    unfold runX at q
    cases eb : b z.x (List.replicate N.length none) m with
    | bad => rw [eb] at q; exact q.elim
    | ex _ _ _ => rw [eb] at q; exact q.elim
    | ok fl env1 m1 =>
      rw [eb] at q
      cases fl with
      | nx => exact fun T1 σ1 E S1 _ => q T1 .non E (g.symm.sim S1) .non
      | brk => exact q.elim
      | cont => exact q.elim
      | ret d => exact fun T1 v E S1 r => q T1 v E (g.symm.sim S1) (g.symm.rd _ _ r)
end

/-! ### how often, where first, in a list of flat things -/
def flats (y : D) (ds : List D) : Bool := flatD y && ds.all flatD
def mCount : D → List D → Mem → R D := fun x as m => match as with
  | [y] => match lstOf m x with
    | some ds => if flats y ds then .ok (.int (ds.countP fun d => eqA d y : Nat)) m else .bad
    | none => .bad
  | _ => .bad
def mLIx : D → List D → Mem → R D := fun x as m => match as with
  | [y] => match lstOf m x with
    | some ds => if flats y ds then match ds.findIdx? fun d => eqA d y with
        | some j => .ok (.int (j : Nat)) m
        | none => .bad
      else .bad
    | none => .bad
  | _ => .bad
section
variable {X : Cx} {G : Gd}
theorem count_V {T : Tie} {y : D} {v : V} (r : RD G T y v) (hy : flatD y = true) : ∀ {ds : List D} {vs : List V} {us : List Value}, RDs G T ds vs → Vals vs us → ds.all flatD = true → us.countP (eqU v) = ds.countP fun d => eqA d y
  | [], _, _, r1, r2, _ => by cases r1; cases r2; rfl
  | d :: ds, _, _, r1, r2, h => by
    cases r1 with
    | cons a1 a2 =>
      cases r2 with
      | cons b1 b2 =>
        rw [List.all_cons, Bool.and_eq_true] at h
        rw [List.countP_cons, List.countP_cons, count_V r hy a2 b2 h.2, eqU_of b1 (flatD_V a1 h.1), eqA_V a1 r h.1 hy]
theorem m_count (hK : G.K = X.K) : MtR X "list.count" (rmOf G mCount) := by
  intro pins s σ H x xs v us Q I rx rs q
  obtain ⟨K, cl, xs0⟩ := G; obtain rfl : K = X.K := hK
  obtain ⟨T, m, d, as, rfl, S, rd, ra, p⟩ := q
  match as, ra, p with
  | [], _, p => exact p.elim
  | _ :: _ :: _, _, p => exact p.elim
  | [y], ra, p =>
    replace p : post _ T W0 (match lstOf m d with
      | some ds => if flats y ds then R.ok (.int (ds.countP fun d => eqA d y : Nat)) m else .bad
      | none => .bad) Q := p
    cases e : lstOf m d with
    | none => rw [e] at p; exact p.elim
    | some ds =>
      rw [e] at p
      dsimp only at p
      split at p
      · rename_i hf
        unfold flats at hf
        rw [Bool.and_eq_true] at hf
        obtain ⟨p1, vs, rfl, h1, r1⟩ := rd.list S e
        cases ra with
        | cons ry rt =>
          cases rt
          rename_i w
          cases rs with
          | cons rw1 rt =>
            cases rt
            rename_i u
            cases rx
            obtain ⟨its, rv, ⟨⟨cls, dd, data, sl⟩, n, ho, hc, hdn, hd⟩, hlen⟩ := I.list h1
            simp only at hc hd
            subst hc hd
            have me := mem_eqAt (A := X.A.in1) (s := s) rw1 (flatD_V ry hf.1) rv (flats_V r1 hf.2)
            refine call_meets PySem.F.slot_list_count ⟨_, ho, rfl⟩ PySem.F.entry_list_count (PySem.F.args_list_count_2 _ _) (SeqAt.list_countAt p1 its.toArray n dd sl u (eqU w)) ⟨ho, fun z hz => ?_, .int ((ds.countP fun d => eqA d y : Nat) : Int), T.H, I.tok _, ⟨s.toks, ?_⟩, post_ok S (.int _) p⟩
            · exact mem_eqAt rw1 (flatD_V ry hf.1) rv (flats_V r1 hf.2) z (by simpa using hz)
            · show Value.int ((its.toArray.toList.countP (eqU w) : Nat) : Int) s.toks = _
              rw [show its.toArray.toList = its from rfl, count_V ry hf.1 r1 rv hf.2]
      · exact p.elim
theorem m_lix (hK : G.K = X.K) : MtR X "list.index" (rmOf G mLIx) := by
  intro pins s σ H x xs v us Q I rx rs q
  obtain ⟨K, cl, xs0⟩ := G; obtain rfl : K = X.K := hK
  obtain ⟨T, m, d, as, rfl, S, rd, ra, p⟩ := q
  match as, ra, p with
  | [], _, p => exact p.elim
  | _ :: _ :: _, _, p => exact p.elim
  | [y], ra, p =>
    replace p : post _ T W0 (match lstOf m d with
      | some ds => if flats y ds then (match ds.findIdx? fun d => eqA d y with
        | some j => R.ok (.int (j : Nat)) m
        | none => .bad) else .bad
      | none => .bad) Q := p
    cases e : lstOf m d with
    | none => rw [e] at p; exact p.elim
    | some ds =>
      rw [e] at p
      dsimp only at p
      split at p
      · rename_i hf
        unfold flats at hf
        rw [Bool.and_eq_true] at hf
        obtain ⟨p1, vs, rfl, h1, r1⟩ := rd.list S e
        cases ej : ds.findIdx? fun d => eqA d y with
        | none => rw [ej] at p; exact p.elim
        | some j =>
          rw [ej] at p
          obtain ⟨hj, hj1, hj2⟩ := List.findIdx?_eq_some_iff_getElem.mp ej
          cases ra with
          | cons ry rt =>
            cases rt
            rename_i w
            obtain ⟨z, hz, rz⟩ := r1.get (List.getElem?_eq_getElem hj)
            refine mt_index pins s σ _ _ _ v us Q I rx rs ⟨p1, vs, w, j, z, rfl, rfl, h1, flatD_V ry hf.1, flats_V r1 hf.2, hz, ?_, fun i z2 hi hz2 => ?_, post_ok S (.int _) p⟩
            · rw [eqA_V rz ry (List.all_eq_true.mp hf.2 _ (List.getElem_mem hj)) hf.1]; exact hj1
            · have hi2 : i < ds.length := by omega
              obtain ⟨z3, hz3, rz3⟩ := r1.get (List.getElem?_eq_getElem hi2)
              rw [hz2] at hz3
              cases hz3
              rw [eqA_V rz3 ry (List.all_eq_true.mp hf.2 _ (List.getElem_mem hi2)) hf.1]
              simpa using hj2 i hi
      · exact p.elim
end
end Itp
set_option Elab.async false
set_option linter.all false
set_option maxRecDepth 100000
/-! Itp O: o.x, o.y = ..; xs[a:c] = ys. -/
namespace Itp
open PySem PySem.Spec PyProof.Rows L2

/-! ### o.x as a target among others -/
def gAttr (K : PySem.W.Frag) (to : TE) (x : Str) : TG := fun v σ H Q => to σ H fun o H1 => ∃ a C dx fs, o = .ref a ∧ H1 a = some (.ins C dx fs) ∧ Cls K C ∧ NoAttr K C x ∧ fs.length < 1000 ∧ Q σ (upd H1 a (.ins C dx (putF x v fs)))
theorem pg_attr {X : Cx} {o : Expr} {x : Str} {pos : Pos} {to : TE} (ho : PE X o to) : PG X (.Attribute o x pos) (gAttr X.K to x) := by
  refine ⟨fun pins s σ H v u Q I r h => ?_⟩
  rw [arm_assign_Attribute]
  refine wpAny_bind (wpAny_holding (thn (ho.run pins s σ H _ I h) fun ov s1 ⟨y, H1, I1, r1, q1⟩ => ?_))
  obtain ⟨a, C, dx, fs, e, ea, c, n, l, q⟩ := q1
  subst e
  obtain rfl : ov = Value.ref a := r1
  refine wpAny_bind (wpAny_standAt (wpAny_bind (wpAny_holding (setattr_ok I1 ea c n l r fun s3 I3 => ?_))))
  exact wpAny_release ⟨σ, _, I3, q⟩
def sTAs : List (List Str × Str × EV) → List D → SV
  | [], [] => fun env m => .ok .nx env m
  | (cs, x, fo) :: ts, d :: ds => fun env m => ofE (fo env m) env fun o m2 => match setA cs o x d m2 with
    | some m3 => sTAs ts ds env m3
    | none => .bad
  | _, _ => fun _ _ => .bad
theorem sTAs_nx {env : Env} {fl : Fl} {env' : Env} {m' : Mem} : ∀ {ts : List (List Str × Str × EV)} {ds : List D} {m : Mem}, sTAs ts ds env m = .ok fl env' m' → fl = .nx
  | [], [], m, h => by cases h; rfl
  | [], _ :: _, m, h => by cases h
  | _ :: _, [], m, h => by cases h
  | (cs, x, fo) :: ts, d :: ds, m, h => by
    dsimp only [sTAs] at h
    cases e6 : fo env m with
    | bad => rw [e6] at h; cases h
    | ex _ _ => rw [e6] at h; cases h
    | ok o2 m2 =>
      rw [e6] at h
      dsimp only [ofE] at h
      cases e7 : setA cs o2 x d m2 with
      | none => rw [e7] at h; cases h
      | some m3 => rw [e7] at h; exact sTAs_nx (ts := ts) h
theorem RD.flat {G : Gd} {T : Tie} {es : List D} {v : V} (r : RD G T (.fl es) v) : ∃ p vs, v = .ref p ∧ T.H p = some (.lst vs) ∧ ¬ T.own p ∧ RDs G T es vs := by
  cases r with
  | fl h n r => exact ⟨_, _, rfl, h, n, r⟩
def sAttrs (ts : List (List Str × Str × EV)) (f : EV) : SV := fun env m => ofE (f env m) env fun d m1 => match d with
  | .tup ds => if ds.length = ts.length then sTAs ts ds env m1 else .bad
  | _ => .bad
def nxE (Q : L2.St → Hp → Prop) : Ends := { nx := Q, rt := fun _ _ => False }
def gsA (G : Gd) (W : WX) (ts : List (List Str × Str × EV)) : TGs := fun vs σ H Q => ∃ T env m ds, T.H = H ∧ Sim G T m ∧ REnv G T env σ ∧ RDs G T ds vs ∧ spost G T W (sTAs ts ds env m) (nxE Q)
section
variable {X : Cx} {G : Gd} {W : WX} {T T' : Tie} {m : Mem} {env : Env} {σ : L2.St} {H : Hp} {o e : Expr} {es : List Expr} {pos p2 : Pos} {f fo : EV} {x : Str} {cs : List Str} {ts : List (List Str × Str × EV)}
theorem ga_nil : PGs X [] (gsA G W []) := by
  refine PGs.wk pgs_nil fun vs σ H Q ⟨T, env, m, ds, e, S, re, r, q⟩ => ?_
  subst e
  match ds, r, q with
  | [], r, q => cases r; exact ⟨rfl, q T σ (Ext.refl _) S re⟩
  | _ :: _, r, q => exact q.elim
theorem ga_cons (hK : G.K = X.K) (hcs : ∀ c ∈ cs, NoAttr G.K (G.cl c) x) (ho : PE X o (tOf G W fo)) (h2 : PGs X es (gsA G W ts)) : PGs X (.Attribute o x p2 :: es) (gsA G W ((cs, x, fo) :: ts)) := by
  refine PGs.wk (pgs_cons (pg_attr ho) h2 rfl) fun vs σ H Q ⟨T, env, m, ds, e, S, re, r, q⟩ => ?_
  subst e
  match ds, r, q with
  | [], r, q => exact q.elim
  | d :: ds, r, q =>
    cases r with
    | cons r1 r2 =>
      refine ⟨_, _, rfl, ?_⟩
      obtain ⟨p1, p2, p3⟩ := bindS (fun T1 E => re.ext E S) q
      refine stepE S re p1 p2 fun d2 m2 T2 v2 e2 E2 S2 re2 r3 => ?_
      have q := spost_ext E2 (p3 d2 m2 e2)
      cases e4 : setA cs d2 x d m2 with
      | none => rw [e4] at q; exact q.elim
      | some m4 =>
        rw [e4] at q
        rw [← hK]
        exact setA_read (Q := fun H' => gsA G W ts _ σ H' Q) hcs S2 r3 (E2.rd S _ _ r1) e4 fun T4 E4 S4 => ⟨T4, env, m4, ds, rfl, S4, re2.ext E4 S2, E4.rds S2 _ _ (E2.rds S _ _ r2), spost_ext E4 q⟩
theorem s_attrs {kk : Nat} (hK : G.K = X.K) (hc : X.calm = true) (he : PE X e (tOf G W f)) (h : PGs X es (gsA G W ts)) (hn : (assignEach es X.env).length = ts.length) (hst : (assignEach es X.env).findIdx? (·.1) = none)
    (hs : swapsWithSole [.Tuple es kk p2] e pos.line X.env = pure false) (hw : swappedStores [.Tuple es kk p2] e X.env = pure none) : PS X (.Assign [.Tuple es kk p2] e pos) (sOf G W (sAttrs ts f)) := by
  refine PS.wk (ps_asg he (pg_tup hc h hn hst) hs hw rfl) fun D σ H ⟨T, env, m, e, S, re, q⟩ => ?_
  subst e
  obtain ⟨p1, p2, p3⟩ := bindS (fun T1 E => re.ext E S) q
  refine stepE S re p1 p2 fun d m1 T1 v e1 E1 S1 re1 r1 => ?_
  have q := spost_ext E1 (p3 d m1 e1)
  cases d with
  | tup ds =>
    replace q : spost G T1 W (if ds.length = ts.length then sTAs ts ds env m1 else .bad) D := q
    split at q
    · rename_i hl
      obtain ⟨p, vs, rfl, h1, r2⟩ := r1.tupl
      refine ⟨p, vs, rfl, by rw [← hK]; exact h1, by rw [← r2.length]; exact hl, T1, env, m1, ds, rfl, S1, re1, r2, ?_⟩
      cases e5 : sTAs ts ds env m1 with
      | bad => rw [e5] at q; exact q
      | ex y env' m' => rw [e5] at q; exact q
      | ok fl env' m' =>
        rw [e5] at q
        have hf : fl = .nx := sTAs_nx e5
        subst hf
        exact q
    · exact q.elim
  | _ => exact q.elim
end

/-! ### xs[a:c] = ys -/
theorem pg_setSl {X : Cx} {o : Expr} {lo hi : Option Expr} {pos p2 : Pos} {to : TE} {tl th : TO} (ho : PE X o to) (hl : PO X lo tl) (hu : PO X hi th) :
    PG X (.Subscript o (.Slice lo hi none p2) pos) (fun v σ H Q => to σ H fun x H1 => tl σ H1 fun l H2 => th σ H2 fun u H3 => ∃ p b xs ys a c, x = .ref p ∧ v = .ref b ∧ l = some a ∧ u = some c ∧ H3 p = some (.lst xs) ∧ H3 b = some (.lst ys) ∧ p ≠ b ∧ 0 ≤ a ∧ a ≤ c ∧ c ≤ xs.length ∧
      xs.length + ys.length ≤ sizeLine ∧ Q σ (upd H3 p (.lst (xs.take a.toNat ++ ys ++ xs.drop c.toNat)))) := by
  refine ⟨fun pins s σ H v u Q I r h => ?_⟩
  rw [show assign (.Subscript o (.Slice lo hi none p2) pos) X.env u = (do
      let ov ← holding [u] (eval o X.env)
      let iv ← holding [u, ov] (eval (.Slice lo hi none p2) X.env)
      standAt pos
      holding [u, ov, iv] (setItem ov iv u)
      release [iv, u, ov] []) from rfl]
  refine wpAny_bind (wpAny_holding (thn (ho.run pins s σ H _ I h) fun ov s1 ⟨y, H1, I1, r1, q1⟩ => ?_))
  refine wpAny_bind (wpAny_holding (wpAny_Slice (thn (hl.run pins s1 σ H1 _ I1 q1) fun vl s2 ⟨l, H2, I2, pl, q2⟩ => thn (hu.run pins s2 σ H2 _ I2 q2) fun vu s3 ⟨w, H3, I3, pu, q3⟩ => ?_)))
  rw [evalPart_none]
  refine wpAny_pure ?_
  have I4 : Inv X pins σ H3 { s3 with heap := s3.heap.push { cls := .type "slice", data := .fields #[vl, vu, .none] } } := I3.kept (t' := s3.toks) fun b ob q => Heap.get?_push_of_some _ q
  obtain ⟨p, b, xs, ys, a, c, e1, e2, e3, e4, hH, hB, hne, h0, hac, hc, hz, q⟩ := q3
  subst e1 e2 e3 e4
  cases r1
  cases r
  refine wpAny_bind (wpAny_standAt (wpAny_bind (wpAny_holding (set_slice I4 hH hB hne (Heap.IsSliceOf.new ..) ?_ ?_ h0 hac hc hz fun s' I' => ?_))))
  · cases pl; exact ⟨_, rfl⟩
  · cases pu; exact ⟨_, rfl⟩
  · exact wpAny_release ⟨σ, _, I', q⟩
def setSl0 (a : Nat) (ds : List D) (i j : Int) (es : List D) (m : Mem) : Option Mem :=
  if 0 ≤ i ∧ i ≤ j ∧ j ≤ (ds.length : Int) ∧ ds.length + es.length ≤ SZ then some (setM m a (.lst (ds.take i.toNat ++ es ++ ds.drop j.toNat))) else none
def setSl (o : D) (l h : Option Int) (v : D) (m : Mem) : Option Mem := match o, l, h with
  | .ref a, some i, some j => match (m : List O)[a]? with
    | some (.lst ds) => match v with
      | .fl es => setSl0 a ds i j es m
      | .ref b => if b = a then none else match (m : List O)[b]? with
        | some (.lst es) => setSl0 a ds i j es m
        | _ => none
      | _ => none
    | _ => none
  | _, _, _ => none
def sSlS (fv fo : EV) (lo hi : Option EV) : SV := fun env m => ofE (fv env m) env fun v m1 => ofE (fo env m1) env fun o m2 => ofE (dBd lo env m2) env fun l m3 => ofE (dBd hi env m3) env fun h m4 => match setSl o l h v m4 with
  | some m5 => .ok .nx env m5
  | none => .bad
theorem setSl_read {G : Gd} {T : Tie} {m m' : Mem} {o v : D} {l h : Option Int} {vo vv : V} (S : Sim G T m) (ro : RD G T o vo) (rv : RD G T v vv) (hs : setSl o l h v m = some m') {Q : Hp → Prop} (q : ∀ T', Ext T T' → Sim G T' m' → Q T'.H) :
    ∃ p b xs ys a c, vo = .ref p ∧ vv = .ref b ∧ l = some a ∧ h = some c ∧ T.H p = some (.lst xs) ∧ T.H b = some (.lst ys) ∧ p ≠ b ∧ 0 ≤ a ∧ a ≤ c ∧ c ≤ xs.length ∧ xs.length + ys.length ≤ sizeLine ∧ Q (upd T.H p (.lst (xs.take a.toNat ++ ys ++ xs.drop c.toNat))) := by
  have core : ∀ {a : Nat} {ds es : List D} {i j : Int} {p b : Addr} {vs ws : List V}, T.mu[a]? = some p → T.H p = some (.lst vs) → RDs G T ds vs → T.H b = some (.lst ws) → RDs G T es ws → p ≠ b → setSl0 a ds i j es m = some m' →
      0 ≤ i ∧ i ≤ j ∧ j ≤ (vs.length : Int) ∧ vs.length + ws.length ≤ sizeLine ∧ Q (upd T.H p (.lst (vs.take i.toNat ++ ws ++ vs.drop j.toNat))) := by
    intro a ds es i j p b vs ws h1 h2 r1 h3 r2 hne e
    unfold setSl0 at e
    split at e
    · rename_i hc
      cases e
      refine ⟨hc.1, hc.2.1, by rw [← r1.length]; exact hc.2.2.1, by rw [← r1.length, ← r2.length, ← SZ_eq]; exact hc.2.2.2, ?_⟩
      have E4 := ext_chg (o := .lst (vs.take i.toNat ++ ws ++ vs.drop j.toNat)) S (List.mem_of_getElem? h1)
      exact q (T.chg p _) E4 (sim_chg S h1 ⟨_, upd_same, E4.rds S _ _ (((r1.take _).append r2).append (r1.drop _))⟩)
    · cases e
  match o, l, h, ro, hs with
  | .ref a, some i, some j, ro, hs =>
    dsimp only [setSl] at hs
    cases e5 : (m : List O)[a]? with
    | none => rw [e5] at hs; cases hs
    | some ob =>
      rw [e5] at hs
      cases ob with
      | lst ds =>
        obtain ⟨p, vs, rfl, h1, h2, r1⟩ := ro.mlist S e5
        have hp : p ∈ T.mu := List.mem_of_getElem? h1
        cases v with
        | fl es =>
          obtain ⟨b, ws, rfl, h3, n3, r3⟩ := rv.flat
          have hne : p ≠ b := fun e => n3 (e ▸ S.sub p hp)
          obtain ⟨c1, c2, c3, c4, c5⟩ := core h1 h2 r1 h3 r3 hne hs
          exact ⟨p, b, vs, ws, i, j, rfl, rfl, rfl, rfl, h2, h3, hne, c1, c2, c3, c4, c5⟩
        | ref b =>
          dsimp only at hs
          split at hs
          · cases hs
          · rename_i hb
            cases e6 : (m : List O)[b]? with
            | none => rw [e6] at hs; cases hs
            | some ob2 =>
              rw [e6] at hs
              cases ob2 with
              | lst es =>
                obtain ⟨p2, ws, rfl, h3, h4, r3⟩ := rv.mlist S e6
                have hne : p ≠ p2 := fun e => by
                  subst e
                  obtain ⟨g3, g4⟩ := List.getElem?_eq_some_iff.mp h3
                  exact hb ((List.getElem?_inj g3 S.nd).mp (h3.trans h1.symm))
                obtain ⟨c1, c2, c3, c4, c5⟩ := core h1 h2 r1 h4 r3 hne hs
                exact ⟨p, _, vs, _, i, j, rfl, rfl, rfl, rfl, h2, h4, hne, c1, c2, c3, c4, c5⟩
              | _ => cases hs
        | _ => cases hs
      | _ => cases hs
  | .ref a, none, _, _, hs => cases hs
  | .ref a, some _, none, _, hs => cases hs
  | .non, _, _, _, hs => cases hs
  | .bl _, _, _, _, hs => cases hs
  | .int _, _, _, _, hs => cases hs
  | .str _, _, _, _, hs => cases hs
  | .tup _, _, _, _, hs => cases hs
  | .fl _, _, _, _, hs => cases hs
  | .sc _, _, _, _, hs => cases hs
theorem s_slS {X : Cx} {G : Gd} {W : WX} {o e : Expr} {lo hi : Option Expr} {fv fo : EV} {flo fhi : Option EV} {p2 p3 pos : Pos} (hv : PE X e (tOf G W fv)) (ho : PE X o (tOf G W fo)) (hl : BdOk X G W lo flo) (hh : BdOk X G W hi fhi)
    (hs : swapsWithSole [.Subscript o (.Slice lo hi none p2) p3] e pos.line X.env = pure false) : PS X (.Assign [.Subscript o (.Slice lo hi none p2) p3] e pos) (sOf G W (sSlS fv fo flo fhi)) := by
  refine PS.wk (ps_asg hv (pg_setSl ho (bd_post hl) (bd_post hh)) hs rfl rfl) fun D σ H ⟨T, env, m, e, S, re, q⟩ => ?_
  subst e
  obtain ⟨p1, p2, p3⟩ := bindS (fun T1 E => re.ext E S) q
  refine stepE S re p1 p2 fun d m1 T1 v e1 E1 S1 re1 r1 => ?_
  obtain ⟨q1, q2, q3⟩ := bindS (fun T2 E => re1.ext E S1) (spost_ext E1 (p3 d m1 e1))
  refine stepE S1 re1 q1 q2 fun d2 m2 T2 v2 e2 E2 S2 re2 r2 => ?_
  have q := spost_ext E2 (q3 d2 m2 e2)
  refine ⟨T2, env, m2, rfl, S2, re2, ?_⟩
  cases e3 : dBd flo env m2 with
  | bad => rw [e3] at q; exact q
  | ex y m3 => rw [e3] at q; exact fun T3 cls d3 E3 S3 x3 => q T3 _ cls d3 E3 S3 (re2.ext E3 S2) x3
  | ok l m3 =>
    rw [e3] at q
    intro T3 E3 S3
    replace q : spost G T2 W (ofE (dBd fhi env m3) env fun h m4 => match setSl d2 l h d m4 with
      | some m5 => .ok .nx env m5
      | none => .bad) D := q
    have q := spost_ext E3 q
    have re3 := re2.ext E3 S2
    refine ⟨T3, env, m3, rfl, S3, re3, ?_⟩
    cases e4 : dBd fhi env m3 with
    | bad => rw [e4] at q; exact q
    | ex y m4 => rw [e4] at q; exact fun T4 cls d4 E4 S4 x4 => q T4 _ cls d4 E4 S4 (re3.ext E4 S3) x4
    | ok h m4 =>
      rw [e4] at q
      intro T4 E4 S4
      replace q : spost G T3 W (match setSl d2 l h d m4 with
        | some m5 => .ok .nx env m5
        | none => .bad) D := q
      have q := spost_ext E4 q
      cases e5 : setSl d2 l h d m4 with
      | none => rw [e5] at q; exact q.elim
      | some m5 =>
        rw [e5] at q
        exact setSl_read S4 (E4.rd S3 _ _ (E3.rd S2 _ _ r2)) (E4.rd S3 _ _ (E3.rd S2 _ _ (E2.rd S1 _ _ r1))) e5 fun T5 E5 S5 => q T5 σ E5 S5 ((re3.ext E4 S3).ext E5 S4)
/-! ### xs[::-1] -/
section
variable {prog : Program} {w : World} {A : Around} {E : Value → Shared → Prop} {s : Shared}
theorem sliceApplied_rev {sl : Addr} {vl vu vs : Value} {n : Nat} {Q : Int × Int × Nat → Shared → Prop} (hs : s.heap.IsSliceOf sl vl vu vs) (pl : IsPart vl none) (pu : IsPart vu none) (ps : IsPart vs (some (-1)))
    (h : Q ((n : Int) - 1, -1, n) s) : wpAny (model prog w) A (Builtin.Slice.sliceApplied (.ref sl) (pure (n : Int))) Q E s := by
  obtain ⟨os, hos, hcs, hds⟩ := id hs
  unfold Builtin.Slice.sliceApplied Builtin.Slice.sliceFields
  refine wpAny_bind (wpAny_bind (wpAny_field hos hds (x := vl) rfl (wpAny_bind (wpAny_field hos hds (x := vu) rfl (wpAny_bind (wpAny_field hos hds (x := vs) rfl (wpAny_pure ?_)))))))
  refine wpAny_bind (HT.slicePart_ ps ?_)
  show wpAny _ _ (if ((-1 : Int) == 0) = true then _ else _) _ _ s
  rw [if_neg (by decide)]
  refine wpAny_bind (HT.slicePart_ pl (wpAny_bind (HT.slicePart_ pu (wpAny_bind (wpAny_pure ?_)))))
  show wpAny _ _ (pure ((n : Int) - 1, (-1 : Int), Builtin.Slice.slicePlaces ((n : Int) - 1) (-1) (-1))) _ _ s
  have e : Builtin.Slice.slicePlaces ((n : Int) - 1) (-1) (-1) = n := by
    unfold Builtin.Slice.slicePlaces
    rw [if_neg (by decide)]
    split
    · rw [show (- -1 : Int) = 1 by decide, Int.ediv_one]; omega
    · omega
  rw [e]
  exact wpAny_pure h
theorem pick_rev (xs : Array Value) : ((List.range xs.size).filterMap fun (k : Nat) => xs[((xs.size : Int) - 1 + (k : Int) * -1).toNat]?).toArray = xs.toList.reverse.toArray := by
  have g : ∀ l : List Nat, (∀ k ∈ l, k < xs.size) → l.filterMap (fun (k : Nat) => xs[((xs.size : Int) - 1 + (k : Int) * -1).toNat]?) = (l.map fun k => xs.size - 1 - k).filterMap (xs[·]?) := by
    intro l hl
    induction l with
    | nil => rfl
    | cons k l ih =>
      have h1 : ((xs.size : Int) - 1 + (k : Int) * -1).toNat = xs.size - 1 - k := by
        have := hl k (List.mem_cons_self ..)
        omega
      rw [List.map_cons, List.filterMap_cons, List.filterMap_cons, ih fun k' hk => hl k' (List.mem_cons_of_mem _ hk), h1]
  rw [g _ fun k hk => List.mem_range.mp hk, PySem.W.krv_range, List.filterMap_reverse, PySem.W.krv_all]
theorem getItem_tuple_rev {t sl : Addr} {items : Array Value} {vl vu vs : Value} {Q : Value → Shared → Prop} (ht : IsTup s.heap t items) (hs : s.heap.IsSliceOf sl vl vu vs) (pl : IsPart vl none) (pu : IsPart vu none) (ps : IsPart vs (some (-1)))
    (h : Q (.ref s.heap.objs.size) { s with heap := s.heap.push { cls := .type "tuple", data := .seq items.toList.reverse.toArray } })
    (hsz : items.size ≤ sizeLine) : wpAny (model prog w) A (getItem (.ref t) (.ref sl)) Q E s := by
  have htake : sizeOk (.seq items.toList.reverse.toArray) := by
    show items.toList.reverse.toArray.size ≤ sizeLine
    rw [List.size_toArray, List.length_reverse, Array.length_toList]
    exact hsz
  obtain ⟨os, hos, hcs, hds⟩ := id hs
  have hTs : s.TypeIs (.ref sl) "slice" := ⟨os, hos, hcs⟩
  unfold getItem
  try with_reducible refine wpAny_holding ?_
  first | refine wpAny_bind (wpAny_pure ?_) | skip
  refine wpAny_bind (wpAny_sequenceKey ht.typeIs (by decide) ?_)
  refine wpAny_bind (wpAny_callSpecial?_slot (name := Str.ofString "__getitem__") ht.typeIs PyProof.Rows.slot_tuple_getitem
    (wpAny_call_entry PyProof.Rows.slot_tuple_getitem ht.typeIs entry_tuple_getitem ?_ (args_tuple_getitem _ _)))
  show wpAny _ _ (Builtin.Tuple.tupleItemsOf (.ref t) >>= _) _ _ s
  refine wpAny_bind (tupleItemsOf_ ht ?_)
  refine wpAny_bind (wpAny_typeOf hTs ?_)
  rw [if_pos (by decide)]
  refine wpAny_bind (sliceApplied_rev hs pl pu ps ?_)
  have hno : ¬ ((((items.size : Int) - 1) == 0 && (-1 : Int) == 1 && items.size == items.size) = true) := by
    rw [show ((-1 : Int) == 1) = false by decide, Bool.and_false, Bool.false_and]
    exact Bool.false_ne_true
  show wpAny _ _ (if ((((items.size : Int) - 1) == 0 && (-1 : Int) == 1 && items.size == items.size)) = true then _ else _) _ _ s
  rw [if_neg hno, pick_rev]
  first
    | exact wpAny_bind (m := Builtin.Tuple.tupleExact _) (wpAny_newObj_type (wpAny_pure ⟨_, rfl, wpAny_pure h⟩) htake)
    | exact wpAny_bind (m := Builtin.Tuple.tupleExact _) (wpAny_newObj_type (wpAny_bind (wpAny_pure (wpAny_pure ⟨_, rfl, wpAny_pure h⟩))) htake)
    | exact wpAny_bind (wpAny_bind (m := Builtin.Tuple.tupleExact _) (wpAny_newObj_type (wpAny_pure (wpAny_pure ⟨_, rfl, wpAny_pure h⟩)) htake))
    | exact wpAny_bind (wpAny_bind (m := Builtin.Tuple.tupleExact _) (wpAny_newObj_type (wpAny_pure ⟨_, rfl, wpAny_pure h⟩) htake))
end
theorem pe_rev2 {X : Cx} {e : Expr} {te : TE} {k : Nat} {p1 p2 p3 pos : Pos} (he : PE X e te) : PE X (.Subscript e (.Slice none none (some (.UnaryOp .USub (.Constant (.int 1) k p1) p2)) p3) pos)
    (fun σ H Q => te σ H fun x H1 => ∃ a xs, x = .ref a ∧ ((SqL X.K H1 a xs ∧ ∀ p, H1 p = none → Q (.ref p) (upd H1 p (.lst xs.reverse))) ∨ (SqT X.K H1 a xs ∧ ∀ p, H1 p = none → Q (.ref p) (upd H1 p (.tup xs.reverse))))) := by
  refine ⟨fun pins s σ H Q I h => ?_⟩
  refine Subscript_ (thn (he.run pins s σ H _ I h) fun v s1 ⟨x, H1, I1, r1, q1⟩ => ?_)
  obtain ⟨a, xs, ex, q1⟩ := q1
  subst ex
  cases r1
  have hst : PO X (some (.UnaryOp .USub (.Constant (.int 1) k p1) p2)) (tPart (tUn (rU fun i => .int (-i)) (tC (.int 1)))) := po_some (pe_un un_neg pe_int)
  refine wpAny_Slice (thn (po_none.run pins s1 σ H1 (fun o H2 => o = none ∧ H2 = H1) I1 ⟨rfl, rfl⟩) fun vl s2 ⟨l, H2, I2, pl, el, e2⟩ => ?_)
  subst el e2
  refine thn (po_none.run pins s2 σ H2 (fun o H3 => o = none ∧ H3 = H2) I2 ⟨rfl, rfl⟩) fun vu s3 ⟨u, H3, I3, pu, eu, e3⟩ => ?_
  subst eu e3
  refine thn (hst.run pins s3 σ H3 (fun o H4 => o = some (-1) ∧ H4 = H3) I3 ⟨1, rfl, -1, rfl, rfl, rfl⟩) fun vs s4 ⟨o, H4, I4, ps, eo, e4⟩ => ?_
  subst eo e4
  have I5 : Inv X pins σ H4 { s4 with heap := s4.heap.push { cls := .type "slice", data := .fields #[vl, vu, vs] } } := I4.kept (t' := s4.toks) fun b ob q => Heap.get?_push_of_some _ q
  show wpAny (model X.prog X.w) X.A (subscriptTail e (.Slice none none (some (.UnaryOp .USub (.Constant (.int 1) k p1) p2)) p3) (.ref a) (.ref s4.heap.objs.size)) (EP X pins σ Q) X.xe { s4 with heap := s4.heap.push { cls := .type "slice", data := .fields #[vl, vu, vs] } }
  rcases q1 with ⟨hx, q⟩ | ⟨hx, q⟩
  · obtain ⟨its, r, ht, hz⟩ := I5.list hx
    have hlen := r.length
    refine tail_any (ops := [.ref a, .ref s4.heap.objs.size]) ht.isList.typeIs (PySem.slot_list_getitem.lookup) ?_ (by with_unfolding_all rfl)
    refine wpAny_getItem_list_slice ht.isList (Heap.IsSliceOf.new _ vl vu vs) pl pu ps (by decide) ?_ (by rw [List.size_toArray]; omega)
    rw [PySem.W.krv_pick]
    refine ⟨.ref _, _, I5.laid (t' := s4.toks) (o := .lst xs.reverse) (fun b ob q => Heap.get?_push_of_some _ q) (Nat.le_refl _) ?_, rfl, q _ (I5.hok.fresh (Nat.le_refl _))⟩
    exact ⟨by rw [List.length_reverse]; exact hz, _, 0, r.reverse, Heap.get?_push_size _ rfl⟩
  · obtain ⟨its, r, ht, hz⟩ := I5.tuple hx
    have hlen : its.toArray.size = xs.length := by rw [List.size_toArray]; exact r.length.symm
    refine tail_any (ops := [.ref a, .ref s4.heap.objs.size]) ht.typeIs (PyProof.Rows.slot_tuple_getitem.lookup) ?_ (by with_unfolding_all rfl)
    refine getItem_tuple_rev ht (Heap.IsSliceOf.new _ vl vu vs) pl pu ps ?_ (by rw [hlen]; exact hz)
    refine ⟨.ref _, _, I5.laid (t' := s4.toks) (o := .tup xs.reverse) (fun b ob q => Heap.get?_push_of_some _ q) (Nat.le_refl _) ?_, rfl, q _ (I5.hok.fresh (Nat.le_refl _))⟩
    exact ⟨by rw [List.length_reverse]; exact hz, _, r.reverse, IsTup.new _ _⟩
theorem RDs.rev {G : Gd} {T : Tie} {ds : List D} {vs : List V} (r : RDs G T ds vs) : RDs G T ds.reverse vs.reverse := by
  induction ds generalizing vs with
  | nil => cases r; exact .nil
  | cons d ds ih => cases r with
    | cons r t => rw [List.reverse_cons, List.reverse_cons]; exact (ih t).append (.cons r .nil)
def revD (mt : Bool) (x : D) (m : Mem) : R D := match x with
  | .tup ds => mkT ds.reverse m
  | x => match lstOf m x with
    | some ds => mkL mt ds.reverse m
    | none => .bad
def dRev (mt : Bool) (f : EV) : EV := fun env m => (f env m).bind fun x m1 => noex (revD mt x m1)
theorem d_rev {X : Cx} {G : Gd} {W : WX} {e : Expr} {f : EV} {mt : Bool} {k : Nat} {p1 p2 p3 pos : Pos} (hK : G.K = X.K) (he : PE X e (tOf G W f)) : PE X (.Subscript e (.Slice none none (some (.UnaryOp .USub (.Constant (.int 1) k p1) p2)) p3) pos) (tOf G W (dRev mt f)) := by
  refine PE.wk (pe_rev2 he) fun σ H Q ⟨T, env, m, e, S, re, q⟩ => ?_
  subst e
  obtain ⟨p1, p2, p3⟩ := bindP q
  refine stepE S re p1 p2 fun x m1 T1 v e1 E1 S1 re1 r1 => ?_
  have q := post_ext E1 (p3 x m1 e1)
  have q := post_noex q
  have lists : (match lstOf m1 x with
    | some ds => mkL mt ds.reverse m1
    | none => .bad) = revD mt x m1 → ∃ a xs, v = .ref a ∧ ((SqL X.K T1.H a xs ∧ ∀ p, T1.H p = none → Q (.ref p) (upd T1.H p (.lst xs.reverse))) ∨ (SqT X.K T1.H a xs ∧ ∀ p, T1.H p = none → Q (.ref p) (upd T1.H p (.tup xs.reverse)))) := fun e => by
    rw [← e] at q
    cases e1 : lstOf m1 x with
    | none => rw [e1] at q; exact q.elim
    | some ds =>
      rw [e1] at q
      obtain ⟨a, vs, rfl, h1, r2⟩ := r1.list S1 e1
      exact ⟨a, vs, rfl, .inl ⟨by rw [← hK]; exact h1, post_mkL S1 r2.rev q⟩⟩
  cases x with
  | tup ds =>
    obtain ⟨a, vs, rfl, h1, r2⟩ := r1.tupl
    exact ⟨a, vs, rfl, .inr ⟨by rw [← hK]; exact h1, post_mkT S1 r2.rev q⟩⟩
  | _ => exact lists rfl
end Itp
set_option Elab.async false
set_option linter.all false
set_option maxRecDepth 100000
/-! Itp I: from the text to the functions, and that this is right. -/
namespace Itp
open PySem PySem.Spec PyProof.Rows L2

/-- a class of exceptions: whether it has an __init__, its fields, the names of the classes above it and its own -/
structure ExD where
  ini : Bool
  flds : List Str
  sups : List Str
/-- what is known of such a class -/
structure ExF (X : Cx) (G : Gd) (exn : List Str) (c : Str) (e : ExD) : Prop where
  rs : c ≠ ("ZeroDivisionError" : Str) → if e.ini then ExIs X G c e.flds else Ex0Is X G c
  xc : c ≠ ("ZeroDivisionError" : Str) → XcC X.K (G.cl c)
  no : ∀ f ∈ e.flds, PySem.W.findIn X.K (.ref (G.cl c)) f = some none
  exm : ∀ d ∈ exn, PySem.W.exmOne X.K (clsV G c) (clsN G d) = some (e.sups.contains d)
  kit : c ≠ ("ZeroDivisionError" : Str) → ∀ d ∈ exn, PySem.W.kitOne X.K (clsV G c) (clsN G d) = some (e.sups.contains d)
/-- what is known of a written dict -/
structure TabIs (X : Cx) (G : Gd) (x : Str) (l : List (List Nat × D)) : Prop where
  ex : ∃ a, X.mg x = some (.ref a) ∧ ∀ s d, l.lookup s = some d → ∃ v, KDct X.K X.w a (stS s) v ∧ ∀ T, RD G T d v
def dKix (l : List (List Nat × D)) (f : EV) : EV := fun env m => (f env m).bind fun d m1 => match d with
  | .str s => match l.lookup s with
    | some v => .ok v m1
    | none => .bad
  | _ => .bad
section
variable {X : Cx} {G : Gd} {W : WX} {p pos : Pos} {f : EV} {b : Expr}
theorem d_kix {x : Str} {l : List (List Nat × D)} (h : TabIs X G x l) (hg : Gl X x) (hd : (x == ("__debug__" : Str)) = false) (hb : PE X b (tOf G W f)) (hs : plainIx b = true) : PE X (.Subscript (.Name x p) b pos) (tOf G W (dKix l f)) := by
  obtain ⟨a, hm, hl⟩ := h.ex
  have hn : PE X (.Name x p) (tC (.ref a)) := ⟨fun _ _ _ H _ I h => ld_glob I hg hm ⟨.ref a, H, I, rfl, h⟩ hd⟩
  refine PE.wk (pe_ix ix_kdict hn hb (plainIx_of hs)) fun σ H Q ⟨T, env, m, e, S, re, q⟩ => ?_
  subst e
  obtain ⟨p1, p2, p3⟩ := bindP q
  refine stepE S re p1 p2 fun d m1 T1 v e1 E1 S1 re1 r1 => ?_
  have q := post_ext E1 (p3 d m1 e1)
  cases d with
  | str s =>
    cases r1
    cases e2 : l.lookup s with
    | none =>
      replace q : post G T1 (WS W σ) (match l.lookup s with | some v => .ok v m1 | none => .bad) Q := q
      rw [e2] at q; exact q.elim
    | some dd =>
      replace q : post G T1 (WS W σ) (match l.lookup s with | some v => .ok v m1 | none => .bad) Q := q
      rw [e2] at q
      obtain ⟨v, h1, h2⟩ := hl s dd e2
      exact ⟨a, stS s, v, rfl, rfl, h1, post_ok S1 (h2 T1) q⟩
  | _ => exact q.elim
end
/-- what is known of the module -/
structure Tr where
  N : List Str
  con : List (Str × D)
  fn : List (Str × Nat × Nat)
  free : List Str
  sel : Pos → Nat
  F : Nat → List D → Mem → R D
  F1 : Nat → List D → Mem → R D
  meth : List (Str × List (Str × Nat × Nat))
  mak : List (Str × Nat × Nat)
  noat : List (Str × List Str)
  /-- nothing is caught here -/
  cm : Bool := true
  /-- the caught exception's slot, and it -/
  xi : Option Nat := none
  xv : Exn := ⟨Str.empty, []⟩
  /-- the classes of exceptions that may come; the classes that an except or an isinstance may name -/
  exs : List (Str × ExD) := []
  exn : List Str := []
  /-- the written dicts with text keys -/
  tab : List (Str × List (List Nat × D)) := []
  /-- the defs that an except suite may hand its exception to -/
  hot : List (Str × Nat) := []
  FX : Nat → Exn → Mem → R D := fun _ _ _ => .bad

def ixOf (x : Str) : List Str → Option Nat
  | [] => none
  | y :: r => if y = x then some 0 else (ixOf x r).map (· + 1)
theorem ixOf_get {x : Str} : ∀ {l : List Str} {i : Nat}, ixOf x l = some i → l[i]? = some x
  | [], _, h => by cases h
  | y :: r, i, h => by
    unfold ixOf at h
    split at h
    · rename_i e; cases h; rw [e]; rfl
    · cases e : ixOf x r with
      | none => rw [e] at h; cases h
      | some j => rw [e] at h; cases h; simpa using ixOf_get e

structure Cfg (t : Tr) (G : Gd) (k : Nat) (W : WX) (X : Cx) (sc : Scope) : Prop where
  hK : G.K = X.K
  tk : Takes X W
  calm : t.cm = true → X.calm = true
  N : X.N = t.N
  nd : X.N.Nodup
  sc : X.env.scope = sc
  room : t.cm = true → Room k X.A
  room2 : t.cm = true → Room 2 X.A
  un : X.A.units + 65 < cLine
  cmx : t.cm = true → t.xi = none
  xi : match t.xi with
    | none => G.xs = none
    | some i => ∃ z, G.xs = some z ∧ z.i = i ∧ z.x = t.xv ∧ InSuite X z
  exs : ∀ c e, t.exs.lookup c = some e → ExF X G t.exn c e
  exn : ∀ c ∈ t.exn, ClsNm X G c
  tab : ∀ x l, t.tab.lookup x = some l → TabIs X G x l
  con : ∀ x d, t.con.lookup x = some d → ∃ v u, X.mg x = some u ∧ RelV v u ∧ ∀ T, RD G T d v
  free : ∀ x, x ∈ t.free → X.mg x = none
  fn : ∀ x i n, (x, i, n) ∈ t.fn → FnIs X G x n k (t.F i)
  meth : ∀ x l, t.meth.lookup x = some l → ∀ c i n, (c, i, n) ∈ l → MethIs X G c x n k (t.F i)
  mak : ∀ c i n, (c, i, n) ∈ t.mak → MakeIs X G c n k (t.F1 i)
  noat : ∀ x cs, t.noat.lookup x = some cs → ∀ c ∈ cs, NoAttr G.K (G.cl c) x
  hot : ∀ x i, t.hot.lookup x = some i → FnIsX X G x (t.FX i)
  rh : t.hot = [] ∨ L2H.RoomH 1 X.A

theorem Cfg.xsn {t : Tr} {G : Gd} {k : Nat} {W : WX} {X : Cx} {sc : Scope} (C : Cfg t G k W X sc) (h : t.cm = true) : G.xs = none := by
  have h1 := C.xi
  rw [C.cmx h] at h1
  exact h1
theorem Cfg.fr {t : Tr} {G : Gd} {k : Nat} {W : WX} {X : Cx} {sc : Scope} (C : Cfg t G k W X sc) {i : Nat} (h : t.xi ≠ some i) : G.fr i := by
  intro z e
  have h1 := C.xi
  cases q : t.xi with
  | none => rw [q] at h1; rw [h1] at e; cases e
  | some j =>
    rw [q] at h1
    obtain ⟨z', e1, e2, _⟩ := h1
    rw [e] at e1; cases e1
    exact fun w => h (by rw [q, ← e2, w])
def gd {α : Type} (b : Bool) (o : Option α) : Option α := if b then o else none
theorem gd_ok {α : Type} {b : Bool} {o : Option α} {x : α} (h : gd b o = some x) : b = true ∧ o = some x := by
  unfold gd at h
  cases b with
  | true => exact ⟨rfl, h⟩
  | false => cases h
abbrev TrE := Scope → Expr → Option EV
abbrev TrT := Scope → Expr → Option TV
def SndE (t : Tr) (G : Gd) (k : Nat) (r : TrE) : Prop := ∀ W X sc e f, Cfg t G k W X sc → r sc e = some f → PE X e (tOf G W f)
def SndT (t : Tr) (G : Gd) (k : Nat) (r : TrT) : Prop := ∀ W X sc e f, Cfg t G k W X sc → r sc e = some f → PT X e (ttOf G W f)

def nmOk (x : Str) : Bool := !(x == ("__debug__" : Str)) && !(x == ("__classdict__" : Str))
theorem nmOk_d {x : Str} (h : nmOk x = true) : (x == ("__debug__" : Str)) = false ∧ (x == ("__classdict__" : Str)) = false := by
  unfold nmOk at h
  rw [Bool.and_eq_true, Bool.not_eq_true', Bool.not_eq_true'] at h
  exact h
def visB (sc : Scope) (x : Str) : Bool := match sc.names.lookup x with
  | some .local => true
  | some .cell => true
  | some .free => true
  | _ => false
theorem visB_vis {sc : Scope} {x : Str} (h : visB sc x = true) : Vis sc x := by
  unfold visB at h
  unfold Vis
  split at h
  · rename_i e; exact .inl e
  · rename_i e; exact .inr (.inl e)
  · rename_i e; exact .inr (.inr e)
  · cases h
def glB (sc : Scope) (x : Str) : Bool := match sc.names.lookup x with
  | some .globalImplicit => true
  | _ => false
theorem glB_gl {X : Cx} {sc : Scope} {x : Str} (hs : X.env.scope = sc) (h : glB sc x = true) : Gl X x := by
  unfold glB at h
  show X.env.scope.names.lookup x = _
  rw [hs]
  split at h
  · assumption
  · cases h

/-! ### names, constants -/
def eName (t : Tr) : TrE
  | sc, .Name x _ => if nmOk x then match ixOf x t.N with
    | some i => if visB sc x then some (dVar i) else none
    | none => if glB sc x then (t.con.lookup x).map dC else none
    else none
  | _, _ => none
def eConst : TrE
  | _, .Constant (.int i) _ _ => some (dC (.int i))
  | _, .Constant (.bool b) _ _ => some (dC (.bl b))
  | _, .Constant .none _ _ => some (dC .non)
  | _, .Constant (.str s) _ _ => some (dC (.str s.cps.toList))
  | _, _ => none
section
variable {t : Tr} {G : Gd} {k : Nat}
theorem eName_ok : SndE t G k (eName t) := by
  intro W X sc e f C h
  unfold eName at h
  split at h
  · rename_i sc x pos
    split at h
    · rename_i hn
      obtain ⟨n1, n2⟩ := nmOk_d hn
      cases e1 : ixOf x t.N with
      | none =>
        rw [e1] at h
        dsimp only at h
        split at h
        · rename_i hg
          cases e2 : t.con.lookup x with
          | none => rw [e2] at h; cases h
          | some d =>
            rw [e2] at h; cases h
            obtain ⟨v, u, h1, h2, h3⟩ := C.con x d e2
            exact d_const (pe_glob (glB_gl C.sc hg) h1 h2 n1) h3
        · cases h
      | some i =>
        rw [e1] at h
        dsimp only at h
        split at h
        · rename_i hv
          cases h
          exact d_var (by rw [C.N]; exact ixOf_get e1) (by rw [C.sc]; exact visB_vis hv) n1 n2
        · cases h
    · cases h
  · cases h
theorem eConst_ok : SndE t G k eConst := by
  intro W X sc e f C h
  unfold eConst at h
  split at h
  · cases h; exact d_const pe_int fun _ => .int _
  · cases h; exact d_const pe_bl fun _ => .bl _
  · cases h; exact d_const pe_non fun _ => .non
  · cases h
    rename_i s _ _
    refine d_const pe_str fun T => ?_
    have : RD G T (.str s.cps.toList) (.str (stS s.cps.toList)) := .str _
    have e : stS s.cps.toList = s := by simp [stS]
    rw [e] at this
    exact this
  · cases h
end

/-! ### operators -/
def opOf (mt : Bool) : Operator → Option (D → D → Mem → R D)
  | .Add => some (opAdd mt)
  | .Sub => some opSub
  | .Mult => some (opMul mt)
  | .FloorDiv => some opFDiv
  | .Mod => some opMod
  | .Pow => some opPow
  | _ => none
def cmpOf : CmpOp → Option (D → D → Mem → R D)
  | .Eq => some (opEq false)
  | .NotEq => some (opEq true)
  | .Lt => some opLt
  | .LtE => some opLe
  | .Gt => some opGt
  | .GtE => some opGe
  | .Is => some (opIsN false)
  | .IsNot => some (opIsN true)
  | .In => some (opIn false)
  | .NotIn => some (opIn true)
theorem opOf_ok {X : Cx} {G : Gd} {mt : Bool} {op : Operator} {h : D → D → Mem → R D} (hK : G.K = X.K) (e : opOf mt op = some h) : OpR X (binaryOp op) (r2Of G h) := by
  cases op <;> first | (cases e; first | exact s_add hK | exact s_sub | exact s_mulT hK | exact s_fdiv | exact s_mod | exact s_pow) | (cases e)
theorem cmpOf_ok {X : Cx} {G : Gd} {op : CmpOp} {h : D → D → Mem → R D} (hK : G.K = X.K) (hu : X.A.units + 65 < cLine) (e : cmpOf op = some h) : OpR X (compareOp op) (r2Of G h) := by
  cases op <;> first | (cases e; first | exact s_eq hK (by omega) | exact s_ne hK (by omega) | exact s_in hK hu | exact s_nin hK hu | exact s_lt | exact s_le | exact s_gt | exact s_ge | exact s_is | exact s_isnot) | (cases e)
def mtOf (t : Tr) (p : Pos) : Bool := t.sel p == 1
def eBin (t : Tr) (r : TrE) : TrE
  | sc, .BinOp a op b p => match r sc a, r sc b, opOf (mtOf t p) op with
    | some f, some g, some h => some (dBin h f g)
    | _, _, _ => none
  | _, _ => none
def eCmp (r : TrE) : TrE
  | sc, .Compare a [op] [b] _ => match r sc a, r sc b, cmpOf op with
    | some f, some g, some h => if behindInMarks op b = false then some (dBin h f g) else none
    | _, _, _ => none
  | sc, .Compare a [op, op2] [b, c] _ => match r sc a, r sc b, r sc c, cmpOf op, cmpOf op2 with
    | some f, some g, some k, some h, some h2 => if lastMarks [op, op2] [b, c] = false then some (dChain h h2 f g k) else none
    | _, _, _, _, _ => none
  | _, _ => none
section
variable {t : Tr} {G : Gd} {k : Nat} {r : TrE} {rt : TrT}
theorem eBin_ok (hr : SndE t G k r) : SndE t G k (eBin t r) := by
  intro W X sc e f C h
  unfold eBin at h
  split at h
  · split at h
    · rename_i e1 e2 e3
      cases h
      exact d_bin (opOf_ok C.hK e3) (hr _ _ _ _ _ C e1) (hr _ _ _ _ _ C e2)
    · cases h
  · cases h
theorem Cfg.u65 {W : WX} {X : Cx} {sc : Scope} (C : Cfg t G k W X sc) : X.A.units + 65 < cLine := C.un
theorem Cfg.u1 {W : WX} {X : Cx} {sc : Scope} (C : Cfg t G k W X sc) : X.A.units + 1 < cLine := by have := C.u65; omega
theorem chain_post {W : WX} {σ : L2.St} {H : Hp} {h1 h2 : D → D → Mem → R D} {f g k : EV} {Q : VK} (q : tOf G W (dChain h1 h2 f g k) σ H Q) : tChain (r2Of G h1) (r2Of G h2) (tOf G W f) (tOf G W g) (tOf G W k) σ H Q := by
  have := d_chain2 q
  exact this
theorem eCmp_ok (hr : SndE t G k r) : SndE t G k (eCmp r) := by
  intro W X sc e f C h
  unfold eCmp at h
  split at h
  · split at h
    · rename_i e1 e2 e3
      split at h
      · rename_i hm
        cases h
        exact d_cmp (cmpOf_ok C.hK C.u65 e3) (hr _ _ _ _ _ C e1) (hr _ _ _ _ _ C e2) hm
      · cases h
    · cases h
  · split at h
    · rename_i e1 e2 e3 e4 e5
      split at h
      · rename_i hm
        cases h
        exact PE.wk (pe_chain (cmpOf_ok C.hK C.u65 e4) (cmpOf_ok C.hK C.u65 e5) (hr _ _ _ _ _ C e1) (hr _ _ _ _ _ C e2) (hr _ _ _ _ _ C e3) hm) fun _ _ _ q => chain_post q
      · cases h
    · cases h
  · cases h
end
end Itp
set_option Elab.async false
set_option linter.all false
set_option maxRecDepth 100000
/-! Itp J: from the text to the functions: tests, calls, displays, comprehensions. -/
namespace Itp
open PySem PySem.Spec PyProof.Rows L2
section
variable {t : Tr} {G : Gd} {k : Nat} {r : TrE} {rt : TrT}
/-- a comparison as a test -/
def tCmpE (r : TrE) : TrT
  | sc, .Compare a [op] [b] _ => match r sc a, r sc b, cmpOf op with
    | some f, some g, some h => if behindInMarks op b = false then some (dBl (dBin h f g)) else none
    | _, _, _ => none
  | sc, .Compare a [op, op2] [b, c] _ => match r sc a, r sc b, r sc c, cmpOf op, cmpOf op2 with
    | some f, some g, some k, some h, some h2 => if lastMarks [op, op2] [b, c] = false then some (dBl (dChain h h2 f g k)) else none
    | _, _, _, _, _ => none
  | _, _ => none
theorem tCmpE_ok (hr : SndE t G k r) : SndT t G k (tCmpE r) := by
  intro W X sc e f C h
  unfold tCmpE at h
  split at h
  · split at h
    · rename_i e1 e2 e3
      split at h
      · rename_i hm
        cases h
        exact PT.wk (pt_cmpR (cmpOf_ok C.hK C.u65 e3) (hr _ _ _ _ _ C e1) (hr _ _ _ _ _ C e2) hm) fun _ _ _ q => d_bin2 (dBl_post q)
      · cases h
    · cases h
  · split at h
    · rename_i e1 e2 e3 e4 e5
      split at h
      · rename_i hm
        cases h
        exact PT.wk (pt_chain (cmpOf_ok C.hK C.u65 e4) (cmpOf_ok C.hK C.u65 e5) (hr _ _ _ _ _ C e1) (hr _ _ _ _ _ C e2) (hr _ _ _ _ _ C e3) hm) fun _ _ _ q => chain_post (dBl_post q)
      · cases h
    · cases h
  · cases h
def tNot (rt : TrT) : TrT
  | sc, .UnaryOp .Not a _ => (rt sc a).map dNotT
  | _, _ => none
theorem tNot_ok (hr : SndT t G k rt) : SndT t G k (tNot rt) := by
  intro W X sc e f C h
  unfold tNot at h
  split at h
  · rename_i a _
    cases e1 : rt _ a with
    | none => rw [e1] at h; cases h
    | some g => rw [e1] at h; cases h; exact d_not (hr _ _ _ _ _ C e1)
  · cases h
/-- and, or as tests -/
def tAnds (rt : Expr → Option TV) : List Expr → Option TV
  | [] => none
  | [a] => rt a
  | a :: r => match rt a, tAnds rt r with
    | some f, some g => some (dAndT f g)
    | _, _ => none
def tOrs (rt : Expr → Option TV) : List Expr → Option TV
  | [] => none
  | [a] => rt a
  | a :: r => match rt a, tOrs rt r with
    | some f, some g => some (dOrT f g)
    | _, _ => none
theorem tAnds_ok {W : WX} {X : Cx} {sc : Scope} {pos : Pos} (C : Cfg t G k W X sc) (hr : SndT t G k rt) : ∀ (l : List Expr) (f : TV), tAnds (rt sc) l = some f → PW X (.BoolOp .And l pos) (ttOf G W f)
  | [], _, h => by cases h
  | [a], f, h => pw_and1 (hr _ _ _ _ _ C h)
  | a :: b :: r, f, h => by
    have h : (match rt sc a, tAnds (rt sc) (b :: r) with
      | some f, some g => some (dAndT f g)
      | _, _ => none) = some f := h
    cases e1 : rt sc a with
    | none => rw [e1] at h; cases h
    | some g =>
      cases e2 : tAnds (rt sc) (b :: r) with
      | none => rw [e1, e2] at h; cases h
      | some u => rw [e1, e2] at h; cases h; exact d_andT (hr _ _ _ _ _ C e1) (tAnds_ok C hr (b :: r) u e2)
theorem tOrs_ok {W : WX} {X : Cx} {sc : Scope} {pos : Pos} (C : Cfg t G k W X sc) (hr : SndT t G k rt) : ∀ (l : List Expr) (f : TV), tOrs (rt sc) l = some f → PW X (.BoolOp .Or l pos) (ttOf G W f)
  | [], _, h => by cases h
  | [a], f, h => pw_or1 (hr _ _ _ _ _ C h)
  | a :: b :: r, f, h => by
    have h : (match rt sc a, tOrs (rt sc) (b :: r) with
      | some f, some g => some (dOrT f g)
      | _, _ => none) = some f := h
    cases e1 : rt sc a with
    | none => rw [e1] at h; cases h
    | some g =>
      cases e2 : tOrs (rt sc) (b :: r) with
      | none => rw [e1, e2] at h; cases h
      | some u => rw [e1, e2] at h; cases h; exact d_orT (hr _ _ _ _ _ C e1) (tOrs_ok C hr (b :: r) u e2)
def tBool (rt : TrT) : TrT
  | sc, .BoolOp .And l _ => tAnds (rt sc) l
  | sc, .BoolOp .Or l _ => tOrs (rt sc) l
  | _, _ => none
theorem tBool_ok (hr : SndT t G k rt) : SndT t G k (tBool rt) := by
  intro W X sc e f C h
  unfold tBool at h
  split at h
  · exact (tAnds_ok C hr _ f h).pt
  · exact (tOrs_ok C hr _ f h).pt
  · cases h
/-- any other expression as a test -/
def tAny (r : TrE) : TrT
  | sc, .Name x p => (r sc (.Name x p)).map dTest
  | sc, .Call a b c d => (r sc (.Call a b c d)).map dTest
  | sc, .Subscript a b c => (r sc (.Subscript a b c)).map dTest
  | sc, .Attribute a b c => (r sc (.Attribute a b c)).map dTest
  | sc, .BinOp a b c d => (r sc (.BinOp a b c d)).map dTest
  | _, _ => none
theorem tAny_ok (hr : SndE t G k r) : SndT t G k (tAny r) := by
  intro W X sc e f C h
  unfold tAny at h
  split at h
  all_goals first
    | (cases h; done)
    | (cases e1 : r _ _ with
      | none => rw [e1] at h; cases h
      | some g => rw [e1] at h; cases h; exact d_test C.hK (hr _ _ _ _ _ C e1) (fun _ => rfl))

/-! ### values of and, or, not, if -/
def eAnds (r : Expr → Option EV) : List Expr → Option EV
  | [] => none
  | [a] => r a
  | a :: l => match r a, eAnds r l with
    | some f, some g => some (dAndV f g)
    | _, _ => none
def eOrs (r : Expr → Option EV) : List Expr → Option EV
  | [] => none
  | [a] => r a
  | a :: l => match r a, eOrs r l with
    | some f, some g => some (dOrV f g)
    | _, _ => none
theorem eAnds_ok {W : WX} {X : Cx} {sc : Scope} {pos : Pos} (C : Cfg t G k W X sc) (hr : SndE t G k r) : ∀ (l : List Expr) (f : EV), eAnds (r sc) l = some f → PE X (.BoolOp .And l pos) (tOf G W f)
  | [], _, h => by cases h
  | [a], f, h => pe_one (hr _ _ _ _ _ C h)
  | a :: b :: l, f, h => by
    have h : (match r sc a, eAnds (r sc) (b :: l) with
      | some f, some g => some (dAndV f g)
      | _, _ => none) = some f := h
    cases e1 : r sc a with
    | none => rw [e1] at h; cases h
    | some g =>
      cases e2 : eAnds (r sc) (b :: l) with
      | none => rw [e1, e2] at h; cases h
      | some u => rw [e1, e2] at h; cases h; exact d_andV C.hK (hr _ _ _ _ _ C e1) (eAnds_ok C hr (b :: l) u e2)
theorem eOrs_ok {W : WX} {X : Cx} {sc : Scope} {pos : Pos} (C : Cfg t G k W X sc) (hr : SndE t G k r) : ∀ (l : List Expr) (f : EV), eOrs (r sc) l = some f → PE X (.BoolOp .Or l pos) (tOf G W f)
  | [], _, h => by cases h
  | [a], f, h => pe_one (hr _ _ _ _ _ C h)
  | a :: b :: l, f, h => by
    have h : (match r sc a, eOrs (r sc) (b :: l) with
      | some f, some g => some (dOrV f g)
      | _, _ => none) = some f := h
    cases e1 : r sc a with
    | none => rw [e1] at h; cases h
    | some g =>
      cases e2 : eOrs (r sc) (b :: l) with
      | none => rw [e1, e2] at h; cases h
      | some u => rw [e1, e2] at h; cases h; exact d_orV C.hK (hr _ _ _ _ _ C e1) (eOrs_ok C hr (b :: l) u e2)
def eBoolV (r : TrE) : TrE
  | sc, .BoolOp .And l _ => eAnds (r sc) l
  | sc, .BoolOp .Or l _ => eOrs (r sc) l
  | sc, .UnaryOp .Not a _ => (r sc a).map dNotV
  | _, _ => none
theorem eBoolV_ok (hr : SndE t G k r) : SndE t G k (eBoolV r) := by
  intro W X sc e f C h
  unfold eBoolV at h
  split at h
  · exact eAnds_ok C hr _ f h
  · exact eOrs_ok C hr _ f h
  · rename_i a _
    cases e1 : r _ a with
    | none => rw [e1] at h; cases h
    | some g => rw [e1] at h; cases h; exact d_notV C.hK (hr _ _ _ _ _ C e1)
  · cases h
def eIf (r : TrE) (rt : TrT) : TrE
  | sc, .IfExp c a b _ => match rt sc c, r sc a, r sc b with
    | some t, some f, some g => some (dIf t f g)
    | _, _, _ => none
  | _, _ => none
theorem eIf_ok (hr : SndE t G k r) (ht : SndT t G k rt) : SndE t G k (eIf r rt) := by
  intro W X sc e f C h
  unfold eIf at h
  split at h
  · split at h
    · rename_i e1 e2 e3
      cases h
      exact d_if (ht _ _ _ _ _ C e1) (hr _ _ _ _ _ C e2) (hr _ _ _ _ _ C e3)
    · cases h
  · cases h

/-! ### displays, calls -/
def trArgs (r : Expr → Option EV) : List Expr → Option (List EV)
  | [] => some []
  | a :: l => if notStar a then match r a, trArgs r l with
    | some f, some g => some (f :: g)
    | _, _ => none
    else none
theorem trArgs_ok {W : WX} {X : Cx} {sc : Scope} (C : Cfg t G k W X sc) (hr : SndE t G k r) : ∀ (l : List Expr) (fs : List EV), trArgs (r sc) l = some fs → PA X l (taOf G W (dArgs fs)) ∧ l.all notStar = true ∧ l.length = fs.length
  | [], _, h => by cases h; exact ⟨d_nil, rfl, rfl⟩
  | a :: l, fs, h => by
    unfold trArgs at h
    split at h
    · rename_i hn
      cases e1 : r sc a with
      | none => rw [e1] at h; cases h
      | some f =>
        cases e2 : trArgs (r sc) l with
        | none => rw [e1, e2] at h; cases h
        | some gs =>
          rw [e1, e2] at h; cases h
          obtain ⟨h1, h2, h3⟩ := trArgs_ok C hr l gs e2
          exact ⟨d_cons hn (hr _ _ _ _ _ C e1) h1, by rw [List.all_cons, hn, h2]; rfl, by simp [h3]⟩
    · cases h
def eDisp (t : Tr) (r : TrE) : TrE
  | sc, .Tuple l _ _ => (trArgs (r sc) l).map dTup
  | sc, .List l p => (trArgs (r sc) l).map (dLst (mtOf t p))
  | _, _ => none
theorem eDisp_ok (hr : SndE t G k r) : SndE t G k (eDisp t r) := by
  intro W X sc e f C h
  unfold eDisp at h
  split at h
  · rename_i l _ _
    cases e1 : trArgs (r _) l with
    | none => rw [e1] at h; cases h
    | some g => rw [e1] at h; cases h; exact d_tup (trArgs_ok C hr _ _ e1).1
  · rename_i l _
    cases e1 : trArgs (r _) l with
    | none => rw [e1] at h; cases h
    | some g => rw [e1] at h; cases h; exact d_lst (trArgs_ok C hr _ _ e1).1
  · cases h
/-- built-in functions and types, called -/
def biT (x : Str) (mt : Bool) : Option (List D → Mem → R D) :=
  if x = "int" then some bInt else if x = "tuple" then some bTuple else if x = "list" then some (bList mt) else if x = "str" then some bStr else none
def biF (x : Str) : Option (List D → Mem → R D) :=
  if x = "len" then some bLen else if x = "ord" then some bOrd else if x = "all" then some (bAll false) else if x = "any" then some (bAll true)
  else if x = "abs" then some bAbs else if x = "max" then some bMax else if x = "min" then some bMin else none
theorem biT_ok {X : Cx} {x : Str} {mt : Bool} {h : List D → Mem → R D} (hK : G.K = X.K) (e : biT x mt = some h) : ∃ id, CallR X (.type id) (rcOf G h) ∧ bootBuiltins x = some (.type id) ∧ x ≠ "__name__" ∧ (x == ("__debug__" : Str)) = false := by
  unfold biT at e
  split at e
  · rename_i q; subst q; cases e; exact ⟨"int", c_int, by decide +kernel, by decide +kernel, by decide +kernel⟩
  split at e
  · rename_i q; subst q; cases e; exact ⟨"tuple", c_tuple hK, by decide +kernel, by decide +kernel, by decide +kernel⟩
  split at e
  · rename_i q; subst q; cases e; exact ⟨"list", c_list hK, by decide +kernel, by decide +kernel, by decide +kernel⟩
  split at e
  · rename_i q; subst q; cases e; exact ⟨"str", c_str, by decide +kernel, by decide +kernel, by decide +kernel⟩
  · cases e
theorem biF_ok {X : Cx} {x : Str} {h : List D → Mem → R D} (hK : G.K = X.K) (hc : X.calm = true) (e : biF x = some h) : ∃ id, CallR X (.builtin id) (rcOf G h) ∧ bootBuiltins x = some (.builtin id) ∧ x ≠ "__name__" ∧ (x == ("__debug__" : Str)) = false := by
  unfold biF at e
  split at e
  · rename_i q; subst q; cases e; exact ⟨"len", c_len hK, by decide +kernel, by decide +kernel, by decide +kernel⟩
  split at e
  · rename_i q; subst q; cases e; exact ⟨"ord", c_ord, by decide +kernel, by decide +kernel, by decide +kernel⟩
  split at e
  · rename_i q; subst q; cases e; exact ⟨"all", c_all hK hc, by decide +kernel, by decide +kernel, by decide +kernel⟩
  split at e
  · rename_i q; subst q; cases e; exact ⟨"any", c_any hK hc, by decide +kernel, by decide +kernel, by decide +kernel⟩
  split at e
  · rename_i q; subst q; cases e; exact ⟨"abs", c_abs, by decide +kernel, by decide +kernel, by decide +kernel⟩
  split at e
  · rename_i q; subst q; cases e; exact ⟨"max", c_max hc, by decide +kernel, by decide +kernel, by decide +kernel⟩
  split at e
  · rename_i q; subst q; cases e; exact ⟨"min", c_min hc, by decide +kernel, by decide +kernel, by decide +kernel⟩
  · cases e
/-- the number of what x is with n values -/
def fnAt (x : Str) (n : Nat) : List (Str × Nat × Nat) → Option Nat
  | [] => none
  | (y, i, j) :: l => if y = x ∧ j = n then some i else fnAt x n l
theorem fnAt_mem {x : Str} {n i : Nat} : ∀ {l : List (Str × Nat × Nat)}, fnAt x n l = some i → (x, i, n) ∈ l
  | [], h => by cases h
  | (y, i', j) :: l, h => by
    unfold fnAt at h
    split at h
    · rename_i e; cases h; rw [← e.1, ← e.2]; exact List.mem_cons_self
    · exact List.mem_cons_of_mem _ (fnAt_mem h)
def eCall (t : Tr) (r : TrE) : TrE
  | sc, .Call (.Name x _) (a :: l) [] p => match trArgs (r sc) (a :: l) with
    | some fs => if glB sc x && nmOk x then match fnAt x fs.length t.fn with
        | some i => some (dCall (t.F i) fs)
        | none => if t.free.contains x then match biT x (mtOf t p) with
            | some h => some (dCB h fs)
            | none => (biF x).map fun h => dCB h fs
          else none
      else none
    | none => none
  | sc, .Call (.Name x _) [] [] _ => if glB sc x && nmOk x then match fnAt x 0 t.fn with
        | some i => some (dCall (t.F i) [])
        | none => none
      else none
  | _, _ => none
theorem eCall_ok (hcm : t.cm = true) (hr : SndE t G k r) : SndE t G k (eCall t r) := by
  intro W X sc e f C h
  unfold eCall at h
  split at h
  · rename_i sc x _ a l p
    split at h
    · rename_i fs e1
      obtain ⟨h1, h2, h3⟩ := trArgs_ok C hr _ _ e1
      split at h
      · rename_i hc
        rw [Bool.and_eq_true] at hc
        have hg := glB_gl C.sc hc.1
        split at h
        · rename_i i e2
          cases h
          exact d_call (C.fn x i _ (fnAt_mem e2)) C.tk (C.room hcm) hg (nmOk_d hc.2).1 h2 rfl h3 h1
        · split at h
          · rename_i hf
            have hm := C.free x (by simpa using hf)
            split at h
            · rename_i hh e3
              cases h
              obtain ⟨id, q1, q2, q3, q4⟩ := biT_ok C.hK e3
              exact d_cty q1 hg hm q2 q3 q4 h2 h1
            · cases e3 : biF x with
              | none => rw [e3] at h; cases h
              | some hh =>
                rw [e3] at h; cases h
                obtain ⟨id, q1, q2, q3, q4⟩ := biF_ok C.hK (C.calm hcm) e3
                exact d_cb q1 hg hm q2 q3 q4 h2 h1
          · cases h
      · cases h
    · cases h
  · rename_i sc x _ _
    split at h
    · rename_i hc
      rw [Bool.and_eq_true] at hc
      split at h
      · rename_i i e2
        cases h
        exact d_call0 (C.fn x i 0 (fnAt_mem e2)) C.tk (C.room hcm) (glB_gl C.sc hc.1) (nmOk_d hc.2).1
      · cases h
    · cases h
  · cases h
/-- built-in functions that need no calm -/
def biF0 (x : Str) : Option (List D → Mem → R D) :=
  if x = "len" then some bLen else if x = "ord" then some bOrd else if x = "abs" then some bAbs else none
theorem biF0_ok {X : Cx} {x : Str} {h : List D → Mem → R D} (hK : G.K = X.K) (e : biF0 x = some h) : ∃ id, CallR X (.builtin id) (rcOf G h) ∧ bootBuiltins x = some (.builtin id) ∧ x ≠ "__name__" ∧ (x == ("__debug__" : Str)) = false := by
  unfold biF0 at e
  split at e
  · rename_i q; subst q; cases e; exact ⟨"len", c_len hK, by decide +kernel, by decide +kernel, by decide +kernel⟩
  split at e
  · rename_i q; subst q; cases e; exact ⟨"ord", c_ord, by decide +kernel, by decide +kernel, by decide +kernel⟩
  split at e
  · rename_i q; subst q; cases e; exact ⟨"abs", c_abs, by decide +kernel, by decide +kernel, by decide +kernel⟩
  · cases e
/-- calls in an except suite -/
def eCallS (t : Tr) (r : TrE) : TrE
  | sc, .Call (.Name x _) (a :: l) [] p => match trArgs (r sc) (a :: l) with
    | some fs => if glB sc x && nmOk x && t.free.contains x then match biT x (mtOf t p) with
            | some h => some (dCB h fs)
            | none => (biF0 x).map fun h => dCB h fs
      else none
    | none => none
  | _, _ => none
theorem eCallS_ok (hr : SndE t G k r) : SndE t G k (eCallS t r) := by
  intro W X sc e f C h
  unfold eCallS at h
  split at h
  · rename_i sc x _ a l p
    split at h
    · rename_i fs e1
      obtain ⟨h1, h2, h3⟩ := trArgs_ok C hr _ _ e1
      split at h
      · rename_i hc
        rw [Bool.and_eq_true, Bool.and_eq_true] at hc
        have hg := glB_gl C.sc hc.1.1
        have hm := C.free x (by simpa using hc.2)
        split at h
        · rename_i hh e3
          cases h
          obtain ⟨id, q1, q2, q3, q4⟩ := biT_ok C.hK e3
          exact d_cty q1 hg hm q2 q3 q4 h2 h1
        · cases e3 : biF0 x with
          | none => rw [e3] at h; cases h
          | some hh =>
            rw [e3] at h; cases h
            obtain ⟨id, q1, q2, q3, q4⟩ := biF0_ok C.hK e3
            exact d_cb q1 hg hm q2 q3 q4 h2 h1
      · cases h
    · cases h
  · cases h
/-- isinstance against built-in types -/
def tyOf (x : Str) : Option Ty :=
  if x = "int" then some .int else if x = "bool" then some .bl else if x = "list" then some .lst else if x = "tuple" then some .tup else if x = "str" then some .str else if x = "dict" then some .dct else none
theorem tyOf_ok {x : Str} {y : Ty} (e : tyOf x = some y) : bootBuiltins x = some (.type y.nm) ∧ x ≠ "__name__" ∧ (x == ("__debug__" : Str)) = false := by
  unfold tyOf at e
  repeat' split at e
  all_goals first
    | (rename_i q; subst q; cases e; exact ⟨by decide +kernel, by decide +kernel, by decide +kernel⟩)
    | cases e
def tyNames (t : Tr) (sc : Scope) : List Expr → Option (List Ty)
  | [] => some []
  | .Name x _ :: l => if glB sc x && t.free.contains x then match tyOf x, tyNames t sc l with
    | some y, some ys => some (y :: ys)
    | _, _ => none
    else none
  | _ => none
theorem tyNames_ok {W : WX} {X : Cx} {sc : Scope} (C : Cfg t G k W X sc) : ∀ (l : List Expr) (ts : List Ty), tyNames t sc l = some ts →
    Paired (fun e t => ∃ (x : Str) (p : Pos), e = Expr.Name x p ∧ Gl X x ∧ X.mg x = none ∧ bootBuiltins x = some (.type (Ty.nm t)) ∧ x ≠ "__name__" ∧ (x == ("__debug__" : Str)) = false) l ts := by
  intro l
  induction l with
  | nil => intro ts h; cases h; exact .nil
  | cons a l ih =>
    intro ts h
    cases a with
    | Name x p =>
      dsimp only [tyNames] at h
      split at h
      · rename_i hc
        rw [Bool.and_eq_true] at hc
        cases e1 : tyOf x with
        | none => rw [e1] at h; cases h
        | some y =>
          cases e2 : tyNames t sc l with
          | none => rw [e1, e2] at h; cases h
          | some ys =>
            rw [e1, e2] at h; cases h
            obtain ⟨q1, q2, q3⟩ := tyOf_ok e1
            exact .cons ⟨x, p, rfl, glB_gl C.sc hc.1, C.free x (by simpa using hc.2), q1, q2, q3⟩ (ih ys e2)
      · cases h
    | _ => cases h
def eIsi (t : Tr) (r : TrE) : TrE
  | sc, .Call (.Name f _) [a, .Name x p] [] _ => if f = "isinstance" ∧ notStar a = true ∧ glB sc f = true ∧ t.free.contains f = true then match r sc a, tyNames t sc [.Name x p] with
    | some f, some ts => some (dIsi ts f)
    | _, _ => none
    else none
  | sc, .Call (.Name f _) [a, .Tuple l _ _] [] _ => if f = "isinstance" ∧ notStar a = true ∧ glB sc f = true ∧ t.free.contains f = true then match r sc a, tyNames t sc l with
    | some f, some ts => if ts.length ≤ 1000 then some (dIsi ts f) else none
    | _, _ => none
    else none
  | _, _ => none
theorem eIsi_ok (hr : SndE t G k r) : SndE t G k (eIsi t r) := by
  intro W X sc e f C h
  unfold eIsi at h
  split at h
  · split at h
    · rename_i hc
      obtain ⟨rfl, h1, h2, h3⟩ := hc
      split at h
      · rename_i e1 e2
        cases h
        have hp := tyNames_ok C _ _ e2
        cases hp with
        | cons q1 q2 =>
          cases q2
          obtain ⟨x, p, e, g1, g2, g3, g4, g5⟩ := q1
          cases e
          exact d_isi1 C.hK (hr _ _ _ _ _ C e1) h1 (glB_gl C.sc h2) (C.free _ (by simpa using h3)) g1 g2 g3 g4 g5
      · cases h
    · cases h
  · split at h
    · rename_i hc
      obtain ⟨rfl, h1, h2, h3⟩ := hc
      split at h
      · rename_i e1 e2
        split at h
        · rename_i hz
          cases h
          exact d_isiT (x := "") C.hK (hr _ _ _ _ _ C e1) h1 (glB_gl C.sc h2) (C.free _ (by simpa using h3)) hz (tyNames_ok C _ _ e2)
        · cases h
      · cases h
    · cases h
  · cases h
def eIx (r : TrE) : TrE
  | sc, .Subscript a b _ => if plainIx b then match r sc a, r sc b with
    | some f, some g => some (dBin opIx f g)
    | _, _ => none
    else none
  | _, _ => none
theorem eIx_ok (hr : SndE t G k r) : SndE t G k (eIx r) := by
  intro W X sc e f C h
  unfold eIx at h
  split at h
  · split at h
    · rename_i hp
      split at h
      · rename_i e1 e2
        cases h
        exact d_ix C.hK C.u1 (hr _ _ _ _ _ C e1) (hr _ _ _ _ _ C e2) hp
      · cases h
    · cases h
  · cases h
/-! ### minus, slices, {} -/
def eNeg (r : TrE) : TrE
  | sc, .UnaryOp .USub a _ => (r sc a).map (dUn opNeg)
  | _, _ => none
theorem eNeg_ok (hr : SndE t G k r) : SndE t G k (eNeg r) := by
  intro W X sc e f C h
  unfold eNeg at h
  split at h
  · rename_i a _
    cases e1 : r _ a with
    | none => rw [e1] at h; cases h
    | some g => rw [e1] at h; cases h; exact d_neg (hr _ _ _ _ _ C e1)
  · cases h
def trBd (r : Expr → Option EV) : Option Expr → Option (Option EV)
  | none => some none
  | some e => (r e).map some
theorem trBd_ok {W : WX} {X : Cx} {sc : Scope} (C : Cfg t G k W X sc) (hr : SndE t G k r) {o : Option Expr} {fo : Option EV} (h : trBd (r sc) o = some fo) : BdOk X G W o fo := by
  cases o with
  | none => cases h; trivial
  | some e =>
    dsimp only [trBd] at h
    cases e1 : r sc e with
    | none => rw [e1] at h; cases h
    | some g => rw [e1] at h; cases h; exact hr _ _ _ _ _ C e1
def eSl (t : Tr) (r : TrE) : TrE
  | sc, .Subscript a (.Slice lo hi none _) p => match r sc a, trBd (r sc) lo, trBd (r sc) hi with
    | some f, some l, some h => some (dSl (mtOf t p) f l h)
    | _, _, _ => none
  | sc, .Subscript a (.Slice none none (some (.UnaryOp .USub (.Constant (.int 1) _ _) _)) _) p => (r sc a).map (dRev (mtOf t p))
  | sc, .Dict [] [] _ => some dNewD
  | _, _ => none
theorem eSl_ok (hr : SndE t G k r) : SndE t G k (eSl t r) := by
  intro W X sc e f C h
  unfold eSl at h
  split at h
  · split at h
    · rename_i e1 e2 e3
      cases h
      exact d_sl C.hK (hr _ _ _ _ _ C e1) (trBd_ok C hr e2) (trBd_ok C hr e3)
    · cases h
  · rename_i a _ _ _ _ _
    cases e1 : r _ a with
    | none => rw [e1] at h; cases h
    | some g => rw [e1] at h; cases h; exact d_rev C.hK (hr _ _ _ _ _ C e1)
  · cases h; exact d_newD
  · cases h
/-! ### dict displays -/
def trKVs (r : Expr → Option EV) : List (Option Expr) → List Expr → Option (List (EV × EV))
  | [], [] => some []
  | some a :: l, b :: k => match r a, r b, trKVs r l k with
    | some f, some g, some ps => some ((f, g) :: ps)
    | _, _, _ => none
  | _, _ => none
theorem trKVs_ok {W : WX} {X : Cx} {sc : Scope} {pos : Pos} (C : Cfg t G k W X sc) (hr : SndE t G k r) : ∀ (l : List (Option Expr)) (k2 : List Expr) (ps : List (EV × EV)), trKVs (r sc) l k2 = some ps → PPs X pos l k2 (ps.map fun p => (tOf G W p.1, tOf G W p.2)) ∧ l.all (·.isSome) = true ∧ l.length = k2.length
  | [], [], _, h => by cases h; exact ⟨pps_nil, rfl, rfl⟩
  | some a :: l, b :: k2, ps, h => by
    unfold trKVs at h
    cases e1 : r sc a with
    | none => rw [e1] at h; cases h
    | some f =>
      cases e2 : r sc b with
      | none => rw [e1, e2] at h; cases h
      | some g =>
        cases e3 : trKVs (r sc) l k2 with
        | none => rw [e1, e2, e3] at h; cases h
        | some qs =>
          rw [e1, e2, e3] at h; cases h
          obtain ⟨h1, h2, h3⟩ := trKVs_ok C hr l k2 qs e3
          exact ⟨pps_cons (hr _ _ _ _ _ C e1) (hr _ _ _ _ _ C e2) h1, by simpa using h2, by simp [h3]⟩
  | none :: _, [], _, h => by cases h
  | none :: _, _ :: _, _, h => by cases h
  | some _ :: _, [], _, h => by cases h
  | [], _ :: _, _, h => by cases h
def eDict (r : TrE) : TrE
  | sc, .Dict keys values _ => if keys ≠ [] ∧ keys.length ≤ 15 then (trKVs (r sc) keys values).map dDisp else none
  | _, _ => none
theorem eDict_ok (hr : SndE t G k r) : SndE t G k (eDict r) := by
  intro W X sc e f C h
  unfold eDict at h
  split at h
  · split at h
    · rename_i keys values pos hc
      cases e1 : trKVs (r _) keys values with
      | none => rw [e1] at h; cases h
      | some ps =>
        rw [e1] at h; cases h
        obtain ⟨h1, h2, h3⟩ := trKVs_ok C hr _ _ _ e1
        exact d_disp h1 h2 h3 hc.1 hc.2
    · cases h
  · cases h
/-! ### classes -/
def eAttr (r : TrE) : TrE
  | sc, .Attribute o x _ => if noSuper o then (r sc o).map (dAttr x) else none
  | _, _ => none
theorem eAttr_ok (hr : SndE t G k r) : SndE t G k (eAttr r) := by
  intro W X sc e f C h
  unfold eAttr at h
  split at h
  · split at h
    · rename_i o x _ hn
      cases e1 : r _ o with
      | none => rw [e1] at h; cases h
      | some g => rw [e1] at h; cases h; exact d_attr C.hK (hr _ _ _ _ _ C e1) hn
    · cases h
  · cases h
def tabOf (F : Nat → List D → Mem → R D) (n : Nat) : List (Str × Nat × Nat) → List (Str × (List D → Mem → R D))
  | [] => []
  | (c, i, j) :: l => if j = n then (c, F i) :: tabOf F n l else tabOf F n l
theorem tabOf_ok {F : Nat → List D → Mem → R D} {n : Nat} {c : Str} {h : List D → Mem → R D} : ∀ l : List (Str × Nat × Nat), (tabOf F n l).lookup c = some h → ∃ i, (c, i, n) ∈ l ∧ h = F i
  | [], e => by cases e
  | (c2, i, j) :: l, e => by
    unfold tabOf at e
    split at e
    · rename_i hj
      subst hj
      rw [List.lookup_cons] at e
      cases q : c == c2 with
      | true =>
        rw [q] at e
        cases e
        rw [eq_of_beq q]
        exact ⟨i, List.mem_cons_self, rfl⟩
      | false =>
        rw [q] at e
        obtain ⟨i', h1, h2⟩ := tabOf_ok l e
        exact ⟨i', List.mem_cons_of_mem _ h1, h2⟩
    · obtain ⟨i', h1, h2⟩ := tabOf_ok l e
      exact ⟨i', List.mem_cons_of_mem _ h1, h2⟩
def eMeth (t : Tr) (r : TrE) : TrE
  | sc, .Call (.Attribute o x ap) l [] p => if noSuper o && (ap.endLine == p.line) && decide (l.length < 29) then match t.meth.lookup x, r sc o, trArgs (r sc) l with
    | some tab, some f, some fs => some (dMeth x (tabOf t.F (fs.length + 1) tab) f fs)
    | _, _, _ => none
    else none
  | _, _ => none
theorem eMeth_ok (hcm : t.cm = true) (hr : SndE t G k r) : SndE t G k (eMeth t r) := by
  intro W X sc e f C h
  unfold eMeth at h
  split at h
  · split at h
    · rename_i hc
      rw [Bool.and_eq_true, Bool.and_eq_true] at hc
      split at h
      · rename_i tab f fs e1 e2 e3
        cases h
        obtain ⟨h1, h2, h3⟩ := trArgs_ok C hr _ _ e3
        refine d_meth C.hK C.tk (C.room hcm) (hr _ _ _ _ _ C e2) h1 hc.1.1 h2 (of_decide_eq_true hc.2) hc.1.2 h3 fun c g hg => ?_
        obtain ⟨i, q1, q2⟩ := tabOf_ok _ hg
        subst q2
        exact C.meth _ _ e1 _ _ _ q1
      · cases h
    · cases h
  · cases h
def eMake (t : Tr) (r : TrE) : TrE
  | sc, .Call (.Name x _) l [] _ => if glB sc x && nmOk x then match fnAt x (l.length + 1) t.mak, trArgs (r sc) l with
    | some i, some fs => some (dMake x (t.F1 i) fs)
    | _, _ => none
    else none
  | _, _ => none
theorem eMake_ok (hcm : t.cm = true) (hr : SndE t G k r) : SndE t G k (eMake t r) := by
  intro W X sc e f C h
  unfold eMake at h
  split at h
  · split at h
    · rename_i hc
      rw [Bool.and_eq_true] at hc
      split at h
      · rename_i i fs e1 e2
        cases h
        obtain ⟨h1, h2, h3⟩ := trArgs_ok C hr _ _ e2
        exact d_make C.hK C.tk (C.room hcm) (glB_gl C.sc hc.1) (C.mak _ _ _ (fnAt_mem e1)) h1 h2 (nmOk_d hc.2).1 h3 (by rw [h3])
      · cases h
    · cases h
  · cases h
/-! ### a caught exception -/
def xNm (t : Tr) (sc : Scope) (n : Str) : Bool := nmOk n && visB sc n && (match t.xi with
  | some i => decide (ixOf n t.N = some i)
  | none => false)
theorem xNm_ok {W : WX} {X : Cx} {sc : Scope} (C : Cfg t G k W X sc) {n : Str} (h : xNm t sc n = true) : ∃ z, G.xs = some z ∧ z.x = t.xv ∧ InSuite X z ∧ X.N[z.i]? = some n ∧ Vis X.env.scope n ∧ (n == ("__debug__" : Str)) = false ∧ (n == ("__classdict__" : Str)) = false := by
  unfold xNm at h
  rw [Bool.and_eq_true, Bool.and_eq_true] at h
  obtain ⟨⟨h1, h2⟩, h3⟩ := h
  have hx := C.xi
  cases q : t.xi with
  | none => rw [q] at h3; cases h3
  | some i =>
    rw [q] at h3 hx
    obtain ⟨z, e1, e2, e3, e4⟩ := hx
    subst e2
    exact ⟨z, e1, e3, e4, by rw [C.N]; exact ixOf_get (of_decide_eq_true h3), by rw [C.sc]; exact visB_vis h2, (nmOk_d h1).1, (nmOk_d h1).2⟩
def xfOk (exs : List (Str × ExD)) (x : Exn) (f : Str) : Bool := decide (x.cls ≠ ("ZeroDivisionError" : Str)) && (match exs.lookup x.cls with
  | some e => e.flds.contains f
  | none => false)
def isxOf (exs : List (Str × ExD)) (x : Exn) (c : Str) : Option Bool := if x.cls = ("ZeroDivisionError" : Str) then none else (exs.lookup x.cls).map fun e => e.sups.contains c
def dXfV (exs : List (Str × ExD)) (x : Exn) (f : Str) : EV := if xfOk exs x f then dXf x f else fun _ _ => .bad
def dIsV (exs : List (Str × ExD)) (x : Exn) (c : Str) : EV := dIsx (isxOf exs x c)
def eXf (t : Tr) : TrE
  | sc, .Attribute (.Name n _) f _ => if xNm t sc n then some (dXfV t.exs t.xv f) else none
  | sc, .Call (.Name g _) [.Name n _, .Name c _] [] _ => if g = "isinstance" ∧ xNm t sc n = true ∧ glB sc g = true ∧ t.free.contains g = true ∧ glB sc c = true ∧ nmOk c = true ∧ t.exn.contains c = true then some (dIsV t.exs t.xv c) else none
  | _, _ => none
theorem pe_dBad {X : Cx} {W : WX} {e : Expr} : PE X e (tOf G W fun _ _ => .bad) := ⟨fun _ _ _ _ _ _ ⟨_, _, _, _, _, _, q⟩ => q.elim⟩
theorem eXf_ok : SndE t G k (eXf t) := by
  intro W X sc e f C h
  unfold eXf at h
  split at h
  · split at h
    · rename_i hx
      obtain ⟨z, h1, h2, h3, h4, h5, h6, h7⟩ := xNm_ok C hx
      cases h
      unfold dXfV
      split
      · rename_i hf
        unfold xfOk at hf
        rw [Bool.and_eq_true] at hf
        obtain ⟨hz, hf⟩ := hf
        have hz := of_decide_eq_true hz
        cases q : t.exs.lookup t.xv.cls with
        | none => rw [q] at hf; cases hf
        | some e =>
          rw [q] at hf
          have F := C.exs _ _ q
          rw [← h2] at F hz ⊢
          exact d_xf h3 h1 (F.xc hz).xf (F.no _ (by simpa using hf)) hz h4 h5 h6 h7
      · exact pe_dBad
    · cases h
  · split at h
    · rename_i hc
      obtain ⟨rfl, hx, g1, g2, g3, g4, g5⟩ := hc
      obtain ⟨z, h1, h2, h3, h4, h5, h6, h7⟩ := xNm_ok C hx
      cases h
      unfold dIsV
      cases hb : isxOf t.exs t.xv _ with
      | none => exact pe_dBad
      | some b =>
        have hz : t.xv.cls ≠ ("ZeroDivisionError" : Str) := fun w => by
          unfold isxOf at hb
          rw [if_pos w] at hb; cases hb
        cases q : t.exs.lookup t.xv.cls with
        | none =>
          unfold isxOf at hb
          rw [if_neg hz, q] at hb; cases hb
        | some e =>
          have F := C.exs _ _ q
          have hm := g5
          rw [List.contains_iff_mem] at hm
          refine d_isx h3 h1 (by rw [h2]; exact F.xc hz) (by rw [h2]; exact hz) (fun b e1 => ?_) (glB_gl C.sc g1) (C.free _ (by simpa using g2)) (C.exn _ hm) (glB_gl C.sc g3) (nmOk_d g4).1 h4 h5 h6 h7
          unfold isxOf at hb
          rw [if_neg hz, q] at hb
          cases hb
          cases e1
          rw [h2]
          exact F.kit hz _ hm
    · cases h
  · cases h
/-- the caught exception is handed to a def -/
def eHot (t : Tr) : TrE
  | sc, .Call (.Name x _) [.Name n _] [] _ => if xNm t sc n && glB sc x && nmOk x then (t.hot.lookup x).map fun i => dHot (t.FX i) t.xv else none
  | _, _ => none
theorem eHot_ok : SndE t G k (eHot t) := by
  intro W X sc e f C h
  unfold eHot at h
  split at h
  · rename_i sc x _ n _ _
    split at h
    · rename_i hc
      rw [Bool.and_eq_true, Bool.and_eq_true] at hc
      obtain ⟨z, h1, h2, h3, h4, h5, h6, h7⟩ := xNm_ok C hc.1.1
      cases q : t.hot.lookup x with
      | none => rw [q] at h; cases h
      | some i =>
        rw [q] at h; cases h
        rw [← h2]
        refine d_hot h3 h1 (C.hot _ _ q) (C.rh.resolve_left fun e => ?_) (glB_gl C.sc hc.1.2) (nmOk_d hc.2).1 h4 h5 h6 h7
        rw [e] at q; cases q
    · cases h
  · cases h
/-! ### a written dict's entry -/
def eKix (t : Tr) (r : TrE) : TrE
  | sc, .Subscript (.Name x _) b _ => if glB sc x = true ∧ nmOk x = true ∧ plainIx b = true then match t.tab.lookup x, r sc b with
    | some l, some f => some (dKix l f)
    | _, _ => none
    else none
  | _, _ => none
theorem eKix_ok (hr : SndE t G k r) : SndE t G k (eKix t r) := by
  intro W X sc e f C h
  unfold eKix at h
  split at h
  · split at h
    · rename_i hc
      obtain ⟨h1, h2, h3⟩ := hc
      split at h
      · rename_i e1 e2
        cases h
        exact d_kix (C.tab _ _ e1) (glB_gl C.sc h1) (nmOk_d h2).1 (hr _ _ _ _ _ C e2) h3
      · cases h
    · cases h
  · cases h
end
end Itp
set_option Elab.async false
set_option linter.all false
set_option maxRecDepth 100000
/-! Itp K: methods, comprehensions, statements, defs. -/
namespace Itp
open PySem PySem.Spec PyProof.Rows L2
section
variable {t : Tr} {G : Gd} {k : Nat} {r : TrE} {rt : TrT}

/-! ### methods -/
def mStrIx : D → List D → Mem → R D
  | .str a, [.str b], m => match PySem.Txt.index0 (stS a) (stS b) with
    | some i => .ok (.int i) m
    | none => .bad
  | _, _, _ => .bad
theorem m_strix {X : Cx} (hc : X.calm = true) : MtR X "str.index" (rmOf G mStrIx) := by
  intro pins s σ H x xs v us Q I rx rs q
  obtain ⟨T, m, d, as, rfl, S, rd, ra, p⟩ := q
  cases d with
  | str a =>
    match as, ra, p with
    | [.str b], ra, p =>
      obtain ⟨w, rfl, rw'⟩ := ra.one
      obtain rfl := rd.stri
      obtain rfl := rw'.stri
      dsimp only [mStrIx] at p
      cases e : PySem.Txt.index0 (stS a) (stS b) with
      | none => rw [e] at p; exact p.elim
      | some i =>
        rw [e] at p
        exact mt_indexX hc (takes0 (X := X)) pins s σ _ _ _ v us Q I rx rs ⟨_, _, rfl, rfl, fun j e2 => by rw [e] at e2; cases e2; exact post_ok S (.int _) p, fun e2 => by rw [e] at e2; cases e2⟩
    | [], ra, p => exact p.elim
    | [.non], ra, p => exact p.elim
    | [.bl _], ra, p => exact p.elim
    | [.int _], ra, p => exact p.elim
    | [.tup _], ra, p => exact p.elim
    | [.fl _], ra, p => exact p.elim
    | [.sc _], ra, p => exact p.elim
    | [.ref _], ra, p => exact p.elim
    | x :: _ :: _, ra, p => cases x <;> exact p.elim
  | _ => exact p.elim

/-- a built-in method with arguments: the type, what it does; v chooses between types -/
structure MtK (X : Cx) (G : Gd) (name : Str) (ty : String) (h : D → List D → Mem → R D) : Prop where
  ex : ∃ id, PlainAttrs ty ∧ Slot ty name id ∧ typeOf (.builtin id) = pure (.type "method_descriptor") ∧ MtR X id (rmOf G h)
def mtOfN (name : Str) (v : Nat) : Option (String × (D → List D → Mem → R D)) :=
  if name = "append" then some ("list", mAppend) else if name = "extend" then some ("list", mExtend) else if name = "insert" then some ("list", mInsert) else if name = "join" then some ("str", mJoin) else if name = "index" ∧ v = 1 then some ("str", mStrIx) else if name = "get" then some ("dict", mGet) else if name = "pop" ∧ v = 2 then some ("dict", mDPop) else if name = "pop" ∧ v = 0 then some ("list", mPop) else if name = "reverse" then some ("list", mReverse) else if name = "clear" ∧ v = 2 then some ("dict", mDClear) else if name = "clear" ∧ v = 0 then some ("list", mClear) else if name = "lower" then some ("str", mLower) else if name = "find" then some ("str", mFind) else if name = "split" ∧ v = 0 then some ("str", (mSplit false)) else if name = "split" ∧ v = 1 then some ("str", (mSplit true)) else none
theorem mtOfN_ok {X : Cx} {name : Str} {v : Nat} {ty : String} {h : D → List D → Mem → R D} (hK : G.K = X.K) (hc : X.calm = true) (hu : X.A.units + 1 < cLine) (e : mtOfN name v = some (ty, h)) : MtK X G name ty h := by
  unfold mtOfN at e
  by_cases q0 : name = "append"
  · rw [if_pos q0] at e; subst q0; cases e; exact ⟨_, PySem.F.plainAttrs_list, PySem.F.slot_list_append, PySem.F.type_list_append, m_append⟩
  rw [if_neg q0] at e
  by_cases q1 : name = "extend"
  · rw [if_pos q1] at e; subst q1; cases e; exact ⟨_, PySem.F.plainAttrs_list, PySem.F.slot_list_extend, PySem.F.type_list_extend, m_extend⟩
  rw [if_neg q1] at e
  by_cases q2 : name = "insert"
  · rw [if_pos q2] at e; subst q2; cases e; exact ⟨_, PySem.F.plainAttrs_list, PySem.F.slot_list_insert, PySem.F.type_list_insert, m_insert⟩
  rw [if_neg q2] at e
  by_cases q3 : name = "join"
  · rw [if_pos q3] at e; subst q3; cases e; exact ⟨_, PySem.F.plainAttrs_str, PySem.F.slot_str_join, PySem.F.type_str_join, m_join hK⟩
  rw [if_neg q3] at e
  by_cases q4 : name = "index" ∧ v = 1
  · rw [if_pos q4] at e; obtain ⟨rfl, rfl⟩ := q4; cases e; exact ⟨_, PySem.F.plainAttrs_str, PySem.F.slot_str_index, PySem.F.type_str_index, m_strix hc⟩
  rw [if_neg q4] at e
  by_cases q5 : name = "get"
  · rw [if_pos q5] at e; subst q5; cases e; exact ⟨_, PySem.F.plainAttrs_dict, PySem.F.slot_dict_get, PySem.F.type_dict_get, m_get hu⟩
  rw [if_neg q5] at e
  by_cases q6 : name = "pop" ∧ v = 2
  · rw [if_pos q6] at e; obtain ⟨rfl, rfl⟩ := q6; cases e; exact ⟨_, PySem.F.plainAttrs_dict, PySem.F.slot_dict_pop, PySem.F.type_dict_pop, m_dpop⟩
  rw [if_neg q6] at e
  by_cases q7 : name = "pop" ∧ v = 0
  · rw [if_pos q7] at e; obtain ⟨rfl, rfl⟩ := q7; cases e; exact ⟨_, PySem.F.plainAttrs_list, PySem.F.slot_list_pop, PySem.F.type_list_pop, m_pop⟩
  rw [if_neg q7] at e
  by_cases q8 : name = "reverse"
  · rw [if_pos q8] at e; subst q8; cases e; exact ⟨_, PySem.F.plainAttrs_list, PySem.F.slot_list_reverse, PySem.F.type_list_reverse, m_reverse⟩
  rw [if_neg q8] at e
  by_cases q9 : name = "clear" ∧ v = 2
  · rw [if_pos q9] at e; obtain ⟨rfl, rfl⟩ := q9; cases e; exact ⟨_, PySem.F.plainAttrs_dict, PySem.F.slot_dict_clear, PySem.F.type_dict_clear, m_dclear⟩
  rw [if_neg q9] at e
  by_cases q10 : name = "clear" ∧ v = 0
  · rw [if_pos q10] at e; obtain ⟨rfl, rfl⟩ := q10; cases e; exact ⟨_, PySem.F.plainAttrs_list, PySem.F.slot_list_clear, PySem.F.type_list_clear, m_clear⟩
  rw [if_neg q10] at e
  by_cases q11 : name = "lower"
  · rw [if_pos q11] at e; subst q11; cases e; exact ⟨_, PySem.F.plainAttrs_str, PySem.F.slot_str_lower, PySem.F.type_str_lower, m_lower⟩
  rw [if_neg q11] at e
  by_cases q12 : name = "find"
  · rw [if_pos q12] at e; subst q12; cases e; exact ⟨_, PySem.F.plainAttrs_str, PySem.F.slot_str_find, PySem.F.type_str_find, m_find⟩
  rw [if_neg q12] at e
  by_cases q13 : name = "split" ∧ v = 0
  · rw [if_pos q13] at e; obtain ⟨rfl, rfl⟩ := q13; cases e; exact ⟨_, PySem.F.plainAttrs_str, PySem.F.slot_str_split, PySem.F.type_str_split, m_split⟩
  rw [if_neg q13] at e
  by_cases q14 : name = "split" ∧ v = 1
  · rw [if_pos q14] at e; obtain ⟨rfl, rfl⟩ := q14; cases e; exact ⟨_, PySem.F.plainAttrs_str, PySem.F.slot_str_split, PySem.F.type_str_split, m_split⟩
  rw [if_neg q14] at e
  cases e
def eMt (t : Tr) (r : TrE) : TrE
  | sc, .Call (.Attribute o name ap) (a :: l) [] p => if noSuper o && (ap.endLine == p.line) && decide ((a :: l).length < 29) then match r sc o, trArgs (r sc) (a :: l), mtOfN name (t.sel p) with
    | some f, some fs, some (ty, h) => some (dMt ty h f fs)
    | _, _, _ => none
    else none
  | sc, .Call (.Attribute o name ap) [] [] p => if noSuper o && (ap.endLine == p.line) then match r sc o, mtOfN name (t.sel p) with
    | some f, some (ty, h) => some (dMt ty h f [])
    | _, _ => none
    else none
  | _, _ => none
theorem eMt_ok (hcm : t.cm = true) (hr : SndE t G k r) : SndE t G k (eMt t r) := by
  intro W X sc e f C h
  unfold eMt at h
  split at h
  · split at h
    · rename_i hc
      rw [Bool.and_eq_true, Bool.and_eq_true] at hc
      split at h
      · rename_i e1 e2 e3
        cases h
        obtain ⟨id, q1, q2, q3, q4⟩ := (mtOfN_ok C.hK (C.calm hcm) C.u1 e3).ex
        obtain ⟨h1, h2, h3⟩ := trArgs_ok C hr _ _ e2
        exact d_mt C.hK q1 q2 q3 q4 (hr _ _ _ _ _ C e1) h1 hc.1.1 hc.1.2 h2 (of_decide_eq_true hc.2)
      · cases h
    · cases h
  · split at h
    · rename_i hc
      rw [Bool.and_eq_true] at hc
      split at h
      · rename_i e1 e3
        cases h
        obtain ⟨id, q1, q2, q3, q4⟩ := (mtOfN_ok C.hK (C.calm hcm) C.u1 e3).ex
        exact d_mt0 C.hK q1 q2 q3 q4 (hr _ _ _ _ _ C e1) hc.1 hc.2
      · cases h
    · cases h
  · cases h

/-- methods that need no calm -/
def mtOfS (name : Str) (v : Nat) : Option (String × (D → List D → Mem → R D)) :=
  if name = "append" then some ("list", mAppend) else if name = "extend" then some ("list", mExtend) else if name = "count" then some ("list", mCount) else if name = "index" ∧ v = 3 then some ("list", mLIx) else none
theorem mtOfS_ok {X : Cx} {name : Str} {v : Nat} {ty : String} {h : D → List D → Mem → R D} (hK : G.K = X.K) (e : mtOfS name v = some (ty, h)) : MtK X G name ty h := by
  unfold mtOfS at e
  by_cases q0 : name = "append"
  · rw [if_pos q0] at e; subst q0; cases e; exact ⟨_, PySem.F.plainAttrs_list, PySem.F.slot_list_append, PySem.F.type_list_append, m_append⟩
  rw [if_neg q0] at e
  by_cases q1 : name = "extend"
  · rw [if_pos q1] at e; subst q1; cases e; exact ⟨_, PySem.F.plainAttrs_list, PySem.F.slot_list_extend, PySem.F.type_list_extend, m_extend⟩
  rw [if_neg q1] at e
  by_cases q2 : name = "count"
  · rw [if_pos q2] at e; subst q2; cases e; exact ⟨_, PySem.F.plainAttrs_list, PySem.F.slot_list_count, PySem.F.type_list_count, m_count hK⟩
  rw [if_neg q2] at e
  by_cases q3 : name = "index" ∧ v = 3
  · rw [if_pos q3] at e; obtain ⟨rfl, rfl⟩ := q3; cases e; exact ⟨_, PySem.F.plainAttrs_list, PySem.F.slot_list_index, PySem.F.type_list_index, m_lix hK⟩
  rw [if_neg q3] at e
  cases e
def eMtS (t : Tr) (r : TrE) : TrE
  | sc, .Call (.Attribute o name ap) (a :: l) [] p => if noSuper o && (ap.endLine == p.line) && decide ((a :: l).length < 29) then match r sc o, trArgs (r sc) (a :: l), mtOfS name (t.sel p) with
    | some f, some fs, some (ty, h) => some (dMt ty h f fs)
    | _, _, _ => none
    else none
  | _, _ => none
theorem eMtS_ok (hr : SndE t G k r) : SndE t G k (eMtS t r) := by
  intro W X sc e f C h
  unfold eMtS at h
  split at h
  · split at h
    · rename_i hc
      rw [Bool.and_eq_true, Bool.and_eq_true] at hc
      split at h
      · rename_i e1 e2 e3
        cases h
        obtain ⟨id, q1, q2, q3, q4⟩ := (mtOfS_ok C.hK e3).ex
        obtain ⟨h1, h2, h3⟩ := trArgs_ok C hr _ _ e2
        exact d_mt C.hK q1 q2 q3 q4 (hr _ _ _ _ _ C e1) h1 hc.1.1 hc.1.2 h2 (of_decide_eq_true hc.2)
      · cases h
    · cases h
  · cases h

/-! ### targets -/
def trPats (f : Expr → Option Pat) : List Expr → Option (List Pat)
  | [] => some []
  | a :: l => if notStar a then match f a, trPats f l with
    | some p, some ps => some (p :: ps)
    | _, _ => none
    else none
def trPat (t : Tr) (ok : Str → Bool) : Nat → Expr → Option Pat
  | 0, _ => none
  | _ + 1, .Name x _ => if ok x then match ixOf x t.N with
    | some i => if t.xi = some i then none else some (.nm i)
    | none => none
    else none
  | n + 1, .Tuple l _ _ => if t.cm then (trPats (trPat t ok n) l).map .tup else none
  | _, _ => none
theorem asg_star {e : Expr} {es : List Expr} {env : PySem.Env} (h : notStar e = true) : assignEach (e :: es) env = (false, assign e env) :: assignEach es env := by
  cases e <;> first | rfl | (cases h)
theorem trPat_ok {X : Cx} {ok : Str → Bool} (hK : G.K = X.K) (hc : t.cm = true → X.calm = true) (hfr : ∀ i, t.xi ≠ some i → G.fr i) (hN : X.N = t.N) (nd : X.N.Nodup) (hok : ∀ x, ok x = true → Loc X.env.scope x ∧ (X.fn x = true ∨ X.env.scope.names.lookup x = some .local)) :
    ∀ (n : Nat) (e : Expr) (p : Pat), trPat t ok n e = some p → PG X e (gOf G p) := by
  intro n
  induction n with
  | zero => intro e p h; cases h
  | succ n ih =>
    intro e p h
    unfold trPat at h
    split at h
    · cases h
    · rename_i n' x _ e1
      cases e1
      split at h
      · rename_i hx
        cases e1 : ixOf x t.N with
        | none => rw [e1] at h; cases h
        | some i =>
          rw [e1] at h
          dsimp only at h
          split at h
          · cases h
          · rename_i hi
            cases h
            exact g_nm (hfr _ hi) nd (by rw [hN]; exact ixOf_get e1) (hok x hx).1 (hok x hx).2
      · cases h
    · rename_i n' l _ _ e1
      cases e1
      have all : ∀ (l : List Expr) (ps : List Pat), trPats (trPat t ok n) l = some ps → PGs X l (gsOf G ps) ∧ (assignEach l X.env).length = ps.length ∧ (assignEach l X.env).findIdx? (·.1) = none := by
        intro l
        induction l with
        | nil => intro ps h; cases h; exact ⟨g_nil, rfl, rfl⟩
        | cons a l ihl =>
          intro ps h
          unfold trPats at h
          split at h
          · rename_i hs
            cases e1 : trPat t ok n a with
            | none => rw [e1] at h; cases h
            | some p =>
              cases e2 : trPats (trPat t ok n) l with
              | none => rw [e1, e2] at h; cases h
              | some qs =>
                rw [e1, e2] at h; cases h
                obtain ⟨h1, h2, h3⟩ := ihl qs e2
                refine ⟨g_cons (ih a p e1) h1 (by rw [asg_star hs]; rfl), by rw [asg_star hs]; simp [h2], ?_⟩
                rw [asg_star hs, List.findIdx?_cons]
                simp [h3]
          · cases h
      split at h
      · rename_i hcm
        cases e2 : trPats (trPat t ok n) l with
        | none => rw [e2] at h; cases h
        | some ps =>
          rw [e2] at h; cases h
          obtain ⟨h1, h2, h3⟩ := all l ps e2
          exact g_tup hK (hc hcm) h1 h2 h3
      · cases h
    · cases h

/-! ### what is walked -/
abbrev TrI := Scope → Expr → Expr → Option IV
def SndI (t : Tr) (G : Gd) (k : Nat) (r : TrI) : Prop := ∀ W X sc tg e f, Cfg t G k W X sc → r sc tg e = some f → PI X tg e (iOf G W f) ∧ ∀ x, foldedSetIterable e X.env x = pure x
def isSet : Expr → Bool
  | .Set _ _ _ => true
  | _ => false
theorem fold_of {e : Expr} {env : PySem.Env} (h : isSet e = false) : ∀ x, foldedSetIterable e env x = pure x := by
  intro x
  cases e <;> first | rfl | (cases h)
def isTup : Expr → Bool
  | .Tuple _ _ _ => true
  | _ => false
def iRange (t : Tr) (r : TrE) : TrI
  | sc, _, .Call (.Name x _) [a] [] _ => if x = "range" ∧ t.free.contains x = true ∧ glB sc x = true ∧ notStar a = true then (r sc a).map fun f => dRng [f] else none
  | sc, _, .Call (.Name x _) [a, b] [] _ => if x = "range" ∧ t.free.contains x = true ∧ glB sc x = true ∧ notStar a = true ∧ notStar b = true then match r sc a, r sc b with
    | some f, some g => some (dRng [f, g])
    | _, _ => none
    else none
  | sc, _, .Call (.Name x _) [a, b, c] [] _ => if x = "range" ∧ t.free.contains x = true ∧ glB sc x = true ∧ notStar a = true ∧ notStar b = true ∧ notStar c = true then match r sc a, r sc b, r sc c with
    | some f, some g, some h => some (dRng [f, g, h])
    | _, _, _ => none
    else none
  | _, _, _ => none
theorem iRange_ok (hr : SndE t G k r) : SndI t G k (iRange t r) := by
  intro W X sc tg e f C h
  unfold iRange at h
  split at h
  · rename_i a _
    split at h
    · rename_i hc
      obtain ⟨rfl, h1, h2, h3⟩ := hc
      cases e1 : r _ a with
      | none => rw [e1] at h; cases h
      | some g =>
        rw [e1] at h; cases h
        exact ⟨i_rng1 (glB_gl C.sc h2) (C.free _ (by simpa using h1)) h3 (d_cons h3 (hr _ _ _ _ _ C e1) d_nil), fun _ => rfl⟩
    · cases h
  · split at h
    · rename_i hc
      obtain ⟨rfl, h1, h2, h3, h4⟩ := hc
      split at h
      · rename_i e1 e2
        cases h
        exact ⟨i_rng2 (glB_gl C.sc h2) (C.free _ (by simpa using h1)) h3 h4 (d_cons h3 (hr _ _ _ _ _ C e1) (d_cons h4 (hr _ _ _ _ _ C e2) d_nil)), fun _ => rfl⟩
      · cases h
    · cases h
  · split at h
    · rename_i hc
      obtain ⟨rfl, h1, h2, h3, h4, h5⟩ := hc
      split at h
      · rename_i e1 e2 e3
        cases h
        exact ⟨i_rng3 (glB_gl C.sc h2) (C.free _ (by simpa using h1)) h3 h4 h5 (d_cons h3 (hr _ _ _ _ _ C e1) (d_cons h4 (hr _ _ _ _ _ C e2) (d_cons h5 (hr _ _ _ _ _ C e3) d_nil))), fun _ => rfl⟩
      · cases h
    · cases h
  · cases h
def iZip (t : Tr) (r : TrE) : TrI
  | sc, .Tuple _ _ _, .Call (.Name x _) [a, b] [] _ => if x = "zip" ∧ t.free.contains x = true ∧ glB sc x = true ∧ notStar a = true ∧ notStar b = true then match r sc a, r sc b with
    | some f, some g => some (dZip f g)
    | _, _ => none
    else none
  | _, _, _ => none
theorem iZip_ok (hr : SndE t G k r) : SndI t G k (iZip t r) := by
  intro W X sc tg e f C h
  unfold iZip at h
  split at h
  · split at h
    · rename_i hc
      obtain ⟨rfl, h1, h2, h3, h4⟩ := hc
      split at h
      · rename_i e1 e2
        cases h
        exact ⟨i_zip C.hK (glB_gl C.sc h2) (C.free _ (by simpa using h1)) h3 h4 (hr _ _ _ _ _ C e1) (hr _ _ _ _ _ C e2), fun _ => rfl⟩
      · cases h
    · cases h
  · cases h
def iEnumT (t : Tr) (r : TrE) : TrI
  | sc, .Tuple _ _ _, .Call (.Name x _) [a] [] _ => if x = "enumerate" ∧ t.free.contains x = true ∧ glB sc x = true ∧ notStar a = true then (r sc a).map dEnum else none
  | _, _, _ => none
theorem iEnumT_ok (hr : SndE t G k r) : SndI t G k (iEnumT t r) := by
  intro W X sc tg e f C h
  unfold iEnumT at h
  split at h
  · split at h
    · rename_i hc
      obtain ⟨rfl, h1, h2, h3⟩ := hc
      cases e1 : r _ _ with
      | none => rw [e1] at h; cases h
      | some g =>
        rw [e1] at h; cases h
        exact ⟨i_enum C.hK (glB_gl C.sc h2) (C.free _ (by simpa using h1)) h3 (hr _ _ _ _ _ C e1), fun _ => rfl⟩
    · cases h
  · cases h
def iAny (r : TrE) : TrI := fun sc _ e => match isSet e, r sc e with
    | false, some f => some (dIt f)
    | _, _ => none
theorem iAny_ok (hr : SndE t G k r) : SndI t G k (iAny r) := by
  intro W X sc tg e f C h
  unfold iAny at h
  split at h
  · rename_i hs e1
    cases h; exact ⟨i_any C.hK (hr _ _ _ _ _ C e1), fold_of hs⟩
  · cases h
def alt {α : Type} : Option α → Option α → Option α
  | some a, _ => some a
  | none, b => b
theorem alt_or {α : Type} {a b : Option α} {x : α} (h : alt a b = some x) : a = some x ∨ b = some x := by
  cases a with
  | some y => cases h; exact .inl rfl
  | none => exact .inr h
def trIt (t : Tr) (r : TrE) : TrI := fun sc tg e => alt (iRange t r sc tg e) (alt (iZip t r sc tg e) (alt (iEnumT t r sc tg e) (iAny r sc tg e)))
theorem trIt_ok (hr : SndE t G k r) : SndI t G k (trIt t r) := by
  intro W X sc tg e f C h
  rcases alt_or h with h | h
  · exact iRange_ok hr _ _ _ _ _ _ C h
  rcases alt_or h with h | h
  · exact iZip_ok hr _ _ _ _ _ _ C h
  rcases alt_or h with h | h
  · exact iEnumT_ok hr _ _ _ _ _ _ C h
  · exact iAny_ok hr _ _ _ _ _ _ C h

/-! ### comprehensions -/
/-- the own names of a block: its local and cell names that are slots -/
def ownOf (N : List Str) : List (Str × NameKind) → List (Str × Nat)
  | [] => []
  | (x, .local) :: l => match ixOf x N with | some i => (x, i) :: ownOf N l | none => ownOf N l
  | (x, .cell) :: l => match ixOf x N with | some i => (x, i) :: ownOf N l | none => ownOf N l
  | _ :: l => ownOf N l
def compOkN (scope : Scope) (x : Str) : Bool := match scope.names.lookup x with
  | some .local => true
  | some .cell => true
  | _ => false
def eLc (t : Tr) (r : TrE) (rt : TrT) : TrE
  | sc, .ListComp elt [⟨tg, iter, ifs, 0⟩] scope p =>
    if blkC t.N sc scope (ownOf t.N scope.names) then
      match trIt t r sc tg iter, trPat t (compOkN scope) 4 tg, r (relS scope sc) elt with
      | some it, some pt, some f => if pt.slots.all (fun i => ((ownOf t.N scope.names).map (·.2)).contains i) then match ifs with
        | [] => some (dLc (mtOf t p) ((ownOf t.N scope.names).map (·.2)) it pt dNil f)
        | [c] => (rt (relS scope sc) c).map fun tt => dLc (mtOf t p) ((ownOf t.N scope.names).map (·.2)) it pt tt f
        | _ => none
        else none
      | _, _, _ => none
    else none
  | _, _ => none
theorem lookup_relS_local {sc scope : Scope} {x : Str} (h : scope.names.lookup x = some .local) : (relS scope sc).names.lookup x = some .local := lookup_relS_keep (sc := sc) (by decide) h
theorem lookup_relS_cell {sc scope : Scope} {x : Str} (h : scope.names.lookup x = some .cell) : (relS scope sc).names.lookup x = some .cell := lookup_relS_keep (sc := sc) (by decide) h
theorem Cfg.blk {W : WX} {X : Cx} {sc : Scope} (C : Cfg t G k W X sc) (hcm : t.cm = true) (s : Shared) (H : Hp) (scope : Scope) (Cc : Addr) (cl : List (Str × Addr)) (fp : List Addr) :
    Cfg t G k (fun _ _ _ _ => False) (X.blk s H scope (compEnvC scope cl Cc X.env) fp) (relS scope sc) :=
  ⟨C.hK, takes0, C.calm, C.N, C.nd, by rw [← C.sc]; rfl, C.room, C.room2, C.un, C.cmx, by rw [C.cmx hcm]; exact C.xsn hcm, fun c e h => ⟨fun z => by have := (C.exs c e h).rs z; revert this; cases e.ini <;> exact fun q => ⟨q.1, q.2, q.3, q.4, q.5, q.6⟩, (C.exs c e h).xc, (C.exs c e h).no, (C.exs c e h).exm, (C.exs c e h).kit⟩, fun c h => ⟨(C.exn c h).nm⟩, fun x l h => ⟨(C.tab x l h).ex⟩, C.con, C.free, fun x i n e => ⟨(C.fn x i n e).ex⟩, fun x l e c i n hm => ⟨(C.meth x l e c i n hm).ex⟩, fun c i n e => ⟨(C.mak c i n e).at_, (C.mak c i n e).cl, (C.mak c i n e).ex⟩, C.noat, fun x i h => ⟨(C.hot x i h).ex⟩, C.rh⟩
theorem lc_of {W : WX} {X : Cx} {sc : Scope} (hcm : t.cm = true) (C : Cfg t G k W X sc) (hr : SndE t G k r) {elt tg iter : Expr} {scope : Scope} {it : IV} {pt : Pat} {f : EV} (h1 : blkC t.N sc scope (ownOf t.N scope.names) = true) (h2 : trIt t r sc tg iter = some it) (h3 : trPat t (compOkN scope) 4 tg = some pt) (h4 : r (relS scope sc) elt = some f) :
    BlkOk X.N X.env.scope scope (ownOf t.N scope.names) ∧ PI X tg iter (iOf G W it) ∧ (∀ x, foldedSetIterable iter X.env x = pure x) ∧
    (∀ (s : Shared) (H : Hp) (Cc : Addr) (cl : List (Str × Addr)) (fp : List Addr), PG (X.blk s H scope (compEnvC scope cl Cc X.env) fp) tg (gOf G pt)) ∧
    (∀ (s : Shared) (H : Hp) (Cc : Addr) (cl : List (Str × Addr)) (fp : List Addr), PE (X.blk s H scope (compEnvC scope cl Cc X.env) fp) elt (tOf G (fun _ _ _ _ => False) f)) := by
  obtain ⟨q1, q2⟩ := trIt_ok hr _ _ _ _ _ _ C h2
  refine ⟨by rw [C.N, C.sc]; exact blkOk_by h1, q1, q2, fun s H Cc cl fp => ?_, fun s H Cc cl fp => hr _ _ _ _ _ (C.blk hcm s H scope Cc cl fp) h4⟩
  refine trPat_ok (X := X.blk s H scope (compEnvC scope cl Cc X.env) fp) C.hK C.calm (fun i h => C.fr h) C.N C.nd (fun x hx => ?_) 4 tg pt h3
  have es : (compEnvC scope cl Cc X.env).scope = relS scope sc := by rw [← C.sc]; rfl
  unfold compOkN at hx
  split at hx
  · rename_i e
    have e' := lookup_relS_local (sc := sc) e
    exact ⟨.inl (by show (compEnvC scope cl Cc X.env).scope.names.lookup x = _; rw [es]; exact e'), .inr (by show (compEnvC scope cl Cc X.env).scope.names.lookup x = _; rw [es]; exact e')⟩
  · rename_i e
    have e' := lookup_relS_cell (sc := sc) e
    exact ⟨.inr (by show (compEnvC scope cl Cc X.env).scope.names.lookup x = _; rw [es]; exact e'), .inl (by show (scope.names.lookup x == some .cell) = true; rw [e]; rfl)⟩
  · cases hx
theorem pts_dNil {X : Cx} {W : WX} : PTs X [] (ttOf G W dNil) := ⟨fun pins s σ H Q I ⟨T, env, m, e, S, re, q⟩ => by
  subst e
  exact pts_nil.run pins s σ _ Q I (q T (Ext.refl _) S)⟩
theorem pts_dOne {X : Cx} {W : WX} {c : Expr} {u : TV} (h : PT X c (ttOf G W u)) : PTs X [c] (ttOf G W u) := pts_one h
theorem eLc_ok (hcm : t.cm = true) (hr : SndE t G k r) (ht : SndT t G k rt) : SndE t G k (eLc t r rt) := by
  intro W X sc e f C h
  unfold eLc at h
  split at h
  · split at h
    · rename_i h1
      split at h
      · rename_i h2 h3 h4
        obtain ⟨q1, q2, q3, q4, q5⟩ := lc_of hcm C hr h1 h2 h3 h4
        split at h
        · rename_i hv
          have hv' := fun i hi => (by simpa using List.all_eq_true.mp hv i hi : i ∈ (ownOf t.N _).map (·.2))
          split at h
          · cases h
            exact PE.wk (pe_lc (C.calm hcm) C.nd q2 q1 q4 (fun _ _ _ _ _ => pts_dNil) q5 q3) fun σ H Q q => lc_read (C.xsn hcm) hv' q
          · rename_i c
            cases e1 : rt (relS _ _) c with
            | none => rw [e1] at h; cases h
            | some tt =>
              rw [e1] at h; cases h
              exact PE.wk (pe_lc (C.calm hcm) C.nd q2 q1 q4 (fun s H Cc cl fp => pts_dOne (ht _ _ _ _ _ (C.blk hcm s H _ Cc cl fp) e1)) q5 q3) fun σ H Q q => lc_read (C.xsn hcm) hv' q
          · cases h
        · cases h
      · cases h
    · cases h
  · cases h

/-! ### all expressions -/
structure Trs where
  e : TrE
  t : TrT
def step (t : Tr) (r : Trs) : Trs where
  e := fun sc x => alt (eXf t sc x) (alt (eName t sc x) (alt (eConst sc x) (alt (eBin t r.e sc x) (alt (eCmp r.e sc x) (alt (eBoolV r.e sc x) (alt (eIf r.e r.t sc x) (alt (eDisp t r.e sc x) (alt (gd t.cm (eCall t r.e sc x)) (alt (eIsi t r.e sc x) (alt (eIx r.e sc x) (alt (gd t.cm (eMt t r.e sc x)) (alt (eNeg r.e sc x) (alt (eSl t r.e sc x) (alt (eAttr r.e sc x) (alt (gd t.cm (eMeth t r.e sc x)) (alt (gd t.cm (eMake t r.e sc x)) (alt (eDict r.e sc x) (alt (gd t.cm (eLc t r.e r.t sc x)) (alt (eKix t r.e sc x) (alt (eMtS t r.e sc x) (alt (eHot t sc x) (gd (!t.cm) (eCallS t r.e sc x)))))))))))))))))))))))
  t := fun sc x => alt (tCmpE r.e sc x) (alt (tNot r.t sc x) (alt (tBool r.t sc x) (tAny r.e sc x)))
def trs (t : Tr) : Nat → Trs
  | 0 => ⟨fun _ _ => none, fun _ _ => none⟩
  | n + 1 => step t (trs t n)
theorem trs_ok : ∀ n, SndE t G k (trs t n).e ∧ SndT t G k (trs t n).t
  | 0 => ⟨fun _ _ _ _ _ _ h => (by cases h), fun _ _ _ _ _ _ h => (by cases h)⟩
  | n + 1 => by
    obtain ⟨h1, h2⟩ := trs_ok n
    refine ⟨fun W X sc e f C h => ?_, fun W X sc e f C h => ?_⟩
    · rcases alt_or h with h | h
      · exact eXf_ok _ _ _ _ _ C h
      rcases alt_or h with h | h
      · exact eName_ok _ _ _ _ _ C h
      rcases alt_or h with h | h
      · exact eConst_ok (t := t) _ _ _ _ _ C h
      rcases alt_or h with h | h
      · exact eBin_ok h1 _ _ _ _ _ C h
      rcases alt_or h with h | h
      · exact eCmp_ok h1 _ _ _ _ _ C h
      rcases alt_or h with h | h
      · exact eBoolV_ok h1 _ _ _ _ _ C h
      rcases alt_or h with h | h
      · exact eIf_ok h1 h2 _ _ _ _ _ C h
      rcases alt_or h with h | h
      · exact eDisp_ok h1 _ _ _ _ _ C h
      rcases alt_or h with h | h
      · exact eCall_ok (gd_ok h).1 h1 _ _ _ _ _ C (gd_ok h).2
      rcases alt_or h with h | h
      · exact eIsi_ok h1 _ _ _ _ _ C h
      rcases alt_or h with h | h
      · exact eIx_ok h1 _ _ _ _ _ C h
      rcases alt_or h with h | h
      · exact eMt_ok (gd_ok h).1 h1 _ _ _ _ _ C (gd_ok h).2
      rcases alt_or h with h | h
      · exact eNeg_ok h1 _ _ _ _ _ C h
      rcases alt_or h with h | h
      · exact eSl_ok h1 _ _ _ _ _ C h
      rcases alt_or h with h | h
      · exact eAttr_ok h1 _ _ _ _ _ C h
      rcases alt_or h with h | h
      · exact eMeth_ok (gd_ok h).1 h1 _ _ _ _ _ C (gd_ok h).2
      rcases alt_or h with h | h
      · exact eMake_ok (gd_ok h).1 h1 _ _ _ _ _ C (gd_ok h).2
      rcases alt_or h with h | h
      · exact eDict_ok h1 _ _ _ _ _ C h
      rcases alt_or h with h | h
      · exact eLc_ok (gd_ok h).1 h1 h2 _ _ _ _ _ C (gd_ok h).2
      rcases alt_or h with h | h
      · exact eKix_ok h1 _ _ _ _ _ C h
      rcases alt_or h with h | h
      · exact eMtS_ok h1 _ _ _ _ _ C h
      rcases alt_or h with h | h
      · exact eHot_ok _ _ _ _ _ C h
      · exact eCallS_ok h1 _ _ _ _ _ C (gd_ok h).2
    · rcases alt_or h with h | h
      · exact tCmpE_ok h1 _ _ _ _ _ C h
      rcases alt_or h with h | h
      · exact tNot_ok h2 _ _ _ _ _ C h
      rcases alt_or h with h | h
      · exact tBool_ok h2 _ _ _ _ _ C h
      · exact tAny_ok h1 _ _ _ _ _ C h
end
end Itp
set_option Elab.async false
set_option linter.all false
set_option maxRecDepth 100000
/-! Itp L: statements' text. -/
namespace Itp
open PySem PySem.Spec PyProof.Rows L2

theorem st_any {p : Expr → Bool} (hp : ∀ e, notStar e = true → p e = false) {a b : Expr} (h5 : notStar a = true) (h6 : notStar b = true) : [a, b].any p = false := by
  simp [hp a h5, hp b h6]
theorem fm_two {p : Expr → Option Str} {a b : Expr} {x y : Str} (h1 : p a = some x) (h2 : p b = some y) : List.filterMap p [a, b] = [x, y] := by simp [h1, h2]
theorem stores_par {x y : Str} {px py tp q : Pos} {a b : Expr} {tk kk : Nat} {env : PySem.Env} (hk : env.scope.kind = .function) (h1 : env.scope.names.lookup x = some .local) (h2 : env.scope.names.lookup y = some .local) (h3 : px.line = py.line) (h4 : x ≠ y)
    (h5 : notStar a = true) (h6 : notStar b = true) (h7 : [a, b].all (foldedForSure 8) = false) (h8 : [a, b].all (constantsAlone 8) = false) :
    swappedStores [.Tuple [.Name x px, .Name y py] tk tp] (.Tuple [a, b] kk q) env = pure (some [x, y]) := by
  have hb : env.blockKind = .function := by unfold PySem.Env.blockKind; rw [hk]; rfl
  have k1 : env.kindOf x = some .local := h1
  have k2 : env.kindOf y = some .local := h2
  have h9 : [x, y].eraseDups = [x, y] := by
    simp [List.eraseDups_cons, h4, Ne.symm h4]
  unfold swappedStores
  dsimp only
  rw [hb]
  rw [st_any (fun e he => by cases e <;> first | rfl | (cases he)) h5 h6]
  rw [fm_two (x := x) (y := y) (by simp [k1, Expr.pos]) (by simp [k2, Expr.pos, h3]), h9, h7, h8]
  rfl
def relIx (i : Expr) (v ov iv : Value) : List Value := match i with
  | .Slice _ _ none _ => [iv, v, ov]
  | _ => [v, ov, iv]
theorem relIx_of {i : Expr} (h : plainIx i = true) (v ov iv : Value) : relIx i v ov iv = [v, ov, iv] := by
  unfold plainIx at h
  unfold relIx
  split at h
  · cases h
  · rename_i hn
    first
      | rfl
      | (split
         · rename_i lo hi p
           exact (hn lo hi p rfl).elim
         · rfl)
theorem asg_sub {o i : Expr} {p2 : Pos} {env : PySem.Env} (h : plainIx i = true) (v : Value) : assign (.Subscript o i p2) env v = (do
      let ov ← holding [v] (eval o env)
      let iv ← holding [v, ov] (eval i env)
      standAt p2
      holding [v, ov, iv] (setItem ov iv v)
      release [v, ov, iv] []) := by
  have e : assign (.Subscript o i p2) env v = (do
      let ov ← holding [v] (eval o env)
      let iv ← holding [v, ov] (eval i env)
      standAt p2
      holding [v, ov, iv] (setItem ov iv v)
      release (relIx i v ov iv) []) := rfl
  rw [e]
  simp only [relIx_of h]
structure CfgS (t : Tr) (G : Gd) (k : Nat) (W : WX) (X : Cx) (sc : Scope) : Prop extends Cfg t G k W X sc where
  fnT : ∀ x, X.fn x = true
  po : t.cm = true → PassesOwn (model X.prog X.w) X.A X.env X.xe
  kind : X.env.scope.kind = .function
  hs : X.stack = X.env :: X.outer
  hf : X.env.frame = some X.env.locals

abbrev TrS := Scope → Stmt → Option SV
def SndS (t : Tr) (G : Gd) (k : Nat) (r : TrS) : Prop := ∀ W X sc e f, CfgS t G k W X sc → r sc e = some f → PS X e (sOf G W f)

def trSs (f : Stmt → Option SV) : List Stmt → Option SV
  | [] => some sNil
  | [s] => f s
  | s :: l => match f s, trSs f l with
    | some a, some b => some (sSeq a b)
    | _, _ => none
section
variable {t : Tr} {G : Gd} {k : Nat} {r : TrE} {rt : TrT} {rs : TrS}
theorem trSs_ok {W : WX} {X : Cx} {sc : Scope} (C : CfgS t G k W X sc) (hr : SndS t G k rs) : ∀ (l : List Stmt) (f : SV), trSs (rs sc) l = some f → PSs X l (sOf G W f)
  | [], _, h => by cases h; exact s_nil
  | [s], f, h => s_one (hr _ _ _ _ _ C h)
  | s :: s2 :: l, f, h => by
    have h : (match rs sc s, trSs (rs sc) (s2 :: l) with
      | some a, some b => some (sSeq a b)
      | _, _ => none) = some f := h
    cases e1 : rs sc s with
    | none => rw [e1] at h; cases h
    | some a =>
      cases e2 : trSs (rs sc) (s2 :: l) with
      | none => rw [e1, e2] at h; cases h
      | some b => rw [e1, e2] at h; cases h; exact s_seq (hr _ _ _ _ _ C e1) (trSs_ok C hr (s2 :: l) b e2)

/-! ### assignments -/
def notComp : Expr → Bool
  | .ListComp _ _ _ _ => false
  | .SetComp _ _ _ _ => false
  | .DictComp _ _ _ _ _ => false
  | _ => true
theorem sw_no {e : Expr} {tg : Option Expr} {l : Nat} {env : PySem.Env} (h : notComp e = true) : swapsWith e tg l env = pure false := by
  cases e <;> first | rfl | (cases h)
def locB (sc : Scope) (x : Str) : Bool := match sc.names.lookup x with
  | some .local => true
  | some .cell => true
  | _ => false
theorem locB_loc {sc : Scope} {x : Str} (h : locB sc x = true) : L2.Loc sc x := by
  unfold locB at h
  unfold L2.Loc
  split at h
  · rename_i e; exact .inl e
  · rename_i e; exact .inr e
  · cases h
theorem pat_ok {W : WX} {X : Cx} {sc : Scope} (C : CfgS t G k W X sc) {tg : Expr} {p : Pat} (h : trPat t (locB sc) 4 tg = some p) : PG X tg (gOf G p) :=
  trPat_ok C.hK C.calm (fun i h => C.fr h) C.N C.nd (fun x hx => ⟨by rw [C.sc]; exact locB_loc hx, .inl (C.fnT x)⟩) 4 tg p h
/-- one target, a value that is no comprehension, no two displays -/
def aPlain (t : Tr) (r : TrE) : TrS
  | sc, .Assign [tg] e _ => if notStar tg = true ∧ notComp e = true ∧ isTup e = false then match trPat t (locB sc) 4 tg, r sc e with
    | some p, some f => some (sAsg p f)
    | _, _ => none
    else none
  | _, _ => none
theorem stores_none {tg e : Expr} {env : PySem.Env} (h : isTup e = false) : swappedStores [tg] e env = pure none := by
  unfold swappedStores
  split
  · rename_i ts vs heq
    split at heq
    · cases h
    · cases h
    · cases heq
  · rfl
theorem aPlain_ok (hr : SndE t G k r) : SndS t G k (aPlain t r) := by
  intro W X sc e f C h
  unfold aPlain at h
  split at h
  · split at h
    · rename_i hc
      split at h
      · rename_i e1 e2
        cases h
        exact s_asg (hr _ _ _ _ _ C.toCfg e2) (pat_ok C e1) (sw_no hc.2.1) (stores_none hc.2.2) (by rw [asg_star hc.1]; rfl)
      · cases h
    · cases h
  · cases h
/-- a name, a tuple display -/
def aTup (t : Tr) (r : TrE) : TrS
  | sc, .Assign [.Name x px] (.Tuple l kk q) _ => match trPat t (locB sc) 4 (.Name x px), r sc (.Tuple l kk q) with
    | some p, some f => some (sAsg p f)
    | _, _ => none
  | _, _ => none
theorem aTup_ok (hr : SndE t G k r) : SndS t G k (aTup t r) := by
  intro W X sc e f C h
  unfold aTup at h
  split at h
  · split at h
    · rename_i e1 e2
      cases h
      exact s_asg (hr _ _ _ _ _ C.toCfg e2) (pat_ok C e1) rfl rfl rfl
    · cases h
  · cases h
/-- more than three targets, as many values -/
def aMany (t : Tr) (r : TrE) : TrS
  | sc, .Assign [.Tuple ts tk tp] (.Tuple l kk q) _ => if 3 < ts.length then match trPat t (locB sc) 4 (.Tuple ts tk tp), r sc (.Tuple l kk q) with
    | some p, some f => some (sAsg p f)
    | _, _ => none
    else none
  | _, _ => none
theorem stores_many {ts l : List Expr} {tk kk : Nat} {tp q : Pos} {env : PySem.Env} (h : 3 < ts.length) : swappedStores [.Tuple ts tk tp] (.Tuple l kk q) env = pure none := by
  unfold swappedStores
  have h1 : (ts.length == 2) = false := by rw [beq_eq_false_iff_ne]; omega
  have h2 : (ts.length == 3) = false := by rw [beq_eq_false_iff_ne]; omega
  simp [h1, h2]
theorem aMany_ok (hr : SndE t G k r) : SndS t G k (aMany t r) := by
  intro W X sc e f C h
  unfold aMany at h
  split at h
  · split at h
    · rename_i hl
      split at h
      · rename_i e1 e2
        cases h
        exact s_asg (hr _ _ _ _ _ C.toCfg e2) (pat_ok C e1) rfl (stores_many hl) rfl
      · cases h
    · cases h
  · cases h
/-- x, y = a, b -/
def aPar (t : Tr) (r : TrE) : TrS
  | sc, .Assign [.Tuple [.Name x px, .Name y py] _ _] (.Tuple [a, b] _ _) _ =>
    if sc.names.lookup x = some .local ∧ sc.names.lookup y = some .local ∧ px.line = py.line ∧ x ≠ y ∧ notStar a = true ∧ notStar b = true ∧ [a, b].all (foldedForSure 8) = false ∧ [a, b].all (constantsAlone 8) = false then
      match ixOf x t.N, ixOf y t.N, r sc a, r sc b with
      | some i, some j, some f, some g => some (sPar i j f g)
      | _, _, _, _ => none
    else none
  | _, _ => none
theorem aPar_ok (hcm : t.cm = true) (hr : SndE t G k r) : SndS t G k (aPar t r) := by
  intro W X sc e f C h
  unfold aPar at h
  split at h
  · split at h
    · rename_i hc
      obtain ⟨h1, h2, h3, h4, h5, h6, h7, h8⟩ := hc
      split at h
      · rename_i x _ y _ _ _ _ _ _ _ _ _ _ _ i j _ _ e1 e2 e3 e4
        cases h
        have i1 := ixOf_get e1
        have i2 := ixOf_get e2
        refine s_par (C.xsn hcm) (C.calm hcm) C.nd (by rw [C.N]; exact i1) (by rw [C.N]; exact i2) (fun e => ?_) (by rw [C.sc]; exact h1) (by rw [C.sc]; exact h2) h5 h6 (hr _ _ _ _ _ C.toCfg e3) (hr _ _ _ _ _ C.toCfg e4)
          (stores_par C.kind (by rw [C.sc]; exact h1) (by rw [C.sc]; exact h2) h3 h4 h5 h6 h7 h8)
        rw [e] at i1
        exact h4 (Option.some.inj (i1.symm.trans i2))
      · cases h
    · cases h
  · cases h
theorem st_any3 {p : Expr → Bool} (hp : ∀ e, notStar e = true → p e = false) {a b c : Expr} (h5 : notStar a = true) (h6 : notStar b = true) (h7 : notStar c = true) : [a, b, c].any p = false := by
  simp [hp a h5, hp b h6, hp c h7]
theorem fm_three {p : Expr → Option Str} {a b c : Expr} {x y z : Str} (h1 : p a = some x) (h2 : p b = some y) (h3 : p c = some z) : List.filterMap p [a, b, c] = [x, y, z] := by simp [h1, h2, h3]
theorem stores_par3 {x y z : Str} {px py pz tp q : Pos} {a b c : Expr} {tk kk : Nat} {env : PySem.Env} (hk : env.scope.kind = .function) (h1 : env.scope.names.lookup x = some .local) (h2 : env.scope.names.lookup y = some .local) (h0 : env.scope.names.lookup z = some .local) (h3 : px.line = py.line) (h33 : px.line = pz.line) (h4 : x ≠ y) (h41 : x ≠ z) (h42 : y ≠ z)
    (h5 : notStar a = true) (h6 : notStar b = true) (h66 : notStar c = true) (h7 : [a, b, c].all (foldedForSure 8) = false) (h8 : [a, b, c].all (constantsAlone 8) = false) :
    swappedStores [.Tuple [.Name x px, .Name y py, .Name z pz] tk tp] (.Tuple [a, b, c] kk q) env = pure (some [x, y, z]) := by
  have hb : env.blockKind = .function := by unfold PySem.Env.blockKind; rw [hk]; rfl
  have k1 : env.kindOf x = some .local := h1
  have k2 : env.kindOf y = some .local := h2
  have k3 : env.kindOf z = some .local := h0
  have h9 : [x, y, z].eraseDups = [x, y, z] := by
    simp [List.eraseDups_cons, h4, Ne.symm h4, h41, Ne.symm h41, h42, Ne.symm h42]
  unfold swappedStores
  dsimp only
  rw [hb]
  rw [st_any3 (fun e he => by cases e <;> first | rfl | (cases he)) h5 h6 h66]
  rw [fm_three (x := x) (y := y) (z := z) (by simp [k1, Expr.pos]) (by simp [k2, Expr.pos, h3]) (by simp [k3, Expr.pos, h33]), h9, h7, h8]
  rfl
/-- x, y = a, b where one is a cell -/
def aTup2 (t : Tr) (r : TrE) : TrS
  | sc, .Assign [.Tuple [.Name x px, .Name y py] tk tp] (.Tuple l kk q) _ => if sc.names.lookup x ≠ some .local ∨ sc.names.lookup y ≠ some .local then match trPat t (locB sc) 4 (.Tuple [.Name x px, .Name y py] tk tp), r sc (.Tuple l kk q) with
    | some p, some f => some (sAsg p f)
    | _, _ => none
    else none
  | _, _ => none
theorem stores_cell {x y : Str} {px py tp q : Pos} {l : List Expr} {tk kk : Nat} {env : PySem.Env} (h : env.scope.names.lookup x ≠ some .local ∨ env.scope.names.lookup y ≠ some .local) :
    swappedStores [.Tuple [.Name x px, .Name y py] tk tp] (.Tuple l kk q) env = pure none := by
  have hk : (env.kindOf x == some NameKind.local) = false ∨ (env.kindOf y == some NameKind.local) = false := by
    rcases h with h | h
    · exact .inl (beq_eq_false_iff_ne.mpr h)
    · exact .inr (beq_eq_false_iff_ne.mpr h)
  have hn : ∀ ln : Nat, ((([.Name x px, .Name y py] : List Expr).filterMap fun e => match e with
      | .Name id pos => if env.kindOf id == some .local && pos.line == ln then some id else none
      | _ => none).length != 2) = true := by
    intro ln
    rcases hk with hk | hk
    · simp only [List.filterMap_cons, List.filterMap_nil, hk, Bool.false_and, Bool.false_eq_true, if_false]
      split <;> simp
    · simp only [List.filterMap_cons, List.filterMap_nil, hk, Bool.false_and, Bool.false_eq_true, if_false]
      split <;> simp
  unfold swappedStores
  dsimp only
  split
  · rfl
  · split
    · rfl
    · have := hn px.line
      simp only [List.head?_cons, Option.map_some, Option.getD_some, Expr.pos]
      refine if_pos ?_
      rw [Bool.or_eq_true]; left; exact this
theorem aTup2_ok (hr : SndE t G k r) : SndS t G k (aTup2 t r) := by
  intro W X sc e f C h
  unfold aTup2 at h
  split at h
  · split at h
    · rename_i hl
      split at h
      · rename_i e1 e2
        cases h
        exact s_asg (hr _ _ _ _ _ C.toCfg e2) (pat_ok C e1) rfl (stores_cell (by rw [C.sc]; exact hl)) rfl
      · cases h
    · cases h
  · cases h
/-- x, y, z = a, b, c -/
def aPar3 (t : Tr) (r : TrE) : TrS
  | sc, .Assign [.Tuple [.Name x px, .Name y py, .Name z pz] _ _] (.Tuple [a, b, c] _ _) _ =>
    if sc.names.lookup x = some .local ∧ sc.names.lookup y = some .local ∧ sc.names.lookup z = some .local ∧ px.line = py.line ∧ px.line = pz.line ∧ x ≠ y ∧ x ≠ z ∧ y ≠ z ∧ notStar a = true ∧ notStar b = true ∧ notStar c = true ∧ [a, b, c].all (foldedForSure 8) = false ∧ [a, b, c].all (constantsAlone 8) = false then
      match ixOf x t.N, ixOf y t.N, ixOf z t.N, r sc a, r sc b, r sc c with
      | some i, some j, some l, some f, some g, some h => some (sPar3 i j l f g h)
      | _, _, _, _, _, _ => none
    else none
  | _, _ => none
theorem ix_ne {N : List Str} {x y : Str} {i j : Nat} (i1 : N[i]? = some x) (i2 : N[j]? = some y) (h : x ≠ y) : i ≠ j := fun e => by
  rw [e] at i1
  exact h (Option.some.inj (i1.symm.trans i2))
theorem aPar3_ok (hcm : t.cm = true) (hr : SndE t G k r) : SndS t G k (aPar3 t r) := by
  intro W X sc e f C h
  unfold aPar3 at h
  split at h
  · split at h
    · rename_i hc
      obtain ⟨h1, h2, h0, h3, h33, h4, h41, h42, h5, h6, h66, h7, h8⟩ := hc
      split at h
      · rename_i e1 e2 e0 e3 e4 e5
        cases h
        have i1 := ixOf_get e1
        have i2 := ixOf_get e2
        have i3 := ixOf_get e0
        exact s_par3 (C.xsn hcm) (C.calm hcm) C.nd (by rw [C.N]; exact i1) (by rw [C.N]; exact i2) (by rw [C.N]; exact i3) (ix_ne i1 i2 h4) (ix_ne i1 i3 h41) (ix_ne i2 i3 h42) (by rw [C.sc]; exact h1) (by rw [C.sc]; exact h2) (by rw [C.sc]; exact h0) h5 h6 h66
          (hr _ _ _ _ _ C.toCfg e3) (hr _ _ _ _ _ C.toCfg e4) (hr _ _ _ _ _ C.toCfg e5)
          (stores_par3 C.kind (by rw [C.sc]; exact h1) (by rw [C.sc]; exact h2) (by rw [C.sc]; exact h0) h3 h33 h4 h41 h42 h5 h6 h66 h7 h8)
      · cases h
    · cases h
  · cases h
/-- o[i] = e -/
def aSub (r : TrE) : TrS
  | sc, .Assign [.Subscript o i _] e _ => if plainIx i = true ∧ notComp e = true then match r sc e, r sc o, r sc i with
    | some fv, some fo, some fi => some (sSub fv fo fi)
    | _, _, _ => none
    else none
  | _, _ => none
theorem aSub_ok (hr : SndE t G k r) : SndS t G k (aSub r) := by
  intro W X sc e f C h
  unfold aSub at h
  split at h
  · split at h
    · rename_i hc
      split at h
      · rename_i e1 e2 e3
        cases h
        exact s_setIx C.u1 (hr _ _ _ _ _ C.toCfg e1) (hr _ _ _ _ _ C.toCfg e2) (hr _ _ _ _ _ C.toCfg e3) (fun v => asg_sub hc.1 v) (by unfold swapsWithSole; exact sw_no hc.2)
      · cases h
    · cases h
  · cases h
/-- o.x = e -/
def aAttr (t : Tr) (r : TrE) : TrS
  | sc, .Assign [.Attribute o x _] e _ => if notComp e = true then match r sc e, r sc o with
    | some fv, some fo => some (sSetA ((t.noat.lookup x).getD []) x fv fo)
    | _, _ => none
    else none
  | _, _ => none
theorem aAttr_ok (hr : SndE t G k r) : SndS t G k (aAttr t r) := by
  intro W X sc e f C h
  unfold aAttr at h
  split at h
  · split at h
    · rename_i hc
      split at h
      · rename_i e1 e2
        cases h
        refine s_setA C.hK (fun c hm => ?_) (hr _ _ _ _ _ C.toCfg e1) (hr _ _ _ _ _ C.toCfg e2) (sw_no hc)
        cases q : t.noat.lookup _ with
        | none => rw [q] at hm; cases hm
        | some cs => rw [q] at hm; exact C.noat _ _ q c hm
      · cases h
    · cases h
  · cases h
/-- xs[a:c] = e -/
def aSlS (r : TrE) : TrS
  | sc, .Assign [.Subscript o (.Slice lo hi none _) _] e _ => if notComp e = true then match r sc e, r sc o, trBd (r sc) lo, trBd (r sc) hi with
    | some fv, some fo, some l, some h => some (sSlS fv fo l h)
    | _, _, _, _ => none
    else none
  | _, _ => none
theorem aSlS_ok (hr : SndE t G k r) : SndS t G k (aSlS r) := by
  intro W X sc e f C h
  unfold aSlS at h
  split at h
  · split at h
    · rename_i hc
      split at h
      · rename_i e1 e2 e3 e4
        cases h
        exact s_slS (hr _ _ _ _ _ C.toCfg e1) (hr _ _ _ _ _ C.toCfg e2) (trBd_ok C.toCfg hr e3) (trBd_ok C.toCfg hr e4) (by unfold swapsWithSole; exact sw_no hc)
      · cases h
    · cases h
  · cases h
/-- o.x, o.y = e -/
def trAts (t : Tr) (r : Expr → Option EV) : List Expr → Option (List (List Str × Str × EV))
  | [] => some []
  | .Attribute o x _ :: es => match r o, trAts t r es with
    | some fo, some ts => some (((t.noat.lookup x).getD [], x, fo) :: ts)
    | _, _ => none
  | _ => none
def aAttrs (t : Tr) (r : TrE) : TrS
  | sc, .Assign [.Tuple (e₀ :: es) _ _] e _ => if notComp e = true then match trAts t (r sc) (e₀ :: es), r sc e with
    | some ts, some f => some (sAttrs ts f)
    | _, _ => none
    else none
  | _, _ => none
theorem trAts_ok {W : WX} {X : Cx} {sc : Scope} (C : Cfg t G k W X sc) (hr : SndE t G k r) : ∀ {es : List Expr} {ts : List (List Str × Str × EV)}, trAts t (r sc) es = some ts →
    PGs X es (gsA G W ts) ∧ (assignEach es X.env).length = ts.length ∧ (assignEach es X.env).findIdx? (·.1) = none ∧ es.length = ts.length ∧ es.filterMap (fun e => match e with
      | .Name id pos => if (X.env.kindOf id == some .local && pos.line == (((es.head?.map (·.pos.line)).getD 0))) = true then some id else none
      | _ => none) = [] ∧ ∀ ln : Nat, es.filterMap (fun e => match e with
      | .Name id pos => if (X.env.kindOf id == some .local && pos.line == ln) = true then some id else none
      | _ => none) = []
  | [], ts, h => by cases h; exact ⟨ga_nil, rfl, rfl, rfl, rfl, fun _ => rfl⟩
  | .Attribute o x _ :: es, ts, h => by
    dsimp only [trAts] at h
    split at h
    · rename_i fo us e1 e2
      cases h
      obtain ⟨i1, i2, i3, i4, _, i5⟩ := trAts_ok C hr e2
      refine ⟨ga_cons C.hK (fun c hm => ?_) (hr _ _ _ _ _ C e1) i1, ?_, ?_, ?_, ?_, fun ln => ?_⟩
      · cases q : t.noat.lookup x with
        | none => rw [q] at hm; cases hm
        | some cs => rw [q] at hm; exact C.noat _ _ q c hm
      · show ((false, _) :: assignEach es X.env).length = _
        rw [List.length_cons, i2, List.length_cons]
      · show List.findIdx? (·.1) ((false, _) :: assignEach es X.env) = none
        rw [List.findIdx?_cons]
        simp [i3]
      · rw [List.length_cons, i4, List.length_cons]
      · exact i5 _
      · exact i5 ln
    · cases h
theorem stores_attrs {es : List Expr} {e : Expr} {kk : Nat} {p2 : Pos} {env : PySem.Env} (hne : es ≠ []) (hn : ∀ ln : Nat, es.filterMap (fun e => match e with
      | .Name id pos => if (env.kindOf id == some .local && pos.line == ln) = true then some id else none
      | _ => none) = []) : swappedStores [.Tuple es kk p2] e env = pure none := by
  have hl : (([] : List Str).length != es.length) = true := by
    cases es with
    | nil => exact (hne rfl).elim
    | cons _ _ => rfl
  unfold swappedStores
  split
  · rename_i ts vs heq
    have hts : ts = es := by
      split at heq
      · rename_i q; cases heq; cases q; rfl
      · rename_i q; cases q
      · cases heq
    subst hts
    split
    · rfl
    · split
      · rfl
      · dsimp only
        refine if_pos ?_
        rw [Bool.or_eq_true]; left
        exact (congrArg (fun l : List Str => (l.length != ts.length)) (hn ((ts.head?.map (fun x => x.pos.line)).getD 0))).trans hl
  · rfl
theorem aAttrs_ok (hcm : t.cm = true) (hr : SndE t G k r) : SndS t G k (aAttrs t r) := by
  intro W X sc e f C h
  unfold aAttrs at h
  split at h
  · split at h
    · rename_i hc
      split at h
      · rename_i e1 e2
        cases h
        obtain ⟨i1, i2, i3, i4, _, i5⟩ := trAts_ok C.toCfg hr e1
        exact s_attrs C.hK (C.calm hcm) (hr _ _ _ _ _ C.toCfg e2) i1 i2 i3 (by unfold swapsWithSole; exact sw_no hc) (stores_attrs nofun i5)
      · cases h
    · cases h
  · cases h
/-- x = [.. for ..] -/
def swB (sc : Scope) (t : Str) (tp vp : Pos) (scope : Scope) : Bool :=
  (match sc.names.lookup t with | some .local => true | _ => false) && (tp.line == vp.line) && !(scope.names.any fun (n, k) => n == t && (k == .local || k == .cell))
def aLc (t : Tr) (r : TrE) (rt : TrT) : TrS
  | sc, .Assign [.Name y py] (.ListComp elt gs scope p) _ => match ixOf y t.N, eLc t r rt sc (.ListComp elt gs scope p) with
    | some i, some f => if swB sc y py p scope = true then some (sAsg (.nm i) f) else if locB sc y = true then some (sAsg (.nm i) f) else none
    | _, _ => none
  | _, _ => none
theorem tOf_mono {W : WX} {f : EV} {σ : L2.St} {H : Hp} {Q Q' : VK} (q : tOf G W f σ H Q) (h : ∀ v H, Q v H → Q' v H) : tOf G W f σ H Q' := by
  obtain ⟨T, env, m, e, S, re, p⟩ := q
  refine ⟨T, env, m, e, S, re, ?_⟩
  revert p
  cases f env m with
  | ok d m1 => exact fun p T1 v E1 S1 r1 => h _ _ (p T1 v E1 S1 r1)
  | ex x m1 => exact fun p => p
  | bad => exact fun p => p
theorem swB_true {sc : Scope} {X : Cx} {y : Str} {py p : Pos} {scope : Scope} {elt : Expr} {gs : List Comprehension} {l : Nat} (hs : X.env.scope = sc) (hk : X.env.scope.kind = .function) (h : swB sc y py p scope = true) :
    swapsWith (.ListComp elt gs scope p) (some (.Name y py)) l X.env = pure true := by
  unfold swB at h
  rw [Bool.and_eq_true, Bool.and_eq_true] at h
  refine sw_true hk ?_ h.1.2 (by simpa using h.2)
  rw [hs]
  have h1 := h.1.1
  split at h1
  · assumption
  · cases h1
theorem swB_false {sc : Scope} {X : Cx} {y : Str} {py p : Pos} {scope : Scope} {elt : Expr} {gs : List Comprehension} {l : Nat} (hs : X.env.scope = sc) (hk : X.env.scope.kind = .function) (h : ¬ swB sc y py p scope = true) :
    swapsWith (.ListComp elt gs scope p) (some (.Name y py)) l X.env = pure false := by
  have hb : X.env.blockKind = .function := by unfold PySem.Env.blockKind; rw [hk]; rfl
  unfold swapsWith
  simp only [hb, Expr.pos]
  have e : (ScopeKind.function == ScopeKind.function && X.env.kindOf y == some NameKind.local && py.line == p.line && !(scope.names.any fun (n, k) => n == y && (k == .local || k == .cell))) = false := by
    cases q : (ScopeKind.function == ScopeKind.function && X.env.kindOf y == some NameKind.local && py.line == p.line && !(scope.names.any fun (n, k) => n == y && (k == .local || k == .cell))) with
    | false => rfl
    | true =>
      exfalso
      apply h
      rw [Bool.and_eq_true, Bool.and_eq_true, Bool.and_eq_true] at q
      unfold swB
      rw [Bool.and_eq_true, Bool.and_eq_true]
      refine ⟨⟨?_, q.1.2⟩, q.2⟩
      have z : sc.names.lookup y = some .local := by rw [← hs]; exact eq_of_beq q.1.1.2
      rw [z]
  exact congrArg pure e
theorem aLc_ok (hcm : t.cm = true) (hr : SndE t G k r) (ht : SndT t G k rt) : SndS t G k (aLc t r rt) := by
  intro W X sc e f C h
  unfold aLc at h
  split at h
  · rename_i sc y py elt gs scope p _
    split at h
    · rename_i i fe e1 e2
      split at h
      · rename_i hsw
        cases h
        have hsw' := fun l => swB_true (elt := elt) (gs := gs) (l := l) C.sc C.kind hsw
        have hyl : X.env.scope.names.lookup y = some .local := by
          have hsw2 := hsw
          unfold swB at hsw2
          rw [Bool.and_eq_true, Bool.and_eq_true] at hsw2
          have h1 := hsw2.1.1
          rw [C.sc]
          split at h1
          · assumption
          · cases h1
        have i1 : X.N[i]? = some y := by rw [C.N]; exact ixOf_get e1
        have fin : ∀ {D : Ends} {σ : L2.St} {H : Hp}, sOf G W (sAsg (.nm i) fe) D σ H → tOf G W fe σ H (fun x H1 => gName i x σ H1 D.nx) := fun {D σ H} q => tOf_mono (asg_read q) fun v H1 ⟨T, env, m, d, env', e, S, re, rr, b, q⟩ => by
          subst e
          cases b
          exact q _ (re.set (G.fr_none (C.xsn hcm) _) rr) (OnlyAt.set _ _ _)
        -- the block as eLc has it
        unfold eLc at e2
        split at e2
        · rename_i hq
          cases hq
          split at e2
          · rename_i h1
            split at e2
            · rename_i h2 h3 h4
              obtain ⟨q1, q2, q3, q4, q5⟩ := lc_of hcm C.toCfg hr h1 h2 h3 h4
              split at e2
              · rename_i hv
                have hv' := fun i hi => (by simpa using List.all_eq_true.mp hv i hi : i ∈ (ownOf t.N _).map (·.2))
                split at e2
                · cases e2
                  exact PS.wk (ps_setLc (C.calm hcm) C.nd i1 hyl (hsw' _) q2 q1 q4 (fun _ _ _ _ _ => pts_dNil) q5 q3) fun D σ H q => lc_read (C.xsn hcm) hv' (fin q)
                · rename_i c
                  cases e3 : rt (relS _ _) c with
                  | none => rw [e3] at e2; cases e2
                  | some tt =>
                    rw [e3] at e2; cases e2
                    exact PS.wk (ps_setLc (C.calm hcm) C.nd i1 hyl (hsw' _) q2 q1 q4 (fun s H Cc cl fp => pts_dOne (ht _ _ _ _ _ (C.toCfg.blk hcm s H _ Cc cl fp) e3)) q5 q3) fun D σ H q => lc_read (C.xsn hcm) hv' (fin q)
                · cases e2
              · cases e2
            · cases e2
          · cases e2
        · cases e2
      · rename_i hsw
        split at h
        · rename_i hl
          cases h
          have i1 : X.N[i]? = some y := by rw [C.N]; exact ixOf_get e1
          exact s_asg (eLc_ok hcm hr ht _ _ _ _ _ C.toCfg e2) (g_nm (G.fr_none (C.xsn hcm) _) C.nd i1 (by rw [C.sc]; exact locB_loc hl) (.inl (C.fnT y))) (by unfold swapsWithSole; exact swB_false C.sc C.kind hsw) (stores_none rfl) rfl
        · cases h
    · cases h
  · cases h

/-! ### the others -/
def sSimple (r : TrE) : TrS
  | sc, .Return (some e) _ => (r sc e).map sRet
  | _, .Return none _ => some sRetN
  | _, .Pass _ => some sNil
  | _, .Break _ => some sBrk
  | _, .Continue _ => some sCont
  | sc, .Expr (.Call a b c d) _ => (r sc (.Call a b c d)).map sDrop
  | _, .Raise _ _ _ => some sBad
  | _, _ => none
theorem sSimple_ok (hr : SndE t G k r) : SndS t G k (sSimple r) := by
  intro W X sc e f C h
  unfold sSimple at h
  split at h
  · rename_i e1 _
    cases e2 : r _ e1 with
    | none => rw [e2] at h; cases h
    | some g => rw [e2] at h; cases h; exact s_ret (hr _ _ _ _ _ C.toCfg e2)
  · cases h; exact s_retN
  · cases h; exact s_pass
  · cases h; exact s_brk
  · cases h; exact s_cont
  · rename_i a b c d _
    cases e2 : r _ (.Call a b c d) with
    | none => rw [e2] at h; cases h
    | some g => rw [e2] at h; cases h; exact s_drop (hr _ _ _ _ _ C.toCfg e2) (sw_no rfl)
  · cases h; exact s_bad
  · cases h
def sBlock (t : Tr) (r : TrE) (rt : TrT) (rs : TrS) : TrS
  | sc, .If c a b _ => match rt sc c, trSs (rs sc) a, trSs (rs sc) b with
    | some t, some f, some g => some (sIf t f g)
    | _, _, _ => none
  | sc, .While c b [] _ => if t.cm then match rt sc c, trSs (rs sc) b with
    | some t, some f => some (sWhile t f)
    | _, _ => none
    else none
  | sc, .For tg it b [] _ => if t.cm then match trIt t r sc tg it, trPat t (locB sc) 4 tg, trSs (rs sc) b with
    | some i, some p, some f => some (sFor i p f)
    | _, _, _ => none
    else none
  | _, _ => none
theorem sBlock_ok (hr : SndE t G k r) (ht : SndT t G k rt) (hs : SndS t G k rs) : SndS t G k (sBlock t r rt rs) := by
  intro W X sc e f C h
  unfold sBlock at h
  split at h
  · split at h
    · rename_i e1 e2 e3
      cases h
      exact s_if (ht _ _ _ _ _ C.toCfg e1) (trSs_ok C hs _ _ e2) (trSs_ok C hs _ _ e3)
    · cases h
  · split at h
    · rename_i hcm
      split at h
      · rename_i e1 e2
        cases h
        exact s_while (C.po hcm) (ht _ _ _ _ _ C.toCfg e1) (trSs_ok C hs _ _ e2)
      · cases h
    · cases h
  · split at h
    · rename_i hcm
      split at h
      · rename_i e1 e2 e3
        cases h
        obtain ⟨q1, q2⟩ := trIt_ok hr _ _ _ _ _ _ C.toCfg e1
        exact s_for (C.po hcm) (C.calm hcm) q1 (pat_ok C e2) (trSs_ok C hs _ _ e3) q2
      · cases h
    · cases h
  · cases h
/-! ### raise -/
def xRaise (t : Tr) (r : TrE) : TrS
  | sc, .Raise (some (.Call (.Name c _) [] [] _)) none _ => if t.cm = true ∧ glB sc c = true ∧ nmOk c = true ∧ c ≠ ("ZeroDivisionError" : Str) then match t.exs.lookup c with
    | some e => if e.ini = false then some (sRaise0 c) else none
    | none => none
    else none
  | sc, .Raise (some (.Call (.Name c _) [.Constant (.str s) j p] [] _)) none _ => if t.cm = true ∧ glB sc c = true ∧ c = ("ZeroDivisionError" : Str) ∧ t.free.contains c = true then some sRaiseZ
    else if t.cm = true ∧ glB sc c = true ∧ nmOk c = true ∧ c ≠ ("ZeroDivisionError" : Str) then match t.exs.lookup c, trArgs (r sc) [.Constant (.str s) j p] with
    | some e, some fs => if e.ini = true then some (sRaise c e.flds fs) else none
    | _, _ => none
    else none
  | sc, .Raise (some (.Call (.Name c _) (a :: l) [] _)) none _ => if t.cm = true ∧ glB sc c = true ∧ nmOk c = true ∧ c ≠ ("ZeroDivisionError" : Str) then match t.exs.lookup c, trArgs (r sc) (a :: l) with
    | some e, some fs => if e.ini = true then some (sRaise c e.flds fs) else none
    | _, _ => none
    else none
  | _, _ => none
theorem raise_many {W : WX} {X : Cx} {sc : Scope} (C : CfgS t G k W X sc) (hr : SndE t G k r) {c : Str} {p pos pos2 : Pos} {a : Expr} {l : List Expr} {f : SV} (hc : t.cm = true ∧ glB sc c = true ∧ nmOk c = true ∧ c ≠ ("ZeroDivisionError" : Str))
    (h : (match t.exs.lookup c, trArgs (r sc) (a :: l) with
    | some e, some fs => if e.ini = true then some (sRaise c e.flds fs) else none
    | _, _ => none) = some f) : PS X (.Raise (some (.Call (.Name c p) (a :: l) [] pos)) none pos2) (sOf G W f) := by
  obtain ⟨h1, h2, h3, h4⟩ := hc
  split at h
  · rename_i e fs e1 e2
    split at h
    · rename_i hi
      cases h
      obtain ⟨q1, q2, q3⟩ := trArgs_ok C.toCfg hr _ _ e2
      have F := (C.exs _ _ e1).rs h4
      rw [if_pos hi] at F
      exact s_raise F (C.calm h1) C.tk (C.room2 h1) (glB_gl C.sc h2) (nmOk_d h3).1 q2 q1
    · cases h
  · cases h
theorem xRaise_ok (hr : SndE t G k r) : SndS t G k (xRaise t r) := by
  intro W X sc e f C h
  unfold xRaise at h
  split at h
  · split at h
    · rename_i hc
      obtain ⟨h1, h2, h3, h4⟩ := hc
      split at h
      · rename_i e e1
        split at h
        · rename_i hi
          cases h
          have F := (C.exs _ _ e1).rs h4
          rw [if_neg (by rw [hi]; decide)] at F
          exact s_raise0 F (C.calm h1) C.tk (glB_gl C.sc h2) (nmOk_d h3).1
        · cases h
      · cases h
    · cases h
  · split at h
    · rename_i hc
      cases h
      obtain ⟨h1, h2, h3, h4⟩ := hc
      exact s_raiseZ h3 (C.calm h1) C.tk (glB_gl C.sc h2) (C.free _ (by simpa using h4))
    · split at h
      · rename_i hc
        exact raise_many C hr hc h
      · cases h
  · split at h
    · rename_i hc
      exact raise_many C hr hc h
    · cases h
  · cases h
def stepS (t : Tr) (n : Nat) (rs : TrS) : TrS := fun sc x => alt (aPlain t (trs t n).e sc x) (alt (aTup t (trs t n).e sc x) (alt (aMany t (trs t n).e sc x) (alt (gd t.cm (aPar t (trs t n).e sc x)) (alt (aTup2 t (trs t n).e sc x) (alt (gd t.cm (aPar3 t (trs t n).e sc x)) (alt (aSub (trs t n).e sc x) (alt (aAttr t (trs t n).e sc x) (alt (aSlS (trs t n).e sc x) (alt (gd t.cm (aAttrs t (trs t n).e sc x)) (alt (gd t.cm (aLc t (trs t n).e (trs t n).t sc x)) (alt (xRaise t (trs t n).e sc x) (alt (sSimple (trs t n).e sc x) (sBlock t (trs t n).e (trs t n).t rs sc x)))))))))))))
theorem stepS_ok (n : Nat) {rs : TrS} (h3 : SndS t G k rs) : SndS t G k (stepS t n rs) := by
  obtain ⟨h1, h2⟩ := trs_ok (t := t) (G := G) (k := k) n
  intro W X sc e f C h
  rcases alt_or h with h | h
  · exact aPlain_ok h1 _ _ _ _ _ C h
  rcases alt_or h with h | h
  · exact aTup_ok h1 _ _ _ _ _ C h
  rcases alt_or h with h | h
  · exact aMany_ok h1 _ _ _ _ _ C h
  rcases alt_or h with h | h
  · exact aPar_ok (gd_ok h).1 h1 _ _ _ _ _ C (gd_ok h).2
  rcases alt_or h with h | h
  · exact aTup2_ok h1 _ _ _ _ _ C h
  rcases alt_or h with h | h
  · exact aPar3_ok (gd_ok h).1 h1 _ _ _ _ _ C (gd_ok h).2
  rcases alt_or h with h | h
  · exact aSub_ok h1 _ _ _ _ _ C h
  rcases alt_or h with h | h
  · exact aAttr_ok h1 _ _ _ _ _ C h
  rcases alt_or h with h | h
  · exact aSlS_ok h1 _ _ _ _ _ C h
  rcases alt_or h with h | h
  · exact aAttrs_ok (gd_ok h).1 h1 _ _ _ _ _ C (gd_ok h).2
  rcases alt_or h with h | h
  · exact aLc_ok (gd_ok h).1 h1 h2 _ _ _ _ _ C (gd_ok h).2
  rcases alt_or h with h | h
  · exact xRaise_ok h1 _ _ _ _ _ C h
  rcases alt_or h with h | h
  · exact sSimple_ok h1 _ _ _ _ _ C h
  · exact sBlock_ok h1 h2 h3 _ _ _ _ _ C h
/-- without try -/
def trSt0 (t : Tr) (n : Nat) : Nat → TrS
  | 0 => fun _ _ => none
  | j + 1 => stepS t n (trSt0 t n j)
theorem trSt0_ok (n : Nat) : ∀ j, SndS t G k (trSt0 t n j)
  | 0 => fun _ _ _ _ _ _ h => (by cases h)
  | j + 1 => stepS_ok n (trSt0_ok n j)

/-! ### try -/
def suiteT (t : Tr) (x : Exn) (i : Option Nat) : Tr := { t with cm := false, fn := [], meth := [], mak := [], xi := i, xv := x }
def chkOf (exs : List (Str × ExD)) (c : Str) : Str → Option Bool := fun d => (exs.lookup d).map fun e => e.sups.contains c
def xTry (t : Tr) (rs : TrS) : TrS
  | sc, .Try body [.ExceptHandler (some (.Name c _)) none (b₀ :: suite) _] [] [] _ => if t.cm = true ∧ glB sc c = true ∧ nmOk c = true ∧ t.exn.contains c = true then
      (trSs (rs sc) body).map fun b => sTry (chkOf t.exs c) b fun x => (trSs (trSt0 (suiteT t x none) 40 12 sc) (b₀ :: suite)).getD sBad
    else none
  | sc, .Try body [.ExceptHandler (some (.Name c _)) (some n) (b₀ :: suite) _] [] [] _ => if t.cm = true ∧ glB sc c = true ∧ nmOk c = true ∧ t.exn.contains c = true ∧ sc.names.lookup n = some .local then
      match trSs (rs sc) body, ixOf n t.N with
      | some b, some i => some (sTryAs i (chkOf t.exs c) b fun x => (trSs (trSt0 (suiteT t x (some i)) 40 12 sc) (b₀ :: suite)).getD sBad)
      | _, _ => none
    else none
  | _, _ => none
theorem exF_tr {X X' : Cx} {exn : List Str} {c : Str} {e : ExD} (h : ExF X G exn c e) (hm : X'.mg = X.mg) (hK : X'.K = X.K) (hp : X'.prog = X.prog) (hw : X'.w = X.w) (hb : X'.base = X.base) {G' : Gd} (hc : G'.cl = G.cl) : ExF X' G' exn c e := by
  refine ⟨fun z => ?_, fun z => ?_, fun f hf => ?_, fun d hd => ?_, fun z d hd => ?_⟩
  · have := h.rs z
    split at this
    · rename_i q
      rw [if_pos q]
      refine ⟨by rw [hm, hc]; exact this.at_, this.zd, by rw [hK, hc]; exact this.cl, this.le, this.ne, ?_⟩
      rw [hm, hK, hp, hw, hb, hc]; exact this.ex
    · rename_i q
      rw [if_neg q]
      refine ⟨by rw [hm, hc]; exact this.at_, this.zd, ?_, ?_, ?_, ?_⟩
      · rw [hK, hc]; exact this.ex
      · rw [hK, hc]; exact this.kp
      · rw [hK, hc]; exact this.sub
      · rw [hK, hc]; exact this.ty
  · rw [hK, hc]; exact h.xc z
  · rw [hK, hc]; exact h.no f hf
  · have := h.exm d hd
    unfold clsV clsN at this ⊢
    rw [hK, hc]; exact this
  · have := h.kit z d hd
    unfold clsV clsN at this ⊢
    rw [hK, hc]; exact this
theorem cfg_tr {W W' : WX} {X : Cx} {sc : Scope} (C : CfgS t G k W X sc) (hcm : t.cm = true) {pn : List (Addr × Obj)} {xe : Value → Shared → Prop} (tk : Takes (X.tr pn xe) W') (po : PassesOwn (model X.prog X.w) X.A X.env xe) : CfgS t G k W' (X.tr pn xe) sc :=
  ⟨⟨C.hK, tk, C.calm, C.N, C.nd, C.sc, C.room, C.room2, C.un, C.cmx, by rw [C.cmx hcm]; exact C.xsn hcm, fun c e h => exF_tr (X' := X.tr pn xe) (G' := G) (C.exs c e h) rfl rfl rfl rfl rfl rfl, fun c h => ⟨(C.exn c h).nm⟩, fun x l h => ⟨(C.tab x l h).ex⟩, C.con, C.free, fun x i n e => ⟨(C.fn x i n e).ex⟩, fun x l e c i n hm => ⟨(C.meth x l e c i n hm).ex⟩, fun c i n e => ⟨(C.mak c i n e).at_, (C.mak c i n e).cl, (C.mak c i n e).ex⟩, C.noat, fun x i h => ⟨(C.hot x i h).ex⟩, C.rh⟩,
    C.fnT, fun _ => po, C.kind, C.hs, C.hf⟩
theorem cfg_su0 {W : WX} {X : Cx} {sc : Scope} (C : CfgS t G k W X sc) (hcm : t.cm = true) (y : Exn) (a : Addr) (oe : Obj) (pn : List (Addr × Obj)) : CfgS (suiteT t y none) G k (fun _ _ _ _ => False) (X.suite a ((a, oe) :: pn)) sc :=
  ⟨⟨C.hK, takes0, nofun, C.N, C.nd, C.sc, nofun, nofun, C.un, nofun, C.xsn hcm, fun c e h => exF_tr (X' := X.suite a ((a, oe) :: pn)) (G' := G) (C.exs c e h) rfl rfl rfl rfl rfl rfl, fun c h => ⟨(C.exn c h).nm⟩, fun x l h => ⟨(C.tab x l h).ex⟩, C.con, C.free, nofun, nofun, nofun, C.noat, fun x i h => ⟨(C.hot x i h).ex⟩, C.rh.imp (fun e => e) fun r => ⟨r.dp, r.un⟩⟩,
    C.fnT, nofun, C.kind, C.hs, C.hf⟩
theorem cfg_su1 {W : WX} {X : Cx} {sc : Scope} (C : CfgS t G k W X sc) (y : Exn) (i : Nat) (a : Addr) (oe : Obj) (cls : Value) (d : Option Addr) (pn : List (Addr × Obj)) (hz : Zc cls d oe) (hd : ∃ vs, oe.data = .fields vs) : CfgS (suiteT t y (some i)) (G.with ⟨i, a, y, cls, d⟩) k (fun _ _ _ _ => False) (X.suite a ((a, oe) :: pn)) sc :=
  ⟨⟨C.hK, takes0, nofun, C.N, C.nd, C.sc, nofun, nofun, C.un, nofun, ⟨_, rfl, rfl, rfl, ⟨oe, List.mem_cons_self, hz, hd⟩⟩, fun c e h => exF_tr (X' := X.suite a ((a, oe) :: pn)) (G' := G.with ⟨i, a, y, cls, d⟩) (C.exs c e h) rfl rfl rfl rfl rfl rfl, fun c h => ⟨(C.exn c h).nm⟩, fun x l h => let ⟨a, h1, h2⟩ := (C.tab x l h).ex; ⟨a, h1, fun s d e => let ⟨v, h3, h4⟩ := h2 s d e; ⟨v, h3, fun T => (geq_with G _).rd _ _ (h4 T)⟩⟩, fun x d e => let ⟨v, u, h1, h2, h3⟩ := C.con x d e; ⟨v, u, h1, h2, fun T => (geq_with G _).rd _ _ (h3 T)⟩, C.free, nofun, nofun, nofun, C.noat, fun x i h => ⟨(C.hot x i h).ex⟩, C.rh.imp (fun e => e) fun r => ⟨r.dp, r.un⟩⟩,
    C.fnT, nofun, C.kind, C.hs, C.hf⟩
theorem pss_bad {X : Cx} {W : WX} {l : List Stmt} : PSs X l (sOf G W sBad) := ⟨fun _ _ _ _ _ _ ⟨_, _, _, _, _, _, q⟩ => q.elim⟩
theorem chk_ok {W : WX} {X : Cx} {sc : Scope} (C : CfgS t G k W X sc) {c : Str} (hm : c ∈ t.exn) : ChkOk G X.K (clsN G c) (chkOf t.exs c) := fun d b h => by
  unfold chkOf at h
  cases q : t.exs.lookup d with
  | none => rw [q] at h; cases h
  | some e =>
    rw [q] at h; cases h
    exact (C.exs _ _ q).exm c hm
theorem xTry_ok {rs : TrS} (h3 : SndS t G k rs) : SndS t G k (xTry t rs) := by
  intro W X sc e f C h
  unfold xTry at h
  split at h
  · rename_i body c _ b₀ suite _ _
    split at h
    · rename_i hc
      obtain ⟨h1, h2, h4, h5⟩ := hc
      have hm := h5
      rw [List.contains_iff_mem] at hm
      cases eb : trSs (rs sc) body with
      | none => rw [eb] at h; cases h
      | some b =>
        rw [eb] at h; cases h
        refine s_try C.hs C.hf (names_clsNm (C.exn _ hm) (glB_gl C.sc h2) (nmOk_d h4).1) (chk_ok C hm) C.tk (fun W' pn xe tk' po' => trSs_ok (cfg_tr C h1 tk' po') h3 _ _ eb) fun y a oe pn => ?_
        cases es : trSs (trSt0 (suiteT t y none) 40 12 sc) (b₀ :: suite) with
        | none => exact pss_bad
        | some g => exact trSs_ok (cfg_su0 C h1 y a oe pn) (trSt0_ok 40 12) _ _ es
    · cases h
  · rename_i body c _ n b₀ suite _ _
    split at h
    · rename_i hc
      obtain ⟨h1, h2, h4, h5, h6⟩ := hc
      have hm := h5
      rw [List.contains_iff_mem] at hm
      split at h
      · rename_i b i eb ei
        cases h
        refine s_tryAs (C.xsn h1) C.hs C.hf C.nd (by rw [C.N]; exact ixOf_get ei) (by show X.env.scope.names.lookup n = _; rw [C.sc]; exact h6) (names_clsNm (C.exn _ hm) (glB_gl C.sc h2) (nmOk_d h4).1) (chk_ok C hm) C.tk (fun W' pn xe tk' po' => trSs_ok (cfg_tr C h1 tk' po') h3 _ _ eb) fun y a oe cls d pn hz hd => ?_
        cases es : trSs (trSt0 (suiteT t y (some i)) 40 12 sc) (b₀ :: suite) with
        | none => exact pss_bad
        | some g => exact trSs_ok (cfg_su1 C y i a oe cls d pn hz hd) (trSt0_ok 40 12) _ _ es
      · cases h
    · cases h
  · cases h
def trSt (t : Tr) (n : Nat) : Nat → TrS
  | 0 => fun _ _ => none
  | j + 1 => fun sc x => alt (xTry t (trSt t n j) sc x) (stepS t n (trSt t n j) sc x)
theorem trSt_ok (n : Nat) : ∀ j, SndS t G k (trSt t n j)
  | 0 => fun _ _ _ _ _ _ h => (by cases h)
  | j + 1 => by
    have h3 := trSt_ok n j
    intro W X sc e f C h
    rcases alt_or h with h | h
    · exact xTry_ok h3 _ _ _ _ _ C h
    · exact stepS_ok n h3 _ _ _ _ _ C h
def trBody (t : Tr) (sc : Scope) (l : List Stmt) : Option SV := trSs (trSt t 40 12 sc) l
theorem trBody_ok {W : WX} {X : Cx} {sc : Scope} {l : List Stmt} {f : SV} (C : CfgS t G k W X sc) (h : trBody t sc l = some f) : PSs X l (sOf G W f) := trSs_ok C (trSt_ok 40 12) l f h
end
end Itp
set_option Elab.async false
set_option linter.all false
set_option maxRecDepth 100000
/-! Itp M: a program's defs, all at once; the law at the end. -/
namespace Itp
open PySem PySem.Spec PyProof.Rows L2

abbrev Fm := Nat → List D → Mem → R D
structure Df where
  at_ : Str × Option Str
  name : Str
  qual : Str
  np : Nat
  N : List Str
  st : Stmt
  sel : Pos → Nat
  sv : Fm → Fm → SV
  pop : Nat := 0
  dfl : List D := []

/-- the __init__ of a class of exceptions -/
structure IniD where
  c : Str
  N : List Str
  qual : Str
  st : Stmt
/-- a def that suites hand their exception to -/
structure HDf where
  nm : Str
  qual : Str
  N : List Str
  st : Stmt
  sel : Pos → Nat
  sv : Exn → SV
structure Md where
  con : List (Str × D)
  fn : List (Str × Nat × Nat)
  free : List Str
  cls : List Str := []
  meth : List (Str × List (Str × Nat × Nat)) := []
  mak : List (Str × Nat × Nat) := []
  noat : List (Str × List Str) := []
  exs : List (Str × ExD) := []
  exn : List Str := []
  ini : List IniD := []
  tab : List (Str × List (List Nat × D)) := []
  hot : List (Str × Nat) := []
  hdf : List HDf := []
  vir : List (Nat × List D) := []
/-- the defs, and from 1000 on the defs with their defaults -/
def vF (vir : List (Nat × List D)) (F : Fm) : Fm := fun i => if i < 1000 then F i else match vir[i - 1000]? with
  | some (i0, dl) => fun xs m => F i0 (xs ++ dl) m
  | none => fun _ _ => .bad
def fX (l : List HDf) (i : Nat) (x : Exn) (m : Mem) : R D := match l[i]? with
  | some d => runX d.N.length (d.sv x) m
  | none => .bad
def Md.tr (M : Md) (d : Df) (F F1 : Fm) : Tr := ⟨d.N, M.con, M.fn, M.free, d.sel, vF M.vir F, vF M.vir F1, M.meth, M.mak, M.noat, true, none, ⟨Str.empty, []⟩, M.exs, M.exn, M.tab, M.hot, fX M.hdf⟩
def Md.trX (M : Md) (d : HDf) (x : Exn) : Tr := ⟨d.N, M.con, [], M.free, d.sel, fun _ _ _ => .bad, fun _ _ _ => .bad, [], [], M.noat, false, some 0, x, M.exs, M.exn, M.tab, [], fun _ _ _ => .bad⟩

/-- behind a call: what is left -/
def popIf (b : Nat) (m : Mem) (r : R D) : R D := match b with
  | 0 => r
  | 1 => popR m r
  | _ => popK m r
/-- what the defs do, k calls deep -/
def badF : Fm := fun _ _ _ => .bad
def callN2 (P : List Df) : Nat → Fm × Fm
  | 0 => (badF, badF)
  | k + 1 => (fun i ds m => match P[i]? with
    | some d => popIf d.pop m (runB d.N.length (d.sv (callN2 P k).1 (callN2 P k).2) ds m)
    | none => .bad, (callN2 P k).1)
def callN (P : List Df) (k : Nat) : Fm := (callN2 P k).1
theorem callN2_two (P : List Df) (k : Nat) : (callN2 P k).2 = callN P (k - 1) := by cases k <;> rfl

/-- a def is what is said of it -/
structure DefIs (M : Md) (d : Df) : Prop where
  le : d.np ≤ d.N.length
  scope : FnScope d.N (d.N.take d.np) (defScope d.st)
  tr : ∀ F F1, trBody (M.tr d F F1) (defScope d.st) (defBody d.st) = some (d.sv F F1)
  binds : d.dfl = [] → ∀ (kV doc pm : Value) (an : Option Addr) (cdv ct : Value) (us : List Value), us.length = (d.N.take d.np).length → bindArgs (PySem.W.fnOf d.name d.qual (defArgs d.st) (defBody d.st) (defScope d.st) .none kV doc pm an cdv ct) ⟨us, []⟩ = pure ((d.N.take d.np).zip us)
  bindsD : d.dfl ≠ [] → ∀ (j : Nat), j ≤ d.dfl.length → ∀ (T : Addr) (kV doc pm : Value) (an : Option Addr) (cdv ct : Value) (us its : List Value), us.length + (d.dfl.length - j) = (d.N.take d.np).length → its.length = d.dfl.length →
    ∃ k, bindArgs (PySem.W.fnOf d.name d.qual (defArgs d.st) (defBody d.st) (defScope d.st) (.ref T) kV doc pm an cdv ct) ⟨us, []⟩ = seqItems? (.ref T) >>= k ∧ k (some its.toArray) = pure ((d.N.take d.np).zip (us ++ its.drop j))
  dflat : d.dfl.all flatD = true
  dle : d.dfl.length ≤ d.np
/-- a default as the head tells it -/
def dvOf : D → He.Dv
  | .bl b => .bl b
  | .int i => .int i
  | .str s => .str (stS s)
  | _ => .non
theorem rd_dv {G : Gd} {T : Tie} {K : PySem.W.Frag} : ∀ {ds : List D}, ds.all flatD = true → RDs G T ds ((ds.map dvOf).map (He.Dv.v K))
  | [], _ => .nil
  | d :: ds, h => by
    rw [List.all_cons, Bool.and_eq_true] at h
    refine .cons ?_ (rd_dv h.2)
    cases d with
    | non => exact .non
    | bl b => exact .bl b
    | int i => exact .int i
    | str s => exact .str s
    | _ => cases h.1

structure IniOk (d : IniD) : Prop where
  scope : FnScope d.N d.N (defScope d.st)
  body : IniB d.N (defBody d.st)
  dbg : ∀ x ∈ d.N, (x == ("__debug__" : Str)) = false ∧ (x == ("__classdict__" : Str)) = false
  binds : ∀ (kV doc pm : Value) (an : Option Addr) (cdv ct : Value) (us : List Value), us.length = d.N.length → bindArgs (PySem.W.fnOf ("__init__" : Str) d.qual (defArgs d.st) (defBody d.st) (defScope d.st) .none kV doc pm an cdv ct) ⟨us, []⟩ = pure (d.N.zip us)
structure HotIs (M : Md) (d : HDf) : Prop where
  scope : FnScope d.N (d.N.take 1) (defScope d.st)
  tr : ∀ x, trSs (trSt0 (M.trX d x) 40 12 (defScope d.st)) (defBody d.st) = some (d.sv x)
  binds : ∀ (kV doc pm : Value) (an : Option Addr) (cdv ct : Value) (us : List Value), us.length = (d.N.take 1).length → bindArgs (PySem.W.fnOf d.nm d.qual (defArgs d.st) (defBody d.st) (defScope d.st) .none kV doc pm an cdv ct) ⟨us, []⟩ = pure ((d.N.take 1).zip us)
  one : 0 < d.N.length
/-- the number i stands for a def, with n values -/
def Tgt (P : List Df) (M : Md) (at_ : Str × Option Str) (i n : Nat) : Prop := ∃ (i0 : Nat) (d : Df) (j : Nat), P[i0]? = some d ∧ d.at_ = at_ ∧ j ≤ d.dfl.length ∧ n + (d.dfl.drop j).length = d.np ∧ ∀ F : Fm, vF M.vir F i = fun xs m => F i0 (xs ++ d.dfl.drop j) m
def tgtB (P : List Df) (M : Md) (at_ : Str × Option Str) (i n : Nat) : Bool := if i < 1000 then match P[i]? with
    | some d => decide (d.at_ = at_) && decide (d.np = n)
    | none => false
  else match M.vir[i - 1000]? with
    | some (i0, dl) => match P[i0]? with
      | some d => decide (d.at_ = at_) && (decide (n + dl.length = d.np) && D.beqs dl (d.dfl.drop (d.dfl.length - dl.length)))
      | none => false
    | none => false
theorem tgtB_ok {P : List Df} {M : Md} {at_ : Str × Option Str} {i n : Nat} (h : tgtB P M at_ i n = true) : Tgt P M at_ i n := by
  unfold tgtB at h
  split at h
  · rename_i hi
    cases q : P[i]? with
    | none => rw [q] at h; cases h
    | some d =>
      rw [q] at h
      rw [Bool.and_eq_true] at h
      refine ⟨i, d, d.dfl.length, q, of_decide_eq_true h.1, Nat.le_refl _, by rw [List.drop_length, ← of_decide_eq_true h.2]; rfl, fun F => ?_⟩
      unfold vF
      rw [if_pos hi]
      funext xs m
      rw [List.drop_length, List.append_nil]
  · rename_i hi
    cases q : M.vir[i - 1000]? with
    | none => rw [q] at h; cases h
    | some p =>
      obtain ⟨i0, dl⟩ := p
      rw [q] at h
      dsimp only at h
      cases q2 : P[i0]? with
      | none => rw [q2] at h; cases h
      | some d =>
        rw [q2] at h
        dsimp only at h
        rw [Bool.and_eq_true, Bool.and_eq_true] at h
        have e := D.beqs_eq _ _ h.2.2
        refine ⟨i0, d, d.dfl.length - dl.length, q2, of_decide_eq_true h.1, Nat.sub_le _ _, by rw [← e]; exact of_decide_eq_true h.2.1, fun F => ?_⟩
        unfold vF
        rw [if_neg hi, q, ← e]
structure PrIs (P : List Df) (M : Md) : Prop where
  defs : ∀ d ∈ P, DefIs M d
  fn : ∀ x i n, (x, i, n) ∈ M.fn → Tgt P M (x, none) i n
  meth : ∀ x l, M.meth.lookup x = some l → ∀ c i n, (c, i, n) ∈ l → Tgt P M (c, some x) i n
  mak : ∀ c i n, (c, i, n) ∈ M.mak → c ∈ M.cls ∧ Tgt P M (c, some ("__init__" : Str)) i n
  zd : ∀ e, (("ZeroDivisionError" : Str), e) ∈ M.exs → ∀ f, f ∉ e.flds
  ini : ∀ c e, (c, e) ∈ M.exs → e.ini = true → e.flds ≠ [] ∧ e.flds.length ≤ 1000 ∧ ∃ d ∈ M.ini, d.c = c ∧ d.N.drop 1 = e.flds ∧ IniOk d
  hot : ∀ x i, M.hot.lookup x = some i → ∃ d, M.hdf[i]? = some d ∧ d.nm = x ∧ HotIs M d

def ddH (d : HDf) : He.DefD := ⟨(d.nm, none), d.nm, d.qual, defArgs d.st, defBody d.st, defScope d.st, [], []⟩
def ddI (d : IniD) : He.DefD := ⟨(d.c, some ("__init__" : Str)), ("__init__" : Str), d.qual, defArgs d.st, defBody d.st, defScope d.st, [], []⟩
/-- what the written part must say of the classes of exceptions -/
def exFa (M : Md) : List He.Fa := M.exs.flatMap (fun p => if p.1 = ("ZeroDivisionError" : Str) then [] else .glo p.1 :: ((if p.2.ini then [.meth p.1 "__init__"] else [.exc p.1]) ++ p.2.flds.map (He.Fa.noat p.1))) ++ (M.exn.map (fun c => if blCls c then .free c else .glo c) ++ ((M.tab.map fun p => .glo p.1) ++ M.hdf.map fun d => .glo d.nm))
def G0 (K : PySem.W.Frag) : Gd := ⟨K, He.ga K, none⟩
def exB (M : Md) (K : PySem.W.Frag) : Bool := M.exs.all fun p => (decide (p.1 = ("ZeroDivisionError" : Str)) || (xcB K (He.ga K p.1) && (!p.2.ini || oexB K (He.ga K p.1)))) &&
  M.exn.all fun d => decide (PySem.W.exmOne K (clsV (G0 K) p.1) (clsN (G0 K) d) = some (p.2.sups.contains d)) && (decide (p.1 = ("ZeroDivisionError" : Str)) || decide (PySem.W.kitOne K (clsV (G0 K) p.1) (clsN (G0 K) d) = some (p.2.sups.contains d)))
def dd (d : Df) : He.DefD := ⟨d.at_, d.name, d.qual, defArgs d.st, defBody d.st, defScope d.st, d.dfl.map dvOf, []⟩
abbrev Df.dvs (K : PySem.W.Frag) (d : Df) : List V := (d.dfl.map dvOf).map (He.Dv.v K)
def glosOf : List Df → List He.Fa
  | [] => []
  | d :: l => match d.at_.2 with
    | none => .glo d.at_.1 :: glosOf l
    | some _ => glosOf l
def faOf (P : List Df) (M : Md) : List He.Fa := glosOf P ++ (M.free.map He.Fa.free ++ (M.cls.flatMap (fun c => [.glo c, .cls c]) ++ (M.meth.flatMap (fun p => p.2.map fun q => He.Fa.meth q.1 p.1) ++ (M.mak.map (fun p => He.Fa.mkr p.1) ++ (M.noat.flatMap (fun p => p.2.map fun c => He.Fa.noat c p.1) ++ exFa M)))))
def fnOfP (P : List Df) (M : Md) : List He.DefD := P.map dd ++ (M.ini.map ddI ++ M.hdf.map ddH)
theorem glosOf_mem {x : Str} : ∀ {P : List Df} {d : Df}, d ∈ P → d.at_ = (x, none) → He.Fa.glo x ∈ glosOf P
  | d2 :: P, d, h, e => by
    unfold glosOf
    rcases List.mem_cons.mp h with h | h
    · subst h; rw [e]; exact List.mem_cons_self
    · have := glosOf_mem h e
      split
      · exact List.mem_cons_of_mem _ this
      · exact this

section
variable {P : List Df} {M : Md} {prog : Program} {w : World} {K : PySem.W.Frag} {mg : Str → Option Value} {base : Heap} {G : Gd}

theorem funD_uniq {x qual : Str} {params : Arguments} {body : List Stmt} {scope : Scope} {dvs : List V} {kws : List (Str × V)} {f : Addr} {fd fd' : FuncData} (a : FunD K x qual params body scope dvs kws f fd) (b : FunD K x qual params body scope dvs kws f fd') : fd' = fd := by
  obtain ⟨oc, od, dV, kV, doc, pm, an, cdv, ct, osl, _, l1, _⟩ := a.ex
  obtain ⟨oc', od', dV', kV', doc', pm', an', cdv', ct', osl', _, l2, _⟩ := b.ex
  rw [l1] at l2
  injection l2 with l2
  injection l2 with _ _ l3 _
  injection l3 with l4
  exact l4.symm
/-- what is known of the def d, k calls deep -/
structure Known (prog : Program) (w : World) (K : PySem.W.Frag) (mg : Str → Option Value) (base : Heap) (G : Gd) (P : List Df) (k i : Nat) (d : Df) : Prop where
  ex : ∃ (fd : FuncData), PySem.W.keepIn K (.ref (He.fAd K d.at_)) = true ∧ (∀ j, j ≤ d.dfl.length → ∃ (ds : List Value) (dvs : List V), Vals dvs ds ∧ (∀ T, RDs G T (d.dfl.drop j) dvs) ∧ Binds K fd (d.N.take d.np) ds) ∧
      (d.dfl = [] → ∀ (s : Shared) (us : List Value), us.length = (d.N.take d.np).length → BindsTo s fd ⟨us, []⟩ ((d.N.take d.np).zip us)) ∧ (∀ fd', FunD K d.name d.qual (defArgs d.st) (defBody d.st) (defScope d.st) (d.dvs K) [] (He.fAd K d.at_) fd' → fd' = fd) ∧ FunD K d.name d.qual (defArgs d.st) (defBody d.st) (defScope d.st) (d.dvs K) [] (He.fAd K d.at_) fd ∧
      FnOk prog w K mg base (L2.CX prog w) (k + 2) (He.fAd K d.at_) fd (d.N.take d.np) (spOf G d.np (callN P k i))
/-- called with values for all, or with the defaults for the last ones -/
theorem Known.ca {prog : Program} {w : World} {K : PySem.W.Frag} {mg : Str → Option Value} {base : Heap} {G : Gd} {P : List Df} {k i : Nat} {d : Df} (h : Known prog w K mg base G P k i d) {j n : Nat} (hj : j ≤ d.dfl.length) (hn : n + (d.dfl.drop j).length = d.np) :
    CaF prog w K mg base (k + 2) (He.fAd K d.at_) (spOf G n fun xs m => callN P k i (xs ++ d.dfl.drop j) m) := by
  obtain ⟨fd, _, h2, _, _, _, F⟩ := h.ex
  obtain ⟨ds, dvs, h3, h4, h5⟩ := h2 j hj
  generalize d.N.take d.np = ps at F h5
  rw [← hn] at F
  exact .of F h5 h3 h4
theorem defs_ok (hP : PrIs P M) (hG : G.K = K) (hcl : G.cl = He.ga K) (hxn : G.xs = none) (hex : exB M K = true) (htab : ∀ x l, M.tab.lookup x = some l → ∃ es n, K.lookup (He.ga K x) = some ⟨.type "dict", none, .dict es n, #[]⟩ ∧ PySem.W.KeysLit w.params es.toList ∧ ∀ s d, l.lookup s = some d → ∃ u v, PySem.W.nsIn K (He.ga K x) (stS s) = some (some u) ∧ RelV v u ∧ ∀ T, RD G T d v) (c : He.SaysD (faOf P M) (fnOfP P M) K) (X : K.In base) (Gm : base.Ns mainGlobals mg)
    (hcon : ∀ x d, M.con.lookup x = some d → ∃ v u, mg x = some u ∧ RelV v u ∧ ∀ T, RD G T d v) :
    ∀ (k : Nat) (i : Nat) (d : Df), P[i]? = some d → Known prog w K mg base G P k i d := by
  have place : ∀ (i : Nat) (d : Df), P[i]? = some d → ∃ (fd : FuncData), FunD K d.name d.qual (defArgs d.st) (defBody d.st) (defScope d.st) (d.dvs K) [] (He.fAd K d.at_) fd := by
    intro i d hd
    have hm : d ∈ P := List.mem_of_getElem? hd
    obtain ⟨fd, F⟩ := c.defs (d := dd d) (List.mem_append_left _ (List.mem_map.mpr ⟨d, hm, rfl⟩))
    exact ⟨fd, F⟩
  have f1 : ∀ f ∈ glosOf P, f.ok K = true := fun f h => c.facts (List.mem_append_left _ h)
  have f2 : ∀ x ∈ M.free, (He.Fa.free x).ok K = true := fun x h => c.facts (List.mem_append_right _ (List.mem_append_left _ (List.mem_map.mpr ⟨x, h, rfl⟩)))
  have f3 : ∀ x ∈ M.cls, (He.Fa.glo x).ok K = true ∧ (He.Fa.cls x).ok K = true := fun x h =>
    ⟨c.facts (List.mem_append_right _ (List.mem_append_right _ (List.mem_append_left _ (List.mem_flatMap.mpr ⟨x, h, List.mem_cons_self⟩)))), c.facts (List.mem_append_right _ (List.mem_append_right _ (List.mem_append_left _ (List.mem_flatMap.mpr ⟨x, h, List.mem_cons_of_mem _ List.mem_cons_self⟩))))⟩
  have f4 : ∀ x l, (x, l) ∈ M.meth → ∀ c2 i n, (c2, i, n) ∈ l → (He.Fa.meth c2 x).ok K = true := fun x l h c2 i n h2 =>
    c.facts (List.mem_append_right _ (List.mem_append_right _ (List.mem_append_right _ (List.mem_append_left _ (List.mem_flatMap.mpr ⟨(x, l), h, List.mem_map.mpr ⟨(c2, i, n), h2, rfl⟩⟩)))))
  have f5 : ∀ c2 i n, (c2, i, n) ∈ M.mak → (He.Fa.mkr c2).ok K = true := fun c2 i n h =>
    c.facts (List.mem_append_right _ (List.mem_append_right _ (List.mem_append_right _ (List.mem_append_right _ (List.mem_append_left _ (List.mem_map.mpr ⟨(c2, i, n), h, rfl⟩))))))
  have f6 : ∀ x l, (x, l) ∈ M.noat → ∀ c2 ∈ l, (He.Fa.noat c2 x).ok K = true := fun x l h c2 h2 =>
    c.facts (List.mem_append_right _ (List.mem_append_right _ (List.mem_append_right _ (List.mem_append_right _ (List.mem_append_right _ (List.mem_append_left _ (List.mem_flatMap.mpr ⟨(x, l), h, List.mem_map.mpr ⟨c2, h2, rfl⟩⟩)))))))
  have f7 : ∀ f ∈ exFa M, f.ok K = true := fun f h =>
    c.facts (List.mem_append_right _ (List.mem_append_right _ (List.mem_append_right _ (List.mem_append_right _ (List.mem_append_right _ (List.mem_append_right _ h))))))
  have fexn : ∀ d ∈ M.exn, (He.Fa.ok K (if blCls d then .free d else .glo d)) = true := fun d h => f7 _ (List.mem_append_right _ (List.mem_append_left _ (List.mem_map.mpr ⟨d, h, rfl⟩)))
  have fexs : ∀ c2 e, (c2, e) ∈ M.exs → c2 ≠ ("ZeroDivisionError" : Str) → ∀ f ∈ (He.Fa.glo c2 :: ((if e.ini then [.meth c2 "__init__"] else [.exc c2]) ++ e.flds.map (He.Fa.noat c2))), f.ok K = true := fun c2 e h z f hf =>
    f7 _ (List.mem_append_left _ (List.mem_flatMap.mpr ⟨(c2, e), h, by rw [if_neg z]; exact hf⟩))
  have exmem : ∀ c2 e, (c2, e) ∈ M.exs → ((decide (c2 = ("ZeroDivisionError" : Str)) || (xcB K (He.ga K c2) && (!e.ini || oexB K (He.ga K c2)))) &&
    M.exn.all fun d => decide (PySem.W.exmOne K (clsV (G0 K) c2) (clsN (G0 K) d) = some (e.sups.contains d)) && (decide (c2 = ("ZeroDivisionError" : Str)) || decide (PySem.W.kitOne K (clsV (G0 K) c2) (clsN (G0 K) d) = some (e.sups.contains d)))) = true := fun c2 e h =>
    List.all_eq_true.mp hex (c2, e) h
  have hcV : ∀ c2, clsV G c2 = clsV (G0 K) c2 := fun c2 => by unfold clsV; rw [hcl]; rfl
  have hcN : ∀ c2, clsN G c2 = clsN (G0 K) c2 := fun c2 => by unfold clsN; rw [hcl]; rfl
  have exF : ∀ (X' : Cx), X'.mg = mg → X'.K = K → X'.prog = prog → X'.w = w → X'.base = base → ∀ c2 e, M.exs.lookup c2 = some e → ExF X' G M.exn c2 e := fun X' hm hK hpr hw hb c2 e hl => by
    have hmem := PySem.mem_of_lookup hl
    have hB := exmem c2 e hmem
    rw [Bool.and_eq_true] at hB
    obtain ⟨hB1, hB2⟩ := hB
    rw [List.all_eq_true] at hB2
    refine ⟨fun z => ?_, fun z => ?_, fun f hf => ?_, fun d hd => ?_, fun z d hd => ?_⟩
    · have hB1 := (Bool.or_eq_true_iff.mp hB1).resolve_left (fun q => z (of_decide_eq_true q))
      rw [Bool.and_eq_true] at hB1
      have g1 : mg c2 = some (.ref (G.cl c2)) := by rw [hcl]; exact He.glo_ok X Gm (fexs c2 e hmem z _ List.mem_cons_self)
      split
      · rename_i hi
        obtain ⟨n1, n2, d, hd, e1, e2, D1⟩ := hP.ini c2 e hmem hi
        subst e1
        obtain ⟨fd, F⟩ := c.defs (d := ddI d) (List.mem_append_right _ (List.mem_append_left _ (List.mem_map.mpr ⟨d, hd, rfl⟩)))
        have F : FunD K ("__init__" : Str) d.qual (defArgs d.st) (defBody d.st) (defScope d.st) [] [] (He.fAd K (d.c, some ("__init__" : Str))) fd := F
        have T : OexC K (He.ga K d.c) := oexB_ok ((Bool.or_eq_true_iff.mp hB1.2).resolve_left (by rw [hi]; decide))
        have Me := He.meth_ok (K := K) (x := d.c) (m := "__init__") (fexs d.c e hmem z _ (List.mem_cons_of_mem _ (List.mem_append_left _ (by rw [if_pos hi]; exact List.mem_cons_self))))
        refine ⟨by rw [hm]; exact g1, z, by rw [hK, hcl]; exact T, n2, n1, He.fAd K (d.c, some ("__init__" : Str)), fd, d.N, ?_, ?_, ?_, ?_⟩
        · rw [hK, hcl]; exact Me.at_
        · rw [hK]; exact beq_iff_eq.mp Me.fn
        · rw [hK]; exact F.bindsN D1.binds
        · rw [hm, hK, hpr, hw, hb, hcl, ← e2]
          refine ini_ok D1.body F D1.scope D1.dbg T fun x hx => ?_
          rw [e2] at hx
          exact He.noat_ok (fexs d.c e hmem z _ (List.mem_cons_of_mem _ (List.mem_append_right _ (List.mem_map.mpr ⟨x, hx, rfl⟩))))
      · rename_i hi
        have Ex := He.exc_ok (K := K) (x := c2) (fexs c2 e hmem z _ (List.mem_cons_of_mem _ (List.mem_append_left _ (by rw [if_neg hi]; exact List.mem_cons_self))))
        obtain ⟨h1, h2, h3, h4⟩ := Ex
        refine ⟨by rw [hm]; exact g1, z, ?_, ?_, ?_, ?_⟩
        · rw [hK, hcl]; exact h1
        · rw [hK, hcl]; exact h2
        · rw [hK, hcl]; exact h3
        · rw [hK, hcl]; exact h4
    · have hB1 := (Bool.or_eq_true_iff.mp hB1).resolve_left (fun q => z (of_decide_eq_true q))
      rw [Bool.and_eq_true] at hB1
      rw [hK, hcl]; exact xcB_ok hB1.1
    · by_cases z : c2 = ("ZeroDivisionError" : Str)
      · subst z
        exact (hP.zd e hmem f hf).elim
      · rw [hK, hcl]
        exact He.noat_ok (fexs c2 e hmem z _ (List.mem_cons_of_mem _ (List.mem_append_right _ (List.mem_map.mpr ⟨f, hf, rfl⟩))))
    · have := hB2 d hd
      rw [Bool.and_eq_true] at this
      rw [hK, hcV, hcN]
      exact of_decide_eq_true this.1
    · have := hB2 d hd
      rw [Bool.and_eq_true] at this
      rw [hK, hcV, hcN]
      exact of_decide_eq_true ((Bool.or_eq_true_iff.mp this.2).resolve_left fun q => z (of_decide_eq_true q))
  have bn : ∀ (d : Df) (fd : FuncData), d ∈ P → FunD K d.name d.qual (defArgs d.st) (defBody d.st) (defScope d.st) (d.dvs K) [] (He.fAd K d.at_) fd →
      (∀ j, j ≤ d.dfl.length → ∃ (ds : List Value) (dvs : List V), Vals dvs ds ∧ (∀ T, RDs G T (d.dfl.drop j) dvs) ∧ Binds K fd (d.N.take d.np) ds) ∧ (d.dfl = [] → ∀ (s : Shared) (us : List Value), us.length = (d.N.take d.np).length → BindsTo s fd ⟨us, []⟩ ((d.N.take d.np).zip us)) := fun d fd hd F => by
    have D0 := hP.defs d hd
    have hlen : (d.N.take d.np).length = d.np := by rw [List.length_take]; have := D0.le; omega
    have lv : (d.dvs K).length = d.dfl.length := by simp [Df.dvs]
    refine ⟨fun j hj => ?_, fun e s us hl => ?_⟩
    · by_cases e : d.dfl = []
      · have F0 : FunD K d.name d.qual (defArgs d.st) (defBody d.st) (defScope d.st) [] [] (He.fAd K d.at_) fd := by
          have := F
          unfold Df.dvs at this
          rw [e] at this
          exact this
        refine ⟨[], [], .nil, fun T => ?_, F0.bindsN (D0.binds e)⟩
        rw [e, List.drop_nil]
        exact .nil
      · have dle := D0.dle
        obtain ⟨ds, h1, h2⟩ := F.binds1 (ps := d.N.take d.np) (d.np - (d.dfl.length - j)) j (fun z => e (by have := congrArg List.length z; rw [lv] at this; exact List.length_eq_zero_iff.mp this)) (by rw [lv, hlen]; omega) fun T kV doc pm an cdv ct us its hu hi => D0.bindsD e j hj T kV doc pm an cdv ct us its (by rw [hu, hlen]; omega) (by rw [hi, lv])
        exact ⟨ds, _, h1, fun T => (rd_dv D0.dflat).drop j, h2⟩
    · have F0 : FunD K d.name d.qual (defArgs d.st) (defBody d.st) (defScope d.st) [] [] (He.fAd K d.at_) fd := by
        have := F
        unfold Df.dvs at this
        rw [e] at this
        exact this
      exact F0.bindsA (D0.binds e) s us hl
  have exnF : ∀ (X' : Cx), X'.mg = mg → ∀ c2 ∈ M.exn, ClsNm X' G c2 := fun X' hm c2 hc2 => by
    have h1 := fexn c2 hc2
    split at h1
    · rename_i hb
      unfold blCls at hb
      refine ⟨.inr ⟨by rw [hm]; exact He.free_ok X Gm h1, ?_⟩⟩
      rcases Bool.or_eq_true_iff.mp hb with q | q
      · exact .inl (of_decide_eq_true q)
      · exact .inr (of_decide_eq_true q)
    · rename_i hb
      refine ⟨.inl ⟨by rw [hm, hcl]; exact He.glo_ok X Gm h1, ?_⟩⟩
      simpa using hb
  have tabF : ∀ (X' : Cx), X'.mg = mg → X'.K = K → X'.w = w → ∀ x l, M.tab.lookup x = some l → TabIs X' G x l := fun X' hm hK hw x l hl => by
    obtain ⟨es, n, t1, t2, t3⟩ := htab x l hl
    refine ⟨He.ga K x, by rw [hm]; exact He.glo_ok X Gm (f7 _ (List.mem_append_right _ (List.mem_append_right _ (List.mem_append_left _ (List.mem_map.mpr ⟨(x, l), PySem.mem_of_lookup hl, rfl⟩))))), fun s d hs => ?_⟩
    obtain ⟨u, v, t4, t5, t6⟩ := t3 s d hs
    rw [hK, hw]
    exact ⟨v, ⟨es, n, u, t1, t2, t4, t5⟩, t6⟩
  have hotF : ∀ (X' : Cx), X'.mg = mg → X'.K = K → X'.prog = prog → X'.w = w → X'.base = base → ∀ x i, M.hot.lookup x = some i → FnIsX X' G x (fX M.hdf i) := fun X' hm hK hpr hw hb x i hl => by
    obtain ⟨d, hd, rfl, D1⟩ := hP.hot x i hl
    have hdm : d ∈ M.hdf := List.mem_of_getElem? hd
    obtain ⟨fd, F⟩ := c.defs (d := ddH d) (List.mem_append_right _ (List.mem_append_right _ (List.mem_map.mpr ⟨d, hdm, rfl⟩)))
    have F : FunD K d.nm d.qual (defArgs d.st) (defBody d.st) (defScope d.st) [] [] (He.fAd K (d.nm, none)) fd := F
    obtain ⟨y, hy⟩ : ∃ y, d.N.take 1 = [y] := by
      have := D1.one
      cases e : d.N with
      | nil => rw [e] at this; cases this
      | cons y r => exact ⟨y, rfl⟩
    have efx : fX M.hdf i = fun x m => runX d.N.length (d.sv x) m := by
      funext x m
      unfold fX
      rw [hd]
    refine ⟨He.fAd K (d.nm, none), fd, y, by rw [hm]; exact He.glo_ok X Gm (f7 _ (List.mem_append_right _ (List.mem_append_right _ (List.mem_append_right _ (List.mem_map.mpr ⟨d, hdm, rfl⟩))))), by rw [hK]; exact F.kp, fun s u _ => ?_, ?_⟩
    · have := F.bindsA D1.binds s [u] (by rw [hy]; rfl)
      rw [hy] at this
      exact this
    · rw [hpr, hw, hK, hm, hb, efx]
      obtain ⟨oc, od, dV, kV, doc, pm, an, cdv, ct, osl, rfl, lk, hcd, _, _⟩ := F.ex
      have S := D1.scope
      rw [hy] at S
      refine fnX_of (k := 0) lk hcd S fun z oe A outer s H Q hz hf hr q => ⟨sOf (G.off.with { z with i := 0 }) (fun _ _ _ _ => False) (d.sv z.x), ?_, bodyX_read D1.one rfl q⟩
      have g := geq_with G.off { z with i := 0 }
      refine trSs_ok (t := M.trX d z.x) (G := G.off.with { z with i := 0 }) (k := 0) (X := L2H.cxH (L2.CX prog w) prog w K mg base d.N d.qual (defScope d.st) (He.fAd K (d.nm, none)) cdv A outer s H noX (z.a, oe)) ⟨⟨hG, takes0, nofun, rfl, S.nd, rfl, nofun, nofun, by have h := hr.un; show (A.deeper (envOfC d.qual (defScope d.st) s.heap.objs.size (He.fAd K (d.nm, none)) cdv)).units + 65 < cLine; omega, nofun, ⟨{ z with i := 0 }, rfl, rfl, rfl, ⟨oe, List.mem_cons_self, hz, hf⟩⟩, fun c2 e hl => exF_tr (exF _ rfl rfl rfl rfl rfl c2 e hl) rfl rfl rfl rfl rfl rfl, fun c2 hc2 => ⟨(exnF _ rfl c2 hc2).nm⟩, fun x l hl => ?_, fun x d hx => ?_, fun x hx => ?_, nofun, nofun, nofun, fun x cs e c2 hm => ?_, nofun, .inl rfl⟩, fun _ => rfl, nofun, S.kind, rfl, rfl⟩ (trSt0_ok 40 12) _ _ (D1.tr z.x)
      · obtain ⟨a, h1, h2⟩ := (tabF (L2H.cxH (L2.CX prog w) prog w K mg base d.N d.qual (defScope d.st) (He.fAd K (d.nm, none)) cdv A outer s H noX (z.a, oe)) rfl rfl rfl x l hl).ex
        refine ⟨a, h1, fun s d e => ?_⟩
        obtain ⟨v, h3, h4⟩ := h2 s d e
        exact ⟨v, h3, fun T => g.rd _ _ ((geq_off G).rd _ _ (h4 T))⟩
      · obtain ⟨v, u, h1, h2, h3⟩ := hcon x d hx
        exact ⟨v, u, h1, h2, fun T => g.rd _ _ ((geq_off G).rd _ _ (h3 T))⟩
      · exact He.free_ok X Gm (f2 x hx)
      · show NoAttr G.K (G.cl c2) x
        rw [hG, hcl]
        exact He.noat_ok (f6 x cs (PySem.mem_of_lookup e) c2 hm)
  intro k
  induction k using Nat.strongRecOn with
  | ind k ih =>
  cases k with
  | zero =>
    intro i d hd
    obtain ⟨fd, F⟩ := place i d hd
    have D0 := hP.defs d (List.mem_of_getElem? hd)
    obtain ⟨bn1, bn2⟩ := bn d fd (List.mem_of_getElem? hd) F
    refine ⟨fd, F.kp, bn1, bn2, fun fd' F' => funD_uniq F F', F, ⟨fun vs H Q E h => ?_, fun A outer s H args us vs Q E _ _ _ _ h => ?_⟩⟩
    · rw [h.1, List.length_take]; have := D0.le; omega
    · obtain ⟨_, T, m, ds, _, _, _, q⟩ := h
      exact q.elim
  | succ k =>
    intro i d hd
    obtain ⟨fd, F⟩ := place i d hd
    have D0 := hP.defs d (List.mem_of_getElem? hd)
    have hlen : (d.N.take d.np).length = d.np := by rw [List.length_take]; have := D0.le; omega
    obtain ⟨bn1, bn2⟩ := bn d fd (List.mem_of_getElem? hd) F
    refine ⟨fd, F.kp, bn1, bn2, fun fd' F' => funD_uniq F F', F, ?_⟩
    refine F.ok D0.scope (fun vs H Q E h => by rw [h.1, hlen]) fun cdv A outer s H vs Q E hr h => ?_
    refine ⟨sOf G (fun cls d _ H => E cls d H) (d.sv (callN P k) (callN P (k - 1))), ?_, ?_⟩
    · refine trBody_ok (t := M.tr d (callN P k) (callN P (k - 1))) (k := k + 2) ⟨⟨hG, takes_of rfl rfl rfl rfl, fun _ => rfl, rfl, D0.scope.nd, rfl, fun _ => hr, fun _ => hr.mono (by omega), by have h := hr.un; show (A.deeper (envOfC d.qual (defScope d.st) s.heap.objs.size (He.fAd K d.at_) cdv)).units + 65 < cLine; omega, fun _ => rfl, hxn, fun c2 e hl => exF _ rfl rfl rfl rfl rfl c2 e hl, fun c2 hc2 => exnF _ rfl c2 hc2, fun x l hl => tabF _ rfl rfl rfl x l hl, hcon, fun x hx => ?_, fun x j n e => ?_, fun x l e c2 j n hm => ?_, fun c2 j n e => ?_, fun x cs e c2 hm => ?_, fun x i hl => hotF _ rfl rfl rfl rfl rfl x i hl, .inr (L2H.roomH_of (hr.mono (by omega)))⟩, fun _ => rfl, fun _ => passes_of rfl, D0.scope.kind, rfl, rfl⟩ (D0.tr _ _)
      · exact He.free_ok X Gm (f2 x hx)
      · obtain ⟨i0, d2, j0, e1, e2, e3, e4, e5⟩ := hP.fn x j n e
        have Kn := ih k (Nat.lt_succ_self k) i0 d2 e1
        have hmg : mg x = some (.ref (He.fAd K d2.at_)) := by rw [e2]; exact He.glo_ok X Gm (f1 _ (glosOf_mem (List.mem_of_getElem? e1) e2))
        refine ⟨_, hmg, Kn.ex.choose_spec.1, ?_⟩
        show CaF _ _ _ _ _ _ _ (spOf G n (vF M.vir (callN P k) j))
        rw [e5]
        exact Kn.ca e3 e4
      · obtain ⟨i0, d2, j0, e1, e2, e3, e4, e5⟩ := hP.meth x l e c2 j n hm
        have Kn := ih k (Nat.lt_succ_self k) i0 d2 e1
        refine ⟨He.fAd K d2.at_, ?_, ?_⟩
        · rw [e2, hcl]
          exact He.meth_ok (f4 x l (PySem.mem_of_lookup e) c2 j _ hm)
        · show CaF _ _ _ _ _ _ _ (spOf G n (vF M.vir (callN P k) j))
          rw [e5]
          exact Kn.ca e3 e4
      · obtain ⟨hc, i0, d2, j0, e1, e2, e3, e4, e5⟩ := hP.mak c2 j n e
        have hM : Mk K (He.ga K c2) (He.fAd K d2.at_) := by rw [e2]; exact He.mkr_ok (f5 c2 j n e)
        refine ⟨by rw [hcl]; exact He.glo_ok X Gm (f3 c2 hc).1, by rw [hcl]; exact He.cls_ok (f3 c2 hc).2, He.fAd K d2.at_, by rw [hcl]; exact hM, ?_⟩
        show (vF M.vir (callN P (k - 1)) j = _) ∨ ∃ j2, _ ∧ CaF _ _ _ _ _ _ _ (spOf G n (vF M.vir (callN P (k - 1)) j))
        rw [e5]
        cases k with
        | zero => exact .inl rfl
        | succ k => exact .inr ⟨k + 2, rfl, (ih k (by omega) i0 d2 e1).ca e3 e4⟩
      · rw [hG, hcl]
        exact He.noat_ok (f6 x cs (PySem.mem_of_lookup e) c2 hm)
    · refine body_read hxn (n := d.np) D0.le ⟨h.1, ?_⟩
      obtain ⟨_, T, m, ds, e, S, r, q⟩ := h
      refine ⟨T, m, ds, e, S, r, ?_⟩
      have e2 : callN P (k + 1) i ds m = popIf d.pop m (runB d.N.length (d.sv (callN P k) (callN P (k - 1))) ds m) := by
        show (match P[i]? with
          | some d => popIf d.pop m (runB d.N.length (d.sv (callN2 P k).1 (callN2 P k).2) ds m)
          | none => .bad) = _
        rw [hd, ← callN2_two]
        rfl
      rw [e2] at q
      unfold popIf at q
      split at q
      · exact q
      · exact post_popR S q
      · exact post_popK S q

def fnB (P : List Df) (M : Md) : Bool := (M.fn.all fun p => tgtB P M (p.1, none) p.2.1 p.2.2) && ((M.meth.all fun p => p.2.all fun q => tgtB P M (q.1, some p.1) q.2.1 q.2.2) && M.mak.all fun p => M.cls.contains p.1 && tgtB P M (p.1, some ("__init__" : Str)) p.2.1 p.2.2)
/-- the classes of exceptions are as their __init__s say -/
def exsB (M : Md) : Bool := M.exs.all fun p => (!decide (p.1 = ("ZeroDivisionError" : Str)) || p.2.flds.isEmpty) && (!p.2.ini || (!p.2.flds.isEmpty && (decide (p.2.flds.length ≤ 1000) && M.ini.any fun d => decide (d.c = p.1) && decide (d.N.drop 1 = p.2.flds))))
def hotB (M : Md) : Bool := M.hot.all fun p => match M.hdf[p.2]? with
  | some d => decide (d.nm = p.1)
  | none => false
theorem prIs_of (h : ∀ d ∈ P, DefIs M d) (hb : fnB P M = true) (hi : ∀ d ∈ M.ini, IniOk d := by exact nofun) (hx : exsB M = true := by rfl) (hh : ∀ d ∈ M.hdf, HotIs M d := by exact nofun) (hhb : hotB M = true := by rfl) : PrIs P M := by
  unfold fnB at hb
  rw [Bool.and_eq_true, Bool.and_eq_true] at hb
  refine ⟨h, fun x i n e => ?_, fun x l e c i n hm => ?_, fun c i n e => ?_, fun e hm f hf => ?_, fun c e hm hin => ?_, fun x i e => ?_⟩
  rotate_left 5
  · have hm := List.all_eq_true.mp hhb (x, i) (PySem.mem_of_lookup e)
    dsimp only at hm
    cases q : M.hdf[i]? with
    | none => rw [q] at hm; cases hm
    | some d => rw [q] at hm; exact ⟨d, rfl, of_decide_eq_true hm, hh d (List.mem_of_getElem? q)⟩
  rotate_left 3
  · have := List.all_eq_true.mp hx _ hm
    rw [Bool.and_eq_true] at this
    have q := (Bool.or_eq_true_iff.mp this.1).resolve_left (by simp)
    rw [List.isEmpty_iff] at q
    dsimp only at q
    rw [q] at hf; cases hf
  · have := List.all_eq_true.mp hx _ hm
    rw [Bool.and_eq_true] at this
    have q := (Bool.or_eq_true_iff.mp this.2).resolve_left (by dsimp only; rw [hin]; decide)
    rw [Bool.and_eq_true, Bool.and_eq_true, List.any_eq_true] at q
    obtain ⟨q1, q2, d, hd, q3⟩ := q
    rw [Bool.and_eq_true] at q3
    exact ⟨fun z => (by dsimp only at q1; rw [z] at q1; cases q1), of_decide_eq_true q2, d, hd, of_decide_eq_true q3.1, of_decide_eq_true q3.2, hi d hd⟩
  · exact tgtB_ok (List.all_eq_true.mp hb.1 (x, i, n) e)
  · exact tgtB_ok (List.all_eq_true.mp (List.all_eq_true.mp hb.2.1 (x, l) (PySem.mem_of_lookup e)) (c, i, n) hm)
  · have hm := List.all_eq_true.mp hb.2.2 (c, i, n) e
    dsimp only at hm
    rw [Bool.and_eq_true] at hm
    exact ⟨by simpa using hm.1, tgtB_ok hm.2⟩
theorem fnOk_cx {CX1 CX2 : CXT} {k : Nat} {f : Addr} {fd : FuncData} {ps : List Str} {sp : Sp} (F : FnOk prog w K mg base CX1 k f fd ps sp) (h : ∀ outer H s E u s', CX1 outer H s E u s' → CX2 outer H s E u s') : FnOk prog w K mg base CX2 k f fd ps sp :=
  ⟨F.len, fun A outer s H args us vs Q E hr he hb hv hs => codeAny_mono (F.run A outer s H args us vs Q E hr he hb hv hs) fun r s' q => by
    cases r with
    | error e => exact h _ _ _ _ _ _ q
    | ok fl => cases fl <;> exact q⟩
/-- what may come out, in some world -/
def CXw (prog : Program) : CXT := fun outer H s E u s' => ∃ w, L2.CX prog w outer H s E u s'
theorem CXw_no {prog : Program} (H : Hp) (s : Shared) (e : Value) (s' : Shared) (h : CXw prog [] H s (fun _ _ _ => False) e s') : False := by
  obtain ⟨w, a, B, H', cls, d, _, _, _, _, _, _, _, z⟩ := h
  exact z
theorem sqF_of {H : Hp} {a : Addr} {xs : List V} (h : Only H) (q : SqL K H a xs) : SqF K H a xs := by
  rcases q with (q | q) | q
  · rcases h a with z | ⟨o, ys, z⟩
    · rw [z] at q; cases q
    · rw [z] at q; cases q
  · exact .inl q
  · exact .inr q
theorem rds_ints {T : Tie} : ∀ ns : List Int, RDs G T (ns.map D.int) (ns.map V.int)
  | [] => .nil
  | n :: r => .cons (.int n) (rds_ints r)
/-- the law's promise from what its def does -/
theorem law_sp {h : List D → Mem → R D} (hG : G.K = K) (hl : ∀ ns : List Int, ns.length ≤ 63 → ∃ m, h [.sc (ns.map .int)] [] = .ok (.bl true) m) (H : Hp) (a : Addr) (ns : List Int) (hz : ns.length ≤ 63) (ho : Only H) (hs : SqL K H a (ns.map V.int)) :
    spOf G 1 h [.ref a] H (fun v _ => v = .bl true) fun _ _ _ => False := by
  refine ⟨rfl, ⟨[], fun _ => False, H⟩, [], [.sc (ns.map .int)], rfl, ⟨fun _ z => (by cases z), List.nodup_nil, rfl, fun i o p z => (by cases z)⟩, .cons (.sc (by rw [hG]; exact sqF_of ho hs) (rds_ints ns)) .nil, ?_⟩
  obtain ⟨m, e⟩ := hl ns hz
  rw [e]
  exact fun T' v _ _ r => r.bool
/-! ### constants -/
mutual
def relB (K : PySem.W.Frag) : D → Value → Bool
  | .non, .none => true
  | .bl b, .bool c => b == c
  | .int i, .int j _ => decide (i = j)
  | .str s, .str t _ => decide (stS s = t)
  | .tup ds, .ref a => match K.lookup a with
    | some ⟨.type c, _, .seq its _, _⟩ => decide (c = "tuple") && (decide (its.size ≤ sizeLine) && relsB K ds its.toList)
    | _ => false
  | _, _ => false
def relsB (K : PySem.W.Frag) : List D → List Value → Bool
  | [], [] => true
  | d :: ds, u :: us => relB K d u && relsB K ds us
  | _, _ => false
end
mutual
theorem relB_ok (hG : G.K = K) : ∀ (d : D) (u : Value), relB K d u = true → ∃ v, RelV v u ∧ ∀ T, RD G T d v
  | .non, u, h => by cases u <;> simp [relB] at h; exact ⟨.non, rfl, fun _ => .non⟩
  | .bl b, u, h => by cases u <;> simp [relB] at h; subst h; exact ⟨.bl b, rfl, fun _ => .bl _⟩
  | .int i, u, h => by cases u <;> simp [relB] at h; subst h; exact ⟨.int i, ⟨_, rfl⟩, fun _ => .int _⟩
  | .str s, u, h => by cases u <;> simp [relB] at h; subst h; exact ⟨.str (stS s), ⟨_, rfl⟩, fun _ => .str _⟩
  | .tup ds, u, h => by
    cases u with
    | ref a =>
      unfold relB at h
      cases q : K.lookup a with
      | none => rw [q] at h; cases h
      | some o =>
        obtain ⟨oc, od, dt, osl⟩ := o
        rw [q] at h
        cases oc with
        | type c =>
          cases dt with
          | seq its n =>
            dsimp only at h
            rw [Bool.and_eq_true, Bool.and_eq_true] at h
            obtain ⟨vs, h1, h2⟩ := relsB_ok hG ds _ h.2.2
            exact ⟨.ref a, rfl, fun T => .tup (.inr ⟨_, its, n, by rw [hG]; exact q, congrArg Value.type (of_decide_eq_true h.1), rfl, of_decide_eq_true h.2.1, h1⟩) (h2 T)⟩
          | _ => cases h
        | _ => cases dt <;> cases h
    | _ => simp [relB] at h
  | .fl _, u, h => by cases u <;> simp [relB] at h
  | .sc _, u, h => by cases u <;> simp [relB] at h
  | .ref _, u, h => by cases u <;> simp [relB] at h
theorem relsB_ok (hG : G.K = K) : ∀ (ds : List D) (us : List Value), relsB K ds us = true → ∃ vs, Vals vs us ∧ ∀ T, RDs G T ds vs
  | [], us, h => by cases us <;> simp [relsB] at h; exact ⟨[], .nil, fun _ => .nil⟩
  | d :: ds, us, h => by
    cases us with
    | nil => simp [relsB] at h
    | cons u us =>
      unfold relsB at h
      rw [Bool.and_eq_true] at h
      obtain ⟨v, h1, h2⟩ := relB_ok hG d u h.1
      obtain ⟨vs, h3, h4⟩ := relsB_ok hG ds us h.2
      exact ⟨v :: vs, .cons h1 h3, fun T => .cons (h2 T) (h4 T)⟩
end
def conB (con : List (Str × D)) (K : PySem.W.Frag) : Bool := con.all fun p => match PySem.W.nsIn K mainGlobals p.1 with
  | some (some u) => relB K p.2 u
  | _ => false
theorem conB_ok (hG : G.K = K) {con : List (Str × D)} (h : conB con K = true) (X : K.In base) (Gm : base.Ns mainGlobals mg) : ∀ x d, con.lookup x = some d → ∃ v u, mg x = some u ∧ RelV v u ∧ ∀ T, RD G T d v := by
  intro x d e
  have hm := List.all_eq_true.mp h (x, d) (PySem.mem_of_lookup e)
  dsimp only at hm
  split at hm
  · rename_i u hu
    obtain ⟨v, h1, h2⟩ := relB_ok hG d u hm
    exact ⟨v, u, PySem.W.mg_of X Gm hu, h1, h2⟩
  · cases hm

/-! ### the head's hook -/
abbrev AlI : Type := (He.AlD × List (Option (List (Option (Str × Int))))) × Bool
def tabKs (l : List (List Nat × D)) : List Str := l.map fun p => stS p.1
def obsIG (n : Nat) (fa : List He.Fa) (fn : List He.DefD) (tab : List (Str × List (List Nat × D))) (ex : PySem.W.Frag → Bool) (g : Addr → Option Obj) : AlI := ((He.obsD fa fn (He.frG g (He.asD g n)), tab.map fun t => He.dicW (He.frG g (He.asD g n)) (He.ga (He.frG g (He.asD g n)) t.1)), ex (He.frG g (He.asD g n)))
def TabSays (tab : List (Str × List (List Nat × D))) (w : World) (K : PySem.W.Frag) : Prop := tab.map (fun t => He.dicW K (He.ga K t.1)) = tab.map fun (t : Str × List (List Nat × D)) => some (He.keysIn w.params (tabKs t.2))
def hookI (n : Nat) (fa : List He.Fa) (fn : List He.DefD) (tab : List (Str × List (List Nat × D))) (ex : PySem.W.Frag → Bool) : PySem.W.Hook where
  α := AlI
  obs := fun s => obsIG n fa fn tab ex s.heap.get?
  val := fun w => ((He.valD fn, tab.map fun (t : Str × List (List Nat × D)) => some (He.keysIn w.params (tabKs t.2))), true)
  says := fun w h => ∃ K : PySem.W.Frag, K.In h ∧ (He.SaysD fa fn K ∧ TabSays tab w K ∧ ex K = true)
  of := fun _ _ e => ⟨_, He.frG_in, congrArg (fun z : AlI => z.1.1) e, (congrArg (fun z : AlI => z.1.2) e : _), congrArg (fun z : AlI => z.2) e⟩
  keeps := fun _ _ _ ⟨K, hK, c⟩ k => ⟨K, PySem.W.Frag.In.keeps hK k, c⟩
theorem obsIG_eq {n : Nat} {fa : List He.Fa} {fn : List He.DefD} {tab : List (Str × List (List Nat × D))} {ex : PySem.W.Frag → Bool} {g : Addr → Option Obj} {s : Shared} (h : ∀ a, g a = s.heap.get? a) : obsIG n fa fn tab ex g = (hookI n fa fn tab ex).obs s := by
  have e : g = s.heap.get? := funext h
  rw [e] <;> rfl
theorem TabSays.at {tab : List (Str × List (List Nat × D))} (c : TabSays tab w K) {x : Str} {l : List (List Nat × D)} (h : (x, l) ∈ tab) : ∃ es n, KDict K w (He.ga K x) es n := by
  obtain ⟨i, hi, e⟩ := List.mem_iff_getElem.mp h
  have e2 : (tab.map (fun t => He.dicW K (He.ga K t.1)))[i]? = (tab.map fun (t : Str × List (List Nat × D)) => some (He.keysIn w.params (tabKs t.2)))[i]? := by rw [c]
  rw [List.getElem?_map, List.getElem?_map, List.getElem?_eq_getElem hi, e] at e2
  exact He.dicW_ok (Option.some.inj e2)
theorem mem_look {α β : Type} [BEq α] [LawfulBEq α] {a : α} {b : β} : ∀ {l : List (α × β)}, l.lookup a = some b → (a, b) ∈ l
  | [], h => by cases h
  | (x, y) :: l, h => by
    rw [List.lookup_cons] at h
    split at h
    · rename_i e; cases h; rw [eq_of_beq e]; exact List.mem_cons_self
    · exact List.mem_cons_of_mem _ (mem_look h)
def tabB (tab : List (Str × List (List Nat × D))) (K : PySem.W.Frag) : Bool := tab.all fun t => t.2.all fun q => match PySem.W.nsIn K (He.ga K t.1) (stS q.1) with
  | some (some u) => relB K q.2 u
  | _ => false
theorem tab_ok (hG : G.K = K) {tab : List (Str × List (List Nat × D))} (c : TabSays tab w K) (h : tabB tab K = true) : ∀ x l, tab.lookup x = some l → ∃ es n, K.lookup (He.ga K x) = some ⟨.type "dict", none, .dict es n, #[]⟩ ∧ PySem.W.KeysLit w.params es.toList ∧ ∀ s d, l.lookup s = some d → ∃ u v, PySem.W.nsIn K (He.ga K x) (stS s) = some (some u) ∧ RelV v u ∧ ∀ T, RD G T d v := by
  intro x l hl
  have hm := PySem.mem_of_lookup hl
  obtain ⟨es, n, D⟩ := c.at hm
  refine ⟨es, n, D.at_, D.lit, fun s d hs => ?_⟩
  have hq := List.all_eq_true.mp (List.all_eq_true.mp h _ hm) (s, d) (mem_look hs)
  dsimp only at hq
  split at hq
  · rename_i u hu
    obtain ⟨v, h1, h2⟩ := relB_ok hG d u hq
    exact ⟨u, v, hu, h1, h2⟩
  · cases hq

def allB (M : Md) (K : PySem.W.Frag) : Bool := conB M.con K && (exB M K && tabB M.tab K)
/-- the law, from what its def does -/
theorem law_facts (hP : PrIs P M) {i k : Nat} {d : Df} (hd : P[i]? = some d) (hp : d.np = 1) (hdf : d.dfl = []) (ha : d.at_ = (("law" : Str), none)) {x : Str} (hx : d.N.take 1 = [x]) {h : Heap} {f : Addr} (X : K.In h) (Gm : h.Ns mainGlobals mg) (hf : mg "law" = some (.ref f)) (c : He.SaysD (faOf P M) (fnOfP P M) K) (ht : TabSays M.tab w K) (hc : allB M K = true)
    (hl : ∀ ns : List Int, ns.length ≤ 63 → ∃ m, callN P k i [.sc (ns.map .int)] [] = .ok (.bl true) m) :
    ∃ (K' : PySem.W.Frag) (fd : FuncData) (sp : Sp), K'.In h ∧ (∀ (s : Shared) (u : Value), BindsTo s fd ⟨[u], []⟩ [(x, u)]) ∧
        (∀ (H : Hp) (a : Addr) (ns : List Int), ns.length ≤ 63 → Only H → SqL K' H a (ns.map V.int) → sp [.ref a] H (fun v _ => v = .bl true) fun _ _ _ => False) ∧
        ∀ base : Heap, K'.In base → base.Ns mainGlobals mg → FnOk prog w K' mg base (CXw prog) (k + 2) f fd [x] sp := by
  obtain ⟨hc, hex⟩ := Bool.and_eq_true_iff.mp hc
  obtain ⟨hex, htb⟩ := Bool.and_eq_true_iff.mp hex
  have e : f = He.fAd K d.at_ := by
    have h1 := He.glo_ok X Gm (c.facts (List.mem_append_left _ (glosOf_mem (List.mem_of_getElem? hd) ha)))
    rw [hf] at h1
    rw [ha]
    cases h1; rfl
  obtain ⟨fd, h2, h3, h4, hu, _, h5⟩ := (defs_ok (prog := prog) (w := w) (base := h) (G := ⟨K, He.ga K, none⟩) hP rfl rfl rfl hex (tab_ok rfl ht htb) c X Gm (conB_ok rfl hc X Gm) k i d hd).ex
  have h4 := h4 hdf
  rw [hp, hx] at h4
  refine ⟨K, fd, spOf ⟨K, He.ga K, none⟩ 1 (callN P k i), X, fun s u => h4 s [u] rfl, fun H a ns hz ho hs => law_sp rfl hl H a ns hz ho hs, fun base Xb Gb => ?_⟩
  obtain ⟨fd3, k2, k3, k4, _, hF, k5⟩ := (defs_ok (prog := prog) (w := w) (base := base) (G := ⟨K, He.ga K, none⟩) hP rfl rfl rfl hex (tab_ok rfl ht htb) c Xb Gb (conB_ok rfl hc Xb Gb) k i d hd).ex
  have efd := hu fd3 hF
  subst efd
  rw [hp, hx] at k5
  rw [e]
  exact fnOk_cx k5 fun outer H s E u s' z => ⟨w, z⟩
end
end Itp
set_option Elab.async false
set_option linter.all false
set_option maxRecDepth 100000
/-! Itp W: how one reasons about the small machine. -/
namespace Itp
open PySem (Str)

def wp {α : Type} (r : R α) (Q : α → Mem → Prop) : Prop := match r with
  | .ok a m => Q a m
  | _ => False
structure Ko where
  nx : Env → Mem → Prop
  rt : D → Mem → Prop
  bk : Env → Mem → Prop := fun _ _ => False
  ct : Env → Mem → Prop := fun _ _ => False
def wps (r : RS) (k : Ko) : Prop := match r with
  | .ok .nx env m => k.nx env m
  | .ok .brk env m => k.bk env m
  | .ok .cont env m => k.ct env m
  | .ok (.ret d) _ m => k.rt d m
  | _ => False

section
variable {α β : Type} {Q : α → Mem → Prop} {m : Mem} {env : Env} {f g k : EV} {t u : TV} {s v : SV} {K : Ko}
theorem wp_ok {a : α} : wp (.ok a m) Q = Q a m := rfl
theorem wp_bad : wp (.bad : R α) Q = False := rfl
theorem wp_bind {r : R α} {k : α → Mem → R β} {Q : β → Mem → Prop} : wp (r.bind k) Q = wp r fun a m => wp (k a m) Q := by cases r <;> rfl
theorem wp_noex {r : R α} : wp (noex r) Q = wp r Q := by cases r <;> rfl
theorem wp_mono {r : R α} {Q' : α → Mem → Prop} (h : wp r Q) (i : ∀ a m, Q a m → Q' a m) : wp r Q' := by
  cases r with
  | ok a m => exact i a m h
  | ex _ _ => exact h
  | bad => exact h
theorem wps_mono {r : RS} {K' : Ko} (h : wps r K) (h1 : ∀ e m, K.nx e m → K'.nx e m) (h2 : ∀ d m, K.rt d m → K'.rt d m) (h3 : ∀ e m, K.bk e m → K'.bk e m) (h4 : ∀ e m, K.ct e m → K'.ct e m) : wps r K' := by
  cases r with
  | ok fl e m => cases fl with
    | nx => exact h1 _ _ h
    | brk => exact h3 _ _ h
    | cont => exact h4 _ _ h
    | ret d => exact h2 _ _ h
  | ex _ _ _ => exact h
  | bad => exact h
theorem wps_ofE {r : R α} {k : α → Mem → RS} : wps (ofE r env k) K = wp r fun a m => wps (k a m) K := by cases r <;> rfl
theorem wps_nil : wps (sNil env m) K = K.nx env m := rfl
theorem wps_brk : wps (sBrk env m) K = K.bk env m := rfl
theorem wps_cont : wps (sCont env m) K = K.ct env m := rfl
theorem wps_retN : wps (sRetN env m) K = K.rt .non m := rfl
theorem wps_seq : wps (sSeq s v env m) K = wps (s env m) { K with nx := fun e m => wps (v e m) K } := by
  unfold sSeq
  cases s env m with
  | ok fl e m => cases fl <;> rfl
  | ex _ _ _ => rfl
  | bad => rfl
theorem wps_ret : wps (sRet f env m) K = wp (f env m) K.rt := by unfold sRet; rw [wps_ofE]; rfl
theorem wps_drop : wps (sDrop f env m) K = wp (f env m) fun _ m => K.nx env m := by unfold sDrop; rw [wps_ofE]; rfl
theorem wps_asg {i : Nat} : wps (sAsg (.nm i) f env m) K = wp (f env m) fun d m => K.nx (env.set i (some d)) m := by unfold sAsg; rw [wps_ofE]; rfl
theorem wps_asgp {p : Pat} : wps (sAsg p f env m) K = wp (f env m) fun d m => ∃ e, bindD p d env = some e ∧ K.nx e m := by
  unfold sAsg; rw [wps_ofE]
  congr 1
  funext d m
  cases e : bindD p d env with
  | none => simp [wps]
  | some e' => simp [wps]
theorem wps_par {i j : Nat} : wps (sPar i j f g env m) K = wp (f env m) fun d m => wp (g env m) fun e m => K.nx ((env.set i (some d)).set j (some e)) m := by
  unfold sPar; rw [wps_ofE]; congr 1; funext d m; rw [wps_ofE]; rfl
theorem wps_if : wps (sIf t s v env m) K = wp (t env m) fun b m => if b then wps (s env m) K else wps (v env m) K := by
  unfold sIf; rw [wps_ofE]; congr 1; funext b m; cases b <;> rfl
theorem wps_sub {o i : EV} : wps (sSub f o i env m) K = wp (f env m) fun v m => wp (o env m) fun o m => wp (i env m) fun i m => ∃ m', setIx o i v m = some m' ∧ K.nx env m' := by
  unfold sSub; rw [wps_ofE]; congr 1; funext v m; rw [wps_ofE]; congr 1; funext o m; rw [wps_ofE]; congr 1; funext i m
  cases e : setIx o i v m with
  | none => simp [wps]
  | some m' => simp [wps]
theorem wp_runB {n : Nat} {ds : List D} {Q : D → Mem → Prop} : wp (runB n s ds m) Q = wps (s (ds.map some ++ List.replicate (n - ds.length) none) m) ⟨fun _ m => Q .non m, Q, fun _ _ => False, fun _ _ => False⟩ := by
  unfold runB
  cases s (ds.map some ++ List.replicate (n - ds.length) none) m with
  | ok fl e m => cases fl <;> rfl
  | ex _ _ _ => rfl
  | bad => rfl
theorem callN_popIf {P : List Df} {k i : Nat} {d : Df} {ds : List D} (h : P[i]? = some d) : callN P (k + 1) i ds m = popIf d.pop m (runB d.N.length (d.sv (callN P k) (callN P (k - 1))) ds m) := by
  show (match P[i]? with
    | some d => popIf d.pop m (runB d.N.length (d.sv (callN2 P k).1 (callN2 P k).2) ds m)
    | none => .bad) = _
  rw [h, ← callN2_two]
  rfl
theorem callN_succ {P : List Df} {k i : Nat} {d : Df} {ds : List D} (h : P[i]? = some d) (hp : d.pop = 0 := by rfl) : callN P (k + 1) i ds m = runB d.N.length (d.sv (callN P k) (callN P (k - 1))) ds m := by
  rw [callN_popIf h, hp]; rfl
theorem callN_popK {P : List Df} {k i : Nat} {d : Df} {ds : List D} (h : P[i]? = some d) (hp : d.pop = 2 := by rfl) : callN P (k + 1) i ds m = popK m (runB d.N.length (d.sv (callN P k) (callN P (k - 1))) ds m) := by
  rw [callN_popIf h, hp]; rfl
theorem callN_pop {P : List Df} {k i : Nat} {d : Df} {ds : List D} (h : P[i]? = some d) (hp : d.pop = 1 := by rfl) : callN P (k + 1) i ds m = popR m (runB d.N.length (d.sv (callN P k) (callN P (k - 1))) ds m) := by
  rw [callN_popIf h, hp]; rfl

theorem wp_var {i : Nat} {Q : D → Mem → Prop} : wp (dVar i env m) Q = match env[i]? with | some (some d) => Q d m | _ => False := by
  unfold dVar
  cases env[i]? with
  | none => rfl
  | some o => cases o <;> rfl
theorem wp_c {d : D} {Q : D → Mem → Prop} : wp (dC d env m) Q = Q d m := rfl
theorem wp_bin {h : D → D → Mem → R D} {Q : D → Mem → Prop} : wp (dBin h f g env m) Q = wp (f env m) fun x m => wp (g env m) fun y m => wp (h x y m) Q := by
  unfold dBin; rw [wp_bind]; congr 1; funext x m; rw [wp_bind]; congr 1; funext y m; rw [wp_noex]
theorem wp_args_nil {Q : List D → Mem → Prop} : wp (dArgs [] env m) Q = Q [] m := rfl
theorem wp_args_cons {fs : List EV} {Q : List D → Mem → Prop} : wp (dArgs (f :: fs) env m) Q = wp (f env m) fun x m => wp (dArgs fs env m) fun xs m => Q (x :: xs) m := by
  show wp ((f env m).bind fun x m1 => (dArgs fs env m1).bind fun xs m2 => .ok (x :: xs) m2) Q = _
  rw [wp_bind]; congr 1; funext x m; rw [wp_bind]; rfl
theorem wp_cb {h : List D → Mem → R D} {fs : List EV} {Q : D → Mem → Prop} : wp (dCB h fs env m) Q = wp (dArgs fs env m) fun xs m => wp (h xs m) Q := by
  unfold dCB; rw [wp_bind]; congr 1; funext x m; rw [wp_noex]
theorem wp_call {h : List D → Mem → R D} {fs : List EV} {Q : D → Mem → Prop} : wp (dCall h fs env m) Q = wp (dArgs fs env m) fun xs m => wp (h xs m) Q := by
  unfold dCall; rw [wp_bind]
theorem wp_mt {ty : String} {h : D → List D → Mem → R D} {fs : List EV} {Q : D → Mem → Prop} : wp (dMt ty h f fs env m) Q = wp (f env m) fun x m => tyOk ty m x = true ∧ wp (dArgs fs env m) fun xs m => wp (h x xs m) Q := by
  unfold dMt; rw [wp_bind]; congr 1; funext x m
  cases e : tyOk ty m x with
  | false => simp [wp]
  | true => simp only [if_true]; rw [wp_bind]; simp only [true_and]; congr 1; funext xs m; rw [wp_noex]
theorem wp_tup {fs : List EV} {Q : D → Mem → Prop} : wp (dTup fs env m) Q = wp (dArgs fs env m) fun xs m => wp (mkT xs m) Q := by unfold dTup; rw [wp_bind]
theorem wp_lst {mt : Bool} {fs : List EV} {Q : D → Mem → Prop} : wp (dLst mt fs env m) Q = wp (dArgs fs env m) fun xs m => wp (mkL mt xs m) Q := by unfold dLst; rw [wp_bind]
theorem wp_if {Q : D → Mem → Prop} : wp (dIf t f g env m) Q = wp (t env m) fun b m => if b then wp (f env m) Q else wp (g env m) Q := by
  unfold dIf; rw [wp_bind]; congr 1; funext b m; cases b <;> rfl
theorem wp_test {Q : Bool → Mem → Prop} : wp (dTest f env m) Q = wp (f env m) fun x m => ∃ b, truthD m x = some b ∧ Q b m := by
  unfold dTest; rw [wp_bind]; congr 1; funext x m
  cases e : truthD m x with
  | none => simp [wp]
  | some b => simp [wp]
theorem wp_bl {Q : Bool → Mem → Prop} : wp (dBl f env m) Q = wp (f env m) fun x m => ∃ b, x = .bl b ∧ Q b m := by
  unfold dBl; rw [wp_bind]; congr 1; funext x m
  cases x <;> simp [wp]
theorem wp_andT {Q : Bool → Mem → Prop} : wp (dAndT t u env m) Q = wp (t env m) fun b m => if b then wp (u env m) Q else Q false m := by
  unfold dAndT; rw [wp_bind]; congr 1; funext b m; cases b <;> rfl
theorem wp_orT {Q : Bool → Mem → Prop} : wp (dOrT t u env m) Q = wp (t env m) fun b m => if b then Q true m else wp (u env m) Q := by
  unfold dOrT; rw [wp_bind]; congr 1; funext b m; cases b <;> rfl
theorem wp_notT {Q : Bool → Mem → Prop} : wp (dNotT t env m) Q = wp (t env m) fun b m => Q (!b) m := by unfold dNotT; rw [wp_bind]; rfl
theorem wp_andV {Q : D → Mem → Prop} : wp (dAndV f g env m) Q = wp (f env m) fun x m => ∃ b, truthD m x = some b ∧ if b then wp (g env m) Q else Q x m := by
  unfold dAndV; rw [wp_bind]; congr 1; funext x m
  cases e : truthD m x with
  | none => simp [wp]
  | some b => cases b <;> simp [wp]
theorem wp_orV {Q : D → Mem → Prop} : wp (dOrV f g env m) Q = wp (f env m) fun x m => ∃ b, truthD m x = some b ∧ if b then Q x m else wp (g env m) Q := by
  unfold dOrV; rw [wp_bind]; congr 1; funext x m
  cases e : truthD m x with
  | none => simp [wp]
  | some b => cases b <;> simp [wp]
theorem wp_notV {Q : D → Mem → Prop} : wp (dNotV f env m) Q = wp (f env m) fun x m => ∃ b, truthD m x = some b ∧ Q (.bl (!b)) m := by
  unfold dNotV; rw [wp_bind]; congr 1; funext x m
  cases e : truthD m x with
  | none => simp [wp]
  | some b => simp [wp]
theorem wp_isi {ts : List Ty} {Q : D → Mem → Prop} : wp (dIsi ts f env m) Q = wp (f env m) fun x m => ∃ t, tyD m x = some t ∧ Q (.bl (ts.any (isT t))) m := by
  unfold dIsi; rw [wp_bind]; congr 1; funext x m
  cases e : tyD m x with
  | none => simp [wp]
  | some b => simp [wp]
theorem wp_chain {h1 h2 : D → D → Mem → R D} {Q : D → Mem → Prop} : wp (dChain h1 h2 f g k env m) Q = wp (f env m) fun x m => wp (g env m) fun y m => wp (h1 x y m) fun z m => ∃ b, z = .bl b ∧ if b then wp (k env m) fun w m => wp (h2 y w m) Q else Q (.bl false) m := by
  unfold dChain; rw [wp_bind]; congr 1; funext x m; rw [wp_bind]; congr 1; funext y m; rw [wp_bind, wp_noex]; congr 1; funext z m
  cases z with
  | bl b =>
    cases b with
    | true => simp only [D.bl.injEq, exists_eq_left', if_true]; rw [wp_bind]; congr 1; funext w m; rw [wp_noex]
    | false => simp [wp]
  | _ => simp [wp]
/-! results of operators -/
theorem wp_okD {c : Bool} {d : D} {Q : D → Mem → Prop} : wp (okD c d m) Q = (c = true ∧ Q d m) := by unfold okD; cases c <;> simp [wp]
theorem wp_mkT {ds : List D} {Q : D → Mem → Prop} : wp (mkT ds m) Q = (ds.length ≤ SZ ∧ Q (.tup ds) m) := by
  unfold mkT; split
  · rename_i h; simp [wp, h]
  · rename_i h; simp [wp, h]
theorem wp_mkLt {ds : List D} {Q : D → Mem → Prop} : wp (mkL true ds m) Q = (ds.length ≤ SZ ∧ Q (.ref m.length) (m ++ [.lst ds])) := by
  unfold mkL; split
  · rename_i h; simp [wp, h]
  · rename_i h; simp [wp, h]
theorem wp_mkLf {ds : List D} {Q : D → Mem → Prop} : wp (mkL false ds m) Q = (ds.length ≤ SZ ∧ Q (.fl ds) m) := by
  unfold mkL; split
  · rename_i h; simp [wp, h]
  · rename_i h; simp [wp, h]
theorem wp_add_i {mt : Bool} {i j : Int} {Q : D → Mem → Prop} : wp (opAdd mt (.int i) (.int j) m) Q = Q (.int (i + j)) m := rfl
theorem wp_add_s {mt : Bool} {i j : List Nat} {Q : D → Mem → Prop} : wp (opAdd mt (.str i) (.str j) m) Q = (i.length + j.length ≤ SZ ∧ Q (.str (i ++ j)) m) := by
  show wp (okD _ _ m) Q = _; rw [wp_okD]; simp
theorem wp_add_t {mt : Bool} {i j : List D} {Q : D → Mem → Prop} : wp (opAdd mt (.tup i) (.tup j) m) Q = (i.length + j.length ≤ SZ ∧ Q (.tup (i ++ j)) m) := by
  show wp (mkT _ m) Q = _; rw [wp_mkT]; simp
theorem wp_opI {c : Int → Int → Bool} {g : Int → Int → D} {i j : Int} {Q : D → Mem → Prop} : wp (opI c g (.int i) (.int j) m) Q = (c i j = true ∧ Q (g i j) m) := wp_okD
theorem wp_sub_i {i j : Int} {Q : D → Mem → Prop} : wp (opSub (.int i) (.int j) m) Q = Q (.int (i - j)) m := by show wp (opI _ _ _ _ m) Q = _; rw [wp_opI]; simp [cT]
theorem wp_mul_i {mt : Bool} {i j : Int} {Q : D → Mem → Prop} : wp (opMul mt (.int i) (.int j) m) Q = (cMul i j = true ∧ Q (.int (i * j)) m) := wp_okD
theorem wp_fdiv_i {i j : Int} {Q : D → Mem → Prop} : wp (opFDiv (.int i) (.int j) m) Q = (cDiv i j = true ∧ Q (.int (i / j)) m) := wp_opI
theorem wp_mod_i {i j : Int} {Q : D → Mem → Prop} : wp (opMod (.int i) (.int j) m) Q = (cMod i j = true ∧ Q (.int (i % j)) m) := wp_opI
theorem wp_pow_i {i j : Int} {Q : D → Mem → Prop} : wp (opPow (.int i) (.int j) m) Q = (cPow i j = true ∧ Q (.int (i ^ j.toNat)) m) := wp_opI
theorem wp_lt_i {i j : Int} {Q : D → Mem → Prop} : wp (opLt (.int i) (.int j) m) Q = Q (.bl (decide (i < j))) m := by show wp (opI _ _ _ _ m) Q = _; rw [wp_opI]; simp [cT]
theorem wp_le_i {i j : Int} {Q : D → Mem → Prop} : wp (opLe (.int i) (.int j) m) Q = Q (.bl (decide (i ≤ j))) m := by show wp (opI _ _ _ _ m) Q = _; rw [wp_opI]; simp [cT]
theorem wp_gt_i {i j : Int} {Q : D → Mem → Prop} : wp (opGt (.int i) (.int j) m) Q = Q (.bl (decide (j < i))) m := by show wp (opI _ _ _ _ m) Q = _; rw [wp_opI]; simp [cT]
theorem wp_ge_i {i j : Int} {Q : D → Mem → Prop} : wp (opGe (.int i) (.int j) m) Q = Q (.bl (decide (j ≤ i))) m := by show wp (opI _ _ _ _ m) Q = _; rw [wp_opI]; simp [cT]
theorem wp_eq {ng : Bool} {x y : D} {Q : D → Mem → Prop} : wp (opEq ng x y m) Q = ∃ b, eqM m x y = some b ∧ Q (.bl (if ng then !b else b)) m := by
  unfold opEq
  cases eqM m x y with
  | none => simp [wp]
  | some b => simp [wp]
theorem wp_ix_t {ds : List D} {i : Int} {Q : D → Mem → Prop} : wp (opIx (.tup ds) (.int i) m) Q = ∃ d, L2.atI ds i = some d ∧ Q d m := by
  show wp (match atD ds i with | some d => R.ok d m | none => .bad) Q = _
  unfold atD
  cases L2.atI ds i with
  | none => simp [wp]
  | some b => simp [wp]
theorem wp_ix_s {s : List Nat} {i : Int} {Q : D → Mem → Prop} : wp (opIx (.str s) (.int i) m) Q = ∃ c, L2.atI s i = some c ∧ s.length ≤ SZ ∧ Q (.str [c]) m := by
  show wp (match L2.atI s i with | some c => okD (decide (s.length ≤ SZ)) (.str [c]) m | none => .bad) Q = _
  cases L2.atI s i with
  | none => simp [wp]
  | some b => simp [wp_okD]
theorem lst_inv {a : Nat} {ds : List D} (h : lstOf m (.ref a) = some ds) : (m : List O)[a]? = some (.lst ds) := by
  dsimp only [lstOf] at h
  cases e : (m : List O)[a]? with
  | none => rw [e] at h; cases h
  | some o =>
    rw [e] at h
    cases o with
    | lst es => cases h; rfl
    | dk _ => cases h
    | ins _ _ => cases h
theorem opIx_l {x : D} {i : Int} {ds : List D} (h : lstOf m x = some ds) : opIx x (.int i) m = match L2.atI ds i with | some d => R.ok d m | none => .bad := by
  cases x with
  | fl a => cases h; rfl
  | sc a => cases h; rfl
  | ref a =>
    have e := lst_inv h
    show (match (m : List O)[a]? with | some (.dk kvs) => (match kyOf (.int i) with | some k => (match valK kvs k with | some d => R.ok d m | none => .bad) | none => .bad) | _ => opIx0 (.ref a) (.int i) m) = _
    rw [e]
    show (match lstOf m (.ref a) with | some ds => (match atD ds i with | some d => R.ok d m | none => .bad) | none => .bad) = _
    rw [h]; rfl
  | _ => cases h
theorem wp_ix_l {x : D} {i : Int} {ds : List D} {Q : D → Mem → Prop} (h : lstOf m x = some ds) : wp (opIx x (.int i) m) Q = ∃ d, L2.atI ds i = some d ∧ Q d m := by
  rw [opIx_l h]
  cases L2.atI ds i with
  | none => simp [wp]
  | some b => simp [wp]
theorem lst_fl {ds : List D} : lstOf m (.fl ds) = some ds := rfl
theorem lst_sc {ds : List D} : lstOf m (.sc ds) = some ds := rfl
theorem lst_ref {a : Nat} {ds : List D} (h : (m : List O)[a]? = some (.lst ds)) : lstOf m (.ref a) = some ds := by dsimp only [lstOf]; rw [h]
theorem wp_ix_sc {ds : List D} {i : Int} {Q : D → Mem → Prop} : wp (opIx (.sc ds) (.int i) m) Q = ∃ d, L2.atI ds i = some d ∧ Q d m := wp_ix_l rfl
theorem wp_ix_fl {ds : List D} {i : Int} {Q : D → Mem → Prop} : wp (opIx (.fl ds) (.int i) m) Q = ∃ d, L2.atI ds i = some d ∧ Q d m := wp_ix_l rfl
theorem wp_len_s {s : List Nat} {Q : D → Mem → Prop} : wp (bLen [.str s] m) Q = (s.length ≤ SZ ∧ Q (.int s.length) m) := by
  show wp (okD _ _ m) Q = _; rw [wp_okD]; simp
theorem wp_len_t {s : List D} {Q : D → Mem → Prop} : wp (bLen [.tup s] m) Q = Q (.int s.length) m := rfl
theorem wp_len_fl {s : List D} {Q : D → Mem → Prop} : wp (bLen [.fl s] m) Q = Q (.int s.length) m := rfl
theorem wp_len_sc {s : List D} {Q : D → Mem → Prop} : wp (bLen [.sc s] m) Q = Q (.int s.length) m := rfl
theorem wp_len_ref {a : Nat} {s : List D} {Q : D → Mem → Prop} (h : (m : List O)[a]? = some (.lst s)) : wp (bLen [.ref a] m) Q = Q (.int s.length) m := by
  show wp (match lstOf m (.ref a) with | some ds => R.ok (.int ds.length) m | none => .bad) Q = _
  rw [lst_ref h]; rfl
theorem wp_int_i {i : Int} {Q : D → Mem → Prop} : wp (bInt [.int i] m) Q = Q (.int i) m := rfl
theorem wp_int_b {i : Bool} {Q : D → Mem → Prop} : wp (bInt [.bl i] m) Q = Q (.int (if i then 1 else 0)) m := rfl
theorem wp_ord {c : Nat} {Q : D → Mem → Prop} : wp (bOrd [.str [c]] m) Q = Q (.int c) m := rfl
theorem wp_tuple_t {s : List D} {Q : D → Mem → Prop} : wp (bTuple [.tup s] m) Q = Q (.tup s) m := rfl
theorem wp_tuple_l {x : D} {s : List D} {Q : D → Mem → Prop} (h : lstOf m x = some s) : wp (bTuple [x] m) Q = (s.length ≤ SZ ∧ Q (.tup s) m) := by
  have e : bTuple [x] m = mkT s m := by
    cases x with
    | fl a => cases h; rfl
    | sc a => cases h; rfl
    | ref a => show (match lstOf m (.ref a) with | some ds => mkT ds m | none => .bad) = _; rw [h]
    | _ => cases h
  rw [e, wp_mkT]
theorem wp_all {x : D} {ds : List D} {bs : List Bool} {any : Bool} {Q : D → Mem → Prop} (h : lstOf m x = some ds) (h2 : blsOf ds = some bs) : wp (bAll any [x] m) Q = Q (.bl (if any then bs.any id else bs.all id)) m := by
  show wp (match lstOf m x with | some ds => (match blsOf ds with | some bs => R.ok (.bl (if any then bs.any id else bs.all id)) m | none => .bad) | none => .bad) Q = _
  rw [h]; dsimp only; rw [h2]; rfl
theorem wp_append {a : Nat} {ds : List D} {y : D} {Q : D → Mem → Prop} (h : (m : List O)[a]? = some (.lst ds)) : wp (mAppend (.ref a) [y] m) Q = (ds.length < SZ ∧ Q .non (setM m a (.lst (ds ++ [y])))) := by
  show wp (match (m : List O)[a]? with | some (.lst ds) => if ds.length < SZ then R.ok .non (setM m a (.lst (ds ++ [y]))) else .bad | _ => .bad) Q = _
  rw [h]; dsimp only; split <;> simp [wp, *]
/-! ### loops -/
theorem wps_for {it : IV} {p : Pat} : wps (sFor it p s env m) K = wp (it env m) fun iv m => wps (loopF iv.gd (bodyF p s) iv.its env m) K := by unfold sFor; rw [wps_ofE]
theorem loopF_inv {gd : Mem → Bool} {body : D → SV} (I : Nat → Env → Mem → Prop) {ds : List D} (hg : ∀ i env m, I i env m → gd m)
    (hs : ∀ i d env m, ds[i]? = some d → I i env m → wps (body d env m) ⟨I (i + 1), K.rt, K.nx, I (i + 1)⟩) (hd : ∀ env m, I ds.length env m → K.nx env m) (h0 : I 0 env m) : wps (loopF gd body ds env m) K := by
  have go : ∀ (n : Nat) (i : Nat) (env : Env) (m : Mem), ds.length = i + n → I i env m → wps (loopF gd body (ds.drop i) env m) K := by
    intro n
    induction n with
    | zero =>
      intro i env m hl h
      rw [List.drop_eq_nil_of_le (by omega)]
      unfold loopF
      rw [if_pos (hg i env m h)]
      exact hd env m (by rw [show ds.length = i by omega]; exact h)
    | succ n ih =>
      intro i env m hl h
      have hi : i < ds.length := by omega
      rw [List.drop_eq_getElem_cons hi]
      unfold loopF
      rw [if_pos (hg i env m h)]
      have q := hs i ds[i] env m (List.getElem?_eq_getElem hi) h
      cases e : body ds[i] env m with
      | ok fl e2 m2 =>
        rw [e] at q
        cases fl with
        | nx => exact ih (i + 1) e2 m2 (by omega) q
        | cont => exact ih (i + 1) e2 m2 (by omega) q
        | brk => exact q
        | ret d => exact q
      | ex _ _ _ => rw [e] at q; exact q
      | bad => rw [e] at q; exact q
  have := go ds.length 0 env m (by omega) h0
  simpa using this
theorem bodyF_nm {i : Nat} {d : D} : bodyF (.nm i) s d env m = s (env.set i (some d)) m := rfl
theorem whileN_inv {t : TV} {b : SV} (I : Nat → Env → Mem → Prop) (hs : ∀ n env m, I n env m → wp (t env m) fun c m => if c then wps (b env m) ⟨fun e m => ∃ k, k < n ∧ I k e m, K.rt, K.nx, fun e m => ∃ k, k < n ∧ I k e m⟩ else K.nx env m) :
    ∀ (f n : Nat) (env : Env) (m : Mem), n < f → I n env m → wps (whileN t b f env m) K := by
  intro f
  induction f with
  | zero => intro n env m h; omega
  | succ f ih =>
    intro n env m h hI
    unfold whileN
    rw [wps_ofE]
    refine wp_mono (hs n env m hI) fun c m q => ?_
    cases c with
    | false => exact q
    | true =>
      rw [if_pos rfl] at q
      rw [if_pos rfl]
      cases e : b env m with
      | ok fl e2 m2 =>
        rw [e] at q
        cases fl with
        | nx => obtain ⟨k, hk, q⟩ := q; exact ih k e2 m2 (by omega) q
        | cont => obtain ⟨k, hk, q⟩ := q; exact ih k e2 m2 (by omega) q
        | brk => exact q
        | ret d => exact q
      | ex _ _ _ => rw [e] at q; exact q
      | bad => rw [e] at q; exact q
theorem wps_while {t : TV} {b : SV} (I : Nat → Env → Mem → Prop) (hs : ∀ n env m, I n env m → wp (t env m) fun c m => if c then wps (b env m) ⟨fun e m => ∃ k, k < n ∧ I k e m, K.rt, K.nx, fun e m => ∃ k, k < n ∧ I k e m⟩ else K.nx env m)
    {n : Nat} (hn : n < FU) (h : I n env m) : wps (sWhile t b env m) K := by
  unfold sWhile
  exact whileN_inv I hs FU n env m hn h
/-! ### comprehensions -/
theorem wp_lc {mt : Bool} {vs : List Nat} {it : IV} {p : Pat} {Q : D → Mem → Prop} : wp (dLc mt vs it p t f env m) Q = wp (it env m) fun iv m => wp (loopC iv.gd (bodyC vs p t f env) iv.its [] m) fun acc m => wp (mkL mt acc m) Q := by
  unfold dLc; rw [wp_bind]; congr 1; funext iv m; rw [wp_bind]
theorem wp_bodyC {vs : List Nat} {p : Pat} {d : D} {Q : Option D → Mem → Prop} : wp (bodyC vs p t f env d m) Q = ∃ e, bindD p d (wipeE env vs) = some e ∧ wp (t e m) fun b m => if b then wp (f e m) fun y m => Q (some y) m else Q none m := by
  unfold bodyC
  cases bindD p d (wipeE env vs) with
  | none => simp [wp]
  | some e =>
    simp only [Option.some.injEq, exists_eq_left']
    rw [wp_bind, wp_noex]
    congr 1; funext b m
    cases b with
    | false => rfl
    | true => simp only [if_true]; rw [wp_bind, wp_noex]; rfl
theorem loopC_inv {gd : Mem → Bool} {body : D → Mem → R (Option D)} {Q : List D → Mem → Prop} (I : Nat → List D → Mem → Prop) {ds : List D} (hg : ∀ i a m, I i a m → gd m)
    (hs : ∀ i d a m, ds[i]? = some d → I i a m → wp (body d m) fun o m => match o with | some y => a.length < SZ ∧ I (i + 1) (a ++ [y]) m | none => I (i + 1) a m) (hd : ∀ a m, I ds.length a m → Q a m) {acc : List D} (h0 : I 0 acc m) : wp (loopC gd body ds acc m) Q := by
  have go : ∀ (n : Nat) (i : Nat) (a : List D) (m : Mem), ds.length = i + n → I i a m → wp (loopC gd body (ds.drop i) a m) Q := by
    intro n
    induction n with
    | zero =>
      intro i a m hl h
      rw [List.drop_eq_nil_of_le (by omega), loopC_nil (hg i a m h)]
      exact hd a m (by rw [show ds.length = i by omega]; exact h)
    | succ n ih =>
      intro i a m hl h
      have hi : i < ds.length := by omega
      rw [List.drop_eq_getElem_cons hi, loopC_cons (hg i a m h), wp_bind]
      refine wp_mono (hs i ds[i] a m (List.getElem?_eq_getElem hi) h) fun o m q => ?_
      cases o with
      | none => exact ih (i + 1) a m (by omega) q
      | some y =>
        show wp (if a.length < SZ then loopC gd body (ds.drop (i + 1)) (a ++ [y]) m else .bad) Q
        rw [if_pos q.1]; exact ih (i + 1) (a ++ [y]) m (by omega) q.2
  have := go ds.length 0 acc m (by omega) h0
  simpa using this
/-- a comprehension without tests whose element is a function of the item and changes nothing -/
theorem loopC_map {gd : Mem → Bool} {body : D → Mem → R (Option D)} {ds : List D} {fn : D → D} (hg : gd m = true) (hb : ∀ d ∈ ds, body d m = .ok (some (fn d)) m) (hl : ds.length ≤ SZ) : loopC gd body ds [] m = .ok (ds.map fn) m := by
  have go : ∀ (ds acc : List D), (∀ d ∈ ds, body d m = .ok (some (fn d)) m) → acc.length + ds.length ≤ SZ → loopC gd body ds acc m = .ok (acc ++ ds.map fn) m := by
    intro ds
    induction ds with
    | nil => intro acc _ _; rw [loopC_nil hg]; simp
    | cons d ds ih =>
      intro acc h hl
      rw [loopC_cons hg, h d List.mem_cons_self]
      show (if acc.length < SZ then loopC gd body ds (acc ++ [fn d]) m else .bad) = _
      simp only [List.length_cons] at hl
      rw [if_pos (by omega), ih _ (fun x hx => h x (List.mem_cons_of_mem _ hx)) (by simp; omega)]
      simp
  have := go ds [] hb (by simpa using hl)
  simpa using this
/-- .. with a test -/
theorem loopC_filter {gd : Mem → Bool} {body : D → Mem → R (Option D)} {ds : List D} {fn : D → Option D} (hg : gd m = true) (hb : ∀ d ∈ ds, body d m = .ok (fn d) m) (hl : ds.length ≤ SZ) : loopC gd body ds [] m = .ok (ds.filterMap fn) m := by
  have go : ∀ (ds acc : List D), (∀ d ∈ ds, body d m = .ok (fn d) m) → acc.length + ds.length ≤ SZ → loopC gd body ds acc m = .ok (acc ++ ds.filterMap fn) m := by
    intro ds
    induction ds with
    | nil => intro acc _ _; rw [loopC_nil hg]; simp
    | cons d ds ih =>
      intro acc h hl
      rw [loopC_cons hg, h d List.mem_cons_self]
      simp only [List.length_cons] at hl
      cases e : fn d with
      | none =>
        show loopC gd body ds acc m = _
        rw [ih _ (fun x hx => h x (List.mem_cons_of_mem _ hx)) (by omega), List.filterMap_cons, e]
      | some y =>
        show (if acc.length < SZ then loopC gd body ds (acc ++ [y]) m else .bad) = _
        rw [if_pos (by omega), ih _ (fun x hx => h x (List.mem_cons_of_mem _ hx)) (by simp; omega), List.filterMap_cons, e]
        simp
  have := go ds [] hb (by simpa using hl)
  simpa using this
theorem ok_of_wp {r : R α} (h : wp r Q) : ∃ a m, r = .ok a m ∧ Q a m := by
  cases r with
  | ok a m => exact ⟨a, m, rfl, h⟩
  | ex _ _ => exact h.elim
  | bad => exact h.elim
end
/-! ### numbers -/
theorem log2_lt {n k : Nat} (h : n < 2 ^ k) (hk : 0 < k) : n.log2 < k := by
  by_cases h0 : n = 0
  · subst h0; simpa using hk
  · exact (Nat.log2_lt h0).mpr h
theorem cMul_of {i j : Int} {a b : Nat} (ha : i.natAbs < 2 ^ a) (hb : j.natAbs < 2 ^ b) (h0 : 0 < a) (h1 : 0 < b) (h : a + b ≤ 1000000) : cMul i j = true := by
  have := log2_lt ha h0
  have := log2_lt hb h1
  unfold cMul
  rw [decide_eq_true_eq]
  omega
theorem cDiv_of {i j : Int} {b : Nat} (h : 0 < j) (hb : j.natAbs < 2 ^ b) (h1 : 0 < b) (h9 : b ≤ 9000) : cDiv i j = true := by
  have := log2_lt hb h1
  unfold cDiv
  rw [decide_eq_true_eq]
  omega
theorem cMod_of {i j : Int} (h : 0 < j) : cMod i j = true := by unfold cMod; rw [decide_eq_true_eq]; exact h
theorem cPow_of {i j : Int} (h0 : 0 ≤ j) (h1 : j ≤ 1000000) (h : i.natAbs < 2 ^ 64) : cPow i j = true := by unfold cPow; rw [decide_eq_true_eq]; exact ⟨h0, h1, h⟩
end Itp
set_option Elab.async false
set_option linter.all false
set_option maxRecDepth 100000
/-! Itp X: the draws that all laws make. -/
namespace Itp
open PySem (Str)
local macro_rules | `(tactic| walk_at "wp") => `(tactic| try simp only [wps_seq, wps_ret, wps_drop, wps_asg, wps_par, wps_if, wps_sub, wps_nil, wps_brk, wps_cont, wps_retN, wp_runB, wp_bin, wp_args_nil, wp_args_cons, wp_cb, wp_call, wp_mt, wp_tup, wp_lst, wp_if, wp_test, wp_bl, wp_andT, wp_orT, wp_notT, wp_andV, wp_orV, wp_notV, wp_isi, wp_c, wp_var, wp_chain,
  wp_okD, wp_mkT, wp_mkLt, wp_mkLf, wp_add_i, wp_add_s, wp_add_t, wp_sub_i, wp_mul_i, wp_fdiv_i, wp_mod_i, wp_pow_i, wp_lt_i, wp_le_i, wp_gt_i, wp_ge_i, wp_eq, wp_ix_t, wp_ix_s, wp_ix_sc, wp_ix_fl, wp_len_s, wp_len_t, wp_len_fl, wp_len_sc, wp_int_i, wp_int_b, wp_ord, wp_tuple_t, wp_ok,
  List.map_cons, List.map_nil, List.length_cons, List.length_nil, List.replicate_succ, List.replicate_zero, List.cons_append, List.nil_append, List.set_cons_succ, List.set_cons_zero, List.getElem?_cons_zero, List.getElem?_cons_succ, Nat.reduceSub, Nat.reduceAdd, D.bl.injEq, exists_eq_left', Option.some.injEq, if_true, if_false, Bool.false_eq_true])

def svSource : SV :=
    (sSeq (sAsg (.nm 2) (dC (.int 0)))
    (sSeq (sAsg (.nm 3) (dC (.int 0)))
    (sSeq (sIf (dBl (dBin opGt (dCB bLen [(dVar 0)]) (dC (.int 0)))) (sAsg (.nm 2) (dBin opIx (dVar 0) (dBin opMod (dCB bInt [(dVar 1)]) (dCB bLen [(dVar 0)])))) sNil)
    (sSeq (sIf (dAndT (dBl (dBin opLt (dVar 1) (dCB bLen [(dVar 0)]))) (dBl (dBin opGe (dVar 2) (dBin opPow (dC (.int 10)) (dC (.int 18)))))) (sAsg (.nm 3) (dVar 2)) sNil)
    (sRet (dLst true [(dVar 3), (dBin (opAdd false) (dBin (opAdd false) (dBin opMod (dCB bInt [(dVar 2)]) (dC (.int 2147483647))) (dBin (opMul false) (dC (.int 7919000)) (dVar 1))) (dC (.int 104729))), (dC (.int 0))]))))))
def svDraw : SV :=
    (sSeq (sSub (dBin (opAdd false) (dBin opIx (dVar 0) (dC (.int 2))) (dC (.int 1))) (dVar 0) (dC (.int 2)))
    (sSeq (sIf (dBl (dBin opGt (dBin opIx (dVar 0) (dC (.int 0))) (dC (.int 0)))) (sSeq (sAsg (.nm 2) (dBin opMod (dCB bInt [(dBin opIx (dVar 0) (dC (.int 0)))]) (dVar 1)))
    (sSeq (sSub (dBin opFDiv (dBin opIx (dVar 0) (dC (.int 0))) (dVar 1)) (dVar 0) (dC (.int 0)))
    (sRet (dVar 2)))) sNil)
    (sSeq (sAsg (.nm 3) (dBin opMod (dBin opPow (dCB bInt [(dBin (opAdd false) (dBin opIx (dVar 0) (dC (.int 1))) (dBin (opMul false) (dC (.int 7919)) (dBin opIx (dVar 0) (dC (.int 2)))))]) (dC (.int 5))) (dC (.int 2147483647))))
    (sRet (dBin opMod (dBin opFDiv (dBin opMod (dBin (opMul false) (dBin (opAdd false) (dVar 3) (dBin opIx (dVar 0) (dC (.int 2)))) (dC (.int 40692))) (dC (.int 2147483629))) (dC (.int 16))) (dVar 1))))))

/-- a source of draws, after at most n draws -/
def SrcL (n : Nat) (l : List D) : Prop := ∃ d s c : Int, l = [.int d, .int s, .int c] ∧ 0 ≤ d ∧ 0 ≤ s ∧ s < 2 ^ 50 ∧ 0 ≤ c ∧ c ≤ n
theorem SrcL.mono {n k : Nat} {l : List D} (h : SrcL n l) (hk : n ≤ k) : SrcL k l := by
  obtain ⟨d, s, c, e, h1, h2, h3, h4, h5⟩ := h
  exact ⟨d, s, c, e, h1, h2, h3, h4, by omega⟩
theorem atI_ints {ns : List Int} {i : Int} (h0 : 0 ≤ i) (h1 : i < ns.length) : ∃ z, L2.atI (ns.map D.int) i = some (.int z) := by
  obtain ⟨j, rfl⟩ := Int.eq_ofNat_of_zero_le h0
  have hj : j < ns.length := by omega
  exact ⟨ns[j], L2.atI_nat (by rw [List.getElem?_map, List.getElem?_eq_getElem hj]; rfl)⟩
theorem source_ok {ns : List Int} {k : Int} {m : Mem} {Q : D → Mem → Prop} (h0 : 0 ≤ k) (h1 : k ≤ 1000000) (h : ∀ l, SrcL 0 l → Q (.ref m.length) (m ++ [.lst l])) : wp (runB 4 svSource [.sc (ns.map .int), .int k] m) Q := by
  unfold svSource
  walk_at "wp"
  have fin : ∀ c d : Int, 0 ≤ d → cMod c 2147483647 = true ∧ cMul 7919000 k = true ∧ 0 + 1 + 1 + 1 ≤ SZ ∧ Q (.ref m.length) (m ++ [.lst [.int d, .int (c % 2147483647 + 7919000 * k + 104729), .int 0]]) := fun c d hd => by
    refine ⟨cMod_of (by omega), cMul_of (a := 40) (b := 40) (by omega) (by omega) (by omega) (by omega) (by omega), by decide, h _ ⟨_, _, _, rfl, hd, ?_, ?_, by omega, by omega⟩⟩
    · have := Int.emod_nonneg c (b := 2147483647) (by omega); omega
    · have := Int.emod_lt_of_pos c (b := 2147483647) (by omega); omega
  rw [List.length_map]
  split
  · rename_i hl
    have hl := of_decide_eq_true hl
    obtain ⟨z, hz⟩ := atI_ints (ns := ns) (i := k % (ns.length : Int)) (Int.emod_nonneg _ (by omega)) (Int.emod_lt_of_pos _ hl)
    refine ⟨cMod_of hl, _, hz, ?_⟩
    split
    · refine ⟨cPow_of (by omega) (by omega) (by omega), ?_⟩
      walk_at "wp"
      split
      · rename_i hz
        have hz := of_decide_eq_true hz
        refine fin z z (Int.le_trans ?_ hz)
        exact Int.pow_nonneg (by omega)
      · exact fin z 0 (by omega)
    · walk_at "wp"
      exact fin z 0 (by omega)
  · rename_i hl
    have hl : ¬ (0 < (ns.length : Int)) := fun z => hl (decide_eq_true z)
    have : ¬ (k < (ns.length : Int)) := by omega
    rw [decide_eq_false this]
    walk_at "wp"
    exact fin 0 0 (by omega)
theorem set_same {m : Mem} {a : Nat} {o o' : O} (h : (m : List O)[a]? = some o) : (setM m a o' : List O)[a]? = some o' := by
  unfold setM
  have := (List.getElem?_eq_some_iff.mp h).1
  exact List.getElem?_set_self this
theorem set_ne {m : Mem} {a b : Nat} {o : O} (h : a ≠ b) : (setM m a o : List O)[b]? = (m : List O)[b]? := by
  unfold setM
  exact List.getElem?_set_ne h
theorem set_set {m : Mem} {a : Nat} {o o' : O} : setM (setM m a o) a o' = setM m a o' := by
  unfold setM
  exact List.set_set ..
theorem set_len {m : Mem} {a : Nat} {o : O} : (setM m a o).length = m.length := by
  unfold setM
  exact List.length_set
theorem wp_ix_ref {m : Mem} {a : Nat} {ds : List D} {i : Int} {Q : D → Mem → Prop} (h : (m : List O)[a]? = some (.lst ds)) : wp (opIx (.ref a) (.int i) m) Q = ∃ d, L2.atI ds i = some d ∧ Q d m := wp_ix_l (lst_ref h)
theorem setIx_l {m : Mem} {a : Nat} {ds : List D} {i : Int} {v : D} {j : Nat} (h : (m : List O)[a]? = some (.lst ds)) (hj : L2.ixN ds.length i = some j) : setIx (.ref a) (.int i) v m = some (setM m a (.lst (ds.set j v))) := by
  dsimp only [setIx]; rw [h]; dsimp only; rw [hj]
theorem draw_ok {m : Mem} {a n : Nat} {l : List D} {many : Int} {Q : D → Mem → Prop} (ha : (m : List O)[a]? = some (.lst l)) (hl : SrcL n l) (hn : n < 2 ^ 40) (h0 : 0 < many) (h1 : many < 2 ^ 100)
    (h : ∀ r l', 0 ≤ r → r < many → SrcL (n + 1) l' → Q (.int r) (setM m a (.lst l'))) : wp (runB 4 svDraw [.ref a, .int many] m) Q := by
  obtain ⟨d, s, c, rfl, hd, hs, hs2, hc, hc2⟩ := hl
  unfold svDraw
  walk_at "wp"
  rw [wp_ix_ref ha]
  refine ⟨.int c, rfl, ?_⟩
  walk_at "wp"
  refine ⟨_, setIx_l (j := 2) ha rfl, ?_⟩
  have ha2 := set_same (o' := .lst [.int d, .int s, .int (c + 1)]) ha
  show wp (opIx (.ref a) (.int 0) (setM m a (.lst [.int d, .int s, .int (c + 1)]))) _
  generalize hm : setM m a (.lst [.int d, .int s, .int (c + 1)]) = m2 at ha2
  rw [wp_ix_ref ha2]
  refine ⟨.int d, rfl, ?_⟩
  walk_at "wp"
  split
  · rename_i hd0
    have hd0 := of_decide_eq_true hd0
    rw [wp_ix_ref ha2]
    refine ⟨.int d, rfl, ?_⟩
    walk_at "wp"
    refine ⟨cMod_of h0, ?_⟩
    rw [wp_ix_ref ha2]
    refine ⟨.int d, rfl, ?_⟩
    walk_at "wp"
    refine ⟨cDiv_of (b := 100) h0 (by omega) (by omega) (by omega), _, setIx_l (j := 0) ha2 rfl, ?_⟩
    rw [← hm, set_set]
    exact h _ _ (Int.emod_nonneg _ (by omega)) (Int.emod_lt_of_pos _ h0) ⟨_, _, _, rfl, Int.ediv_nonneg hd (by omega), hs, hs2, by omega, by omega⟩
  · rename_i hd0
    rw [wp_ix_ref ha2]
    refine ⟨.int s, rfl, ?_⟩
    walk_at "wp"
    rw [wp_ix_ref ha2]
    refine ⟨.int (c + 1), rfl, ?_⟩
    walk_at "wp"
    refine ⟨cMul_of (a := 40) (b := 60) (by omega) (by omega) (by omega) (by omega) (by omega), cPow_of (by omega) (by omega) (by omega), cMod_of (by omega), ?_⟩
    rw [wp_ix_ref ha2]
    refine ⟨.int (c + 1), rfl, ?_⟩
    walk_at "wp"
    generalize hx : (s + 7919 * (c + 1)) ^ Int.toNat 5 % 2147483647 = x
    have x0 : 0 ≤ x := by rw [← hx]; exact Int.emod_nonneg _ (by omega)
    have x1 : x < 2147483647 := by rw [← hx]; exact Int.emod_lt_of_pos _ (by omega)
    refine ⟨cMul_of (a := 60) (b := 40) (by omega) (by omega) (by omega) (by omega) (by omega), cMod_of (by omega), cDiv_of (b := 100) (by omega) (by omega) (by omega) (by omega), cMod_of h0, ?_⟩
    rw [← hm]
    exact h _ _ (Int.emod_nonneg _ (by omega)) (Int.emod_lt_of_pos _ h0) ⟨_, _, _, rfl, hd, hs, hs2, by omega, by omega⟩
end Itp
set_option Elab.async false
set_option linter.all false
set_option maxRecDepth 100000
/-! Itp Y: equal kind for kind; comprehensions; lists that grow. -/
namespace Itp
open PySem PySem.Spec PyProof.Rows L2
local macro_rules | `(tactic| walk_at "wp") => `(tactic| try simp only [wps_seq, wps_ret, wps_drop, wps_asg, wps_par, wps_if, wps_sub, wps_nil, wps_brk, wps_cont, wps_retN, wp_runB, wp_bin, wp_args_nil, wp_args_cons, wp_cb, wp_call, wp_mt, wp_tup, wp_lst, wp_if, wp_test, wp_bl, wp_andT, wp_orT, wp_notT, wp_andV, wp_orV, wp_notV, wp_isi, wp_c, wp_var, wp_chain,
  wp_okD, wp_mkT, wp_mkLt, wp_mkLf, wp_add_i, wp_add_s, wp_add_t, wp_sub_i, wp_mul_i, wp_fdiv_i, wp_mod_i, wp_pow_i, wp_lt_i, wp_le_i, wp_gt_i, wp_ge_i, wp_eq, wp_ix_t, wp_ix_s, wp_ix_sc, wp_ix_fl, wp_len_s, wp_len_t, wp_len_fl, wp_len_sc, wp_int_i, wp_int_b, wp_ord, wp_tuple_t, wp_ok,
  List.map_cons, List.map_nil, List.length_cons, List.length_nil, List.replicate_succ, List.replicate_zero, List.cons_append, List.nil_append, List.set_cons_succ, List.set_cons_zero, List.getElem?_cons_zero, List.getElem?_cons_succ, Nat.reduceSub, Nat.reduceAdd, D.bl.injEq, exists_eq_left', Option.some.injEq, if_true, if_false, Bool.false_eq_true])

section
variable {m : Mem}
theorem eqM_i {i j : Int} : eqM m (.int i) (.int j) = some (decide (i = j)) := by
  show (if SeqAt.shaped (.int i) && SeqAt.shaped (.int j) then some (PyData.eqv (.int i) (.int j)) else none) = _
  rw [if_pos (by rfl)]
  rfl
theorem eqM_b {i j : Bool} : eqM m (.bl i) (.bl j) = some (decide (i = j)) := by
  show (if SeqAt.shaped (.bool i) && SeqAt.shaped (.bool j) then some (PyData.eqv (.bool i) (.bool j)) else none) = _
  rw [if_pos (by rfl)]
  cases i <;> cases j <;> rfl
theorem shaped_s {i : List Nat} (h : ∀ c ∈ i, c < 1114112) : SeqAt.shaped (.str (stS i)) = true := by
  unfold SeqAt.shaped
  rw [Bool.and_eq_true]
  refine ⟨?_, rfl⟩
  simp only [PyData.canLay0, stS]
  simpa [PyData.strOk] using h
theorem eqM_s {i : List Nat} (h : ∀ c ∈ i, c < 1114112) : eqM m (.str i) (.str i) = some true := by
  show (if SeqAt.shaped (.str (stS i)) && SeqAt.shaped (.str (stS i)) then some (PyData.eqv (.str (stS i)) (.str (stS i))) else none) = _
  rw [if_pos (by rw [shaped_s h]; rfl)]; congr 1
  exact SeqAt.eqv_refl_plain _ rfl
theorem eqM_n : eqM m .non .non = some true := rfl

inductive Same (m : Mem) : Nat → D → D → Prop where
  | non {n : Nat} : Same m (n + 1) .non .non
  | int {n : Nat} (i : Int) : Same m (n + 1) (.int i) (.int i)
  | bl {n : Nat} (i : Bool) : Same m (n + 1) (.bl i) (.bl i)
  | str {n : Nat} (i : List Nat) (h : ∀ c ∈ i, c < 1114112) : Same m (n + 1) (.str i) (.str i)
  | tup {n : Nat} {xs ys : List D} (hl : xs.length = ys.length) (hz : xs.length ≤ SZ) (h : ∀ (i : Nat) (x y : D), xs[i]? = some x → ys[i]? = some y → Same m n x y) : Same m (n + 1) (.tup xs) (.tup ys)
  | lst {n : Nat} {x y : D} {xs ys : List D} (hx : lstOf m x = some xs) (hy : lstOf m y = some ys) (hl : xs.length = ys.length) (hz : xs.length ≤ SZ) (h : ∀ (i : Nat) (x y : D), xs[i]? = some x → ys[i]? = some y → Same m n x y) : Same m (n + 1) x y
theorem Same.mono {n : Nat} {x y : D} (h : Same m n x y) : ∀ {k : Nat}, n ≤ k → Same m k x y := by
  induction h with
  | non => intro k hk; cases k with | zero => omega | succ k => exact .non
  | int i => intro k hk; cases k with | zero => omega | succ k => exact .int i
  | bl i => intro k hk; cases k with | zero => omega | succ k => exact .bl i
  | str i h => intro k hk; cases k with | zero => omega | succ k => exact .str i h
  | tup hl hz h ih => intro k hk; cases k with | zero => omega | succ k => exact .tup hl hz fun i x y e1 e2 => ih i x y e1 e2 (by omega)
  | lst hx hy hl hz h ih => intro k hk; cases k with | zero => omega | succ k => exact .lst hx hy hl hz fun i x y e1 e2 => ih i x y e1 e2 (by omega)

theorem tyD_l {x : D} {xs : List D} (h : lstOf m x = some xs) : tyD m x = some .lst := by
  cases x with
  | fl _ => rfl
  | sc _ => rfl
  | ref a => have e := lst_inv h; dsimp only [tyD]; rw [e]
  | _ => cases h
theorem wp_len_l {x : D} {xs : List D} {Q : D → Mem → Prop} (h : lstOf m x = some xs) : wp (bLen [x] m) Q = Q (.int xs.length) m := by
  cases x with
  | fl _ => cases h; rfl
  | sc _ => cases h; rfl
  | ref a => exact wp_len_ref (lst_inv h)
  | _ => cases h
theorem zipOf_l {x y : D} {xs ys : List D} (hx : lstOf m x = some xs) (hy : lstOf m y = some ys) : zipOf m x y = some ⟨zipD xs ys, zGd x xs y ys⟩ := by
  have e : zipOf m x y = (match lstOf m x, lstOf m y with
    | some as, some bs => some (⟨zipD as bs, zGd x as y bs⟩ : IterV)
    | _, _ => none) := by
    cases x <;> first | rfl | (cases hx; done)
  rw [e, hx, hy]
theorem zGd_ok {x y : D} {xs ys : List D} (hx : lstOf m x = some xs) (hy : lstOf m y = some ys) : zGd x xs y ys m = true := by
  cases x with
  | ref a =>
    have e1 := gL_ok (lst_inv hx)
    cases y with
    | ref b => show (gL a xs m && gL b ys m) = true; rw [e1, gL_ok (lst_inv hy)]; rfl
    | _ => exact e1
  | fl _ => cases y with
    | ref b => exact gL_ok (lst_inv hy)
    | _ => first | rfl | (cases hy; done)
  | sc _ => cases y with
    | ref b => exact gL_ok (lst_inv hy)
    | _ => first | rfl | (cases hy; done)
  | _ => cases hx
def svSame (F3 : List D → Mem → R D) : SV :=
    (sSeq (sIf (dTest (dIsi [.lst, .tup] (dVar 1))) (sSeq (sIf (dOrT (dBl (dBin (opEq true) (dIsi [.lst] (dVar 0)) (dIsi [.lst] (dVar 1)))) (dBl (dBin (opEq true) (dIsi [.tup] (dVar 0)) (dIsi [.tup] (dVar 1))))) (sRet (dC (.bl false))) sNil)
    (sRet (dAndV (dBin (opEq false) (dCB bLen [(dVar 0)]) (dCB bLen [(dVar 1)])) (dCB (bAll false) [(dLc false [2, 3] (dZip (dVar 0) (dVar 1)) (.tup [(.nm 2), (.nm 3)]) dNil (dCall F3 [(dVar 2), (dVar 3)]))])))) sNil)
    (sSeq (sIf (dTest (dIsi [.bl, .int] (dVar 1))) (sRet (dAndV (dIsi [.int] (dVar 0)) (dAndV (dBin (opEq false) (dIsi [.bl] (dVar 0)) (dIsi [.bl] (dVar 1))) (dBin (opEq false) (dVar 0) (dVar 1))))) sNil)
    (sRet (dAndV (dNotV (dIsi [.bl, .lst, .tup] (dVar 0))) (dBin (opEq false) (dVar 0) (dVar 1))))))
theorem zipD_nth : ∀ {as bs : List D}, as.length = bs.length → zipD as bs = (List.range as.length).map fun i => .tup [as.getD i .non, bs.getD i .non]
  | [], [], _ => rfl
  | a :: as, b :: bs, h => by
    simp only [List.length_cons, Nat.add_right_cancel_iff] at h
    rw [zipD, zipD_nth h, List.length_cons, List.range_succ_eq_map, List.map_cons, List.map_map]
    rfl
theorem bls_true : ∀ n : Nat, blsOf ((List.range n).map fun _ => D.bl true) = some ((List.range n).map fun _ => true) := by
  intro n
  generalize List.range n = l
  induction l with
  | nil => rfl
  | cons a l ih => simp only [List.map_cons, blsOf, ih, Option.map_some]
theorem all_step {F3 : List D → Mem → R D} {x y : D} {xs ys : List D} {env : Env} (he : env = [some x, some y, none, none]) {gd : Mem → Bool} (hx : zipOf m x y = some ⟨zipD xs ys, gd⟩) (hgd : gd m = true) (hl : xs.length = ys.length) (hz : xs.length ≤ SZ) (h : ∀ (i : Nat) (x y : D), xs[i]? = some x → ys[i]? = some y → F3 [x, y] m = .ok (.bl true) m) {Q : D → Mem → Prop} (q : Q (.bl true) m) :
    wp (dLc false [2, 3] (dZip (dVar 0) (dVar 1)) (.tup [(.nm 2), (.nm 3)]) dNil (dCall F3 [(dVar 2), (dVar 3)]) env m) (fun z m => wp (bAll false [z] m) Q) := by
  subst he
  have e1 : dZip (dVar 0) (dVar 1) [some x, some y, none, none] m = .ok ⟨zipD xs ys, gd⟩ m := by
    show (match zipOf m x y with
      | some iv => R.ok iv m
      | none => .bad) = _
    rw [hx]
  have e2 : loopC gd (bodyC [2, 3] (.tup [(.nm 2), (.nm 3)]) dNil (dCall F3 [(dVar 2), (dVar 3)]) [some x, some y, none, none]) (zipD xs ys) [] m = .ok ((zipD xs ys).map fun _ => .bl true) m := by
    refine loopC_map (fn := fun _ => .bl true) hgd (fun d hd => ?_) ?_
    · rw [zipD_nth hl, List.mem_map] at hd
      obtain ⟨i, hi, rfl⟩ := hd
      rw [List.mem_range] at hi
      have g := h i _ _ (List.getElem?_eq_getElem hi) (List.getElem?_eq_getElem (by omega))
      have a1 : xs.getD i .non = xs[i] := by rw [List.getD_eq_getElem?_getD, List.getElem?_eq_getElem hi]; rfl
      have a2 : ys.getD i .non = ys[i] := by rw [List.getD_eq_getElem?_getD, List.getElem?_eq_getElem (by omega)]; rfl
      rw [a1, a2]
      show (noex ((F3 [xs[i], ys[i]] m))).bind _ = _
      rw [g]; rfl
    · rw [zipD_nth hl]; simpa using hz
  simp only [wp_lc]
  rw [e1, wp_ok, e2, wp_ok, wp_mkLf]
  rw [zipD_nth hl, List.map_map]
  refine ⟨by simpa using hz, ?_⟩
  rw [wp_all (ds := (List.range xs.length).map fun _ => D.bl true) (bs := (List.range xs.length).map fun _ => true) rfl (bls_true _)]
  have : ((List.range xs.length).map fun _ => true).all id = true := by simp
  simp only [if_false, Bool.false_eq_true]
  rw [this]; exact q
theorem same_true {P : List Df} {i3 : Nat} {d : Df} (hP : P[i3]? = some d) (hn : d.N.length = 4) (hv : ∀ F F1, d.sv F F1 = svSame (F i3)) (hpop : d.pop = 0) {n : Nat} {x y : D} (h : Same m n x y) : callN P n i3 [x, y] m = .ok (.bl true) m := by
  have main : ∀ {n : Nat} {x y : D}, Same m n x y → wp (callN P n i3 [x, y] m) fun r m' => r = .bl true ∧ m' = m := by
    intro n x y h
    induction h with
    | non =>
      rw [callN_succ hP hpop, hn, hv]; unfold svSame; walk_at "wp"
      refine ⟨_, rfl, _, rfl, ?_⟩; walk_at "wp"
      refine ⟨_, rfl, _, rfl, ?_⟩; walk_at "wp"
      refine ⟨_, rfl, _, rfl, _, rfl, ?_⟩; walk_at "wp"
      exact ⟨_, eqM_n, rfl, trivial⟩
    | int i =>
      rw [callN_succ hP hpop, hn, hv]; unfold svSame; walk_at "wp"
      refine ⟨_, rfl, _, rfl, ?_⟩; walk_at "wp"
      refine ⟨_, rfl, _, rfl, ?_⟩; walk_at "wp"
      refine ⟨_, rfl, _, rfl, ?_⟩; walk_at "wp"
      refine ⟨_, rfl, _, rfl, _, eqM_b, _, rfl, ?_⟩; walk_at "wp"
      exact ⟨_, eqM_i, by simp, trivial⟩
    | bl i =>
      rw [callN_succ hP hpop, hn, hv]; unfold svSame; walk_at "wp"
      refine ⟨_, rfl, _, rfl, ?_⟩; walk_at "wp"
      refine ⟨_, rfl, _, rfl, ?_⟩; walk_at "wp"
      refine ⟨_, rfl, _, rfl, ?_⟩; walk_at "wp"
      refine ⟨_, rfl, _, rfl, _, eqM_b, _, rfl, ?_⟩; walk_at "wp"
      exact ⟨_, eqM_b, by simp, trivial⟩
    | str i hs =>
      rw [callN_succ hP hpop, hn, hv]; unfold svSame; walk_at "wp"
      refine ⟨_, rfl, _, rfl, ?_⟩; walk_at "wp"
      refine ⟨_, rfl, _, rfl, ?_⟩; walk_at "wp"
      refine ⟨_, rfl, _, rfl, _, rfl, ?_⟩; walk_at "wp"
      exact ⟨_, eqM_s hs, rfl, trivial⟩
    | @tup n xs ys hl hz h ih =>
      rw [callN_succ hP hpop, hn, hv]; unfold svSame; walk_at "wp"
      refine ⟨_, rfl, _, rfl, ?_⟩; walk_at "wp"
      refine ⟨_, rfl, _, rfl, _, eqM_b, ?_⟩; walk_at "wp"
      refine ⟨_, rfl, _, rfl, _, eqM_b, ?_⟩; walk_at "wp"
      refine ⟨_, eqM_i, _, rfl, ?_⟩
      rw [if_pos (show decide ((xs.length : Int) = ys.length) = true from decide_eq_true (congrArg Int.ofNat hl))]
      refine all_step (Q := fun r m' => r = D.bl true ∧ m' = m) (x := .tup xs) (y := .tup ys) (gd := gT) rfl rfl rfl hl hz (fun i x y e1 e2 => ?_) ⟨rfl, rfl⟩
      obtain ⟨a, m', e, rfl, rfl⟩ := ok_of_wp (ih i x y e1 e2)
      exact e
    | @lst n x y xs ys hx hy hl hz h ih =>
      rw [callN_succ hP hpop, hn, hv]; unfold svSame; walk_at "wp"
      refine ⟨_, tyD_l hy, _, rfl, ?_⟩; walk_at "wp"
      refine ⟨_, tyD_l hx, _, tyD_l hy, _, eqM_b, ?_⟩; walk_at "wp"
      refine ⟨_, tyD_l hx, _, tyD_l hy, _, eqM_b, ?_⟩; walk_at "wp"
      rw [wp_len_l hx, wp_len_l hy]
      refine ⟨_, eqM_i, _, rfl, ?_⟩
      rw [if_pos (show decide ((xs.length : Int) = ys.length) = true from decide_eq_true (congrArg Int.ofNat hl))]
      refine all_step (Q := fun r m' => r = D.bl true ∧ m' = m) (x := x) (y := y) (gd := zGd x xs y ys) rfl (zipOf_l hx hy) (zGd_ok hx hy) hl hz (fun i x y e1 e2 => ?_) ⟨rfl, rfl⟩
      obtain ⟨a, m', e, rfl, rfl⟩ := ok_of_wp (ih i x y e1 e2)
      exact e
  obtain ⟨a, m', e, rfl, rfl⟩ := ok_of_wp (main h)
  exact e
theorem same_ints {n : Nat} {is : List Int} (hz : is.length ≤ SZ) : Same m (n + 2) (.tup (is.map .int)) (.tup (is.map .int)) := by
  refine .tup rfl (by simpa using hz) fun i x y e1 e2 => ?_
  rw [e1] at e2; cases e2
  rw [List.getElem?_map] at e1
  cases e : is[i]? with
  | none => rw [e] at e1; cases e1
  | some z => rw [e] at e1; cases e1; exact .int z
theorem strs_one : ∀ cs : List Nat, strsOf (cs.map fun c => D.str [c]) = some (cs.map fun c => [c])
  | [] => rfl
  | c :: cs => by simp only [List.map_cons, strsOf, strs_one cs, Option.map_some]
theorem joinL_nil : ∀ bs : List (List Nat), TL.joinL [] bs = bs.flatten
  | [] => rfl
  | [b] => by simp [TL.joinL]
  | b :: c :: bs => by
    have := joinL_nil (c :: bs)
    simp only [TL.joinL, List.append_nil, List.nil_append, List.flatten_cons] at this ⊢
    rw [this]
theorem wp_join {a : List Nat} {x : D} {ds : List D} {bs : List (List Nat)} {Q : D → Mem → Prop} (h : sqOf m x = some ds) (h2 : strsOf ds = some bs) : wp (mJoin (.str a) [x] m) Q = ((bs.map (·.length)).sum + bs.length * a.length ≤ 16777216 ∧ Q (.str (TL.joinL a bs)) m) := by
  dsimp only [mJoin]; rw [h]; dsimp only; rw [h2]; dsimp only; rw [wp_okD]; unfold joinOk; rw [decide_eq_true_eq]
theorem joined (cs : List Nat) : TL.joinL [] (cs.map fun c => [c]) = cs := by
  rw [joinL_nil]; induction cs with
  | nil => rfl
  | cons c cs ih => simp [ih]
theorem sum_ones (cs : List Nat) : ((cs.map fun c => [c]).map (·.length)).sum = cs.length := by
  induction cs with
  | nil => rfl
  | cons c cs ih => simp only [List.map_cons, List.sum_cons, ih, List.length_cons, List.length_nil]; omega
theorem wp_rng1 {f : EV} {env : Itp.Env} {Q : IterV → Mem → Prop} : wp (dRng [f] env m) Q = wp (f env m) fun x m => ∃ j, x = .int j ∧ smallI j = true ∧ Q ⟨rngL 0 j.toNat, gT⟩ m := by
  show wp ((dArgs [f] env m).bind _) Q = _
  rw [wp_bind, wp_args_cons]
  congr 1; funext x m
  rw [wp_args_nil]
  cases x with
  | int j =>
    show wp (if smallI j then R.ok (⟨rngL 0 j.toNat, gT⟩ : IterV) m else .bad) Q = _
    cases e : smallI j <;> simp [wp, e]
  | _ => simp [wp]
theorem small_of {j : Int} (h0 : 0 ≤ j) (h1 : j < 2 ^ 62) : smallI j = true := by unfold smallI; rw [decide_eq_true_eq]; omega
theorem rngL_at {lo : Int} {n i : Nat} {d : D} (h : (rngL lo n)[i]? = some d) : i < n ∧ d = .int (lo + i) := by
  have hl : i < n := by
    have := (List.getElem?_eq_some_iff.mp h).1
    simpa [rngL] using this
  refine ⟨hl, ?_⟩
  unfold rngL at h
  rw [List.getElem?_map, List.getElem?_range hl] at h
  simpa using h.symm
theorem rngL_len {lo : Int} {n : Nat} : (rngL lo n).length = n := by simp [rngL]
theorem wp_it_s {s : List Nat} {Q : IterV → Mem → Prop} : wp (itD (.str s) m) Q = Q ⟨s.map fun c => .str [c], gT⟩ m := rfl
theorem wp_it_t {ds : List D} {Q : IterV → Mem → Prop} : wp (itD (.tup ds) m) Q = Q ⟨ds, gT⟩ m := rfl
theorem wp_it_f {ds : List D} {Q : IterV → Mem → Prop} : wp (itD (.fl ds) m) Q = Q ⟨ds, gT⟩ m := rfl
theorem wp_it_sc {ds : List D} {Q : IterV → Mem → Prop} : wp (itD (.sc ds) m) Q = Q ⟨ds, gT⟩ m := rfl
theorem wp_it_r {a : Nat} {ds : List D} {Q : IterV → Mem → Prop} (h : (m : List O)[a]? = some (.lst ds)) : wp (itD (.ref a) m) Q = Q ⟨ds, gL a ds⟩ m := by
  show wp (match (m : List O)[a]? with | some (.lst ds) => R.ok (⟨ds, gL a ds⟩ : IterV) m | _ => .bad) Q = _
  rw [h]; rfl
theorem wp_dit {f : EV} {env : Itp.Env} {Q : IterV → Mem → Prop} : wp (dIt f env m) Q = wp (f env m) fun x m => wp (itD x m) Q := by unfold dIt; rw [wp_bind]
theorem new_at {m : Mem} {o : O} : (m ++ [o] : List O)[m.length]? = some o := by simp
theorem bodyC_nm {vs : List Nat} {i : Nat} {t : TV} {f : EV} {env : Itp.Env} {d : D} {Q : Option D → Mem → Prop} : wp (bodyC vs (.nm i) t f env d m) Q = wp (t ((wipeE env vs).set i (some d)) m) fun b m => if b then wp (f ((wipeE env vs).set i (some d)) m) fun y m => Q (some y) m else Q none m := by
  rw [wp_bodyC]; simp [bindD]
theorem wp_dnil {env : Itp.Env} {Q : Bool → Mem → Prop} : wp (dNil env m) Q = Q true m := rfl
end
end Itp
set_option Elab.async false
set_option linter.all false
set_option maxRecDepth 100000
/-! Itp V: how one reasons about attributes, methods, instances, dicts; what stands where. -/
namespace Itp
open PySem PySem.Spec PyProof.Rows L2
section
variable {m m' : Mem} {a b : Nat} {o : O} {env : Itp.Env} {f g : EV} {K : Ko} {x : Str}
/-- o stands at a -/
def At (m : Mem) (a : Nat) (o : O) : Prop := (m : List O)[a]? = some o
theorem At.lt (h : At m a o) : a < m.length := (List.getElem?_eq_some_iff.mp h).1
theorem At.pre (h : At m a o) (p : m <+: m') : At m' a o := by
  obtain ⟨t, e⟩ := p
  subst e
  show (m ++ t)[a]? = some o
  rw [List.getElem?_append_left h.lt]
  exact h
theorem At.app (h : At m a o) {t : Mem} : At (m ++ t) a o := h.pre (List.prefix_append _ _)
theorem At.new : At (m ++ [o]) m.length o := by show (m ++ [o])[m.length]? = some o; simp
theorem At.set {o2 : O} (h : At m a o) : At (setM m a o2) a o2 := set_same h
theorem At.ne {o2 : O} (h : At m b o) (n : a ≠ b) : At (setM m a o2) b o := by
  show (setM m a o2 : List O)[b]? = some o
  rw [set_ne n]; exact h
theorem At.uniq {o2 : O} (h : At m a o) (h2 : At m a o2) : o = o2 := Option.some.inj (h.symm.trans h2)
theorem insOf_at {c : Str} {fs : List (Str × D)} (h : At m a (.ins c fs)) : insOf m (.ref a) = some (c, fs) := by dsimp only [insOf]; rw [show (m : List O)[a]? = _ from h]
theorem wp_attr {Q : D → Mem → Prop} : wp (dAttr x f env m) Q = wp (f env m) fun d m => ∃ c fs v, insOf m d = some (c, fs) ∧ fs.lookup x = some v ∧ Q v m := by
  unfold dAttr; rw [wp_bind]; congr 1; funext d m
  apply propext
  cases e : insOf m d with
  | none => exact ⟨False.elim, fun ⟨_, _, _, z, _⟩ => by cases z⟩
  | some cf =>
    obtain ⟨c, fs⟩ := cf
    dsimp only
    cases e2 : fs.lookup x with
    | none => exact ⟨False.elim, fun ⟨_, _, _, z, z2, _⟩ => by cases z; rw [e2] at z2; cases z2⟩
    | some v => exact ⟨fun h => ⟨c, fs, v, rfl, e2, h⟩, fun ⟨_, _, _, z, z2, h⟩ => by cases z; rw [e2] at z2; cases z2; exact h⟩
theorem wp_meth {tab : List (Str × (List D → Mem → R D))} {fs : List EV} {Q : D → Mem → Prop} : wp (dMeth x tab f fs env m) Q = wp (f env m) fun d m => ∃ c gs h, insOf m d = some (c, gs) ∧ tab.lookup c = some h ∧ gs.lookup x = none ∧ wp (dArgs fs env m) fun xs m => wp (h (d :: xs) m) Q := by
  unfold dMeth; rw [wp_bind]; congr 1; funext d m
  apply propext
  cases e : insOf m d with
  | none => exact ⟨False.elim, fun ⟨_, _, _, z, _⟩ => by cases z⟩
  | some cf =>
    obtain ⟨c, gs⟩ := cf
    dsimp only
    cases e2 : tab.lookup c with
    | none => exact ⟨False.elim, fun ⟨_, _, _, z, z2, _⟩ => by cases z; rw [e2] at z2; cases z2⟩
    | some h =>
      cases e3 : gs.lookup x with
      | none =>
        dsimp only
        rw [wp_bind]
        exact ⟨fun q => ⟨c, gs, h, rfl, e2, e3, q⟩, fun ⟨_, _, _, z, z2, _, q⟩ => by cases z; rw [e2] at z2; cases z2; exact q⟩
      | some v => exact ⟨False.elim, fun ⟨_, _, _, z, _, z3, _⟩ => by cases z; rw [e3] at z3; cases z3⟩
theorem wp_make {c : Str} {h : List D → Mem → R D} {fs : List EV} {Q : D → Mem → Prop} : wp (dMake c h fs env m) Q = wp (dArgs fs env m) fun xs m => wp (h (.ref m.length :: xs) (m ++ [.ins c []])) fun r m2 => r = .non ∧ Q (.ref m.length) m2 := by
  unfold dMake; rw [wp_bind]; congr 1; funext xs m; rw [wp_bind]; congr 1; funext r m2
  cases r <;> simp [wp]
theorem wps_setA {cs : List Str} {fv fo : EV} : wps (sSetA cs x fv fo env m) K = wp (fv env m) fun v m => wp (fo env m) fun o m => ∃ m', setA cs o x v m = some m' ∧ K.nx env m' := by
  unfold sSetA; rw [wps_ofE]; congr 1; funext v m; rw [wps_ofE]; congr 1; funext o m
  cases e : setA cs o x v m with
  | none => simp [wps]
  | some m' => simp [wps]
theorem setA_at {cs : List Str} {c : Str} {fs : List (Str × D)} {v : D} (h : At m a (.ins c fs)) (hc : ((fs.lookup x).isSome || cs.contains c) && decide (fs.length < 1000)) : setA cs (.ref a) x v m = some (setM m a (.ins c (putFd x v fs))) := by
  dsimp only [setA]; rw [show (m : List O)[a]? = _ from h]; dsimp only; rw [if_pos hc]
theorem wps_par3 {i j l : Nat} {h : EV} : wps (sPar3 i j l f g h env m) K = wp (f env m) fun d m => wp (g env m) fun e m => wp (h env m) fun r m => K.nx (((env.set i (some d)).set j (some e)).set l (some r)) m := by
  unfold sPar3; rw [wps_ofE]; congr 1; funext d m; rw [wps_ofE]; congr 1; funext e m; rw [wps_ofE]; rfl
theorem wp_newD {Q : D → Mem → Prop} : wp (dNewD env m) Q = Q (.ref m.length) (m ++ [.dk []]) := rfl
theorem wp_un {h : D → Mem → R D} {Q : D → Mem → Prop} : wp (dUn h f env m) Q = wp (f env m) fun d m => wp (h d m) Q := by unfold dUn; rw [wp_bind]; congr 1; funext d m; rw [wp_noex]
theorem wp_neg {i : Int} {Q : D → Mem → Prop} : wp (opNeg (.int i) m) Q = Q (.int (-i)) m := rfl
theorem wp_in {ng : Bool} {x y : D} {Q : D → Mem → Prop} : wp (opIn ng x y m) Q = ∃ b, inB m x y = some b ∧ Q (.bl (if ng then !b else b)) m := by
  unfold opIn
  cases inB m x y with
  | none => simp [wp]
  | some b => simp [wp]
theorem wp_isN {ng : Bool} {x : D} {Q : D → Mem → Prop} : wp (opIsN ng x .non m) Q = Q (.bl (if ng then !(isNonB x) else isNonB x)) m := by
  cases x <;> cases ng <;> rfl
theorem mDct_at {F : Nat → List (Ky × D) → List D → Mem → R D} {kvs : List (Ky × D)} {as : List D} (h : At m a (.dk kvs)) : mDct F (.ref a) as m = F a kvs as m := by
  dsimp only [mDct]; rw [show (m : List O)[a]? = _ from h]
theorem wp_get1 {kvs : List (Ky × D)} {y : D} {k : Ky} {Q : D → Mem → Prop} (h : At m a (.dk kvs)) (hk : kyOf y = some k) : wp (mGet (.ref a) [y] m) Q = Q ((valK kvs k).getD .non) m := by
  unfold mGet; rw [mDct_at h]; dsimp only; rw [hk]; rfl
theorem wp_get2 {kvs : List (Ky × D)} {y z : D} {k : Ky} {Q : D → Mem → Prop} (h : At m a (.dk kvs)) (hk : kyOf y = some k) : wp (mGet (.ref a) [y, z] m) Q = Q ((valK kvs k).getD z) m := by
  unfold mGet; rw [mDct_at h]; dsimp only; rw [hk]; rfl
theorem wp_dpop2 {kvs : List (Ky × D)} {y z : D} {k : Ky} {Q : D → Mem → Prop} (h : At m a (.dk kvs)) (hk : kyOf y = some k) : wp (mDPop (.ref a) [y, z] m) Q = match valK kvs k with
    | some d => Q d (setM m a (.dk (dropKy kvs k)))
    | none => Q z m := by
  unfold mDPop; rw [mDct_at h]; dsimp only; rw [hk]; dsimp only
  cases valK kvs k <;> rfl
theorem wp_ix_d {kvs : List (Ky × D)} {y : D} {k : Ky} {Q : D → Mem → Prop} (h : At m a (.dk kvs)) (hk : kyOf y = some k) : wp (opIx (.ref a) y m) Q = ∃ d, valK kvs k = some d ∧ Q d m := by
  unfold opIx; dsimp only; rw [show (m : List O)[a]? = _ from h]; dsimp only; rw [hk]; dsimp only
  cases valK kvs k with
  | none => simp [wp]
  | some d => simp [wp]
theorem setIx_d {kvs : List (Ky × D)} {y v : D} {k : Ky} (h : At m a (.dk kvs)) (hk : kyOf y = some k) (hl : kvs.length < SZ) : setIx (.ref a) y v m = some (setM m a (.dk (putKy kvs k v))) := by
  dsimp only [setIx]; rw [show (m : List O)[a]? = _ from h]; dsimp only; rw [hk]; dsimp only; rw [if_pos hl]
theorem tyOk_d {kvs : List (Ky × D)} (h : At m a (.dk kvs)) : tyOk "dict" m (.ref a) = true := by
  dsimp only [tyOk]; rw [show (m : List O)[a]? = _ from h]; rfl
theorem tyOk_l {ds : List D} (h : At m a (.lst ds)) : tyOk "list" m (.ref a) = true := by
  dsimp only [tyOk]; rw [show (m : List O)[a]? = _ from h]; rfl
theorem wp_split {mt : Bool} {s t : List Nat} {Q : D → Mem → Prop} : wp (mSplit mt (.str s) [.str t] m) Q = ((t ≠ [] ∧ s.length + 2 ≤ SZ) ∧ wp (mkL mt ((Txt.split (stS s) (stS t)).map fun y => D.str (unS y)) m) Q) := by
  show wp (if t ≠ [] ∧ s.length + 2 ≤ SZ then mkL mt ((Txt.split (stS s) (stS t)).map fun y => D.str (unS y)) m else .bad) Q = _
  split
  · rename_i h; simp [h]
  · rename_i h; simp [h, wp]
theorem wp_lower {s : List Nat} {Q : D → Mem → Prop} : wp (mLower (.str s) [] m) Q = (s.length ≤ 5592405 ∧ Q (.str (unS (Txt.lower (stS s)))) m) := by
  show wp (okD _ _ m) Q = _; rw [wp_okD]; simp
theorem wp_find {s t : List Nat} {Q : D → Mem → Prop} : wp (mFind (.str s) [.str t] m) Q = Q (.int (Txt.find (stS s) (stS t))) m := rfl
theorem wp_max {i j : Int} {Q : D → Mem → Prop} : wp (bMax [.int i, .int j] m) Q = Q (.int (if j > i then j else i)) m := rfl
theorem wp_min {i j : Int} {Q : D → Mem → Prop} : wp (bMin [.int i, .int j] m) Q = Q (.int (if j < i then j else i)) m := rfl
theorem wp_mulL {mt : Bool} {x : D} {ds : List D} {k : Int} {Q : D → Mem → Prop} (h : plOf m x = some ds) (hk : -(2 ^ 63) ≤ k ∧ k < 2 ^ 63 ∧ ds.length * k.toNat ≤ SZ) : wp (opMul mt x (.int k) m) Q = wp (mkL mt (repD k.toNat ds) m) Q := by
  cases x with
  | fl es => cases h; show wp (if decide (-(2 ^ 63) ≤ k ∧ k < 2 ^ 63 ∧ ds.length * k.toNat ≤ SZ) then mkL mt (repD k.toNat ds) m else .bad) Q = _; rw [if_pos (decide_eq_true hk)]
  | ref a =>
    show wp (match plOf m (.ref a) with
      | some ds => if decide (-(2 ^ 63) ≤ k ∧ k < 2 ^ 63 ∧ ds.length * k.toNat ≤ SZ) then mkL mt (repD k.toNat ds) m else .bad
      | none => .bad) Q = _
    rw [h]; dsimp only; rw [if_pos (decide_eq_true hk)]
  | _ => cases h
theorem wp_addL {mt : Bool} {x y : D} {as bs : List D} {Q : D → Mem → Prop} (h : plOf m x = some as) (h2 : plOf m y = some bs) : wp (opAdd mt x y m) Q = wp (mkL mt (as ++ bs) m) Q := by
  have e : opAdd mt x y m = mkL mt (as ++ bs) m := by
    have e2 : opAdd mt x y m = match plOf m x, plOf m y with
      | some a, some b => mkL mt (a ++ b) m
      | _, _ => .bad := by
      cases x <;> first | (cases h; done) | rfl
    rw [e2, h, h2]
  rw [e]
theorem plOf_at {ds : List D} (h : At m a (.lst ds)) : plOf m (.ref a) = some ds := by dsimp only [plOf]; rw [show (m : List O)[a]? = _ from h]
theorem lstOf_at {ds : List D} (h : At m a (.lst ds)) : lstOf m (.ref a) = some ds := lst_ref h
theorem wp_pop {ds : List D} {d : D} {Q : D → Mem → Prop} (h : At m a (.lst (ds ++ [d]))) : wp (mPop (.ref a) [] m) Q = Q d (setM m a (.lst ds)) := by
  unfold mPop; dsimp only [mLst]; rw [show (m : List O)[a]? = _ from h]; dsimp only
  rw [show (ds ++ [d])[(ds ++ [d]).length - 1]? = some d by simp, List.dropLast_concat]
  rfl
theorem setM_pre {p r : Mem} {i : Nat} : setM (p ++ r) (p.length + i) o = p ++ setM r i o := by
  unfold setM
  rw [List.set_append_right _ _ (by omega)]
  congr 2
  omega
theorem valK_cons {k j : Ky} {v : D} {kvs : List (Ky × D)} : valK ((k, v) :: kvs) j = if j = k then some v else valK kvs j := by
  unfold valK
  rw [List.find?_cons]
  by_cases h : k = j
  · subst h; simp
  · simp [h, Ne.symm h]
theorem valK_app {j : Ky} {v : D} {k : Ky} : ∀ {kvs : List (Ky × D)}, (kvs.any fun kv => decide (kv.1 = k)) = false → valK (kvs ++ [(k, v)]) j = if j = k then some v else valK kvs j
  | [], _ => by rw [List.nil_append, valK_cons]
  | (k2, v2) :: r, h => by
    rw [List.any_cons, Bool.or_eq_false_iff] at h
    rw [List.cons_append, valK_cons, valK_cons, valK_app h.2]
    have : k2 ≠ k := by simpa using h.1
    by_cases c : j = k2
    · rw [if_pos c, if_pos c, if_neg (fun z => this (c.symm.trans z))]
    · rw [if_neg c, if_neg c]
theorem valK_map {j k : Ky} {v : D} : ∀ {kvs : List (Ky × D)}, (kvs.any fun kv => decide (kv.1 = k)) = true → valK (kvs.map fun kv => if kv.1 = k then (kv.1, v) else kv) j = if j = k then some v else valK kvs j
  | [], h => by cases h
  | (k2, v2) :: r, h => by
    rw [List.map_cons, valK_cons]
    by_cases c : k2 = k
    · subst c
      rw [if_pos rfl, valK_cons]
      by_cases c2 : j = k2
      · rw [if_pos c2, if_pos c2]
      · rw [if_neg c2, if_neg c2, if_neg c2]
        clear h
        induction r with
        | nil => rfl
        | cons q r ih =>
          obtain ⟨k3, v3⟩ := q
          rw [List.map_cons, valK_cons]
          by_cases c3 : k3 = k2
          · subst c3; rw [if_pos rfl, valK_cons, if_neg c2, if_neg c2]; exact ih
          · rw [if_neg c3, valK_cons, ih]
    · rw [if_neg c, valK_cons]
      have h2 : (r.any fun kv => decide (kv.1 = k)) = true := by
        rw [List.any_cons, Bool.or_eq_true] at h
        exact h.resolve_left (by simpa using c)
      rw [valK_map h2]
      by_cases c2 : j = k2
      · rw [if_pos c2, if_pos c2, if_neg (fun z => c (c2.symm.trans z))]
      · rw [if_neg c2, if_neg c2]
theorem valK_put {kvs : List (Ky × D)} {k j : Ky} {v : D} : valK (putKy kvs k v) j = if j = k then some v else valK kvs j := by
  unfold putKy
  split
  · rename_i h; exact valK_map h
  · rename_i h; exact valK_app (Bool.not_eq_true _ ▸ h)
theorem valK_drop {k j : Ky} : ∀ {kvs : List (Ky × D)}, valK (dropKy kvs k) j = if j = k then none else valK kvs j
  | [] => by unfold dropKy valK; simp
  | (k2, v2) :: r => by
    have ih := valK_drop (k := k) (j := j) (kvs := r)
    unfold dropKy at ih ⊢
    rw [valK_cons]
    by_cases c : k2 = k
    · rw [List.filter_cons_of_neg (by simpa using c), ih]
      by_cases c2 : j = k
      · rw [if_pos c2, if_pos c2]
      · rw [if_neg c2, if_neg c2, if_neg (fun z => c2 (z.trans c))]
    · rw [List.filter_cons_of_pos (by simpa using c), valK_cons, ih]
      by_cases c2 : j = k2
      · rw [if_pos c2, if_pos c2, if_neg (fun z => c (c2.symm.trans z))]
      · rw [if_neg c2, if_neg c2]
theorem put_len {kvs : List (Ky × D)} {k : Ky} {v : D} : (putKy kvs k v).length ≤ kvs.length + 1 := by
  unfold putKy; split <;> simp
theorem drop_len {kvs : List (Ky × D)} {k : Ky} : (dropKy kvs k).length ≤ kvs.length := List.length_filter_le ..
theorem wp_sl {mt : Bool} {lo hi : Option EV} {Q : D → Mem → Prop} : wp (dSl mt f lo hi env m) Q = wp (f env m) fun x m => wp (dBd lo env m) fun l m => wp (dBd hi env m) fun h m => wp (slD mt x l h m) Q := by
  unfold dSl; rw [wp_bind]; congr 1; funext x m; rw [wp_bind]; congr 1; funext l m; rw [wp_bind]; congr 1; funext h m; rw [wp_noex]
theorem wp_bd_n {Q : Option Int → Mem → Prop} : wp (dBd none env m) Q = Q none m := rfl
theorem wp_bd_s {Q : Option Int → Mem → Prop} : wp (dBd (some f) env m) Q = wp (f env m) fun x m => ∃ i, x = .int i ∧ Q (some i) m := by
  show wp ((f env m).bind _) Q = _
  rw [wp_bind]; congr 1; funext x m
  cases x <;> simp [wp]
theorem wp_sl_s {mt : Bool} {s : List Nat} {l h : Option Int} {Q : D → Mem → Prop} : wp (slD mt (.str s) l h m) Q = (s.length ≤ SZ ∧ Q (.str (cutN s l h)) m) := by
  show wp (okD _ _ m) Q = _; rw [wp_okD]; simp
theorem wp_sl_t {mt : Bool} {s : List D} {l h : Option Int} {Q : D → Mem → Prop} : wp (slD mt (.tup s) l h m) Q = ((cutD s l h).length ≤ SZ ∧ Q (.tup (cutD s l h)) m) := wp_mkT
theorem wp_sl_f {mt : Bool} {s : List D} {l h : Option Int} {Q : D → Mem → Prop} : wp (slD mt (.fl s) l h m) Q = wp (mkL mt (cutD s l h) m) Q := rfl
theorem loop_nil {p : Pat} {b : SV} : wps (loopF gT (bodyF p b) [] env m) K = K.nx env m := by
  have hg : gT m = true := rfl
  unfold loopF
  rw [if_pos hg]
  rfl
theorem loop_cons {p : Pat} {b : SV} {d : D} {ds : List D} (h : wps (bodyF p b d env m) ⟨fun e m => wps (loopF gT (bodyF p b) ds e m) K, K.rt, K.nx, fun e m => wps (loopF gT (bodyF p b) ds e m) K⟩) : wps (loopF gT (bodyF p b) (d :: ds) env m) K := by
  have hg : gT m = true := rfl
  unfold loopF
  rw [if_pos hg]
  cases e : bodyF p b d env m with
  | ok fl e2 m2 => rw [e] at h; cases fl <;> exact h
  | ex _ _ _ => rw [e] at h; exact h
  | bad => rw [e] at h; exact h
theorem bodyF_p {p : Pat} {b : SV} {d : D} {e : Itp.Env} (h : bindD p d env = some e) : bodyF p b d env m = b e m := by unfold bodyF; rw [h]
theorem eqM_se {v : List Nat} (hs : ∀ c ∈ v, c < 1114112) : eqM m (.str v) (.str []) = some v.isEmpty := by
  show (if SeqAt.shaped (.str (stS v)) && SeqAt.shaped (.str (stS [])) then some (PyData.eqv (.str (stS v)) (.str (stS []))) else none) = _
  rw [shaped_s hs, shaped_s (i := []) (by simp)]
  simp only [Bool.and_self, if_true]
  congr 1
  cases v with
  | nil => simp [PyData.eqv]
  | cons c v => simp [PyData.eqv, stS]
end
end Itp
set_option Elab.async false
set_option linter.all false
set_option maxRecDepth 100000
/-! Itp Q: the machine's terms, evaluated by rewriting. -/
namespace Itp
open PySem PySem.Spec PyProof.Rows L2
section
variable {α β : Type} {m l : Mem} {env : Itp.Env} {f g : EV} {a b : Nat} {ds es : List D} {d x y v : D} {o o2 : O}
theorem q_bok {a : α} {k : α → Mem → R β} : (R.ok a m).bind k = k a m := rfl
theorem q_bex {e : Exn} {k : α → Mem → R β} : (R.ex e m : R α).bind k = .ex e m := rfl
theorem q_bbad {k : α → Mem → R β} : (R.bad : R α).bind k = .bad := rfl
theorem q_eok {a : α} {k : α → Mem → RS} : ofE (.ok a m) env k = k a m := rfl
theorem q_eex {e : Exn} {k : α → Mem → RS} : ofE (.ex e m : R α) env k = .ex e env m := rfl
theorem q_ebad {k : α → Mem → RS} : ofE (.bad : R α) env k = .bad := rfl
theorem q_nok {a : α} : noex (.ok a m) = .ok a m := rfl
theorem q_nbad : noex (.bad : R α) = .bad := rfl
theorem q_args0 : dArgs [] env m = .ok [] m := rfl
theorem q_args1 {fs : List EV} : dArgs (f :: fs) env m = (f env m).bind fun x m1 => (dArgs fs env m1).bind fun xs m2 => .ok (x :: xs) m2 := rfl
/-! memory -/
theorem q_len : (m ++ l).length = m.length + l.length := List.length_append
theorem q_m0 : ((m ++ o :: l : Mem) : List O)[m.length]? = some o := by simp
theorem q_m1 {o1 : O} : ((m ++ o1 :: o :: l : Mem) : List O)[m.length + 1]? = some o := by simp
theorem q_m2 {o1 o2 : O} : ((m ++ o1 :: o2 :: o :: l : Mem) : List O)[m.length + 2]? = some o := by simp
theorem q_m3 {o1 o2 o3 : O} : ((m ++ o1 :: o2 :: o3 :: o :: l : Mem) : List O)[m.length + 3]? = some o := by simp
theorem q_s0 : setM (m ++ o :: l) m.length o2 = m ++ o2 :: l := by unfold setM; simp
theorem q_s1 {o1 : O} : setM (m ++ o1 :: o :: l) (m.length + 1) o2 = m ++ o1 :: o2 :: l := by unfold setM; simp
theorem q_s2 {o1 o3 : O} : setM (m ++ o1 :: o3 :: o :: l) (m.length + 2) o2 = m ++ o1 :: o3 :: o2 :: l := by unfold setM; simp
theorem q_s3 {o1 o3 o4 : O} : setM (m ++ o1 :: o3 :: o4 :: o :: l) (m.length + 3) o2 = m ++ o1 :: o3 :: o4 :: o2 :: l := by unfold setM; simp
theorem q_mL (h : a < m.length) : ((m ++ l : Mem) : List O)[a]? = (m : List O)[a]? := List.getElem?_append_left h
theorem q_sL (h : a < m.length) : setM (m ++ l) a o = setM m a o ++ l := by unfold setM; exact List.set_append_left _ _ h
theorem q_ss : setM (setM m a o) a o2 = setM m a o2 := set_set
theorem q_sg (h : a < m.length) : ((setM m a o : Mem) : List O)[a]? = some o := by unfold setM; exact List.getElem?_set_self h
theorem q_sl : (setM m a o).length = m.length := set_len
/-! sizes -/
theorem q_mkT (h : ds.length ≤ 16777216) : mkT ds m = .ok (.tup ds) m := if_pos h
theorem q_mkF (h : ds.length ≤ 16777216) : mkL false ds m = .ok (.fl ds) m := by unfold mkL; rw [if_pos h]; rfl
theorem q_mkM (h : ds.length ≤ 16777216) : mkL true ds m = .ok (.ref m.length) (m ++ [.lst ds]) := by unfold mkL; rw [if_pos h]; rfl
/-! operators -/
theorem q_addi {mt : Bool} {i j : Int} : opAdd mt (.int i) (.int j) m = .ok (.int (i + j)) m := rfl
theorem q_adds {mt : Bool} {s t : List Nat} (h : s.length + t.length ≤ 16777216) : opAdd mt (.str s) (.str t) m = .ok (.str (s ++ t)) m := by show okD _ _ m = _; unfold okD; rw [if_pos (decide_eq_true h)]
theorem q_addt {mt : Bool} : opAdd mt (.tup ds) (.tup es) m = mkT (ds ++ es) m := rfl
theorem q_addf {mt : Bool} : opAdd mt (.fl ds) (.fl es) m = mkL mt (ds ++ es) m := rfl
theorem q_addrf {mt : Bool} (h : (m : List O)[a]? = some (.lst ds)) : opAdd mt (.ref a) (.fl es) m = mkL mt (ds ++ es) m := by
  show (match plOf m (.ref a), plOf m (.fl es) with | some a, some b => mkL mt (a ++ b) m | _, _ => .bad) = _
  rw [show plOf m (.ref a) = some ds from plOf_at h]; rfl
theorem q_addfr {mt : Bool} (h : (m : List O)[a]? = some (.lst es)) : opAdd mt (.fl ds) (.ref a) m = mkL mt (ds ++ es) m := by
  show (match plOf m (.fl ds), plOf m (.ref a) with | some a, some b => mkL mt (a ++ b) m | _, _ => .bad) = _
  rw [show plOf m (.ref a) = some es from plOf_at h]; rfl
theorem q_subi {i j : Int} : opSub (.int i) (.int j) m = .ok (.int (i - j)) m := rfl
theorem q_muli {mt : Bool} {i j : Int} (h : (-(2 ^ 64) < i ∧ i < 2 ^ 64) ∧ (-(2 ^ 64) < j ∧ j < 2 ^ 64)) : opMul mt (.int i) (.int j) m = .ok (.int (i * j)) m := by
  show okD _ _ m = _; unfold okD; rw [if_pos (cMul_of (a := 64) (b := 64) (by omega) (by omega) (by omega) (by omega) (by omega))]
theorem q_divi {i j : Int} (h : 0 < j ∧ j < 2 ^ 62) : opFDiv (.int i) (.int j) m = .ok (.int (i / j)) m := by
  show okD _ _ m = _; unfold okD; rw [if_pos (cDiv_of (b := 62) h.1 (by omega) (by omega) (by omega))]
theorem q_modi {i j : Int} (h : 0 < j) : opMod (.int i) (.int j) m = .ok (.int (i % j)) m := by
  show okD _ _ m = _; unfold okD; rw [if_pos (cMod_of h)]
theorem q_lt {i j : Int} : opLt (.int i) (.int j) m = .ok (.bl (decide (i < j))) m := rfl
theorem q_le {i j : Int} : opLe (.int i) (.int j) m = .ok (.bl (decide (i ≤ j))) m := rfl
theorem q_gt {i j : Int} : opGt (.int i) (.int j) m = .ok (.bl (decide (j < i))) m := rfl
theorem q_ge {i j : Int} : opGe (.int i) (.int j) m = .ok (.bl (decide (j ≤ i))) m := rfl
theorem q_isn {ng : Bool} : opIsN ng x .non m = .ok (.bl (if ng then !(isNonB x) else isNonB x)) m := by cases x <;> cases ng <;> rfl
theorem q_eqb {ng c : Bool} (h : eqM m x y = some c) : opEq ng x y m = .ok (.bl (if ng then !c else c)) m := by unfold opEq; rw [h]
theorem q_eqi {ng : Bool} {i j : Int} : opEq ng (.int i) (.int j) m = .ok (.bl (if ng then !decide (i = j) else decide (i = j))) m := q_eqb eqM_i
theorem q_eqbb {ng : Bool} {i j : Bool} : opEq ng (.bl i) (.bl j) m = .ok (.bl (if ng then !decide (i = j) else decide (i = j))) m := q_eqb eqM_b
theorem q_eqse {ng : Bool} {s : List Nat} (h : ∀ c ∈ s, c < 1114112) : opEq ng (.str s) (.str []) m = .ok (.bl (if ng then !s.isEmpty else s.isEmpty)) m := q_eqb (eqM_se h)
theorem q_ixt {i : Int} : opIx (.tup ds) (.int i) m = match L2.atI ds i with | some d => .ok d m | none => .bad := rfl
theorem q_ixf {i : Int} : opIx (.fl ds) (.int i) m = match L2.atI ds i with | some d => .ok d m | none => .bad := rfl
theorem q_ixsc {i : Int} : opIx (.sc ds) (.int i) m = match L2.atI ds i with | some d => .ok d m | none => .bad := rfl
theorem q_ixr {i : Int} (h : (m : List O)[a]? = some (.lst ds)) : opIx (.ref a) (.int i) m = match L2.atI ds i with | some d => .ok d m | none => .bad := opIx_l (lst_ref h)
theorem q_ixrm {i : Int} : opIx (.ref m.length) (.int i) (m ++ .lst ds :: l) = match L2.atI ds i with | some d => .ok d (m ++ .lst ds :: l) | none => .bad := q_ixr q_m0
theorem q_atI {i : Nat} : L2.atI ds (i : Int) = ds[i]? := by
  unfold L2.atI L2.ixN
  by_cases h : i < ds.length
  · rw [if_pos (by omega), Int.toNat_natCast, if_pos (by omega)]; rfl
  · rw [if_pos (by omega), Int.toNat_natCast, if_neg (by omega), List.getElem?_eq_none (by omega)]; rfl
theorem q_lens {s : List Nat} (h : s.length ≤ 16777216) : bLen [.str s] m = .ok (.int s.length) m := by show okD _ _ m = _; unfold okD; rw [if_pos (decide_eq_true h)]
theorem q_lent : bLen [.tup ds] m = .ok (.int ds.length) m := rfl
theorem q_lenf : bLen [.fl ds] m = .ok (.int ds.length) m := rfl
theorem q_lensc : bLen [.sc ds] m = .ok (.int ds.length) m := rfl
theorem q_lenr (h : (m : List O)[a]? = some (.lst ds)) : bLen [.ref a] m = .ok (.int ds.length) m := by
  show (match lstOf m (.ref a) with | some ds => R.ok (D.int ds.length) m | none => R.bad) = _
  rw [lst_ref h]
theorem q_lenrm : bLen [.ref m.length] (m ++ .lst ds :: l) = .ok (.int ds.length) (m ++ .lst ds :: l) := q_lenr q_m0
theorem q_inti {i : Int} : bInt [.int i] m = .ok (.int i) m := rfl
theorem q_intb {i : Bool} : bInt [.bl i] m = .ok (.int (if i then 1 else 0)) m := rfl
theorem q_ord {c : Nat} : bOrd [.str [c]] m = .ok (.int c) m := rfl
theorem q_tupt : bTuple [.tup ds] m = .ok (.tup ds) m := rfl
theorem q_tupf : bTuple [.fl ds] m = mkT ds m := rfl
theorem q_tupr (h : (m : List O)[a]? = some (.lst ds)) : bTuple [.ref a] m = mkT ds m := by
  show (match lstOf m (.ref a) with | some ds => mkT ds m | none => .bad) = _; rw [lst_ref h]
theorem q_tuprm : bTuple [.ref m.length] (m ++ .lst ds :: l) = mkT ds (m ++ .lst ds :: l) := q_tupr q_m0
theorem q_lstt {mt : Bool} : bList mt [.tup ds] m = mkL mt ds m := rfl
theorem q_lstf {mt : Bool} : bList mt [.fl ds] m = mkL mt ds m := rfl
theorem q_lstr {mt : Bool} (h : (m : List O)[a]? = some (.lst ds)) : bList mt [.ref a] m = mkL mt ds m := by
  show (match sqOf m (.ref a) with | some ds => mkL mt ds m | none => .bad) = _; rw [show sqOf m (.ref a) = some ds from lst_ref h]
theorem q_app (h : (m : List O)[a]? = some (.lst ds)) (hl : ds.length < 16777216) : mAppend (.ref a) [y] m = .ok .non (setM m a (.lst (ds ++ [y]))) := by
  show (match (m : List O)[a]? with | some (.lst ds) => if ds.length < SZ then R.ok D.non (setM m a (.lst (ds ++ [y]))) else .bad | _ => .bad) = _
  rw [h]; dsimp only; rw [if_pos hl]
theorem q_appm (hl : ds.length < 16777216) : mAppend (.ref m.length) [y] (m ++ .lst ds :: l) = .ok .non (m ++ .lst (ds ++ [y]) :: l) := by rw [q_app q_m0 hl, q_s0]
theorem q_ext (h : (m : List O)[a]? = some (.lst ds)) (hl : ds.length + es.length ≤ 16777216) : mExtend (.ref a) [.fl es] m = .ok .non (setM m a (.lst (ds ++ es))) := by
  show (match (m : List O)[a]? with | some (.lst ds) => if ds.length + es.length ≤ SZ then R.ok D.non (setM m a (.lst (ds ++ es))) else .bad | _ => .bad) = _
  rw [h]; dsimp only; rw [if_pos hl]
theorem q_extm (hl : ds.length + es.length ≤ 16777216) : mExtend (.ref m.length) [.fl es] (m ++ .lst ds :: l) = .ok .non (m ++ .lst (ds ++ es) :: l) := by rw [q_ext q_m0 hl, q_s0]
theorem q_tyr (h : (m : List O)[a]? = some (.lst ds)) : tyOk "list" m (.ref a) = true := tyOk_l h
theorem q_tyrm : tyOk "list" (m ++ .lst ds :: l) (.ref m.length) = true := tyOk_l q_m0
theorem q_tyf : tyOk "list" m (.fl ds) = true := rfl
theorem q_tysc : tyOk "list" m (.sc ds) = true := rfl
theorem q_tys {s : List Nat} : tyOk "str" m (.str s) = true := rfl
theorem q_tyd {kvs : List (Ky × D)} (h : (m : List O)[a]? = some (.dk kvs)) : tyOk "dict" m (.ref a) = true := tyOk_d h
theorem q_bds : dBd none env m = .ok none m := rfl
theorem q_bd : dBd (some f) env m = (f env m).bind fun x m1 => match x with | .int i => .ok (some i) m1 | _ => .bad := rfl
theorem q_slf {mt : Bool} {lo hi : Option Int} : slD mt (.fl ds) lo hi m = mkL mt (cutD ds lo hi) m := rfl
theorem q_slt {mt : Bool} {lo hi : Option Int} : slD mt (.tup ds) lo hi m = mkT (cutD ds lo hi) m := rfl
theorem q_sls {mt : Bool} {s : List Nat} {lo hi : Option Int} (h : s.length ≤ 16777216) : slD mt (.str s) lo hi m = .ok (.str (cutN s lo hi)) m := by show okD _ _ m = _; unfold okD; rw [if_pos (decide_eq_true h)]
theorem q_slr {mt : Bool} {lo hi : Option Int} (h : (m : List O)[a]? = some (.lst ds)) : slD mt (.ref a) lo hi m = mkL mt (cutD ds lo hi) m := by
  show (match lstOf m (.ref a) with | some ds => mkL mt (cutD ds lo hi) m | none => .bad) = _; rw [lst_ref h]
theorem cutD_le' {ds : List D} {lo hi : Option Int} : (cutD ds lo hi).length ≤ ds.length := by unfold cutD; rw [List.length_take, List.length_drop]; omega
theorem q_slfF {lo hi : Option Int} (h : ds.length ≤ 16777216) : slD false (.fl ds) lo hi m = .ok (.fl (cutD ds lo hi)) m := q_mkF (Nat.le_trans cutD_le' h)
theorem q_slfM {lo hi : Option Int} (h : ds.length ≤ 16777216) : slD true (.fl ds) lo hi m = .ok (.ref m.length) (m ++ [.lst (cutD ds lo hi)]) := q_mkM (Nat.le_trans cutD_le' h)
theorem q_sltT {mt : Bool} {lo hi : Option Int} (h : ds.length ≤ 16777216) : slD mt (.tup ds) lo hi m = .ok (.tup (cutD ds lo hi)) m := q_mkT (Nat.le_trans cutD_le' h)
theorem cutD_le {lo hi : Option Int} : (cutD ds lo hi).length ≤ ds.length := by unfold cutD; rw [List.length_take, List.length_drop]; omega
theorem cutN_le {ds : List Nat} {lo hi : Option Int} : (cutN ds lo hi).length ≤ ds.length := by unfold cutN; rw [List.length_take, List.length_drop]; omega
/-! what is left behind a call -/
mutual
def D.pl : D → Bool
  | .tup ds => D.pls ds
  | .fl ds => D.pls ds
  | .sc ds => D.pls ds
  | .ref _ => false
  | _ => true
def D.pls : List D → Bool
  | [] => true
  | d :: ds => D.pl d && D.pls ds
end
mutual
theorem mapR_pl {h : Nat → Option D} : ∀ d : D, d.pl = true → D.mapR h d = some d
  | .non, _ => rfl
  | .bl _, _ => rfl
  | .int _, _ => rfl
  | .str _, _ => rfl
  | .tup ds, e => by unfold D.mapR; rw [mapRs_pl ds e]; rfl
  | .fl ds, e => by unfold D.mapR; rw [mapRs_pl ds e]; rfl
  | .sc ds, e => by unfold D.mapR; rw [mapRs_pl ds e]; rfl
  | .ref _, e => by cases e
theorem mapRs_pl {h : Nat → Option D} : ∀ ds : List D, D.pls ds = true → D.mapRs h ds = some ds
  | [], _ => rfl
  | d :: ds, e => by
    unfold D.pls at e
    rw [Bool.and_eq_true] at e
    unfold D.mapRs
    rw [mapR_pl d e.1, mapRs_pl ds e.2]
end
theorem q_pls_all : ∀ ds : List D, D.pls ds = ds.all D.pl
  | [] => rfl
  | d :: ds => by unfold D.pls; rw [q_pls_all ds, List.all_cons]
theorem q_pls_map {α : Type} {fn : α → D} (h : ∀ x, (fn x).pl = true) (L : List α) : D.pls (L.map fn) = true := by
  rw [q_pls_all, List.all_map]
  exact List.all_eq_true.mpr fun x _ => h x
theorem q_pls_ints (L : List Int) : D.pls (L.map D.int) = true := q_pls_map (fun _ => rfl) L
theorem q_pls_strs (L : List (List Nat)) : D.pls (L.map D.str) = true := q_pls_map (fun _ => rfl) L
theorem q_pls_bls (L : List Bool) : D.pls (L.map D.bl) = true := q_pls_map (fun _ => rfl) L
theorem q_pls_app {a b : List D} : D.pls (a ++ b) = (D.pls a && D.pls b) := by simp [q_pls_all]
theorem popM_self {g : O → Option O} : ∀ (m l : List O), popM g m (m ++ l) = some m
  | [], _ => rfl
  | o :: m, l => by
    show (if O.beq o o then (popM g m (m ++ l)).map (o :: ·) else _) = _
    rw [if_pos (O.beq_refl o), popM_self m l]; rfl
theorem clFs_pl {α : Type} {n : Nat} : ∀ fs : List (α × D), fs.all (fun p => p.2.pl) = true → clFs n fs = true
  | [], _ => rfl
  | (x, d) :: r, h => by
    rw [List.all_cons, Bool.and_eq_true] at h
    unfold clFs
    rw [mapR_pl d h.1, clFs_pl r h.2]; rfl
theorem q_popk (h : D.pls ds = true) : popK m (.ok (.ref m.length) (m ++ .lst ds :: l)) = .ok (.ref m.length) (m ++ [.lst ds]) := by
  dsimp only [popK]
  rw [if_neg (Nat.lt_irrefl _), q_m0, popM_self]
  dsimp only
  rw [mapRs_pl ds h]; rfl
theorem q_popkn {n : Nat} {M : Mem} (hn : (M : List O)[n]? = some (.lst ds)) (hm : m <+: M) (hl : m.length ≤ n) (h : D.pls ds = true) : popK m (.ok (.ref n) M) = .ok (.ref m.length) (m ++ [.lst ds]) := by
  obtain ⟨t, rfl⟩ := hm
  dsimp only [popK]
  rw [if_neg (by omega), hn, popM_self]
  dsimp only
  rw [mapRs_pl ds h]; rfl
theorem q_pop (h : d.pl = true) : popR m (.ok d (m ++ l)) = .ok d m := by
  dsimp only [popR]; rw [popM_self, show frzD (m ++ l) m.length d = some d from mapR_pl d h]
theorem q_pop0 (h : d.pl = true) : popR m (.ok d m) = .ok d m := by
  have := q_pop (m := m) (l := []) h
  rwa [List.append_nil] at this
theorem q_pope {c : Str} {fs : List (Str × D)} (h : fs.all (fun p => p.2.pl) = true) : popR m (.ex ⟨c, fs⟩ (m ++ l)) = .ex ⟨c, fs⟩ m := by
  dsimp only [popR]; rw [popM_self]
  have e : ∀ fs : List (Str × D), fs.all (fun p => p.2.pl) = true → frzFs (m ++ l) m.length fs = some fs := by
    intro fs
    induction fs with
    | nil => intro _; rfl
    | cons p r ih =>
      intro h
      rw [List.all_cons, Bool.and_eq_true] at h
      unfold frzFs
      rw [show frzD (m ++ l) m.length p.2 = some p.2 from mapR_pl _ h.1, ih h.2]
  rw [e fs h]
theorem q_popr (h : D.pls ds = true) : popR m (.ok (.ref m.length) (m ++ .lst ds :: l)) = .ok (.fl ds) m := by
  dsimp only [popR]; rw [popM_self]
  have e : frzD (m ++ .lst ds :: l) m.length (.ref m.length) = some (.fl ds) := by
    show frzRef _ _ 6 m.length = _
    unfold frzRef
    rw [if_neg (Nat.lt_irrefl _), q_m0]
    show (D.mapRs _ ds).map D.fl = _
    rw [mapRs_pl ds h]; rfl
  rw [e]
theorem popM_set {g : O → Option O} : ∀ (m l : List O) (a : Nat) (o : O), a < m.length → g o = some o → popM g m (m.set a o ++ l) = some (m.set a o)
  | [], _, _, _, h, _ => by cases h
  | p :: m, l, 0, o, _, hg => by
    show (if O.beq p o then (popM g m (m ++ l)).map (p :: ·) else match g o, popM g m (m ++ l) with
      | some x, some xs => some (x :: xs)
      | _, _ => none) = _
    rw [popM_self, hg]
    split
    · rename_i e; rw [O.beq_eq e]; rfl
    · rfl
  | p :: m, l, a + 1, o, h, hg => by
    show (if O.beq p p then (popM g m (m.set a o ++ l)).map (p :: ·) else _) = _
    rw [if_pos (O.beq_refl p), popM_set m l a o (by simpa using h) hg]; rfl
def O.pl : O → Bool
  | .lst ds => D.pls ds
  | .dk ks => ks.all fun p => p.2.pl
  | .ins _ fs => fs.all fun p => p.2.pl
theorem frzFs_pl {α : Type} {m' : Mem} {n : Nat} : ∀ fs : List (α × D), fs.all (fun p => p.2.pl) = true → frzFs m' n fs = some fs
  | [], _ => rfl
  | (x, d) :: r, h => by
    rw [List.all_cons, Bool.and_eq_true] at h
    unfold frzFs
    rw [show frzD m' n d = some d from mapR_pl _ h.1, frzFs_pl r h.2]
theorem frzO_pl {m' : Mem} {n : Nat} : ∀ {o : O}, o.pl = true → frzO m' n o = some o
  | .lst ds, h => by show (D.mapRs _ ds).map O.lst = _; rw [mapRs_pl ds h]; rfl
  | .dk ks, h => by show (frzFs m' n ks).map O.dk = _; rw [frzFs_pl ks h]; rfl
  | .ins c fs, h => by show (frzFs m' n fs).map (O.ins c) = _; rw [frzFs_pl fs h]; rfl
theorem q_pops (ha : a < m.length) (ho : o.pl = true) (h : d.pl = true) : popR m (.ok d (setM m a o ++ l)) = .ok d (setM m a o) := by
  dsimp only [popR, setM]
  rw [popM_set m l a o ha (frzO_pl ho), show frzD (m.set a o ++ l) m.length d = some d from mapR_pl d h]
theorem q_pops0 (ha : a < m.length) (ho : o.pl = true) (h : d.pl = true) : popR m (.ok d (setM m a o)) = .ok d (setM m a o) := by
  have := q_pops (m := m) (l := []) ha ho h
  rwa [List.append_nil] at this
end
/-! loops -/
section
variable {S : Type} {K : Type}
/-- a for loop whose body goes on each time -/
theorem for_run {gd : Mem → Bool} {body : D → SV} {ds : List D} (E : S → Itp.Env) (M : S → Mem) (inv : Nat → S → Prop) (hg : ∀ i s, inv i s → gd (M s) = true)
    (hb : ∀ i s d, ds[i]? = some d → inv i s → ∃ s', (body d (E s) (M s) = .ok .nx (E s') (M s') ∨ body d (E s) (M s) = .ok .cont (E s') (M s')) ∧ inv (i + 1) s') {s0 : S} (h0 : inv 0 s0) : ∃ s', loopF gd body ds (E s0) (M s0) = .ok .nx (E s') (M s') ∧ inv ds.length s' := by
  have go : ∀ (n i : Nat) (s : S), ds.length = i + n → inv i s → ∃ s', loopF gd body (ds.drop i) (E s) (M s) = .ok .nx (E s') (M s') ∧ inv ds.length s' := by
    intro n
    induction n with
    | zero =>
      intro i s hl h
      rw [List.drop_eq_nil_of_le (by omega)]
      refine ⟨s, ?_, by rw [show ds.length = i by omega]; exact h⟩
      unfold loopF; rw [if_pos (hg i s h)]
    | succ n ih =>
      intro i s hl h
      have hi : i < ds.length := by omega
      rw [List.drop_eq_getElem_cons hi]
      obtain ⟨s1, e1, h1⟩ := hb i s _ (List.getElem?_eq_getElem hi) h
      obtain ⟨s2, e2, h2⟩ := ih (i + 1) s1 (by omega) h1
      refine ⟨s2, ?_, h2⟩
      unfold loopF
      rw [if_pos (hg i s h)]
      rcases e1 with e1 | e1 <;> (rw [e1]; exact e2)
  have := go ds.length 0 s0 (by omega) h0
  simpa using this
/-- a for loop that may be left: by return, break or an exception -/
theorem for_run2 {gd : Mem → Bool} {body : D → SV} {ds : List D} (E : S → Itp.Env) (M : S → Mem) (inv : Nat → S → Prop) (P : RS → Prop) (hg : ∀ i s, inv i s → gd (M s) = true)
    (hb : ∀ i s d, ds[i]? = some d → inv i s → (∃ s', (body d (E s) (M s) = .ok .nx (E s') (M s') ∨ body d (E s) (M s) = .ok .cont (E s') (M s')) ∧ inv (i + 1) s') ∨ (∃ r, body d (E s) (M s) = r ∧ match r with
      | .ok .brk e m => P (.ok .nx e m)
      | .ok (.ret d) e m => P (.ok (.ret d) e m)
      | .ex x e m => P (.ex x e m)
      | _ => False)) {s0 : S} (h0 : inv 0 s0) (hend : ∀ s, inv ds.length s → P (.ok .nx (E s) (M s))) : P (loopF gd body ds (E s0) (M s0)) := by
  have go : ∀ (n i : Nat) (s : S), ds.length = i + n → inv i s → P (loopF gd body (ds.drop i) (E s) (M s)) := by
    intro n
    induction n with
    | zero =>
      intro i s hl h
      rw [List.drop_eq_nil_of_le (by omega)]
      unfold loopF; rw [if_pos (hg i s h)]
      exact hend s (by rw [show ds.length = i by omega]; exact h)
    | succ n ih =>
      intro i s hl h
      have hi : i < ds.length := by omega
      rw [List.drop_eq_getElem_cons hi]
      unfold loopF
      rw [if_pos (hg i s h)]
      rcases hb i s _ (List.getElem?_eq_getElem hi) h with ⟨s1, e1, h1⟩ | ⟨r, e1, h1⟩
      · have := ih (i + 1) s1 (by omega) h1
        rcases e1 with e1 | e1 <;> (rw [e1]; exact this)
      · rw [e1]
        match r, h1 with
        | .ok .brk e m, h1 => exact h1
        | .ok (.ret d) e m, h1 => exact h1
        | .ex x e m, h1 => exact h1
        | .ok .nx _ _, h1 => exact h1.elim
        | .ok .cont _ _, h1 => exact h1.elim
        | .bad, h1 => exact h1.elim
  have := go ds.length 0 s0 (by omega) h0
  simpa using this
theorem while_run {t : TV} {b : SV} (E : S → Itp.Env) (M : S → Mem) (inv : S → Prop) (c : S → Bool) (mu : S → Nat)
    (ht : ∀ s, inv s → t (E s) (M s) = .ok (c s) (M s)) (hb : ∀ s, inv s → c s = true → ∃ s', (b (E s) (M s) = .ok .nx (E s') (M s') ∨ b (E s) (M s) = .ok .cont (E s') (M s')) ∧ inv s' ∧ mu s' < mu s) {s0 : S} (h0 : inv s0) (hm : mu s0 < 2 ^ 200) :
    ∃ s', sWhile t b (E s0) (M s0) = .ok .nx (E s') (M s') ∧ inv s' ∧ c s' = false := by
  have go : ∀ (f n : Nat) (s : S), mu s ≤ n → n < f → inv s → ∃ s', whileN t b f (E s) (M s) = .ok .nx (E s') (M s') ∧ inv s' ∧ c s' = false := by
    intro f
    induction f with
    | zero => intro n s _ h; omega
    | succ f ih =>
      intro n s hn hf h
      unfold whileN
      rw [ht s h, q_eok]
      cases e : c s with
      | false => exact ⟨s, by rw [if_neg Bool.false_ne_true], h, e⟩
      | true =>
        obtain ⟨s1, e1, h1, h2⟩ := hb s h e
        obtain ⟨s2, e2, h3⟩ := ih (n - 1) s1 (by omega) (by omega) h1
        refine ⟨s2, ?_, h3⟩
        rw [if_pos rfl]
        rcases e1 with e1 | e1 <;> (rw [e1]; exact e2)
  exact go FU (mu s0) s0 (Nat.le_refl _) (Nat.lt_trans hm (FU_gt (by omega))) h0
theorem while_run2 {t : TV} {b : SV} (E : S → Itp.Env) (M : S → Mem) (inv : S → Prop) (c : S → Bool) (mu : S → Nat) (P : RS → Prop)
    (ht : ∀ s, inv s → t (E s) (M s) = .ok (c s) (M s)) (hb : ∀ s, inv s → c s = true → (∃ s', (b (E s) (M s) = .ok .nx (E s') (M s') ∨ b (E s) (M s) = .ok .cont (E s') (M s')) ∧ inv s' ∧ mu s' < mu s) ∨ (∃ r, b (E s) (M s) = r ∧ match r with
      | .ok .brk e m => P (.ok .nx e m)
      | .ok (.ret d) e m => P (.ok (.ret d) e m)
      | .ex x e m => P (.ex x e m)
      | _ => False)) {s0 : S} (h0 : inv s0) (hm : mu s0 < 2 ^ 200) (hend : ∀ s, inv s → c s = false → P (.ok .nx (E s) (M s))) : P (sWhile t b (E s0) (M s0)) := by
  have go : ∀ (f n : Nat) (s : S), mu s ≤ n → n < f → inv s → P (whileN t b f (E s) (M s)) := by
    intro f
    induction f with
    | zero => intro n s _ h; omega
    | succ f ih =>
      intro n s hn hf h
      unfold whileN
      rw [ht s h, q_eok]
      cases e : c s with
      | false => rw [if_neg Bool.false_ne_true]; exact hend s h e
      | true =>
        rw [if_pos rfl]
        rcases hb s h e with ⟨s1, e1, h1, h2⟩ | ⟨r, e1, h1⟩
        · have := ih (n - 1) s1 (by omega) (by omega) h1
          rcases e1 with e1 | e1 <;> (rw [e1]; exact this)
        · rw [e1]
          match r, h1 with
          | .ok .brk e m, h1 => exact h1
          | .ok (.ret d) e m, h1 => exact h1
          | .ex x e m, h1 => exact h1
          | .ok .nx _ _, h1 => exact h1.elim
          | .ok .cont _ _, h1 => exact h1.elim
          | .bad, h1 => exact h1.elim
  exact go FU (mu s0) s0 (Nat.le_refl _) (Nat.lt_trans hm (FU_gt (by omega))) h0
end
end Itp
set_option Elab.async false
set_option linter.all false
set_option maxRecDepth 100000
/-! Itp R: evaluation in order: what waits for a value stands as a frame around it. -/
namespace Itp
open PySem PySem.Spec PyProof.Rows L2
section
variable {α β : Type} {m m1 l : Mem} {env e1 : Itp.Env} {f g k : EV} {t u : TV} {s v : SV} {a b i j n : Nat} {ds es xs : List D} {d x y z : D} {o o2 : O} {fs : List EV} {mt : Bool}
  {h h1 h2 : D → D → Mem → R D} {hu : D → Mem → R D} {hb : List D → Mem → R D} {hm : D → List D → Mem → R D} {X : Exn} {F : List D → Mem → R D} {ty : String} {c : Bool} {fl : Fl} {P : Pat} {IT : IV} {iv : IterV}
/-! frames -/
def kBin (h : D → D → Mem → R D) (g : EV) (env : Itp.Env) (r : R D) : R D := r.bind fun x m1 => (g env m1).bind fun y m2 => noex (h x y m2)
def kBin2 (h : D → D → Mem → R D) (x : D) (r : R D) : R D := r.bind fun y m2 => noex (h x y m2)
def kUn (h : D → Mem → R D) (r : R D) : R D := r.bind fun x m1 => noex (h x m1)
def kArg (fs : List EV) (env : Itp.Env) (r : R D) : R (List D) := r.bind fun x m1 => (dArgs fs env m1).bind fun xs m2 => .ok (x :: xs) m2
def kArg2 (x : D) (r : R (List D)) : R (List D) := r.bind fun xs m2 => .ok (x :: xs) m2
def kCB (h : List D → Mem → R D) (r : R (List D)) : R D := r.bind fun xs m1 => noex (h xs m1)
def kCall (F : List D → Mem → R D) (r : R (List D)) : R D := r.bind fun xs m1 => F xs m1
def kMt (ty : String) (h : D → List D → Mem → R D) (fs : List EV) (env : Itp.Env) (r : R D) : R D := r.bind fun x m1 => if tyOk ty m1 x then (dArgs fs env m1).bind fun xs m2 => noex (h x xs m2) else .bad
def kMt2 (h : D → List D → Mem → R D) (x : D) (r : R (List D)) : R D := r.bind fun xs m2 => noex (h x xs m2)
def kTest (r : R D) : R Bool := r.bind fun x m1 => match truthD m1 x with
  | some b => .ok b m1
  | none => .bad
def kTest2 (o : Option Bool) (m : Mem) : R Bool := match o with
  | some b => .ok b m
  | none => .bad
def kBl (r : R D) : R Bool := r.bind fun x m1 => match x with
  | .bl b => .ok b m1
  | _ => .bad
def kAndV (g : EV) (env : Itp.Env) (r : R D) : R D := r.bind fun x m1 => match truthD m1 x with
  | some true => g env m1
  | some false => .ok x m1
  | none => .bad
def kAndV2 (g : EV) (env : Itp.Env) (x : D) (m1 : Mem) (o : Option Bool) : R D := match o with
  | some true => g env m1
  | some false => .ok x m1
  | none => .bad
def kOrV (g : EV) (env : Itp.Env) (r : R D) : R D := r.bind fun x m1 => match truthD m1 x with
  | some true => .ok x m1
  | some false => g env m1
  | none => .bad
def kOrV2 (g : EV) (env : Itp.Env) (x : D) (m1 : Mem) (o : Option Bool) : R D := match o with
  | some true => .ok x m1
  | some false => g env m1
  | none => .bad
def kNotV (r : R D) : R D := r.bind fun x m1 => match truthD m1 x with
  | some b => .ok (.bl (!b)) m1
  | none => .bad
def kNotV2 (m1 : Mem) (o : Option Bool) : R D := match o with
  | some b => .ok (.bl (!b)) m1
  | none => .bad
def kAndT (u : TV) (env : Itp.Env) (r : R Bool) : R Bool := r.bind fun b m1 => if b then u env m1 else .ok false m1
def kOrT (u : TV) (env : Itp.Env) (r : R Bool) : R Bool := r.bind fun b m1 => if b then .ok true m1 else u env m1
def kNotT (r : R Bool) : R Bool := r.bind fun b m1 => .ok (!b) m1
def kIf (f g : EV) (env : Itp.Env) (r : R Bool) : R D := r.bind fun b m1 => if b then f env m1 else g env m1
def kTup (r : R (List D)) : R D := r.bind fun xs m1 => mkT xs m1
def kLst (mt : Bool) (r : R (List D)) : R D := r.bind fun xs m1 => mkL mt xs m1
def kChain (h1 h2 : D → D → Mem → R D) (g k : EV) (env : Itp.Env) (r : R D) : R D := r.bind fun x m1 => (g env m1).bind fun y m2 => (noex (h1 x y m2)).bind fun z m3 => match z with
  | .bl true => (k env m3).bind fun w m4 => noex (h2 y w m4)
  | .bl false => .ok (.bl false) m3
  | _ => .bad
def kChain2 (h1 h2 : D → D → Mem → R D) (k : EV) (env : Itp.Env) (x : D) (r : R D) : R D := r.bind fun y m2 => (noex (h1 x y m2)).bind fun z m3 => match z with
  | .bl true => (k env m3).bind fun w m4 => noex (h2 y w m4)
  | .bl false => .ok (.bl false) m3
  | _ => .bad
def kChain3 (h2 : D → D → Mem → R D) (k : EV) (env : Itp.Env) (y : D) (r : R D) : R D := r.bind fun z m3 => match z with
  | .bl true => (k env m3).bind fun w m4 => noex (h2 y w m4)
  | .bl false => .ok (.bl false) m3
  | _ => .bad
def kIsi (ts : List Ty) (r : R D) : R D := r.bind fun x m1 => match tyD m1 x with
  | some t => .ok (.bl (ts.any (isT t))) m1
  | none => .bad
def kIsi2 (ts : List Ty) (m1 : Mem) (o : Option Ty) : R D := match o with
  | some t => .ok (.bl (ts.any (isT t))) m1
  | none => .bad
def kBd (r : R D) : R (Option Int) := r.bind fun x m1 => match x with
  | .int i => .ok (some i) m1
  | _ => .bad
def kSl (mt : Bool) (lo hi : Option EV) (env : Itp.Env) (r : R D) : R D := r.bind fun x m1 => (dBd lo env m1).bind fun l m2 => (dBd hi env m2).bind fun h m3 => noex (slD mt x l h m3)
def kSl2 (mt : Bool) (hi : Option EV) (env : Itp.Env) (x : D) (r : R (Option Int)) : R D := r.bind fun l m2 => (dBd hi env m2).bind fun h m3 => noex (slD mt x l h m3)
def kSl3 (mt : Bool) (x : D) (l : Option Int) (r : R (Option Int)) : R D := r.bind fun h m3 => noex (slD mt x l h m3)
def kIt (r : R D) : R IterV := r.bind itD
def kEnum (r : R D) : R IterV := r.bind fun x m1 => match enOf m1 x with
  | some iv => .ok iv m1
  | none => .bad
def kOpI (m1 : Mem) (o : Option IterV) : R IterV := match o with
  | some iv => .ok iv m1
  | none => .bad
def kZip (g : EV) (env : Itp.Env) (r : R D) : R IterV := r.bind fun x m1 => (g env m1).bind fun y m2 => match zipOf m2 x y with
  | some iv => .ok iv m2
  | none => .bad
def kZip2 (x : D) (r : R D) : R IterV := r.bind fun y m2 => match zipOf m2 x y with
  | some iv => .ok iv m2
  | none => .bad
def kRng (r : R (List D)) : R IterV := r.bind fun ds m1 => match ds with
  | [.int j] => if smallI j then .ok ⟨rngL 0 j.toNat, gT⟩ m1 else .bad
  | [.int i, .int j] => if smallI i && smallI j then .ok ⟨rngL i (j - i).toNat, gT⟩ m1 else .bad
  | [.int i, .int j, .int k] => if decide (k = -1) && (smallI i && smallI j) then .ok ⟨rngD i (i - j).toNat, gT⟩ m1 else .bad
  | _ => .bad
def kLc (mt : Bool) (vs : List Nat) (p : Pat) (t : TV) (f : EV) (env : Itp.Env) (r : R IterV) : R D := r.bind fun iv m1 => (loopC iv.gd (bodyC vs p t f env) iv.its [] m1).bind fun acc m2 => mkL mt acc m2
def kLc2 (mt : Bool) (r : R (List D)) : R D := r.bind fun acc m2 => mkL mt acc m2
def kBodyC (f : EV) (env : Itp.Env) (r : R Bool) : R (Option D) := (noex r).bind fun b m1 => if b then (noex (f env m1)).bind fun y m2 => .ok (some y) m2 else .ok none m1
def kSome (r : R D) : R (Option D) := (noex r).bind fun y m2 => .ok (some y) m2
def kAttr (x : Str) (r : R D) : R D := r.bind fun d m1 => match insOf m1 d with
  | some (_, fs) => match fs.lookup x with
    | some v => .ok v m1
    | none => .bad
  | none => .bad
def kAttr2 (x : Str) (m1 : Mem) (o : Option (Str × List (Str × D))) : R D := match o with
  | some (_, fs) => match fs.lookup x with
    | some v => .ok v m1
    | none => .bad
  | none => .bad
def kOpD (m1 : Mem) (o : Option D) : R D := match o with
  | some v => .ok v m1
  | none => .bad
def kMeth (x : Str) (tab : List (Str × (List D → Mem → R D))) (fs : List EV) (env : Itp.Env) (r : R D) : R D := r.bind fun d m1 => match insOf m1 d with
  | some (c, gs) => match tab.lookup c, gs.lookup x with
    | some h, none => (dArgs fs env m1).bind fun xs m2 => h (d :: xs) m2
    | _, _ => .bad
  | none => .bad
def kMeth2 (tab : List (Str × (List D → Mem → R D))) (fs : List EV) (env : Itp.Env) (d : D) (m1 : Mem) (x : Str) (o : Option (Str × List (Str × D))) : R D := match o with
  | some (c, gs) => match tab.lookup c, gs.lookup x with
    | some h, none => (dArgs fs env m1).bind fun xs m2 => h (d :: xs) m2
    | _, _ => .bad
  | none => .bad
def kMeth3 (fs : List EV) (env : Itp.Env) (d : D) (m1 : Mem) (q : Option (List D → Mem → R D)) (w : Option D) : R D := match q, w with
  | some h, none => (dArgs fs env m1).bind fun xs m2 => h (d :: xs) m2
  | _, _ => .bad
def kMeth4 (h : List D → Mem → R D) (d : D) (r : R (List D)) : R D := r.bind fun xs m2 => h (d :: xs) m2
def kMake (c : Str) (h : List D → Mem → R D) (r : R (List D)) : R D := r.bind fun xs m1 => (h (.ref m1.length :: xs) (m1 ++ [.ins c []])).bind fun r m2 => match r with
  | .non => .ok (.ref m1.length) m2
  | _ => .bad
def kMake2 (a : Nat) (r : R D) : R D := r.bind fun r m2 => match r with
  | .non => .ok (.ref a) m2
  | _ => .bad
/-! statements -/
def kSeq (v : SV) (r : RS) : RS := match r with
  | .ok .nx e m => v e m
  | r => r
def kRet (env : Itp.Env) (r : R D) : RS := ofE r env fun d m1 => .ok (.ret d) env m1
def kDrop (env : Itp.Env) (r : R D) : RS := ofE r env fun _ m1 => .ok .nx env m1
def kAsg (p : Pat) (env : Itp.Env) (r : R D) : RS := ofE r env fun d m1 => match bindD p d env with
  | some env' => .ok .nx env' m1
  | none => .bad
def kOpE (m1 : Mem) (o : Option Itp.Env) : RS := match o with
  | some env' => .ok .nx env' m1
  | none => .bad
def kPar (i j : Nat) (g : EV) (env : Itp.Env) (r : R D) : RS := ofE r env fun d m1 => ofE (g env m1) env fun e m2 => .ok .nx ((env.set i (some d)).set j (some e)) m2
def kPar2 (i j : Nat) (env : Itp.Env) (d : D) (r : R D) : RS := ofE r env fun e m2 => .ok .nx ((env.set i (some d)).set j (some e)) m2
def kPar3 (i j n : Nat) (g k : EV) (env : Itp.Env) (r : R D) : RS := ofE r env fun d m1 => ofE (g env m1) env fun e m2 => ofE (k env m2) env fun r m3 => .ok .nx (((env.set i (some d)).set j (some e)).set n (some r)) m3
def kPar32 (i j n : Nat) (k : EV) (env : Itp.Env) (d : D) (r : R D) : RS := ofE r env fun e m2 => ofE (k env m2) env fun r m3 => .ok .nx (((env.set i (some d)).set j (some e)).set n (some r)) m3
def kPar33 (i j n : Nat) (env : Itp.Env) (d e : D) (r : R D) : RS := ofE r env fun r m3 => .ok .nx (((env.set i (some d)).set j (some e)).set n (some r)) m3
def kIfS (f g : SV) (env : Itp.Env) (r : R Bool) : RS := ofE r env fun b m1 => if b then f env m1 else g env m1
def kSub (fo fi : EV) (env : Itp.Env) (r : R D) : RS := ofE r env fun v m1 => ofE (fo env m1) env fun o m2 => ofE (fi env m2) env fun i m3 => match setIx o i v m3 with
  | some m4 => .ok .nx env m4
  | none => .bad
def kSub2 (fi : EV) (env : Itp.Env) (v : D) (r : R D) : RS := ofE r env fun o m2 => ofE (fi env m2) env fun i m3 => match setIx o i v m3 with
  | some m4 => .ok .nx env m4
  | none => .bad
def kSub3 (env : Itp.Env) (v o : D) (r : R D) : RS := ofE r env fun i m3 => match setIx o i v m3 with
  | some m4 => .ok .nx env m4
  | none => .bad
def kOpM (env : Itp.Env) (o : Option Mem) : RS := match o with
  | some m4 => .ok .nx env m4
  | none => .bad
def kSetA (cs : List Str) (x : Str) (fo : EV) (env : Itp.Env) (r : R D) : RS := ofE r env fun v m1 => ofE (fo env m1) env fun o m2 => match setA cs o x v m2 with
  | some m3 => .ok .nx env m3
  | none => .bad
def kSetA2 (cs : List Str) (x : Str) (v : D) (env : Itp.Env) (r : R D) : RS := ofE r env fun o m2 => match setA cs o x v m2 with
  | some m3 => .ok .nx env m3
  | none => .bad
def kRev (mt : Bool) (r : R D) : R D := r.bind fun x m1 => noex (revD mt x m1)
def kSlS (fo : EV) (lo hi : Option EV) (env : Itp.Env) (r : R D) : RS := ofE r env fun v m1 => ofE (fo env m1) env fun o m2 => ofE (dBd lo env m2) env fun l m3 => ofE (dBd hi env m3) env fun h m4 => match setSl o l h v m4 with
  | some m5 => .ok .nx env m5
  | none => .bad
def kSlS2 (lo hi : Option EV) (env : Itp.Env) (v : D) (r : R D) : RS := ofE r env fun o m2 => ofE (dBd lo env m2) env fun l m3 => ofE (dBd hi env m3) env fun h m4 => match setSl o l h v m4 with
  | some m5 => .ok .nx env m5
  | none => .bad
def kSlS3 (hi : Option EV) (env : Itp.Env) (v o : D) (r : R (Option Int)) : RS := ofE r env fun l m3 => ofE (dBd hi env m3) env fun h m4 => match setSl o l h v m4 with
  | some m5 => .ok .nx env m5
  | none => .bad
def kSlS4 (env : Itp.Env) (v o : D) (l : Option Int) (r : R (Option Int)) : RS := ofE r env fun h m4 => match setSl o l h v m4 with
  | some m5 => .ok .nx env m5
  | none => .bad
def kAtt (ts : List (List Str × Str × EV)) (env : Itp.Env) (r : R D) : RS := ofE r env fun d m1 => match d with
  | .tup ds => if ds.length = ts.length then sTAs ts ds env m1 else .bad
  | _ => .bad
def kTas (cs : List Str) (x : Str) (d : D) (ts : List (List Str × Str × EV)) (ds : List D) (env : Itp.Env) (r : R D) : RS := ofE r env fun o m2 => match setA cs o x d m2 with
  | some m3 => sTAs ts ds env m3
  | none => .bad
def kTas2 (ts : List (List Str × Str × EV)) (ds : List D) (env : Itp.Env) (o : Option Mem) : RS := match o with
  | some m3 => sTAs ts ds env m3
  | none => .bad
def kFor (p : Pat) (b : SV) (env : Itp.Env) (r : R IterV) : RS := ofE r env fun iv m1 => loopF iv.gd (bodyF p b) iv.its env m1
def kEnd (r : RS) : R D := match r with
  | .ok .nx _ m' => .ok .non m'
  | .ok (.ret d) _ m' => .ok d m'
  | .ex e _ m' => .ex e m'
  | _ => .bad
/-! the steps -/
theorem r_var : dVar i env m = match env[i]? with | some (some d) => .ok d m | _ => .bad := rfl
theorem r_c : dC d env m = .ok d m := rfl
theorem r_bin : dBin h f g env m = kBin h g env (f env m) := rfl
theorem r_bin1 : kBin h g env (.ok x m) = kBin2 h x (g env m) := rfl
theorem r_bin2 : kBin2 h x (.ok y m) = noex (h x y m) := rfl
theorem r_bin1x : kBin h g env (.ex X m) = .ex X m := rfl
theorem r_bin2x : kBin2 h x (.ex X m) = .ex X m := rfl
theorem r_un : dUn hu f env m = kUn hu (f env m) := rfl
theorem r_un1 : kUn hu (.ok x m) = noex (hu x m) := rfl
theorem r_a0 : dArgs [] env m = .ok [] m := rfl
theorem r_a1 : dArgs (f :: fs) env m = kArg fs env (f env m) := rfl
theorem r_a2 : kArg fs env (.ok x m) = kArg2 x (dArgs fs env m) := rfl
theorem r_a3 : kArg2 x (.ok xs m) = .ok (x :: xs) m := rfl
theorem r_a2x : kArg fs env (.ex X m) = .ex X m := rfl
theorem r_a3x : kArg2 x (.ex X m) = .ex X m := rfl
theorem r_cb : dCB hb fs env m = kCB hb (dArgs fs env m) := rfl
theorem r_cb1 : kCB hb (.ok xs m) = noex (hb xs m) := rfl
theorem r_cb1x : kCB hb (.ex X m) = .ex X m := rfl
theorem r_call : dCall F fs env m = kCall F (dArgs fs env m) := rfl
theorem r_call1 : kCall F (.ok xs m) = F xs m := rfl
theorem r_call1x : kCall F (.ex X m) = .ex X m := rfl
theorem r_mt : dMt ty hm f fs env m = kMt ty hm fs env (f env m) := rfl
theorem r_mt1 (q : tyOk ty m x = true) : kMt ty hm fs env (.ok x m) = kMt2 hm x (dArgs fs env m) := if_pos q
theorem r_mts {s : List Nat} : kMt "str" hm fs env (.ok (.str s) m) = kMt2 hm (.str s) (dArgs fs env m) := r_mt1 rfl
theorem r_mtf : kMt "list" hm fs env (.ok (.fl ds) m) = kMt2 hm (.fl ds) (dArgs fs env m) := r_mt1 rfl
theorem r_mtr0 : kMt "list" hm fs env (.ok (.ref m.length) (m ++ .lst ds :: l)) = kMt2 hm (.ref m.length) (dArgs fs env (m ++ .lst ds :: l)) := r_mt1 q_tyrm
theorem r_mtr1 : kMt "list" hm fs env (.ok (.ref (m.length + 1)) (m ++ o :: .lst ds :: l)) = kMt2 hm (.ref (m.length + 1)) (dArgs fs env (m ++ o :: .lst ds :: l)) := r_mt1 (q_tyr q_m1)
theorem r_mtr2 : kMt "list" hm fs env (.ok (.ref (m.length + 2)) (m ++ o :: o2 :: .lst ds :: l)) = kMt2 hm (.ref (m.length + 2)) (dArgs fs env (m ++ o :: o2 :: .lst ds :: l)) := r_mt1 (q_tyr q_m2)
theorem r_mtd0 {kvs : List (Ky × D)} : kMt "dict" hm fs env (.ok (.ref m.length) (m ++ .dk kvs :: l)) = kMt2 hm (.ref m.length) (dArgs fs env (m ++ .dk kvs :: l)) := r_mt1 (q_tyd q_m0)
theorem r_mt2 : kMt2 hm x (.ok xs m) = noex (hm x xs m) := rfl
theorem r_test : dTest f env m = kTest (f env m) := rfl
theorem r_test1 : kTest (.ok x m) = kTest2 (truthD m x) m := rfl
theorem r_test2 : kTest2 (some c) m = .ok c m := rfl
theorem r_testx : kTest (.ex X m) = .ex X m := rfl
theorem r_bl : dBl f env m = kBl (f env m) := rfl
theorem r_bl1 : kBl (.ok (.bl c) m) = .ok c m := rfl
theorem r_blx : kBl (.ex X m) = .ex X m := rfl
theorem r_av : dAndV f g env m = kAndV g env (f env m) := rfl
theorem r_av1 : kAndV g env (.ok x m) = kAndV2 g env x m (truthD m x) := rfl
theorem r_avt : kAndV2 g env x m (some true) = g env m := rfl
theorem r_avf : kAndV2 g env x m (some false) = .ok x m := rfl
theorem r_ov : dOrV f g env m = kOrV g env (f env m) := rfl
theorem r_ov1 : kOrV g env (.ok x m) = kOrV2 g env x m (truthD m x) := rfl
theorem r_ovt : kOrV2 g env x m (some true) = .ok x m := rfl
theorem r_ovf : kOrV2 g env x m (some false) = g env m := rfl
theorem r_nv : dNotV f env m = kNotV (f env m) := rfl
theorem r_nv1 : kNotV (.ok x m) = kNotV2 m (truthD m x) := rfl
theorem r_nv2 : kNotV2 m (some c) = .ok (.bl (!c)) m := rfl
theorem r_at : dAndT t u env m = kAndT u env (t env m) := rfl
theorem r_att : kAndT u env (.ok true m) = u env m := rfl
theorem r_atf : kAndT u env (.ok false m) = .ok false m := rfl
theorem r_ot : dOrT t u env m = kOrT u env (t env m) := rfl
theorem r_ott : kOrT u env (.ok true m) = .ok true m := rfl
theorem r_otf : kOrT u env (.ok false m) = u env m := rfl
theorem r_nt : dNotT t env m = kNotT (t env m) := rfl
theorem r_nt1 : kNotT (.ok c m) = .ok (!c) m := rfl
theorem r_if : dIf t f g env m = kIf f g env (t env m) := rfl
theorem r_ift : kIf f g env (.ok true m) = f env m := rfl
theorem r_iff : kIf f g env (.ok false m) = g env m := rfl
theorem r_ifx : kIf f g env (.ex X m) = .ex X m := rfl
theorem r_tup : dTup fs env m = kTup (dArgs fs env m) := rfl
theorem r_tup1 : kTup (.ok xs m) = mkT xs m := rfl
theorem r_tupx : kTup (.ex X m) = .ex X m := rfl
theorem r_lst : dLst mt fs env m = kLst mt (dArgs fs env m) := rfl
theorem r_lst1 : kLst mt (.ok xs m) = mkL mt xs m := rfl
theorem r_ch : dChain h1 h2 f g k env m = kChain h1 h2 g k env (f env m) := rfl
theorem r_ch1 : kChain h1 h2 g k env (.ok x m) = kChain2 h1 h2 k env x (g env m) := rfl
theorem r_ch2 : kChain2 h1 h2 k env x (.ok y m) = kChain3 h2 k env y (noex (h1 x y m)) := rfl
theorem r_ch3 : kChain3 h2 k env y (.ok (.bl true) m) = kBin2 h2 y (k env m) := rfl
theorem r_ch4 : kChain3 h2 k env y (.ok (.bl false) m) = .ok (.bl false) m := rfl
theorem r_isi {ts : List Ty} : dIsi ts f env m = kIsi ts (f env m) := rfl
theorem r_isi1 {ts : List Ty} : kIsi ts (.ok x m) = kIsi2 ts m (tyD m x) := rfl
theorem r_isi2 {ts : List Ty} {T : Ty} : kIsi2 ts m (some T) = .ok (.bl (ts.any (isT T))) m := rfl
theorem r_bd0 : dBd none env m = .ok none m := rfl
theorem r_bd1 : dBd (some f) env m = kBd (f env m) := rfl
theorem r_bd2 {i : Int} : kBd (.ok (.int i) m) = .ok (some i) m := rfl
theorem r_rev {mt : Bool} : dRev mt f env m = kRev mt (f env m) := rfl
theorem r_rev1 {mt : Bool} : kRev mt (.ok x m) = noex (revD mt x m) := rfl
theorem r_sl {lo hi : Option EV} : dSl mt f lo hi env m = kSl mt lo hi env (f env m) := rfl
theorem r_sl1 {lo hi : Option EV} : kSl mt lo hi env (.ok x m) = kSl2 mt hi env x (dBd lo env m) := rfl
theorem r_sl2 {hi : Option EV} {w : Option Int} : kSl2 mt hi env x (.ok w m) = kSl3 mt x w (dBd hi env m) := rfl
theorem r_sl3 {w w2 : Option Int} : kSl3 mt x w (.ok w2 m) = noex (slD mt x w w2 m) := rfl
theorem r_it : dIt f env m = kIt (f env m) := rfl
theorem r_it1 : kIt (.ok x m) = itD x m := rfl
theorem r_itt : itD (.tup ds) m = .ok ⟨ds, gT⟩ m := rfl
theorem r_itf : itD (.fl ds) m = .ok ⟨ds, gT⟩ m := rfl
theorem r_itsc : itD (.sc ds) m = .ok ⟨ds, gT⟩ m := rfl
theorem r_its {s : List Nat} : itD (.str s) m = .ok ⟨s.map fun c => .str [c], gT⟩ m := rfl
theorem r_itr (q : (m : List O)[a]? = some (.lst ds)) : itD (.ref a) m = .ok ⟨ds, gL a ds⟩ m := by dsimp only [itD]; rw [q]
theorem r_itr0 : itD (.ref m.length) (m ++ .lst ds :: l) = .ok ⟨ds, gL m.length ds⟩ (m ++ .lst ds :: l) := r_itr q_m0
theorem r_en : dEnum f env m = kEnum (f env m) := rfl
theorem r_en1 : kEnum (.ok x m) = kOpI m (enOf m x) := rfl
theorem r_opi : kOpI m (some iv) = .ok iv m := rfl
theorem r_ent : enOf m (.tup ds) = some ⟨enD 0 ds, gT⟩ := rfl
theorem r_enf : enOf m (.fl ds) = some ⟨enD 0 ds, gT⟩ := rfl
theorem r_zip : dZip f g env m = kZip g env (f env m) := rfl
theorem r_zip1 : kZip g env (.ok x m) = kZip2 x (g env m) := rfl
theorem r_zip2 : kZip2 x (.ok y m) = kOpI m (zipOf m x y) := rfl
theorem r_zft : zipOf m (.fl ds) (.fl es) = some ⟨zipD ds es, gT⟩ := rfl
theorem r_ztt : zipOf m (.tup ds) (.tup es) = some ⟨zipD ds es, gT⟩ := rfl
theorem r_rng : dRng fs env m = kRng (dArgs fs env m) := rfl
theorem r_rng1 {i : Int} (q : -(2 ^ 62) ≤ i ∧ i < 2 ^ 62) : kRng (.ok [.int i] m) = .ok ⟨rngL 0 i.toNat, gT⟩ m := if_pos (decide_eq_true q)
theorem r_rng2 {i j : Int} (q : (-(2 ^ 62) ≤ i ∧ i < 2 ^ 62) ∧ (-(2 ^ 62) ≤ j ∧ j < 2 ^ 62)) : kRng (.ok [.int i, .int j] m) = .ok ⟨rngL i (j - i).toNat, gT⟩ m := by
  show (if smallI i && smallI j then _ else _) = _
  rw [show smallI i = true from decide_eq_true q.1, show smallI j = true from decide_eq_true q.2]; rfl
theorem r_rng3 {i j : Int} (q : (-(2 ^ 62) ≤ i ∧ i < 2 ^ 62) ∧ (-(2 ^ 62) ≤ j ∧ j < 2 ^ 62)) : kRng (.ok [.int i, .int j, .int (-1)] m) = .ok ⟨rngD i (i - j).toNat, gT⟩ m := by
  show (if decide ((-1 : Int) = -1) && (smallI i && smallI j) then _ else _) = _
  rw [show smallI i = true from decide_eq_true q.1, show smallI j = true from decide_eq_true q.2]; rfl
theorem r_lc {vs : List Nat} : dLc mt vs IT P t f env m = kLc mt vs P t f env (IT env m) := rfl
theorem r_lc1 {vs : List Nat} : kLc mt vs P t f env (.ok iv m) = kLc2 mt (loopC iv.gd (bodyC vs P t f env) iv.its [] m) := rfl
theorem r_lc2 : kLc2 mt (.ok xs m) = mkL mt xs m := rfl
theorem r_bc {vs : List Nat} (q : bindD P d (wipeE env vs) = some e1) : bodyC vs P t f env d m = kBodyC f e1 (t e1 m) := by
  dsimp only [bodyC, kBodyC]; rw [q]
theorem r_bc1 : kBodyC f env (.ok true m) = kSome (f env m) := rfl
theorem r_bc2 : kBodyC f env (.ok false m) = .ok none m := rfl
theorem r_some : kSome (.ok d m) = .ok (some d) m := rfl
theorem r_dnil : dNil env m = .ok true m := rfl
theorem r_attr {x : Str} : dAttr x f env m = kAttr x (f env m) := rfl
theorem r_attr1 {x : Str} : kAttr x (.ok d m) = kAttr2 x m (insOf m d) := rfl
theorem r_attr2 {x c : Str} {fs : List (Str × D)} : kAttr2 x m (some (c, fs)) = kOpD m (fs.lookup x) := rfl
theorem r_opd : kOpD m (some d) = .ok d m := rfl
theorem r_ins {c : Str} {fs : List (Str × D)} (q : (m : List O)[a]? = some (.ins c fs)) : insOf m (.ref a) = some (c, fs) := insOf_at q
theorem r_meth {x : Str} {tab : List (Str × (List D → Mem → R D))} : dMeth x tab f fs env m = kMeth x tab fs env (f env m) := rfl
theorem r_meth1 {x : Str} {tab : List (Str × (List D → Mem → R D))} : kMeth x tab fs env (.ok d m) = kMeth2 tab fs env d m x (insOf m d) := rfl
theorem r_meth2 {x c : Str} {gs : List (Str × D)} {tab : List (Str × (List D → Mem → R D))} : kMeth2 tab fs env d m x (some (c, gs)) = kMeth3 fs env d m (tab.lookup c) (gs.lookup x) := rfl
theorem r_meth3 : kMeth3 fs env d m (some F) none = kMeth4 F d (dArgs fs env m) := rfl
theorem r_meth4 : kMeth4 F d (.ok xs m) = F (d :: xs) m := rfl
theorem r_make {c : Str} : dMake c F fs env m = kMake c F (dArgs fs env m) := rfl
theorem r_make1 {c : Str} : kMake c F (.ok xs m) = kMake2 m.length (F (.ref m.length :: xs) (m ++ [.ins c []])) := rfl
theorem r_make2 : kMake2 a (.ok .non m) = .ok (.ref a) m := rfl
theorem r_newd : dNewD env m = .ok (.ref m.length) (m ++ [.dk []]) := rfl
theorem rs_nil : sNil env m = .ok .nx env m := rfl
theorem rs_seq : sSeq s v env m = kSeq v (s env m) := by unfold sSeq kSeq; cases s env m with | ok fl _ _ => cases fl <;> rfl | ex _ _ _ => rfl | bad => rfl
theorem rs_sq1 : kSeq v (.ok .nx env m) = v env m := rfl
theorem rs_sq2 : kSeq v (.ok (.ret d) env m) = .ok (.ret d) env m := rfl
theorem rs_sq3 : kSeq v (.ok .brk env m) = .ok .brk env m := rfl
theorem rs_sq4 : kSeq v (.ok .cont env m) = .ok .cont env m := rfl
theorem rs_sq5 : kSeq v (.ex X env m) = .ex X env m := rfl
theorem rs_ret : sRet f env m = kRet env (f env m) := rfl
theorem rs_ret1 : kRet env (.ok d m) = .ok (.ret d) env m := rfl
theorem rs_retx : kRet env (.ex X m) = .ex X env m := rfl
theorem rs_retn : sRetN env m = .ok (.ret .non) env m := rfl
theorem rs_brk : sBrk env m = .ok .brk env m := rfl
theorem rs_cont : sCont env m = .ok .cont env m := rfl
theorem rs_drop : sDrop f env m = kDrop env (f env m) := rfl
theorem rs_drop1 : kDrop env (.ok d m) = .ok .nx env m := rfl
theorem rs_dropx : kDrop env (.ex X m) = .ex X env m := rfl
theorem rs_asg : sAsg P f env m = kAsg P env (f env m) := rfl
theorem rs_asg1 : kAsg P env (.ok d m) = kOpE m (bindD P d env) := rfl
theorem rs_asgx : kAsg P env (.ex X m) = .ex X env m := rfl
theorem rs_ope : kOpE m (some env) = .ok .nx env m := rfl
theorem rs_par : sPar i j f g env m = kPar i j g env (f env m) := rfl
theorem rs_par1 : kPar i j g env (.ok d m) = kPar2 i j env d (g env m) := rfl
theorem rs_par2 : kPar2 i j env d (.ok x m) = .ok .nx ((env.set i (some d)).set j (some x)) m := rfl
theorem rs_par3 : sPar3 i j n f g k env m = kPar3 i j n g k env (f env m) := rfl
theorem rs_par31 : kPar3 i j n g k env (.ok d m) = kPar32 i j n k env d (g env m) := rfl
theorem rs_par32 : kPar32 i j n k env d (.ok x m) = kPar33 i j n env d x (k env m) := rfl
theorem rs_par33 : kPar33 i j n env d x (.ok y m) = .ok .nx (((env.set i (some d)).set j (some x)).set n (some y)) m := rfl
theorem rs_if : sIf t s v env m = kIfS s v env (t env m) := rfl
theorem rs_ift : kIfS s v env (.ok true m) = s env m := rfl
theorem rs_iff : kIfS s v env (.ok false m) = v env m := rfl
theorem rs_ifx : kIfS s v env (.ex X m) = .ex X env m := rfl
theorem rs_sub {fo fi : EV} : sSub f fo fi env m = kSub fo fi env (f env m) := rfl
theorem rs_sub1 {fo fi : EV} : kSub fo fi env (.ok d m) = kSub2 fi env d (fo env m) := rfl
theorem rs_sub2 {fi : EV} : kSub2 fi env d (.ok x m) = kSub3 env d x (fi env m) := rfl
theorem rs_sub3 : kSub3 env d x (.ok y m) = kOpM env (setIx x y d m) := rfl
theorem rs_opm : kOpM env (some m) = .ok .nx env m := rfl
theorem rs_sls {fo : EV} {lo hi : Option EV} : sSlS f fo lo hi env m = kSlS fo lo hi env (f env m) := rfl
theorem rs_sls1 {fo : EV} {lo hi : Option EV} : kSlS fo lo hi env (.ok d m) = kSlS2 lo hi env d (fo env m) := rfl
theorem rs_sls2 {lo hi : Option EV} : kSlS2 lo hi env d (.ok x m) = kSlS3 hi env d x (dBd lo env m) := rfl
theorem rs_sls3 {hi : Option EV} {l : Option Int} : kSlS3 hi env d x (.ok l m) = kSlS4 env d x l (dBd hi env m) := rfl
theorem rs_sls4 {l h : Option Int} : kSlS4 env d x l (.ok h m) = kOpM env (setSl x l h d m) := rfl
theorem rs_att {ts : List (List Str × Str × EV)} : sAttrs ts f env m = kAtt ts env (f env m) := rfl
theorem rs_att2 {t1 t2 : List Str × Str × EV} {a b : D} : kAtt [t1, t2] env (.ok (.tup [a, b]) m) = sTAs [t1, t2] [a, b] env m := rfl
theorem rs_att3 {t1 t2 t3 : List Str × Str × EV} {a b c : D} : kAtt [t1, t2, t3] env (.ok (.tup [a, b, c]) m) = sTAs [t1, t2, t3] [a, b, c] env m := rfl
theorem rs_tas0 : sTAs [] [] env m = .ok .nx env m := rfl
theorem rs_tas1 {cs : List Str} {x : Str} {fo : EV} {ts : List (List Str × Str × EV)} {ds : List D} : sTAs ((cs, x, fo) :: ts) (d :: ds) env m = kTas cs x d ts ds env (fo env m) := rfl
theorem rs_tas2 {cs : List Str} {x : Str} {y : D} {ts : List (List Str × Str × EV)} {ds : List D} : kTas cs x d ts ds env (.ok y m) = kTas2 ts ds env (setA cs y x d m) := rfl
theorem rs_tas3 {ts : List (List Str × Str × EV)} {ds : List D} : kTas2 ts ds env (some m) = sTAs ts ds env m := rfl
theorem rs_seta {cs : List Str} {x : Str} {fo : EV} : sSetA cs x f fo env m = kSetA cs x fo env (f env m) := rfl
theorem rs_seta1 {cs : List Str} {x : Str} {fo : EV} : kSetA cs x fo env (.ok d m) = kSetA2 cs x d env (fo env m) := rfl
theorem rs_seta2 {cs : List Str} {x : Str} : kSetA2 cs x d env (.ok y m) = kOpM env (setA cs y x d m) := rfl
theorem rs_for : sFor IT P s env m = kFor P s env (IT env m) := rfl
theorem rs_for1 : kFor P s env (.ok iv m) = loopF iv.gd (bodyF P s) iv.its env m := rfl
theorem rs_body (q : bindD P d env = some e1) : bodyF P s d env m = s e1 m := by unfold bodyF; rw [q]
theorem rs_bodyn : bodyF (.nm i) s d env m = s (env.set i (some d)) m := rfl
theorem rs_run : runB n s ds m = kEnd (s (ds.map some ++ List.replicate (n - ds.length) none) m) := rfl
theorem rs_end1 : kEnd (.ok .nx env m) = .ok .non m := rfl
theorem rs_end2 : kEnd (.ok (.ret d) env m) = .ok d m := rfl
theorem rs_end3 : kEnd (.ex X env m) = .ex X m := rfl
theorem r_bnm : bindD (.nm i) d env = some (env.set i (some d)) := rfl
theorem r_btu {ps : List Pat} : bindD (.tup ps) (.tup ds) env = bindDs ps ds env := rfl
theorem r_bd00 : bindDs [] [] env = some env := rfl
theorem r_bd01 {p : Pat} {ps : List Pat} : bindDs (p :: ps) (d :: ds) env = (bindD p d env).bind fun e => bindDs ps ds e := rfl
theorem r_obs {β : Type} {e : Itp.Env} {q : Itp.Env → Option β} : (some e).bind q = q e := rfl
/-! truth -/
theorem r_trn : truthD m .non = some false := rfl
theorem r_trb : truthD m (.bl c) = some c := rfl
theorem r_tri {i : Int} : truthD m (.int i) = some (i != 0) := rfl
theorem r_trt : truthD m (.tup ds) = some (!ds.isEmpty) := rfl
theorem r_trf : truthD m (.fl ds) = some (!ds.isEmpty) := rfl
theorem r_tyn : tyD m .non = some .nt := rfl
theorem r_tyb : tyD m (.bl c) = some .bl := rfl
theorem r_tyi {i : Int} : tyD m (.int i) = some .int := rfl
theorem r_tys {s : List Nat} : tyD m (.str s) = some .str := rfl
theorem r_tyt : tyD m (.tup ds) = some .tup := rfl
theorem r_tyf : tyD m (.fl ds) = some .lst := rfl
theorem r_tysc : tyD m (.sc ds) = some .lst := rfl
theorem r_dt {p : Prop} [Decidable p] (q : p) : decide p = true := decide_eq_true q
theorem r_df {p : Prop} [Decidable p] (q : ¬ p) : decide p = false := decide_eq_false q
theorem r_eqF {i j : Int} : opEq false (.int i) (.int j) m = .ok (.bl (decide (i = j))) m := q_eqi
theorem r_eqT {i j : Int} : opEq true (.int i) (.int j) m = .ok (.bl (!decide (i = j))) m := q_eqi
theorem r_eqbF {i j : Bool} : opEq false (.bl i) (.bl j) m = .ok (.bl (decide (i = j))) m := q_eqbb
theorem r_eqbT {i j : Bool} : opEq true (.bl i) (.bl j) m = .ok (.bl (!decide (i = j))) m := q_eqbb
theorem r_seF {s : List Nat} (q : ∀ c ∈ s, c < 1114112) : opEq false (.str s) (.str []) m = .ok (.bl s.isEmpty) m := q_eqse q
theorem r_seT {s : List Nat} (q : ∀ c ∈ s, c < 1114112) : opEq true (.str s) (.str []) m = .ok (.bl (!s.isEmpty)) m := q_eqse q
theorem r_isF : opIsN false x .non m = .ok (.bl (isNonB x)) m := q_isn
theorem r_isT : opIsN true x .non m = .ok (.bl (!isNonB x)) m := q_isn
theorem r_find {s1 s2 : List Nat} : mFind (.str s1) [.str s2] m = .ok (.int (Txt.find (stS s1) (stS s2))) m := rfl
theorem r_neg {i : Int} : opNeg (.int i) m = .ok (.int (-i)) m := rfl
theorem r_max {i j : Int} : bMax [.int i, .int j] m = .ok (.int (if j > i then j else i)) m := rfl
theorem r_min {i j : Int} : bMin [.int i, .int j] m = .ok (.int (if j < i then j else i)) m := rfl
end
theorem lc_map {m : Mem} {gd : Mem → Bool} {body : D → Mem → R (Option D)} {ds : List D} (fn : D → D) (hg : gd m = true) (hb : ∀ d ∈ ds, body d m = .ok (some (fn d)) m) (hl : ds.length ≤ 16777216) : loopC gd body ds [] m = .ok (ds.map fn) m := loopC_map hg hb hl
theorem lc_filter {m : Mem} {gd : Mem → Bool} {body : D → Mem → R (Option D)} {ds : List D} (fn : D → Option D) (hg : gd m = true) (hb : ∀ d ∈ ds, body d m = .ok (fn d) m) (hl : ds.length ≤ 16777216) : loopC gd body ds [] m = .ok (ds.filterMap fn) m := loopC_filter hg hb hl
/-- over data made of native things -/
theorem lc_mapN {α : Type} {m : Mem} {gd : Mem → Bool} {body : D → Mem → R (Option D)} {L : List α} (enc : α → D) (fn : α → D) (hg : gd m = true) (hb : ∀ x ∈ L, body (enc x) m = .ok (some (fn x)) m) (hl : L.length ≤ 16777216) : loopC gd body (L.map enc) [] m = .ok (L.map fn) m := by
  have go : ∀ (L : List α) (acc : List D), (∀ x ∈ L, body (enc x) m = .ok (some (fn x)) m) → acc.length + L.length ≤ 16777216 → loopC gd body (L.map enc) acc m = .ok (acc ++ L.map fn) m := by
    intro L
    induction L with
    | nil => intro acc _ _; rw [List.map_nil, loopC_nil hg]; simp
    | cons x L ih =>
      intro acc h hl
      rw [List.map_cons, loopC_cons hg, h x List.mem_cons_self]
      show (if acc.length < SZ then loopC gd body (L.map enc) (acc ++ [fn x]) m else .bad) = _
      simp only [List.length_cons] at hl
      rw [if_pos (show acc.length < 16777216 by omega), ih _ (fun x hx => h x (List.mem_cons_of_mem _ hx)) (by simp; omega)]
      simp
  have := go L [] hb (by simpa using hl)
  simpa using this
theorem lc_filterN {α : Type} {m : Mem} {gd : Mem → Bool} {body : D → Mem → R (Option D)} {L : List α} (enc : α → D) (fn : α → Option D) (hg : gd m = true) (hb : ∀ x ∈ L, body (enc x) m = .ok (fn x) m) (hl : L.length ≤ 16777216) : loopC gd body (L.map enc) [] m = .ok (L.filterMap fn) m := by
  have go : ∀ (L : List α) (acc : List D), (∀ x ∈ L, body (enc x) m = .ok (fn x) m) → acc.length + L.length ≤ 16777216 → loopC gd body (L.map enc) acc m = .ok (acc ++ L.filterMap fn) m := by
    intro L
    induction L with
    | nil => intro acc _ _; rw [List.map_nil, loopC_nil hg]; simp
    | cons x L ih =>
      intro acc h hl
      rw [List.map_cons, loopC_cons hg, h x List.mem_cons_self]
      simp only [List.length_cons] at hl
      cases e : fn x with
      | none =>
        show loopC gd body (L.map enc) acc m = _
        rw [ih _ (fun x hx => h x (List.mem_cons_of_mem _ hx)) (by omega), List.filterMap_cons, e]
      | some y =>
        show (if acc.length < SZ then loopC gd body (L.map enc) (acc ++ [y]) m else .bad) = _
        rw [if_pos (show acc.length < 16777216 by omega), ih _ (fun x hx => h x (List.mem_cons_of_mem _ hx)) (by simp; omega), List.filterMap_cons, e]
        simp
  have := go L [] hb (by simpa using hl)
  simpa using this
/-- for, where the loop's outcome has been given a name -/
theorem for_gen {S : Type} {gd : Mem → Bool} {body : D → SV} {ds : List D} {env : Itp.Env} {m : Mem} {r : RS} (hL : loopF gd body ds env m = r) (E : S → Itp.Env) (M : S → Mem) (inv : Nat → S → Prop) (s0 : S) (he : env = E s0) (hm : m = M s0) (hg : ∀ i s, inv i s → gd (M s) = true)
    (h0 : inv 0 s0) (hb : ∀ i s d, ds[i]? = some d → inv i s → ∃ s', (body d (E s) (M s) = .ok .nx (E s') (M s') ∨ body d (E s) (M s) = .ok .cont (E s') (M s')) ∧ inv (i + 1) s') : ∃ s', r = .ok .nx (E s') (M s') ∧ inv ds.length s' := by
  subst hL; subst he; subst hm
  exact for_run E M inv hg hb h0
/-- over data made of native things -/
theorem for_genN {S α : Type} {gd : Mem → Bool} {body : D → SV} {L : List α} {enc : α → D} {env : Itp.Env} {m : Mem} {r : RS} (hL : loopF gd body (L.map enc) env m = r) (E : S → Itp.Env) (M : S → Mem) (inv : Nat → S → Prop) (s0 : S) (he : env = E s0) (hm : m = M s0) (hg : ∀ i s, inv i s → gd (M s) = true)
    (h0 : inv 0 s0) (hb : ∀ i s x, L[i]? = some x → inv i s → ∃ s', (body (enc x) (E s) (M s) = .ok .nx (E s') (M s') ∨ body (enc x) (E s) (M s) = .ok .cont (E s') (M s')) ∧ inv (i + 1) s') : ∃ s', r = .ok .nx (E s') (M s') ∧ inv L.length s' := by
  have := for_gen hL E M inv s0 he hm hg h0 (fun i s d hd hi => by
    rw [List.getElem?_map] at hd
    cases e : L[i]? with
    | none => rw [e] at hd; cases hd
    | some x => rw [e] at hd; cases hd; exact hb i s x e hi)
  rwa [List.length_map] at this
theorem while_gen {S : Type} {t : TV} {b : SV} {env : Itp.Env} {m : Mem} {r : RS} (hL : sWhile t b env m = r) (E : S → Itp.Env) (M : S → Mem) (inv : S → Prop) (c : S → Bool) (mu : S → Nat) (s0 : S) (he : env = E s0) (hm : m = M s0) (h0 : inv s0) (hmu : mu s0 < 2 ^ 200)
    (ht : ∀ s, inv s → t (E s) (M s) = .ok (c s) (M s)) (hb : ∀ s, inv s → c s = true → ∃ s', (b (E s) (M s) = .ok .nx (E s') (M s') ∨ b (E s) (M s) = .ok .cont (E s') (M s')) ∧ inv s' ∧ mu s' < mu s) : ∃ s', r = .ok .nx (E s') (M s') ∧ inv s' ∧ c s' = false := by
  subst hL; subst he; subst hm
  exact while_run E M inv c mu ht hb h0 hmu
theorem for_k {S : Type} {Z : Prop} {gd : Mem → Bool} {body : D → SV} {ds : List D} {env : Itp.Env} {m : Mem} {r : RS} (hL : loopF gd body ds env m = r) (E : S → Itp.Env) (M : S → Mem) (inv : Nat → S → Prop) (s0 : S) (he : env = E s0) (hm : m = M s0) (hg : ∀ i s, inv i s → gd (M s) = true)
    (h0 : inv 0 s0) (hb : ∀ i s d, ds[i]? = some d → inv i s → ∃ s', (body d (E s) (M s) = .ok .nx (E s') (M s') ∨ body d (E s) (M s) = .ok .cont (E s') (M s')) ∧ inv (i + 1) s') (k : ∀ s', r = .ok .nx (E s') (M s') → inv ds.length s' → Z) : Z :=
  let ⟨s', e, h⟩ := for_gen hL E M inv s0 he hm hg h0 hb
  k s' e h
theorem for_kN {S α : Type} {Z : Prop} {gd : Mem → Bool} {body : D → SV} {L : List α} {enc : α → D} {env : Itp.Env} {m : Mem} {r : RS} (hL : loopF gd body (L.map enc) env m = r) (E : S → Itp.Env) (M : S → Mem) (inv : Nat → S → Prop) (s0 : S) (he : env = E s0) (hm : m = M s0) (hg : ∀ i s, inv i s → gd (M s) = true)
    (h0 : inv 0 s0) (hb : ∀ i s x, L[i]? = some x → inv i s → ∃ s', (body (enc x) (E s) (M s) = .ok .nx (E s') (M s') ∨ body (enc x) (E s) (M s) = .ok .cont (E s') (M s')) ∧ inv (i + 1) s') (k : ∀ s', r = .ok .nx (E s') (M s') → inv L.length s' → Z) : Z :=
  let ⟨s', e, h⟩ := for_genN hL E M inv s0 he hm hg h0 hb
  k s' e h
theorem while_k {S : Type} {Z : Prop} {t : TV} {b : SV} {env : Itp.Env} {m : Mem} {r : RS} (hL : sWhile t b env m = r) (E : S → Itp.Env) (M : S → Mem) (inv : S → Prop) (c : S → Bool) (mu : S → Nat) (s0 : S) (he : env = E s0) (hm : m = M s0) (h0 : inv s0) (hmu : mu s0 < 2 ^ 200)
    (ht : ∀ s, inv s → t (E s) (M s) = .ok (c s) (M s)) (hb : ∀ s, inv s → c s = true → ∃ s', (b (E s) (M s) = .ok .nx (E s') (M s') ∨ b (E s) (M s) = .ok .cont (E s') (M s')) ∧ inv s' ∧ mu s' < mu s) (k : ∀ s', r = .ok .nx (E s') (M s') → inv s' → c s' = false → Z) : Z :=
  let ⟨s', e, h, h2⟩ := while_gen hL E M inv c mu s0 he hm h0 hmu ht hb
  k s' e h h2
theorem take_map_succ {α β : Type} {L : List α} {fn : α → β} {i : Nat} {x : α} (h : L[i]? = some x) : (L.take (i + 1)).map fn = (L.take i).map fn ++ [fn x] := by
  rw [List.take_succ, h, List.map_append]; rfl
theorem bodyC_nmE {vs : List Nat} {i : Nat} {t : TV} {f : EV} {env : Itp.Env} {d : D} {m : Mem} : bodyC vs (.nm i) t f env d m = kBodyC f ((wipeE env vs).set i (some d)) (t ((wipeE env vs).set i (some d)) m) := r_bc rfl
section
variable {m : Mem} {env : Itp.Env} {body : D → SV} {d : D} {ds : List D} {X : Exn}
def kLoop (gd : Mem → Bool) (body : D → SV) (ds : List D) (r : RS) : RS := match r with
  | .ok .nx env' m' => loopF gd body ds env' m'
  | .ok .cont env' m' => loopF gd body ds env' m'
  | .ok .brk env' m' => .ok .nx env' m'
  | r => r
theorem rs_lf0 : loopF gT body [] env m = .ok .nx env m := rfl
theorem rs_lf1 : loopF gT body (d :: ds) env m = kLoop gT body ds (body d env m) := by
  have : loopF gT body (d :: ds) env m = match body d env m with
      | .ok .nx env' m' => loopF gT body ds env' m'
      | .ok .cont env' m' => loopF gT body ds env' m'
      | .ok .brk env' m' => .ok .nx env' m'
      | r => r := rfl
  rw [this]
  unfold kLoop
  cases body d env m with
  | ok fl _ _ => cases fl <;> rfl
  | ex _ _ _ => rfl
  | bad => rfl
theorem rs_kl1 : kLoop gT body ds (.ok .nx env m) = loopF gT body ds env m := rfl
theorem rs_kl2 : kLoop gT body ds (.ok .cont env m) = loopF gT body ds env m := rfl
theorem rs_kl3 : kLoop gT body ds (.ok .brk env m) = .ok .nx env m := rfl
theorem rs_kl4 : kLoop gT body ds (.ok (.ret d) env m) = .ok (.ret d) env m := rfl
theorem rs_kl5 : kLoop gT body ds (.ex X env m) = .ex X env m := rfl
end
theorem r_strix {m : Mem} {a b : List Nat} {i : Nat} (h : Txt.index0 (stS a) (stS b) = some i) : mStrIx (.str a) [.str b] m = .ok (.int i) m := by dsimp only [mStrIx]; rw [h]
section
variable {ds : List D}
theorem r_at0 : L2.atI ds 0 = ds[0]? := q_atI (i := 0)
theorem r_at1 : L2.atI ds 1 = ds[1]? := q_atI (i := 1)
theorem r_at2 : L2.atI ds 2 = ds[2]? := q_atI (i := 2)
theorem r_at3 : L2.atI ds 3 = ds[3]? := q_atI (i := 3)
theorem r_at4 : L2.atI ds 4 = ds[4]? := q_atI (i := 4)
theorem r_at5 : L2.atI ds 5 = ds[5]? := q_atI (i := 5)
theorem r_at6 : L2.atI ds 6 = ds[6]? := q_atI (i := 6)
theorem r_at7 : L2.atI ds 7 = ds[7]? := q_atI (i := 7)
theorem r_at8 : L2.atI ds 8 = ds[8]? := q_atI (i := 8)
theorem r_at9 : L2.atI ds 9 = ds[9]? := q_atI (i := 9)
theorem r_at10 : L2.atI ds 10 = ds[10]? := q_atI (i := 10)
theorem r_at11 : L2.atI ds 11 = ds[11]? := q_atI (i := 11)
theorem r_at12 : L2.atI ds 12 = ds[12]? := q_atI (i := 12)
end
theorem ex_nx {S : Type} {r : RS} {E : S → Itp.Env} {M : S → Mem} {I : S → Prop} {e : Itp.Env} {m : Mem} (h : r = .ok .nx e m) (k : ∃ s', e = E s' ∧ m = M s' ∧ I s') : ∃ s', (r = .ok .nx (E s') (M s') ∨ r = .ok .cont (E s') (M s')) ∧ I s' := by
  obtain ⟨s', rfl, rfl, hi⟩ := k
  exact ⟨s', .inl h, hi⟩
/-- goes on, with what is said -/
def Nx (r : RS) (P : Itp.Env → Mem → Prop) : Prop := match r with
  | .ok .nx e m => P e m
  | .ok .cont e m => P e m
  | _ => False
theorem nx1 {e : Itp.Env} {m : Mem} {P : Itp.Env → Mem → Prop} : Nx (.ok .nx e m) P = P e m := rfl
theorem nx2 {e : Itp.Env} {m : Mem} {P : Itp.Env → Mem → Prop} : Nx (.ok .cont e m) P = P e m := rfl
theorem nx_or {S : Type} {r : RS} {E : S → Itp.Env} {M : S → Mem} {I : S → Prop} (h : Nx r fun e m => ∃ s', e = E s' ∧ m = M s' ∧ I s') : ∃ s', (r = .ok .nx (E s') (M s') ∨ r = .ok .cont (E s') (M s')) ∧ I s' := by
  match r, h with
  | .ok .nx e m, ⟨s', h1, h2, h3⟩ => exact ⟨s', .inl (by rw [h1, h2]), h3⟩
  | .ok .cont e m, ⟨s', h1, h2, h3⟩ => exact ⟨s', .inr (by rw [h1, h2]), h3⟩
theorem for_n {S : Type} {Z : Prop} {gd : Mem → Bool} {body : D → SV} {ds : List D} {env : Itp.Env} {m : Mem} {r : RS} (hL : loopF gd body ds env m = r) (E : S → Itp.Env) (M : S → Mem) (inv : Nat → S → Prop) (s0 : S) (he : env = E s0) (hm : m = M s0) (hg : ∀ i s, inv i s → gd (M s) = true)
    (h0 : inv 0 s0) (hb : ∀ i s d, ds[i]? = some d → inv i s → Nx (body d (E s) (M s)) fun e m => ∃ s', e = E s' ∧ m = M s' ∧ inv (i + 1) s') (k : ∀ s', r = .ok .nx (E s') (M s') → inv ds.length s' → Z) : Z :=
  for_k hL E M inv s0 he hm hg h0 (fun i s d hd hi => nx_or (hb i s d hd hi)) k
theorem for_nN {S α : Type} {Z : Prop} {gd : Mem → Bool} {body : D → SV} {L : List α} {enc : α → D} {env : Itp.Env} {m : Mem} {r : RS} (hL : loopF gd body (L.map enc) env m = r) (E : S → Itp.Env) (M : S → Mem) (inv : Nat → S → Prop) (s0 : S) (he : env = E s0) (hm : m = M s0) (hg : ∀ i s, inv i s → gd (M s) = true)
    (h0 : inv 0 s0) (hb : ∀ i s x, L[i]? = some x → inv i s → Nx (body (enc x) (E s) (M s)) fun e m => ∃ s', e = E s' ∧ m = M s' ∧ inv (i + 1) s') (k : ∀ s', r = .ok .nx (E s') (M s') → inv L.length s' → Z) : Z :=
  for_kN hL E M inv s0 he hm hg h0 (fun i s d hd hi => nx_or (hb i s d hd hi)) k
/-- for over range -/
theorem for_nR {S : Type} {Z : Prop} {gd : Mem → Bool} {body : D → SV} {n : Nat} {env : Itp.Env} {m : Mem} {r : RS} (hL : loopF gd body (rngL 0 n) env m = r) (E : S → Itp.Env) (M : S → Mem) (inv : Nat → S → Prop) (s0 : S) (he : env = E s0) (hm : m = M s0) (hg : ∀ i s, inv i s → gd (M s) = true)
    (h0 : inv 0 s0) (hb : ∀ (i : Nat) s, i < n → inv i s → Nx (body (.int i) (E s) (M s)) fun e m => ∃ s', e = E s' ∧ m = M s' ∧ inv (i + 1) s') (k : ∀ s', r = .ok .nx (E s') (M s') → inv n s' → Z) : Z :=
  for_k hL E M inv s0 he hm hg h0 (fun i s d hd hi => by
    obtain ⟨h1, rfl⟩ := rngL_at hd
    rw [show ((0 : Int) + (i : Nat)) = (i : Int) by omega]
    exact nx_or (hb i s h1 hi)) (fun s' h1 h2 => k s' h1 (by rw [rngL_len] at h2; exact h2))
theorem while_n {S : Type} {Z : Prop} {t : TV} {b : SV} {env : Itp.Env} {m : Mem} {r : RS} (hL : sWhile t b env m = r) (E : S → Itp.Env) (M : S → Mem) (inv : S → Prop) (c : S → Bool) (mu : S → Nat) (s0 : S) (he : env = E s0) (hm : m = M s0) (h0 : inv s0) (hmu : mu s0 < 2 ^ 200)
    (ht : ∀ s, inv s → t (E s) (M s) = .ok (c s) (M s)) (hb : ∀ s, inv s → c s = true → Nx (b (E s) (M s)) fun e m => ∃ s', e = E s' ∧ m = M s' ∧ inv s' ∧ mu s' < mu s) (k : ∀ s', r = .ok .nx (E s') (M s') → inv s' → c s' = false → Z) : Z :=
  while_k hL E M inv c mu s0 he hm h0 hmu ht (fun s h1 h2 => nx_or (hb s h1 h2)) k
/-- runs to its end, with what is said -/
def Nn (r : RS) (P : Itp.Env → Mem → Prop) : Prop := match r with
  | .ok .nx e m => P e m
  | _ => False
theorem nn1 {e : Itp.Env} {m : Mem} {P : Itp.Env → Mem → Prop} : Nn (.ok .nx e m) P = P e m := rfl
theorem nn_elim {r : RS} {P : Itp.Env → Mem → Prop} {Z : RS → Prop} (h : Nn r P) (h1 : ∀ e m, P e m → Z (.ok .nx e m)) : Z r := by
  match r, h with
  | .ok .nx e m, h => exact h1 e m h
theorem nx_elim {r : RS} {P : Itp.Env → Mem → Prop} {Z : RS → Prop} (h : Nx r P) (h1 : ∀ e m, P e m → Z (.ok .nx e m)) (h2 : ∀ e m, P e m → Z (.ok .cont e m)) : Z r := by
  match r, h with
  | .ok .nx e m, h => exact h1 e m h
  | .ok .cont e m, h => exact h2 e m h
theorem bls_map : ∀ bs : List Bool, blsOf (bs.map D.bl) = some bs
  | [] => rfl
  | b :: bs => by simp only [List.map_cons, blsOf, bls_map bs, Option.map_some]
theorem r_all {m : Mem} (bs : List Bool) : bAll false [.fl (bs.map D.bl)] m = .ok (.bl (bs.all id)) m := by
  show (match blsOf (bs.map D.bl) with | some bs => R.ok (D.bl (if false then bs.any id else bs.all id)) m | none => R.bad) = _
  rw [bls_map]; rfl
theorem r_any {m : Mem} (bs : List Bool) : bAll true [.fl (bs.map D.bl)] m = .ok (.bl (bs.any id)) m := by
  show (match blsOf (bs.map D.bl) with | some bs => R.ok (D.bl (if true then bs.any id else bs.all id)) m | none => R.bad) = _
  rw [bls_map]; rfl
theorem r_all_true {α : Type} {m : Mem} (L : List α) : bAll false [.fl (L.map fun _ => D.bl true)] m = .ok (.bl true) m := by
  have : (L.map fun _ => D.bl true) = (L.map fun _ => true).map D.bl := by rw [List.map_map]; rfl
  rw [this, r_all]
  congr 2
  simp
/-! exceptions; written dicts -/
def kTry (chk : Str → Option Bool) (h : Exn → SV) (r : RS) : RS := match r with
  | .ex x env1 m1 => match chk x.cls with
    | some true => noexS (h x env1 m1)
    | some false => .ex x env1 m1
    | none => .bad
  | r => r
def kTryAs (i : Nat) (chk : Str → Option Bool) (h : Exn → SV) (r : RS) : RS := match r with
  | .ex x env1 m1 => match chk x.cls with
    | some true => if i < env1.length then delE i (h x (env1.set i none) m1) else .bad
    | some false => .ex x env1 m1
    | none => .bad
  | r => r
def kRaise (c : Str) (flds : List Str) (env : Itp.Env) (r : R (List D)) : RS := ofE r env fun ds m1 => if ds.length = flds.length then .ex ⟨c, (flds.zip ds).reverse⟩ env m1 else .bad
def kKix (l : List (List Nat × D)) (r : R D) : R D := r.bind fun d m1 => match d with
  | .str s => match l.lookup s with
    | some v => .ok v m1
    | none => .bad
  | _ => .bad
section
variable {chk : Str → Option Bool} {h : Exn → SV} {b : SV} {env : Itp.Env} {m : Mem} {x : Exn} {fl : Fl} {i : Nat} {c f : Str} {flds : List Str} {fs : List EV} {ds : List D} {d v : D} {exs : List (Str × ExD)} {l : List (List Nat × D)} {g : EV} {s : List Nat} {bb : Bool}
theorem rs_try : sTry chk b h env m = kTry chk h (b env m) := rfl
theorem rs_try1 : kTry chk h (.ok fl env m) = .ok fl env m := rfl
theorem rs_try2 (q : chk x.cls = some true) : kTry chk h (.ex x env m) = noexS (h x env m) := by dsimp only [kTry]; rw [q]
theorem rs_try3 (q : chk x.cls = some false) : kTry chk h (.ex x env m) = .ex x env m := by dsimp only [kTry]; rw [q]
theorem rs_tra : sTryAs i chk b h env m = kTryAs i chk h (b env m) := rfl
theorem rs_tra1 : kTryAs i chk h (.ok fl env m) = .ok fl env m := rfl
theorem rs_tra2 (q : chk x.cls = some true) (ql : i < env.length) : kTryAs i chk h (.ex x env m) = delE i (h x (env.set i none) m) := by dsimp only [kTryAs]; rw [q]; exact if_pos ql
theorem rs_tra3 (q : chk x.cls = some false) : kTryAs i chk h (.ex x env m) = .ex x env m := by dsimp only [kTryAs]; rw [q]
theorem rs_nox : noexS (.ok fl env m) = .ok fl env m := rfl
theorem rs_del1 : delE i (.ok .nx env m) = .ok .nx (env.set i none) m := rfl
theorem rs_del2 : delE i (.ok (.ret d) env m) = .ok (.ret d) env m := rfl
theorem rs_del3 : delE i (.ok .brk env m) = .ok .brk (env.set i none) m := rfl
theorem rs_del4 : delE i (.ok .cont env m) = .ok .cont (env.set i none) m := rfl
theorem rs_raise : sRaise c flds fs env m = kRaise c flds env (dArgs fs env m) := rfl
theorem rs_raise1 (q : ds.length = flds.length) : kRaise c flds env (.ok ds m) = .ex ⟨c, (flds.zip ds).reverse⟩ env m := if_pos q
theorem rs_raise0 : sRaise0 c env m = .ex ⟨c, []⟩ env m := rfl
theorem rs_raiseZ : sRaiseZ env m = .ex ⟨("ZeroDivisionError" : Str), []⟩ env m := rfl
theorem r_xf (q1 : xfOk exs x f = true) (q2 : x.fs.lookup f = some d) : dXfV exs x f env m = .ok d m := by unfold dXfV; rw [if_pos q1]; unfold dXf; rw [q2]
theorem r_isx (q : isxOf exs x c = some bb) : dIsV exs x c env m = .ok (.bl bb) m := by unfold dIsV; rw [q]; rfl
theorem r_kix : dKix l g env m = kKix l (g env m) := rfl
theorem r_kix1 (q : l.lookup s = some v) : kKix l (.ok (.str s) m) = .ok v m := by show (match l.lookup s with | some v => R.ok v m | none => R.bad) = _; rw [q]
end
end Itp
set_option Elab.async false
set_option linter.all false
set_option maxRecDepth 100000
/-! Itp S: equality of lists of whole numbers. -/
namespace Itp
open PySem PySem.Spec PyProof.Rows L2
section
variable {m : Mem}
theorem pyOfs_ints : ∀ c : List Int, pyOfs m (c.map D.int) = some (c.map PyData.int)
  | [] => by simp [pyOfs]
  | n :: c => by
    rw [List.map_cons, List.map_cons, pyOfs, pyOfs_ints c]
    simp [pyOf]
theorem lay_ints : ∀ c : List Int, PyData.canLayAll0 (c.map PyData.int) = true
  | [] => by simp [PyData.canLayAll0]
  | n :: c => by simp [PyData.canLayAll0, PyData.canLay0, lay_ints c]
theorem eqv_ints : ∀ a b : List Int, PyData.eqvAll (a.map PyData.int) (b.map PyData.int) = decide (a = b)
  | [], [] => by simp [PyData.eqvAll]
  | [], _ :: _ => by simp [PyData.eqvAll]
  | _ :: _, [] => by simp [PyData.eqvAll]
  | x :: a, y :: b => by
    rw [List.map_cons, List.map_cons, PyData.eqvAll, eqv_ints a b]
    simp only [PyData.eqv]
    by_cases h : x = y
    · subst h; simp
    · simp [h]
theorem depths_ints : ∀ c : List Int, PyData.depthAll (c.map PyData.int) ≤ 1
  | [] => by simp [PyData.depthAll]
  | n :: c => by
    have := depths_ints c
    simp only [List.map_cons, PyData.depthAll, PyData.depth]
    omega
theorem shaped_l (c : List Int) : SeqAt.shaped (.list (c.map PyData.int)) = true := by
  unfold SeqAt.shaped
  rw [Bool.and_eq_true]
  have := depths_ints c
  exact ⟨by simp only [PyData.canLay0]; exact lay_ints c, by simp only [PyData.depth]; exact decide_eq_true (by omega)⟩
theorem shaped_t (c : List Int) : SeqAt.shaped (.tuple (c.map PyData.int)) = true := by
  unfold SeqAt.shaped
  rw [Bool.and_eq_true]
  have := depths_ints c
  exact ⟨by simp only [PyData.canLay0]; exact lay_ints c, by simp only [PyData.depth]; exact decide_eq_true (by omega)⟩
theorem eqM_fl {a b : List Int} : eqM m (.fl (a.map D.int)) (.fl (b.map D.int)) = some (decide (a = b)) := by
  have h : ∀ c : List Int, pyOf m (.fl (c.map D.int)) = some (.list (c.map PyData.int)) := fun c => by rw [pyOf, pyOfs_ints]; rfl
  unfold eqM
  rw [h, h]
  dsimp only
  rw [shaped_l, shaped_l]
  simp only [Bool.and_self, if_true, PyData.eqv, eqv_ints]
theorem eqM_tp {a b : List Int} : eqM m (.tup (a.map D.int)) (.tup (b.map D.int)) = some (decide (a = b)) := by
  have h : ∀ c : List Int, pyOf m (.tup (c.map D.int)) = some (.tuple (c.map PyData.int)) := fun c => by rw [pyOf, pyOfs_ints]; rfl
  unfold eqM
  rw [h, h]
  dsimp only
  rw [shaped_t, shaped_t]
  simp only [Bool.and_self, if_true, PyData.eqv, eqv_ints]
theorem map_nI (c : List Nat) : c.map (fun (n : Nat) => D.int (n : Int)) = (c.map fun (n : Nat) => (n : Int)).map D.int := by rw [List.map_map]; rfl
theorem nat_ints : ∀ {a b : List Nat}, (a.map (fun (n : Nat) => (n : Int)) = b.map fun (n : Nat) => (n : Int)) ↔ a = b
  | [], [] => by simp
  | [], _ :: _ => by simp
  | _ :: _, [] => by simp
  | x :: a, y :: b => by
    rw [List.map_cons, List.map_cons, List.cons.injEq, List.cons.injEq, nat_ints (a := a) (b := b)]
    constructor
    · rintro ⟨h1, h2⟩; exact ⟨by omega, h2⟩
    · rintro ⟨h1, h2⟩; exact ⟨by omega, h2⟩
theorem eq_nats {ng : Bool} {a b : List Nat} : opEq ng (.fl (a.map fun (n : Nat) => D.int (n : Int))) (.fl (b.map fun (n : Nat) => D.int (n : Int))) m = .ok (.bl (if ng then !decide (a = b) else decide (a = b))) m := by
  rw [map_nI, map_nI]
  refine q_eqb (c := decide (a = b)) ?_
  rw [eqM_fl]
  congr 1
  exact decide_eq_decide.mpr nat_ints
end
end Itp
set_option Elab.async false
set_option linter.all false
set_option maxRecDepth 100000
namespace Pg
open PySem PySem.Spec PyProof.Rows L2 Itp
abbrev Fn := List D → Mem → R D
def tab_LIMITS : List (List Nat × D) := [([97, 115, 99, 105, 105], .int 128), ([108, 97, 116, 105, 110, 45, 49], .int 256)]
def sv_split_at : SV :=
    (sSeq (sAsg (.nm 2) (dMt "str" mFind (dVar 0) [(dVar 1)]))
    (sRet (dIf (dBl (dBin opLt (dVar 2) (dC (.int 0)))) (dTup [(dVar 0), (dC (.str []))]) (dTup [(dSl false (dVar 0) none (some (dVar 2))), (dSl false (dVar 0) (some (dVar 2)) none)]))))
def sv_widenings (c_split_at c_parted c_with_part : Fn) : SV :=
    (sSeq (sAsg (.tup [(.nm 1), (.nm 2)]) (dCall c_split_at [(dVar 0), (dC (.str [64]))]))
    (sSeq (sAsg (.tup [(.nm 1), (.nm 3)]) (dCall c_split_at [(dVar 1), (dC (.str [46]))]))
    (sSeq (sAsg (.tup [(.nm 4), (.nm 5)]) (dCall c_split_at [(dVar 1), (dC (.str [95]))]))
    (sSeq (sAsg (.nm 6) (dLst false [(dVar 4)]))
    (sSeq (sFor (dIt (dTup [(dTup [(dVar 3), (dC (.int 2))]), (dTup [(dVar 5), (dC (.int 1))]), (dTup [(dVar 2), (dC (.int 3))])])) (.tup [(.nm 7), (.nm 8)]) (sIf (dBl (dBin (opEq true) (dVar 7) (dC (.str [])))) (sAsg (.nm 6) (dBin (opAdd false) (dLc false [9] (dIt (dCall c_parted [(dVar 4), (dVar 6)])) (.nm 9) dNil (dCall c_with_part [(dVar 9), (dVar 7), (dVar 8)])) (dVar 6))) sNil))
    (sRet (dVar 6)))))))
def sv_parted (c_split_at : Fn) : SV :=
    (sSeq (sAsg (.nm 2) (dLst true []))
    (sSeq (sFor (dIt (dVar 1)) (.nm 3) (sSeq (sAsg (.tup [(.nm 4), (.nm 5)]) (dCall c_split_at [(dSl false (dVar 3) (some (dCB bLen [(dVar 0)])) none), (dC (.str [64]))]))
    (sSeq (sAsg (.tup [(.nm 6), (.nm 7)]) (dCall c_split_at [(dVar 4), (dC (.str [46]))]))
    (sDrop (dMt "list" mAppend (dVar 2) [(dTup [(dVar 0), (dVar 6), (dVar 7), (dVar 5)])])))))
    (sRet (dVar 2))))
def sv_with_part : SV :=
    (sRet (dMt "str" mJoin (dC (.str [])) [(dLc false [3, 4] (dEnum (dVar 0)) (.tup [(.nm 3), (.nm 4)]) dNil (dIf (dBl (dBin (opEq false) (dVar 3) (dVar 2))) (dVar 1) (dVar 4)))]))
def sv_World_init : SV :=
    (sSeq (sSetA ["World"] "files" dNewD (dVar 0))
    (sSeq (sSetA ["World"] "reads" dNewD (dVar 0))
    (sSeq (sSetA ["World"] "variables" dNewD (dVar 0))
    (sSetA ["World"] "names" dNewD (dVar 0)))))
def sv_World_set_full_name : SV :=
    (sSub (dVar 2) (dAttr "names" (dVar 0)) (dMt "str" mLower (dVar 1) []))
def sv_World_full_name : SV :=
    (sRet (dMt "dict" mGet (dAttr "names" (dVar 0)) [(dMt "str" mLower (dVar 1) []), (dVar 1)]))
def sv_World_widened (c_widenings c_World_full_name : Fn) : SV :=
    (sRet (dCall c_widenings [(dMeth "full_name" [("World", c_World_full_name)] (dVar 0) [(dVar 1)])]))
def sv__law_source : SV :=
    (sSeq (sAsg (.nm 2) (dC (.int 0)))
    (sSeq (sAsg (.nm 3) (dC (.int 0)))
    (sSeq (sIf (dBl (dBin opGt (dCB bLen [(dVar 0)]) (dC (.int 0)))) (sAsg (.nm 2) (dBin opIx (dVar 0) (dBin opMod (dCB bInt [(dVar 1)]) (dCB bLen [(dVar 0)])))) sNil)
    (sSeq (sIf (dAndT (dBl (dBin opLt (dVar 1) (dCB bLen [(dVar 0)]))) (dBl (dBin opGe (dVar 2) (dBin opPow (dC (.int 10)) (dC (.int 18)))))) (sAsg (.nm 3) (dVar 2)) sNil)
    (sRet (dLst true [(dVar 3), (dBin (opAdd false) (dBin (opAdd false) (dBin opMod (dCB bInt [(dVar 2)]) (dC (.int 2147483647))) (dBin (opMul false) (dC (.int 7919000)) (dVar 1))) (dC (.int 104729))), (dC (.int 0))]))))))
def sv__law_draw : SV :=
    (sSeq (sSub (dBin (opAdd false) (dBin opIx (dVar 0) (dC (.int 2))) (dC (.int 1))) (dVar 0) (dC (.int 2)))
    (sSeq (sIf (dBl (dBin opGt (dBin opIx (dVar 0) (dC (.int 0))) (dC (.int 0)))) (sSeq (sAsg (.nm 2) (dBin opMod (dCB bInt [(dBin opIx (dVar 0) (dC (.int 0)))]) (dVar 1)))
    (sSeq (sSub (dBin opFDiv (dBin opIx (dVar 0) (dC (.int 0))) (dVar 1)) (dVar 0) (dC (.int 0)))
    (sRet (dVar 2)))) sNil)
    (sSeq (sAsg (.nm 3) (dBin opMod (dBin opPow (dCB bInt [(dBin (opAdd false) (dBin opIx (dVar 0) (dC (.int 1))) (dBin (opMul false) (dC (.int 7919)) (dBin opIx (dVar 0) (dC (.int 2)))))]) (dC (.int 5))) (dC (.int 2147483647))))
    (sRet (dBin opMod (dBin opFDiv (dBin opMod (dBin (opMul false) (dBin (opAdd false) (dVar 3) (dBin opIx (dVar 0) (dC (.int 2)))) (dC (.int 40692))) (dC (.int 2147483629))) (dC (.int 16))) (dVar 1))))))
def sv__law_pick (c__law_draw : Fn) : SV :=
    (sRet (dBin opIx (dVar 1) (dCall c__law_draw [(dVar 0), (dCB bLen [(dVar 1)])])))
def sv__law_same (c__law_same : Fn) : SV :=
    (sSeq (sIf (dTest (dIsi [.lst, .tup] (dVar 1))) (sSeq (sIf (dOrT (dBl (dBin (opEq true) (dIsi [.lst] (dVar 0)) (dIsi [.lst] (dVar 1)))) (dBl (dBin (opEq true) (dIsi [.tup] (dVar 0)) (dIsi [.tup] (dVar 1))))) (sRet (dC (.bl false))) sNil)
    (sRet (dAndV (dBin (opEq false) (dCB bLen [(dVar 0)]) (dCB bLen [(dVar 1)])) (dCB (bAll false) [(dLc false [2, 3] (dZip (dVar 0) (dVar 1)) (.tup [(.nm 2), (.nm 3)]) dNil (dCall c__law_same [(dVar 2), (dVar 3)]))])))) sNil)
    (sSeq (sIf (dTest (dIsi [.bl, .int] (dVar 1))) (sRet (dAndV (dIsi [.int] (dVar 0)) (dAndV (dBin (opEq false) (dIsi [.bl] (dVar 0)) (dIsi [.bl] (dVar 1))) (dBin (opEq false) (dVar 0) (dVar 1))))) sNil)
    (sRet (dAndV (dNotV (dIsi [.bl, .lst, .tup] (dVar 0))) (dBin (opEq false) (dVar 0) (dVar 1))))))
def sv__law_widenings : SV :=
    (sSeq (sAsg (.nm 1) (dMt "str" mStrIx (dBin (opAdd false) (dVar 0) (dC (.str [64]))) [(dC (.str [64]))]))
    (sSeq (sAsg (.tup [(.nm 2), (.nm 3)]) (dTup [(dSl false (dVar 0) none (some (dVar 1))), (dSl false (dVar 0) (some (dVar 1)) none)]))
    (sSeq (sAsg (.nm 1) (dMt "str" mStrIx (dBin (opAdd false) (dVar 2) (dC (.str [46]))) [(dC (.str [46]))]))
    (sSeq (sAsg (.tup [(.nm 2), (.nm 4)]) (dTup [(dSl false (dVar 2) none (some (dVar 1))), (dSl false (dVar 2) (some (dVar 1)) none)]))
    (sSeq (sAsg (.nm 1) (dMt "str" mStrIx (dBin (opAdd false) (dVar 2) (dC (.str [95]))) [(dC (.str [95]))]))
    (sSeq (sAsg (.nm 5) (dLst true []))
    (sSeq (sFor (dIt (dSl false (dLst false [(dVar 3), (dC (.str []))]) (some (dCB bInt [(dBin (opEq false) (dVar 3) (dC (.str [])))])) none)) (.nm 6) (sFor (dIt (dSl false (dLst false [(dSl false (dVar 2) (some (dVar 1)) none), (dC (.str []))]) (some (dCB bInt [(dBin (opEq false) (dSl false (dVar 2) (some (dVar 1)) none) (dC (.str [])))])) none)) (.nm 7) (sDrop (dMt "list" mExtend (dVar 5) [(dLc false [8] (dIt (dSl false (dLst false [(dVar 4), (dC (.str []))]) (some (dCB bInt [(dBin (opEq false) (dVar 4) (dC (.str [])))])) none)) (.nm 8) dNil (dBin (opAdd false) (dBin (opAdd false) (dBin (opAdd false) (dSl false (dVar 2) none (some (dVar 1))) (dVar 7)) (dVar 8)) (dVar 6)))]))))
    (sRet (dVar 5)))))))))
def sv_code_bytes : SV :=
    (sSeq (sIf (dBl (dBin opLt (dVar 0) (dC (.int 128)))) (sRet (dLst false [(dVar 0)])) sNil)
    (sSeq (sIf (dBl (dBin opLt (dVar 0) (dC (.int 2048)))) (sRet (dLst false [(dBin (opAdd false) (dC (.int 192)) (dBin opFDiv (dVar 0) (dC (.int 64)))), (dBin (opAdd false) (dC (.int 128)) (dBin opMod (dVar 0) (dC (.int 64))))])) sNil)
    (sSeq (sIf (dBl (dBin opLt (dVar 0) (dC (.int 65536)))) (sRet (dLst false [(dBin (opAdd false) (dC (.int 224)) (dBin opFDiv (dVar 0) (dC (.int 4096)))), (dBin (opAdd false) (dC (.int 128)) (dBin opMod (dBin opFDiv (dVar 0) (dC (.int 64))) (dC (.int 64)))), (dBin (opAdd false) (dC (.int 128)) (dBin opMod (dVar 0) (dC (.int 64))))])) sNil)
    (sRet (dLst false [(dBin (opAdd false) (dC (.int 240)) (dBin opFDiv (dVar 0) (dC (.int 262144)))), (dBin (opAdd false) (dC (.int 128)) (dBin opMod (dBin opFDiv (dVar 0) (dC (.int 4096))) (dC (.int 64)))), (dBin (opAdd false) (dC (.int 128)) (dBin opMod (dBin opFDiv (dVar 0) (dC (.int 64))) (dC (.int 64)))), (dBin (opAdd false) (dC (.int 128)) (dBin opMod (dVar 0) (dC (.int 64))))])))))
def sv_code_at (c_code_bytes : Fn) : SV :=
    (sSeq (sPar 2 3 (dBin opIx (dVar 0) (dVar 1)) (dC (.int 1)))
    (sSeq (sFor (dIt (dTup [(dTup [(dC (.int 192)), (dC (.int 2))]), (dTup [(dC (.int 224)), (dC (.int 3))]), (dTup [(dC (.int 240)), (dC (.int 4))])])) (.tup [(.nm 4), (.nm 5)]) (sIf (dBl (dBin opGe (dVar 2) (dVar 4))) (sAsg (.nm 3) (dVar 5)) sNil))
    (sSeq (sIf (dBl (dBin (opEq false) (dVar 3) (dC (.int 1)))) (sRet (dIf (dBl (dBin opLt (dVar 2) (dC (.int 128)))) (dVar 2) (dC (.non)))) sNil)
    (sSeq (sAsg (.nm 6) (dBin opSub (dVar 2) (dBin opIx (dTup [(dC (.int 0)), (dC (.int 0)), (dC (.int 192)), (dC (.int 224)), (dC (.int 240))]) (dVar 3))))
    (sSeq (sFor (dIt (dSl false (dVar 0) (some (dBin (opAdd false) (dVar 1) (dC (.int 1)))) (some (dBin (opAdd false) (dVar 1) (dVar 3))))) (.nm 7) (sAsg (.nm 6) (dBin opSub (dBin (opAdd false) (dBin (opMul false) (dVar 6) (dC (.int 64))) (dVar 7)) (dC (.int 128)))))
    (sSeq (sIf (dOrT (dBl (dBin opLt (dVar 6) (dC (.int 128)))) (dOrT (dBl (dBin opGt (dVar 6) (dC (.int 1114111)))) (dOrT (dBl (dChain opLe opLe (dC (.int 55296)) (dVar 6) (dC (.int 57343)))) (dBl (dBin (opEq true) (dCall c_code_bytes [(dVar 6)]) (dCB (bList false) [(dSl false (dVar 0) (some (dVar 1)) (some (dBin (opAdd false) (dVar 1) (dVar 3))))])))))) (sRet (dC (.non))) sNil)
    (sRet (dVar 6))))))))
def sv_decode (c_code_at c_code_bytes : Fn) : SV :=
    (sSeq (sPar 2 3 (dLst true []) (dC (.int 0)))
    (sSeq (sWhile (dBl (dBin opLt (dVar 3) (dCB bLen [(dVar 0)]))) (sSeq (sAsg (.nm 4) (dBin opIx (dVar 0) (dVar 3)))
    (sSeq (sIf (dBl (dBin (opEq false) (dVar 1) (dC (.str [117, 116, 102, 45, 56])))) (sAsg (.nm 4) (dCall c_code_at [(dVar 0), (dVar 3)])) (sIf (dBl (dBin opGe (dVar 4) (dKix tab_LIMITS (dVar 1)))) (sAsg (.nm 4) (dC (.non))) sNil))
    (sSeq (sIf (dBl (dBin (opIsN false) (dVar 4) (dC (.non)))) (sRaise "DecodeError" ["index"] [(dVar 3)]) sNil)
    (sSeq (sDrop (dMt "list" mAppend (dVar 2) [(dVar 4)]))
    (sAsg (.nm 3) (dBin (opAdd false) (dVar 3) (dIf (dBl (dBin (opEq false) (dVar 1) (dC (.str [117, 116, 102, 45, 56])))) (dCB bLen [(dCall c_code_bytes [(dVar 4)])]) (dC (.int 1))))))))))
    (sRet (dCB bTuple [(dVar 2)]))))
def sv__law_handed (c__law_draw : Fn) : SV :=
    (sRet (dBin opIx (dLst false [(dCB bTuple [(dVar 1)]), (dCB (bList false) [(dVar 1)])]) (dCall c__law_draw [(dVar 0), (dC (.int 2))])))
def sv__law_codes (c__law_draw : Fn) : SV :=
    (sSeq (sAsg (.nm 2) (dLst true []))
    (sSeq (sFor (dRng [(dCall c__law_draw [(dVar 0), (dBin (opAdd false) (dVar 1) (dC (.int 1)))])]) (.nm 3) (sSeq (sAsg (.nm 4) (dCall c__law_draw [(dVar 0), (dC (.int 8))]))
    (sIf (dBl (dBin opLt (dVar 4) (dC (.int 5)))) (sDrop (dMt "list" mAppend (dVar 2) [(dBin (opAdd false) (dC (.int 97)) (dCall c__law_draw [(dVar 0), (dC (.int 4))]))])) (sIf (dBl (dBin (opEq false) (dVar 4) (dC (.int 5)))) (sDrop (dMt "list" mAppend (dVar 2) [(dBin opIx (dLst false [(dC (.int 10)), (dC (.int 9)), (dC (.int 32)), (dC (.int 34)), (dC (.int 92)), (dC (.int 37)), (dC (.int 58)), (dC (.int 59)), (dC (.int 1)), (dC (.int 127))]) (dCall c__law_draw [(dVar 0), (dC (.int 10))]))])) (sDrop (dMt "list" mAppend (dVar 2) [(dBin opIx (dLst false [(dC (.int 128)), (dC (.int 255)), (dC (.int 256)), (dC (.int 2047)), (dC (.int 2048)), (dC (.int 55295)), (dC (.int 57344)), (dC (.int 65535)), (dC (.int 65536)), (dC (.int 1114111))]) (dCall c__law_draw [(dVar 0), (dC (.int 10))]))]))))))
    (sRet (dCB bTuple [(dVar 2)]))))
def sv__law_utf8 : SV :=
    (sSeq (sAsg (.nm 1) (dLst true []))
    (sSeq (sFor (dIt (dVar 0)) (.nm 2) (sIf (dBl (dBin opLt (dVar 2) (dC (.int 128)))) (sDrop (dMt "list" mAppend (dVar 1) [(dVar 2)])) (sSeq (sAsg (.nm 3) (dBin (opAdd false) (dBin (opAdd false) (dC (.int 1)) (dCB bInt [(dBin opGt (dVar 2) (dC (.int 2047)))])) (dCB bInt [(dBin opGt (dVar 2) (dC (.int 65535)))])))
    (sSeq (sAsg (.nm 4) (dLst false [(dC (.int 1)), (dC (.int 64)), (dC (.int 4096)), (dC (.int 262144))]))
    (sSeq (sDrop (dMt "list" mAppend (dVar 1) [(dBin (opAdd false) (dBin opIx (dLst false [(dC (.int 0)), (dC (.int 192)), (dC (.int 224)), (dC (.int 240))]) (dVar 3)) (dBin opFDiv (dVar 2) (dBin opIx (dVar 4) (dVar 3))))]))
    (sFor (dRng [(dBin opSub (dVar 3) (dC (.int 1))), (dUn opNeg (dC (.int 1))), (dUn opNeg (dC (.int 1)))]) (.nm 5) (sDrop (dMt "list" mAppend (dVar 1) [(dBin (opAdd false) (dC (.int 128)) (dBin opMod (dBin opFDiv (dVar 2) (dBin opIx (dVar 4) (dVar 5))) (dC (.int 64))))]))))))))
    (sRet (dCB bTuple [(dVar 1)]))))
def sv_encode (c_code_bytes : Fn) : SV :=
    (sSeq (sAsg (.nm 2) (dLst true []))
    (sSeq (sFor (dEnum (dVar 0)) (.tup [(.nm 3), (.nm 4)]) (sIf (dBl (dBin (opEq false) (dVar 1) (dC (.str [117, 116, 102, 45, 56])))) (sDrop (dMt "list" mExtend (dVar 2) [(dCall c_code_bytes [(dVar 4)])])) (sIf (dBl (dBin opLt (dVar 4) (dKix tab_LIMITS (dVar 1)))) (sDrop (dMt "list" mAppend (dVar 2) [(dVar 4)])) (sRaise "EncodeError" ["index"] [(dVar 3)]))))
    (sRet (dCB bTuple [(dVar 2)]))))
end Pg
set_option Elab.async false
set_option linter.all false
set_option maxRecDepth 100000
set_option maxHeartbeats 4000000
/-! the laws' source of draws, and equality kind for kind -/
namespace Pg
open PySem PySem.Spec PyProof.Rows L2 Itp
local macro_rules | `(tactic| walk_at "ev") => `(tactic| simp (disch := first | assumption | omega | ((try simp only [List.length_cons, List.length_nil, List.length_append, List.length_map, List.length_take, List.length_drop, List.length_reverse, List.length_set, List.length_replicate]) <;> omega) | fail) only [r_var, r_c, r_bin, r_bin1, r_bin2, r_bin1x, r_bin2x, r_un, r_un1, r_a0, r_a1, r_a2, r_a3, r_a2x, r_a3x, r_cb, r_cb1, r_cb1x, r_call, r_call1, r_call1x, r_mt, r_mts, r_mtf, r_mtr0, r_mtr1, r_mtr2, r_mtd0, r_mt2, r_test, r_test1, r_test2, r_testx, r_bl, r_bl1, r_blx, r_av, r_av1, r_avt, r_avf, r_ov, r_ov1, r_ovt, r_ovf, r_nv, r_nv1, r_nv2, r_at, r_att, r_atf, r_ot, r_ott, r_otf, r_nt, r_nt1, r_if, r_ift, r_iff, r_ifx, r_tup, r_tup1, r_tupx, r_lst, r_lst1, r_ch, r_ch1, r_ch2, r_ch3, r_ch4, r_isi, r_isi1, r_isi2, r_bd0, r_bd1, r_bd2, r_rev, r_rev1, r_sl, r_sl1, r_sl2, r_sl3, r_it, r_it1, r_itt, r_itf, r_itsc, r_its, r_itr0, r_en, r_en1, r_opi, r_ent, r_enf, r_zip, r_zip1, r_zip2, r_zft, r_ztt, r_rng, r_rng1, r_rng2, r_rng3, r_lc, r_lc1, r_lc2, r_bc1, r_bc2, r_some, r_dnil, r_attr, r_attr1, r_attr2, r_opd, r_meth, r_meth1, r_meth2, r_meth3, r_meth4, r_make, r_make1, r_make2, r_newd, rs_nil, rs_seq, rs_sq1, rs_sq2, rs_sq3, rs_sq4, rs_sq5, rs_ret, rs_ret1, rs_retx, rs_retn, rs_brk, rs_cont, rs_drop, rs_drop1, rs_dropx, rs_asg, rs_asg1, rs_asgx, rs_ope, rs_par, rs_par1, rs_par2, rs_par3, rs_par31, rs_par32, rs_par33, rs_if, rs_ift, rs_iff, rs_ifx, rs_sub, rs_sub1, rs_sub2, rs_sub3, rs_opm, rs_sls, rs_sls1, rs_sls2, rs_sls3, rs_sls4, rs_att, rs_att2, rs_att3, rs_tas0, rs_tas1, rs_tas2, rs_tas3, rs_seta, rs_seta1, rs_seta2, rs_for, rs_for1, rs_body, rs_bodyn, rs_run, rs_end1, rs_end2, rs_end3, r_bnm, r_btu, r_bd00, r_bd01, r_obs, r_trn, r_trb, r_tri, r_trt, r_trf, r_tyn, r_tyb, r_tyi, r_tys, r_tyt, r_tyf, r_tysc, r_dt, r_df, r_eqF, r_eqT, r_eqbF, r_eqbT, r_seF, r_seT, r_isF, r_isT, r_find, r_neg, r_max, r_min, rs_kl1, rs_kl2, rs_kl3, rs_kl4, rs_kl5, r_strix, r_at0, r_at1, r_at2, r_at3, r_at4, r_at5, r_at6, r_at7, r_at8, r_at9, r_at10, r_at11, r_at12, r_all, r_any, r_all_true, rs_try, rs_try1, rs_try2, rs_try3, rs_tra, rs_tra1, rs_tra2, rs_tra3, rs_nox, rs_del1, rs_del2, rs_del3, rs_del4, rs_raise, rs_raise1, rs_raise0, rs_raiseZ, r_xf, r_isx, r_kix, r_kix1, q_atI, q_nok, q_nbad, q_m0, q_m1, q_m2, q_m3, q_s0, q_s1, q_s2, q_s3, q_ss, q_mkT, q_mkF, q_mkM, q_addi, q_adds, q_addt, q_addf, q_subi, q_muli, q_divi, q_modi, q_lt, q_le, q_gt, q_ge, q_ixt, q_ixf, q_ixsc, q_ixrm, q_lens, q_lent, q_lenf, q_lensc, q_lenrm, q_inti, q_intb, q_ord, q_tupt, q_tupf, q_tuprm, q_lstt, q_lstf, q_appm, q_extm, q_slfF, q_slfM, q_sltT, q_sls, nn1, List.isEmpty_nil, List.isEmpty_cons, nx1, nx2, List.map_cons, List.map_nil, List.length_cons, List.length_nil, List.replicate_succ, List.replicate_zero, List.cons_append, List.nil_append, List.append_nil, List.set_cons_succ, List.set_cons_zero, List.getElem?_cons_zero, List.getElem?_cons_succ, Nat.reduceSub, Nat.reduceAdd, List.length_append, List.length_map, List.append_assoc, Nat.zero_add, if_true, if_false, Bool.false_eq_true, Bool.not_true, Bool.not_false, isNonB, wipeE, List.any_cons, List.any_nil, isT, Bool.or_false, Bool.or_true, Bool.false_or, Bool.true_or])
local macro_rules | `(tactic| walk_at "el") => `(tactic| simp (disch := first | assumption | omega | ((try simp only [List.length_cons, List.length_nil, List.length_append, List.length_map, List.length_take, List.length_drop, List.length_reverse, List.length_set, List.length_replicate]) <;> omega) | fail) only [rs_lf0, rs_lf1, r_var, r_c, r_bin, r_bin1, r_bin2, r_bin1x, r_bin2x, r_un, r_un1, r_a0, r_a1, r_a2, r_a3, r_a2x, r_a3x, r_cb, r_cb1, r_cb1x, r_call, r_call1, r_call1x, r_mt, r_mts, r_mtf, r_mtr0, r_mtr1, r_mtr2, r_mtd0, r_mt2, r_test, r_test1, r_test2, r_testx, r_bl, r_bl1, r_blx, r_av, r_av1, r_avt, r_avf, r_ov, r_ov1, r_ovt, r_ovf, r_nv, r_nv1, r_nv2, r_at, r_att, r_atf, r_ot, r_ott, r_otf, r_nt, r_nt1, r_if, r_ift, r_iff, r_ifx, r_tup, r_tup1, r_tupx, r_lst, r_lst1, r_ch, r_ch1, r_ch2, r_ch3, r_ch4, r_isi, r_isi1, r_isi2, r_bd0, r_bd1, r_bd2, r_rev, r_rev1, r_sl, r_sl1, r_sl2, r_sl3, r_it, r_it1, r_itt, r_itf, r_itsc, r_its, r_itr0, r_en, r_en1, r_opi, r_ent, r_enf, r_zip, r_zip1, r_zip2, r_zft, r_ztt, r_rng, r_rng1, r_rng2, r_rng3, r_lc, r_lc1, r_lc2, r_bc1, r_bc2, r_some, r_dnil, r_attr, r_attr1, r_attr2, r_opd, r_meth, r_meth1, r_meth2, r_meth3, r_meth4, r_make, r_make1, r_make2, r_newd, rs_nil, rs_seq, rs_sq1, rs_sq2, rs_sq3, rs_sq4, rs_sq5, rs_ret, rs_ret1, rs_retx, rs_retn, rs_brk, rs_cont, rs_drop, rs_drop1, rs_dropx, rs_asg, rs_asg1, rs_asgx, rs_ope, rs_par, rs_par1, rs_par2, rs_par3, rs_par31, rs_par32, rs_par33, rs_if, rs_ift, rs_iff, rs_ifx, rs_sub, rs_sub1, rs_sub2, rs_sub3, rs_opm, rs_sls, rs_sls1, rs_sls2, rs_sls3, rs_sls4, rs_att, rs_att2, rs_att3, rs_tas0, rs_tas1, rs_tas2, rs_tas3, rs_seta, rs_seta1, rs_seta2, rs_for, rs_for1, rs_body, rs_bodyn, rs_run, rs_end1, rs_end2, rs_end3, r_bnm, r_btu, r_bd00, r_bd01, r_obs, r_trn, r_trb, r_tri, r_trt, r_trf, r_tyn, r_tyb, r_tyi, r_tys, r_tyt, r_tyf, r_tysc, r_dt, r_df, r_eqF, r_eqT, r_eqbF, r_eqbT, r_seF, r_seT, r_isF, r_isT, r_find, r_neg, r_max, r_min, rs_kl1, rs_kl2, rs_kl3, rs_kl4, rs_kl5, r_strix, r_at0, r_at1, r_at2, r_at3, r_at4, r_at5, r_at6, r_at7, r_at8, r_at9, r_at10, r_at11, r_at12, r_all, r_any, r_all_true, rs_try, rs_try1, rs_try2, rs_try3, rs_tra, rs_tra1, rs_tra2, rs_tra3, rs_nox, rs_del1, rs_del2, rs_del3, rs_del4, rs_raise, rs_raise1, rs_raise0, rs_raiseZ, r_xf, r_isx, r_kix, r_kix1, q_atI, q_nok, q_nbad, q_m0, q_m1, q_m2, q_m3, q_s0, q_s1, q_s2, q_s3, q_ss, q_mkT, q_mkF, q_mkM, q_addi, q_adds, q_addt, q_addf, q_subi, q_muli, q_divi, q_modi, q_lt, q_le, q_gt, q_ge, q_ixt, q_ixf, q_ixsc, q_ixrm, q_lens, q_lent, q_lenf, q_lensc, q_lenrm, q_inti, q_intb, q_ord, q_tupt, q_tupf, q_tuprm, q_lstt, q_lstf, q_appm, q_extm, q_slfF, q_slfM, q_sltT, q_sls, nn1, List.isEmpty_nil, List.isEmpty_cons, nx1, nx2, List.map_cons, List.map_nil, List.length_cons, List.length_nil, List.replicate_succ, List.replicate_zero, List.cons_append, List.nil_append, List.append_nil, List.set_cons_succ, List.set_cons_zero, List.getElem?_cons_zero, List.getElem?_cons_succ, Nat.reduceSub, Nat.reduceAdd, List.length_append, List.length_map, List.append_assoc, Nat.zero_add, if_true, if_false, Bool.false_eq_true, Bool.not_true, Bool.not_false, isNonB, wipeE, List.any_cons, List.any_nil, isT, Bool.or_false, Bool.or_true, Bool.false_or, Bool.true_or])
local macro_rules | `(tactic| walk_at "ex") => `(tactic| simp (disch := first | assumption | omega | ((try simp only [List.length_cons, List.length_nil, List.length_append, List.length_map, List.length_take, List.length_drop, List.length_reverse, List.length_set, List.length_replicate]) <;> omega) | fail) only [r_var, r_c, r_bin, r_bin1, r_bin2, r_bin1x, r_bin2x, r_un, r_un1, r_a0, r_a1, r_a2, r_a3, r_a2x, r_a3x, r_cb, r_cb1, r_cb1x, r_call, r_call1, r_call1x, r_mt, r_mts, r_mtf, r_mtr0, r_mtr1, r_mtr2, r_mtd0, r_mt2, r_test, r_test1, r_test2, r_testx, r_bl, r_bl1, r_blx, r_av, r_av1, r_avt, r_avf, r_ov, r_ov1, r_ovt, r_ovf, r_nv, r_nv1, r_nv2, r_at, r_att, r_atf, r_ot, r_ott, r_otf, r_nt, r_nt1, r_if, r_ift, r_iff, r_ifx, r_tup, r_tup1, r_tupx, r_lst, r_lst1, r_ch, r_ch1, r_ch2, r_ch3, r_ch4, r_isi, r_isi1, r_isi2, r_bd0, r_bd1, r_bd2, r_rev, r_rev1, r_sl, r_sl1, r_sl2, r_sl3, r_it, r_it1, r_itt, r_itf, r_itsc, r_its, r_itr0, r_en, r_en1, r_opi, r_ent, r_enf, r_zip, r_zip1, r_zip2, r_zft, r_ztt, r_rng, r_rng1, r_rng2, r_rng3, r_lc, r_lc1, r_lc2, r_bc1, r_bc2, r_some, r_dnil, r_attr, r_attr1, r_attr2, r_opd, r_meth, r_meth1, r_meth2, r_meth3, r_meth4, r_make, r_make1, r_make2, r_newd, rs_nil, rs_seq, rs_sq1, rs_sq2, rs_sq3, rs_sq4, rs_sq5, rs_ret, rs_ret1, rs_retx, rs_retn, rs_brk, rs_cont, rs_drop, rs_drop1, rs_dropx, rs_asg, rs_asg1, rs_asgx, rs_ope, rs_par, rs_par1, rs_par2, rs_par3, rs_par31, rs_par32, rs_par33, rs_if, rs_ift, rs_iff, rs_ifx, rs_sub, rs_sub1, rs_sub2, rs_sub3, rs_opm, rs_sls, rs_sls1, rs_sls2, rs_sls3, rs_sls4, rs_att, rs_att2, rs_att3, rs_tas0, rs_tas1, rs_tas2, rs_tas3, rs_seta, rs_seta1, rs_seta2, rs_for, rs_for1, rs_body, rs_bodyn, rs_run, rs_end1, rs_end2, rs_end3, r_bnm, r_btu, r_bd00, r_bd01, r_obs, r_trn, r_trb, r_tri, r_trt, r_trf, r_tyn, r_tyb, r_tyi, r_tys, r_tyt, r_tyf, r_tysc, r_dt, r_df, r_eqF, r_eqT, r_eqbF, r_eqbT, r_seF, r_seT, r_isF, r_isT, r_find, r_neg, r_max, r_min, rs_kl1, rs_kl2, rs_kl3, rs_kl4, rs_kl5, r_strix, r_at0, r_at1, r_at2, r_at3, r_at4, r_at5, r_at6, r_at7, r_at8, r_at9, r_at10, r_at11, r_at12, r_all, r_any, r_all_true, rs_try, rs_try1, rs_try2, rs_try3, rs_tra, rs_tra1, rs_tra2, rs_tra3, rs_nox, rs_del1, rs_del2, rs_del3, rs_del4, rs_raise, rs_raise1, rs_raise0, rs_raiseZ, r_xf, r_isx, r_kix, r_kix1, q_atI, q_nok, q_nbad, q_m0, q_m1, q_m2, q_m3, q_s0, q_s1, q_s2, q_s3, q_ss, q_mkT, q_mkF, q_mkM, q_addi, q_adds, q_addt, q_addf, q_subi, q_muli, q_divi, q_modi, q_lt, q_le, q_gt, q_ge, q_ixt, q_ixf, q_ixsc, q_ixrm, q_lens, q_lent, q_lenf, q_lensc, q_lenrm, q_inti, q_intb, q_ord, q_tupt, q_tupf, q_tuprm, q_lstt, q_lstf, q_appm, q_extm, q_slfF, q_slfM, q_sltT, q_sls, nn1, List.isEmpty_nil, List.isEmpty_cons, nx1, nx2, List.map_cons, List.map_nil, List.length_cons, List.length_nil, List.replicate_succ, List.replicate_zero, List.cons_append, List.nil_append, List.append_nil, List.set_cons_succ, List.set_cons_zero, List.getElem?_cons_zero, List.getElem?_cons_succ, Nat.reduceSub, Nat.reduceAdd, List.length_append, List.length_map, List.append_assoc, Nat.zero_add, if_true, if_false, Bool.false_eq_true, Bool.not_true, Bool.not_false, isNonB, wipeE, List.any_cons, List.any_nil, isT, Bool.or_false, Bool.or_true, Bool.false_or, Bool.true_or, *])
def SourceF (c : Fn) : Prop := ∀ (ns : List Int) (t : Nat) (m : Mem), t ≤ 1000000 → ∃ l, c [.sc (ns.map .int), .int t] m = .ok (.ref m.length) (m ++ [.lst l]) ∧ SrcL 0 l
def DrawF (c : Fn) : Prop := ∀ (m : Mem) (a n : Nat) (l : List D) (many : Int), (m : List O)[a]? = some (.lst l) → SrcL n l → n < 2 ^ 40 → 0 < many → many < 2 ^ 100 → ∃ (r : Nat) (l' : List D), c [.ref a, .int many] m = .ok (.int r) (setM m a (.lst l')) ∧ (r : Int) < many ∧ SrcL (n + 1) l'
def PickF (c : Fn) : Prop := ∀ (m : Mem) (a n : Nat) (l : List D) (ds : List D), (m : List O)[a]? = some (.lst l) → SrcL n l → n < 2 ^ 40 → 0 < ds.length → ds.length < 2 ^ 60 → ∃ (j : Nat) (d : D) (l' : List D), ds[j]? = some d ∧ c [.ref a, .fl ds] m = .ok d (setM m a (.lst l')) ∧ c [.ref a, .tup ds] m = .ok d (setM m a (.lst l')) ∧ SrcL (n + 1) l'
theorem source_of : SourceF (runB 4 sv__law_source) := fun ns t m ht => by
  obtain ⟨a, m', e, l, hl, rfl, rfl⟩ := ok_of_wp (source_ok (ns := ns) (k := (t : Int)) (m := m) (Q := fun d m' => ∃ l, SrcL 0 l ∧ d = .ref m.length ∧ m' = m ++ [.lst l]) (by omega) (by omega) fun l hl => ⟨l, hl, rfl, rfl⟩)
  exact ⟨l, e, hl⟩
theorem draw_of : DrawF (runB 4 sv__law_draw) := fun m a n l many ha hl hn h0 h1 => by
  obtain ⟨r, m', e, ⟨j, l', h3, h4, rfl, rfl, h5⟩⟩ := ok_of_wp (draw_ok (Q := fun d m' => ∃ (j : Nat) (l' : List D), (j : Int) < many ∧ SrcL (n + 1) l' ∧ d = .int j ∧ m' = setM m a (.lst l') ∧ True) ha hl hn h0 h1 fun r l' q0 q1 q2 => by
    obtain ⟨j, rfl⟩ := Int.eq_ofNat_of_zero_le q0
    exact ⟨j, l', q1, q2, rfl, rfl, trivial⟩)
  exact ⟨j, l', e, h3, h4⟩
theorem pick_of {c : Fn} (hc : DrawF c) : PickF (runB 2 (sv__law_pick c)) := fun m a n l ds ha hl hn h0 h1 => by
  obtain ⟨r, l', e, h2, h3⟩ := hc m a n l (ds.length : Int) ha hl hn (by omega) (by omega)
  have hr : r < ds.length := by omega
  refine ⟨r, ds[r], l', List.getElem?_eq_getElem hr, ?_, ?_, h3⟩
  all_goals
    unfold sv__law_pick
    walk_at "ev"
    rw [e]
    walk_at "ev"
    rw [List.getElem?_eq_getElem hr]
    walk_at "ev"
theorem src_pl {n : Nat} {l : List D} (h : SrcL n l) : O.pl (.lst l) = true := by
  obtain ⟨d, s, c, rfl, _⟩ := h
  rfl
/-! equality kind for kind -/
theorem Same_flM {α : Type} {m : Mem} {n : Nat} {L : List α} {fn : α → D} (h : ∀ x ∈ L, Same m n (fn x) (fn x)) (hl : L.length ≤ 16777216) : Same m (n + 1) (.fl (L.map fn)) (.fl (L.map fn)) :=
  .lst rfl rfl rfl (by rw [List.length_map]; exact hl) fun i x y e1 e2 => by
    rw [e1] at e2; cases e2
    rw [List.getElem?_map] at e1
    cases e : L[i]? with
    | none => rw [e] at e1; cases e1
    | some z => rw [e] at e1; cases e1; exact h z (List.mem_of_getElem? e)
theorem Same_tupM {α : Type} {m : Mem} {n : Nat} {L : List α} {fn : α → D} (h : ∀ x ∈ L, Same m n (fn x) (fn x)) (hl : L.length ≤ 16777216) : Same m (n + 1) (.tup (L.map fn)) (.tup (L.map fn)) :=
  .tup rfl (by rw [List.length_map]; exact hl) fun i x y e1 e2 => by
    rw [e1] at e2; cases e2
    rw [List.getElem?_map] at e1
    cases e : L[i]? with
    | none => rw [e] at e1; cases e1
    | some z => rw [e] at e1; cases e1; exact h z (List.mem_of_getElem? e)
def SameF (c : Nat → Fn) : Prop := ∀ (m : Mem) (n : Nat) (x y : D), Same m n x y → c n [x, y] m = .ok (.bl true) m
end Pg
set_option Elab.async false
set_option linter.all false
set_option maxRecDepth 100000
set_option maxHeartbeats 4000000
/-! what the world's functions compute -/
namespace Pg
open PySem PySem.Spec PyProof.Rows L2 Itp
local macro_rules | `(tactic| walk_at "ev") => `(tactic| simp (disch := first | assumption | omega | ((try simp only [List.length_cons, List.length_nil, List.length_append, List.length_map, List.length_take, List.length_drop, List.length_reverse, List.length_set, List.length_replicate]) <;> omega) | fail) only [r_var, r_c, r_bin, r_bin1, r_bin2, r_bin1x, r_bin2x, r_un, r_un1, r_a0, r_a1, r_a2, r_a3, r_a2x, r_a3x, r_cb, r_cb1, r_cb1x, r_call, r_call1, r_call1x, r_mt, r_mts, r_mtf, r_mtr0, r_mtr1, r_mtr2, r_mtd0, r_mt2, r_test, r_test1, r_test2, r_testx, r_bl, r_bl1, r_blx, r_av, r_av1, r_avt, r_avf, r_ov, r_ov1, r_ovt, r_ovf, r_nv, r_nv1, r_nv2, r_at, r_att, r_atf, r_ot, r_ott, r_otf, r_nt, r_nt1, r_if, r_ift, r_iff, r_ifx, r_tup, r_tup1, r_tupx, r_lst, r_lst1, r_ch, r_ch1, r_ch2, r_ch3, r_ch4, r_isi, r_isi1, r_isi2, r_bd0, r_bd1, r_bd2, r_rev, r_rev1, r_sl, r_sl1, r_sl2, r_sl3, r_it, r_it1, r_itt, r_itf, r_itsc, r_its, r_itr0, r_en, r_en1, r_opi, r_ent, r_enf, r_zip, r_zip1, r_zip2, r_zft, r_ztt, r_rng, r_rng1, r_rng2, r_rng3, r_lc, r_lc1, r_lc2, r_bc1, r_bc2, r_some, r_dnil, r_attr, r_attr1, r_attr2, r_opd, r_meth, r_meth1, r_meth2, r_meth3, r_meth4, r_make, r_make1, r_make2, r_newd, rs_nil, rs_seq, rs_sq1, rs_sq2, rs_sq3, rs_sq4, rs_sq5, rs_ret, rs_ret1, rs_retx, rs_retn, rs_brk, rs_cont, rs_drop, rs_drop1, rs_dropx, rs_asg, rs_asg1, rs_asgx, rs_ope, rs_par, rs_par1, rs_par2, rs_par3, rs_par31, rs_par32, rs_par33, rs_if, rs_ift, rs_iff, rs_ifx, rs_sub, rs_sub1, rs_sub2, rs_sub3, rs_opm, rs_sls, rs_sls1, rs_sls2, rs_sls3, rs_sls4, rs_att, rs_att2, rs_att3, rs_tas0, rs_tas1, rs_tas2, rs_tas3, rs_seta, rs_seta1, rs_seta2, rs_for, rs_for1, rs_body, rs_bodyn, rs_run, rs_end1, rs_end2, rs_end3, r_bnm, r_btu, r_bd00, r_bd01, r_obs, r_trn, r_trb, r_tri, r_trt, r_trf, r_tyn, r_tyb, r_tyi, r_tys, r_tyt, r_tyf, r_tysc, r_dt, r_df, r_eqF, r_eqT, r_eqbF, r_eqbT, r_seF, r_seT, r_isF, r_isT, r_find, r_neg, r_max, r_min, rs_kl1, rs_kl2, rs_kl3, rs_kl4, rs_kl5, r_strix, r_at0, r_at1, r_at2, r_at3, r_at4, r_at5, r_at6, r_at7, r_at8, r_at9, r_at10, r_at11, r_at12, r_all, r_any, r_all_true, rs_try, rs_try1, rs_try2, rs_try3, rs_tra, rs_tra1, rs_tra2, rs_tra3, rs_nox, rs_del1, rs_del2, rs_del3, rs_del4, rs_raise, rs_raise1, rs_raise0, rs_raiseZ, r_xf, r_isx, r_kix, r_kix1, q_atI, q_nok, q_nbad, q_m0, q_m1, q_m2, q_m3, q_s0, q_s1, q_s2, q_s3, q_ss, q_mkT, q_mkF, q_mkM, q_addi, q_adds, q_addt, q_addf, q_subi, q_muli, q_divi, q_modi, q_lt, q_le, q_gt, q_ge, q_ixt, q_ixf, q_ixsc, q_ixrm, q_lens, q_lent, q_lenf, q_lensc, q_lenrm, q_inti, q_intb, q_ord, q_tupt, q_tupf, q_tuprm, q_lstt, q_lstf, q_appm, q_extm, q_slfF, q_slfM, q_sltT, q_sls, nn1, List.isEmpty_nil, List.isEmpty_cons, nx1, nx2, List.map_cons, List.map_nil, List.length_cons, List.length_nil, List.replicate_succ, List.replicate_zero, List.cons_append, List.nil_append, List.append_nil, List.set_cons_succ, List.set_cons_zero, List.getElem?_cons_zero, List.getElem?_cons_succ, Nat.reduceSub, Nat.reduceAdd, List.length_append, List.length_map, List.append_assoc, Nat.zero_add, if_true, if_false, Bool.false_eq_true, Bool.not_true, Bool.not_false, isNonB, wipeE, List.any_cons, List.any_nil, isT, Bool.or_false, Bool.or_true, Bool.false_or, Bool.true_or])
local macro_rules | `(tactic| walk_at "el") => `(tactic| simp (disch := first | assumption | omega | ((try simp only [List.length_cons, List.length_nil, List.length_append, List.length_map, List.length_take, List.length_drop, List.length_reverse, List.length_set, List.length_replicate]) <;> omega) | fail) only [rs_lf0, rs_lf1, r_var, r_c, r_bin, r_bin1, r_bin2, r_bin1x, r_bin2x, r_un, r_un1, r_a0, r_a1, r_a2, r_a3, r_a2x, r_a3x, r_cb, r_cb1, r_cb1x, r_call, r_call1, r_call1x, r_mt, r_mts, r_mtf, r_mtr0, r_mtr1, r_mtr2, r_mtd0, r_mt2, r_test, r_test1, r_test2, r_testx, r_bl, r_bl1, r_blx, r_av, r_av1, r_avt, r_avf, r_ov, r_ov1, r_ovt, r_ovf, r_nv, r_nv1, r_nv2, r_at, r_att, r_atf, r_ot, r_ott, r_otf, r_nt, r_nt1, r_if, r_ift, r_iff, r_ifx, r_tup, r_tup1, r_tupx, r_lst, r_lst1, r_ch, r_ch1, r_ch2, r_ch3, r_ch4, r_isi, r_isi1, r_isi2, r_bd0, r_bd1, r_bd2, r_rev, r_rev1, r_sl, r_sl1, r_sl2, r_sl3, r_it, r_it1, r_itt, r_itf, r_itsc, r_its, r_itr0, r_en, r_en1, r_opi, r_ent, r_enf, r_zip, r_zip1, r_zip2, r_zft, r_ztt, r_rng, r_rng1, r_rng2, r_rng3, r_lc, r_lc1, r_lc2, r_bc1, r_bc2, r_some, r_dnil, r_attr, r_attr1, r_attr2, r_opd, r_meth, r_meth1, r_meth2, r_meth3, r_meth4, r_make, r_make1, r_make2, r_newd, rs_nil, rs_seq, rs_sq1, rs_sq2, rs_sq3, rs_sq4, rs_sq5, rs_ret, rs_ret1, rs_retx, rs_retn, rs_brk, rs_cont, rs_drop, rs_drop1, rs_dropx, rs_asg, rs_asg1, rs_asgx, rs_ope, rs_par, rs_par1, rs_par2, rs_par3, rs_par31, rs_par32, rs_par33, rs_if, rs_ift, rs_iff, rs_ifx, rs_sub, rs_sub1, rs_sub2, rs_sub3, rs_opm, rs_sls, rs_sls1, rs_sls2, rs_sls3, rs_sls4, rs_att, rs_att2, rs_att3, rs_tas0, rs_tas1, rs_tas2, rs_tas3, rs_seta, rs_seta1, rs_seta2, rs_for, rs_for1, rs_body, rs_bodyn, rs_run, rs_end1, rs_end2, rs_end3, r_bnm, r_btu, r_bd00, r_bd01, r_obs, r_trn, r_trb, r_tri, r_trt, r_trf, r_tyn, r_tyb, r_tyi, r_tys, r_tyt, r_tyf, r_tysc, r_dt, r_df, r_eqF, r_eqT, r_eqbF, r_eqbT, r_seF, r_seT, r_isF, r_isT, r_find, r_neg, r_max, r_min, rs_kl1, rs_kl2, rs_kl3, rs_kl4, rs_kl5, r_strix, r_at0, r_at1, r_at2, r_at3, r_at4, r_at5, r_at6, r_at7, r_at8, r_at9, r_at10, r_at11, r_at12, r_all, r_any, r_all_true, rs_try, rs_try1, rs_try2, rs_try3, rs_tra, rs_tra1, rs_tra2, rs_tra3, rs_nox, rs_del1, rs_del2, rs_del3, rs_del4, rs_raise, rs_raise1, rs_raise0, rs_raiseZ, r_xf, r_isx, r_kix, r_kix1, q_atI, q_nok, q_nbad, q_m0, q_m1, q_m2, q_m3, q_s0, q_s1, q_s2, q_s3, q_ss, q_mkT, q_mkF, q_mkM, q_addi, q_adds, q_addt, q_addf, q_subi, q_muli, q_divi, q_modi, q_lt, q_le, q_gt, q_ge, q_ixt, q_ixf, q_ixsc, q_ixrm, q_lens, q_lent, q_lenf, q_lensc, q_lenrm, q_inti, q_intb, q_ord, q_tupt, q_tupf, q_tuprm, q_lstt, q_lstf, q_appm, q_extm, q_slfF, q_slfM, q_sltT, q_sls, nn1, List.isEmpty_nil, List.isEmpty_cons, nx1, nx2, List.map_cons, List.map_nil, List.length_cons, List.length_nil, List.replicate_succ, List.replicate_zero, List.cons_append, List.nil_append, List.append_nil, List.set_cons_succ, List.set_cons_zero, List.getElem?_cons_zero, List.getElem?_cons_succ, Nat.reduceSub, Nat.reduceAdd, List.length_append, List.length_map, List.append_assoc, Nat.zero_add, if_true, if_false, Bool.false_eq_true, Bool.not_true, Bool.not_false, isNonB, wipeE, List.any_cons, List.any_nil, isT, Bool.or_false, Bool.or_true, Bool.false_or, Bool.true_or])
local macro_rules | `(tactic| walk_at "ex") => `(tactic| simp (disch := first | assumption | omega | ((try simp only [List.length_cons, List.length_nil, List.length_append, List.length_map, List.length_take, List.length_drop, List.length_reverse, List.length_set, List.length_replicate]) <;> omega) | fail) only [r_var, r_c, r_bin, r_bin1, r_bin2, r_bin1x, r_bin2x, r_un, r_un1, r_a0, r_a1, r_a2, r_a3, r_a2x, r_a3x, r_cb, r_cb1, r_cb1x, r_call, r_call1, r_call1x, r_mt, r_mts, r_mtf, r_mtr0, r_mtr1, r_mtr2, r_mtd0, r_mt2, r_test, r_test1, r_test2, r_testx, r_bl, r_bl1, r_blx, r_av, r_av1, r_avt, r_avf, r_ov, r_ov1, r_ovt, r_ovf, r_nv, r_nv1, r_nv2, r_at, r_att, r_atf, r_ot, r_ott, r_otf, r_nt, r_nt1, r_if, r_ift, r_iff, r_ifx, r_tup, r_tup1, r_tupx, r_lst, r_lst1, r_ch, r_ch1, r_ch2, r_ch3, r_ch4, r_isi, r_isi1, r_isi2, r_bd0, r_bd1, r_bd2, r_rev, r_rev1, r_sl, r_sl1, r_sl2, r_sl3, r_it, r_it1, r_itt, r_itf, r_itsc, r_its, r_itr0, r_en, r_en1, r_opi, r_ent, r_enf, r_zip, r_zip1, r_zip2, r_zft, r_ztt, r_rng, r_rng1, r_rng2, r_rng3, r_lc, r_lc1, r_lc2, r_bc1, r_bc2, r_some, r_dnil, r_attr, r_attr1, r_attr2, r_opd, r_meth, r_meth1, r_meth2, r_meth3, r_meth4, r_make, r_make1, r_make2, r_newd, rs_nil, rs_seq, rs_sq1, rs_sq2, rs_sq3, rs_sq4, rs_sq5, rs_ret, rs_ret1, rs_retx, rs_retn, rs_brk, rs_cont, rs_drop, rs_drop1, rs_dropx, rs_asg, rs_asg1, rs_asgx, rs_ope, rs_par, rs_par1, rs_par2, rs_par3, rs_par31, rs_par32, rs_par33, rs_if, rs_ift, rs_iff, rs_ifx, rs_sub, rs_sub1, rs_sub2, rs_sub3, rs_opm, rs_sls, rs_sls1, rs_sls2, rs_sls3, rs_sls4, rs_att, rs_att2, rs_att3, rs_tas0, rs_tas1, rs_tas2, rs_tas3, rs_seta, rs_seta1, rs_seta2, rs_for, rs_for1, rs_body, rs_bodyn, rs_run, rs_end1, rs_end2, rs_end3, r_bnm, r_btu, r_bd00, r_bd01, r_obs, r_trn, r_trb, r_tri, r_trt, r_trf, r_tyn, r_tyb, r_tyi, r_tys, r_tyt, r_tyf, r_tysc, r_dt, r_df, r_eqF, r_eqT, r_eqbF, r_eqbT, r_seF, r_seT, r_isF, r_isT, r_find, r_neg, r_max, r_min, rs_kl1, rs_kl2, rs_kl3, rs_kl4, rs_kl5, r_strix, r_at0, r_at1, r_at2, r_at3, r_at4, r_at5, r_at6, r_at7, r_at8, r_at9, r_at10, r_at11, r_at12, r_all, r_any, r_all_true, rs_try, rs_try1, rs_try2, rs_try3, rs_tra, rs_tra1, rs_tra2, rs_tra3, rs_nox, rs_del1, rs_del2, rs_del3, rs_del4, rs_raise, rs_raise1, rs_raise0, rs_raiseZ, r_xf, r_isx, r_kix, r_kix1, q_atI, q_nok, q_nbad, q_m0, q_m1, q_m2, q_m3, q_s0, q_s1, q_s2, q_s3, q_ss, q_mkT, q_mkF, q_mkM, q_addi, q_adds, q_addt, q_addf, q_subi, q_muli, q_divi, q_modi, q_lt, q_le, q_gt, q_ge, q_ixt, q_ixf, q_ixsc, q_ixrm, q_lens, q_lent, q_lenf, q_lensc, q_lenrm, q_inti, q_intb, q_ord, q_tupt, q_tupf, q_tuprm, q_lstt, q_lstf, q_appm, q_extm, q_slfF, q_slfM, q_sltT, q_sls, nn1, List.isEmpty_nil, List.isEmpty_cons, nx1, nx2, List.map_cons, List.map_nil, List.length_cons, List.length_nil, List.replicate_succ, List.replicate_zero, List.cons_append, List.nil_append, List.append_nil, List.set_cons_succ, List.set_cons_zero, List.getElem?_cons_zero, List.getElem?_cons_succ, Nat.reduceSub, Nat.reduceAdd, List.length_append, List.length_map, List.append_assoc, Nat.zero_add, if_true, if_false, Bool.false_eq_true, Bool.not_true, Bool.not_false, isNonB, wipeE, List.any_cons, List.any_nil, isT, Bool.or_false, Bool.or_true, Bool.false_or, Bool.true_or, *])
def spA (s : List Nat) (c : Nat) : List Nat := if Txt.find (stS s) (stS [c]) < 0 then s else cutN s none (some (Txt.find (stS s) (stS [c])))
def spB (s : List Nat) (c : Nat) : List Nat := if Txt.find (stS s) (stS [c]) < 0 then [] else cutN s (some (Txt.find (stS s) (stS [c]))) none
theorem spA_le (s : List Nat) (c : Nat) : (spA s c).length ≤ s.length := by unfold spA; split <;> first | exact Nat.le_refl _ | exact cutN_le
theorem spB_le (s : List Nat) (c : Nat) : (spB s c).length ≤ s.length := by unfold spB; split <;> first | exact Nat.zero_le _ | exact cutN_le
theorem split_ok {m : Mem} {s : List Nat} {c : Nat} (h : s.length ≤ 5000) : popR m (runB 3 sv_split_at [.str s, .str [c]] m) = .ok (.tup [.str (spA s c), .str (spB s c)]) m := by
  unfold sv_split_at spA spB
  walk_at "ev"
  split <;> (rename_i q; walk_at "ev"; exact q_pop0 rfl)
def wpF (place : Nat) (part : List Nat) : Nat → List (List Nat) → List (List Nat)
  | _, [] => []
  | i, p :: ps => (if i = place then part else p) :: wpF place part (i + 1) ps
def fnW (place : Nat) (part : List Nat) : D → D
  | .tup [.int i, .str p] => .str (if i = (place : Int) then part else p)
  | d => d
theorem fnW_map (place : Nat) (part : List Nat) : ∀ (ps : List (List Nat)) (i : Nat), (enD i (ps.map D.str)).map (fnW place part) = (wpF place part i ps).map D.str
  | [], _ => rfl
  | p :: ps, i => by
    simp only [List.map_cons, enD, wpF, fnW, fnW_map place part ps (i + 1)]
    congr 2
    by_cases h : i = place
    · subst h; simp
    · have : ¬ (i : Int) = place := by omega
      rw [if_neg h, if_neg this]
theorem wpF_len (place : Nat) (part : List Nat) : ∀ (ps : List (List Nat)) (i : Nat), (wpF place part i ps).length = ps.length
  | [], _ => rfl
  | p :: ps, i => by simp [wpF, wpF_len place part ps (i + 1)]
theorem wpF_sum (place : Nat) (part : List Nat) {n : Nat} (hp : part.length ≤ n) : ∀ (ps : List (List Nat)) (i : Nat), (∀ p ∈ ps, p.length ≤ n) → ((wpF place part i ps).map (·.length)).sum ≤ n * ps.length
  | [], _, _ => by simp [wpF]
  | p :: ps, i, h => by
    have ih := wpF_sum place part hp ps (i + 1) fun q hq => h q (List.mem_cons_of_mem _ hq)
    have h1 := h p List.mem_cons_self
    simp only [wpF, List.map_cons, List.sum_cons, List.length_cons, Nat.mul_succ]
    split <;> omega
theorem strs_map : ∀ L : List (List Nat), strsOf (L.map D.str) = some L
  | [] => rfl
  | l :: L => by simp only [List.map_cons, strsOf, strs_map L, Option.map_some]
theorem mem_enD : ∀ {L : List D} {i : Nat} {d : D}, d ∈ enD i L → ∃ j x, x ∈ L ∧ d = .tup [.int (j : Nat), x]
  | [], _, _, h => by cases h
  | x :: L, i, d, h => by
    unfold enD at h
    rcases List.mem_cons.mp h with h | h
    · exact ⟨i, x, List.mem_cons_self, h⟩
    · obtain ⟨j, y, h1, h2⟩ := mem_enD h
      exact ⟨j, y, List.mem_cons_of_mem _ h1, h2⟩
theorem q_join {m : Mem} {L : List (List Nat)} (h : (L.map (·.length)).sum ≤ 16777216) : mJoin (.str []) [.fl (L.map D.str)] m = .ok (.str L.flatten) m := by
  dsimp only [mJoin, sqOf, lstOf]
  rw [strs_map]
  dsimp only
  rw [joinL_nil]
  unfold okD joinOk
  rw [if_pos (by simpa using h)]
theorem with_ok {m : Mem} {ps : List (List Nat)} {part : List Nat} {place : Nat} (hl : ps.length ≤ 10) (hp : part.length ≤ 5000) (hps : ∀ p ∈ ps, p.length ≤ 5000) :
    popR m (runB 5 sv_with_part [.tup (ps.map D.str), .str part, .int place] m) = .ok (.str (wpF place part 0 ps).flatten) m := by
  unfold sv_with_part
  walk_at "ev"
  rw [lc_map (fnW place part) rfl (fun d hd => ?_) (by rw [enD_len, List.length_map]; omega)]
  · rw [fnW_map]
    have hs := wpF_sum place part hp ps 0 hps
    have hl2 := wpF_len place part ps 0
    have : 5000 * ps.length ≤ 50000 := by omega
    walk_at "ev"
    rw [q_join (by omega)]
    walk_at "ev"
    exact q_pop0 rfl
  · obtain ⟨j, x, hx, rfl⟩ := mem_enD hd
    obtain ⟨q, _, rfl⟩ := List.mem_map.mp hx
    rw [r_bc (e1 := [some (.tup (ps.map D.str)), some (.str part), some (.int place), some (.int j), some (.str q)]) rfl]
    unfold fnW
    by_cases h : (j : Int) = place
    · walk_at "ev"; rw [if_pos h]
    · walk_at "ev"; rw [if_neg h]
def pt (base n : List Nat) : List (List Nat) := [base, spA (spA (cutN n (some base.length) none) 64) 46, spB (spA (cutN n (some base.length) none) 64) 46, spB (cutN n (some base.length) none) 64]
def ptD (base n : List Nat) : D := .tup ((pt base n).map D.str)
theorem pt_le {base n : List Nat} {k : Nat} (hb : base.length ≤ k) (hn : n.length ≤ k) : ∀ p ∈ pt base n, p.length ≤ k := by
  have h1 := cutN_le (ds := n) (lo := some base.length) (hi := none)
  have h2 := spA_le (cutN n (some base.length) none) 64
  have h3 := spB_le (cutN n (some base.length) none) 64
  have h4 := spA_le (spA (cutN n (some base.length) none) 64) 46
  have h5 := spB_le (spA (cutN n (some base.length) none) 64) 46
  intro p hp
  simp only [pt, List.mem_cons, List.not_mem_nil, or_false] at hp
  rcases hp with rfl | rfl | rfl | rfl <;> omega
def SplitF (c : Fn) : Prop := ∀ (s : List Nat) (k : Nat) (m : Mem), s.length ≤ 5000 → c [.str s, .str [k]] m = .ok (.tup [.str (spA s k), .str (spB s k)]) m
theorem parted_ok {c : Fn} (hc : SplitF c) {m : Mem} {base : List Nat} {ns : List (List Nat)} (hb : base.length ≤ 5000) (hl : ns.length ≤ 100) (hn : ∀ n ∈ ns, n.length ≤ 5000) :
    popR m (runB 8 (sv_parted c) [.str base, .fl (ns.map D.str)] m) = .ok (.fl (ns.map (ptD base))) m := by
  unfold sv_parted
  walk_at "ev"
  generalize hL : loopF gT (bodyF _ _) _ _ _ = r
  refine for_kN hL (fun s : Nat × (Option D × Option D × Option D × Option D × Option D) => [some (.str base), some (.fl (ns.map D.str)), some (.ref m.length), s.2.1, s.2.2.1, s.2.2.2.1, s.2.2.2.2.1, s.2.2.2.2.2])
    (fun s => m ++ [.lst ((ns.take s.1).map (ptD base))]) (fun i s => s.1 = i ∧ True) (0, none, none, none, none, none) rfl rfl (fun _ _ _ => rfl) ⟨rfl, trivial⟩ (fun i s x hx hi => ?_) (fun s hr hi => ?_)
  · obtain ⟨rfl, _⟩ := hi
    have hx2 := hn x (List.mem_of_getElem? hx)
    have hi2 : s.1 < ns.length := (List.getElem?_eq_some_iff.mp hx).1
    have c1 := cutN_le (ds := x) (lo := some base.length) (hi := none)
    have c2 := spA_le (cutN x (some base.length) none) 64
    refine ⟨(s.1 + 1, some (.str x), some (.str (spA (cutN x (some base.length) none) 64)), some (.str (spB (cutN x (some base.length) none) 64)), some (.str (spA (spA (cutN x (some base.length) none) 64) 46)), some (.str (spB (spA (cutN x (some base.length) none) 64) 46))), .inl ?_, rfl, trivial⟩
    walk_at "ev"
    rw [hc _ _ _ (by omega)]
    walk_at "ev"
    rw [hc _ _ _ (by omega)]
    walk_at "ev"
    rw [take_map_succ hx]
    rfl
  · subst hr
    walk_at "ev"
    rw [hi.1, List.take_length]
    refine q_popr (q_pls_map (fun x => ?_) ns)
    exact q_pls_strs (pt base x)
def wOne (base part : List Nat) (place : Nat) (n : List Nat) : List Nat := (wpF place part 0 (pt base n)).flatten
def stepW (base : List Nat) (L : List (List Nat)) (part : List Nat) (place : Nat) : List (List Nat) := if part = [] then L else L.map (wOne base part place) ++ L
def wid (s : List Nat) : List (List Nat) :=
  stepW (spA (spA (spA s 64) 46) 95) (stepW (spA (spA (spA s 64) 46) 95) (stepW (spA (spA (spA s 64) 46) 95) [spA (spA (spA s 64) 46) 95] (spB (spA s 64) 46) 2) (spB (spA (spA s 64) 46) 95) 1) (spB s 64) 3
theorem flat_len : ∀ L : List (List Nat), L.flatten.length = (L.map (·.length)).sum
  | [] => rfl
  | l :: L => by simp [flat_len L]
theorem wOne_le {base part n : List Nat} {place k : Nat} (hb : base.length ≤ k) (hp : part.length ≤ k) (hn : n.length ≤ k) : (wOne base part place n).length ≤ 4 * k := by
  unfold wOne
  rw [flat_len]
  have := wpF_sum place part hp (pt base n) 0 (pt_le hb hn)
  have e : (pt base n).length = 4 := rfl
  rw [e] at this
  omega
theorem stepW_le {base part : List Nat} {L : List (List Nat)} {place k j : Nat} (hb : base.length ≤ k) (hp : part.length ≤ k) (hL : ∀ n ∈ L, n.length ≤ k) (hj : L.length ≤ j) : (∀ n ∈ stepW base L part place, n.length ≤ 4 * k) ∧ (stepW base L part place).length ≤ 2 * j := by
  unfold stepW
  split
  · exact ⟨fun n hn => by have := hL n hn; omega, by omega⟩
  · refine ⟨fun n hn => ?_, by rw [List.length_append, List.length_map]; omega⟩
    rcases List.mem_append.mp hn with hn | hn
    · obtain ⟨x, hx, rfl⟩ := List.mem_map.mp hn
      exact wOne_le hb hp (hL x hx)
    · have := hL n hn; omega
def PartedF (c : Fn) : Prop := ∀ (base : List Nat) (ns : List (List Nat)) (m : Mem), base.length ≤ 5000 → ns.length ≤ 100 → (∀ n ∈ ns, n.length ≤ 5000) → c [.str base, .fl (ns.map D.str)] m = .ok (.fl (ns.map (ptD base))) m
def WithF (c : Fn) : Prop := ∀ (ps : List (List Nat)) (part : List Nat) (place : Nat) (m : Mem), ps.length ≤ 10 → part.length ≤ 5000 → (∀ p ∈ ps, p.length ≤ 5000) → c [.tup (ps.map D.str), .str part, .int place] m = .ok (.str (wpF place part 0 ps).flatten) m
theorem step_ok {c1 c2 : Fn} (h1 : PartedF c1) (h2 : WithF c2) {m : Mem} {base part : List Nat} {L : List (List Nat)} {place : Nat} {o0 o1 o2 o3 o5 o9 : Option D} {Ld : List D} {pz : Int} (h6 : Ld = L.map D.str) (hz : pz = place) (hb : base.length ≤ 5000) (hp : part.length ≤ 1000) (hc : ∀ c ∈ part, c < 1114112) (hL : ∀ n ∈ L, n.length ≤ 1000) (hl : L.length ≤ 50) :
    sIf (dBl (dBin (opEq true) (dVar 7) (dC (.str [])))) (sAsg (.nm 6) (dBin (opAdd false) (dLc false [9] (dIt (dCall c1 [(dVar 4), (dVar 6)])) (.nm 9) dNil (dCall c2 [(dVar 9), (dVar 7), (dVar 8)])) (dVar 6))) sNil
      [o0, o1, o2, o3, some (.str base), o5, some (.fl Ld), some (.str part), some (.int pz), o9] m = .ok .nx [o0, o1, o2, o3, some (.str base), o5, some (.fl ((stepW base L part place).map D.str)), some (.str part), some (.int place), o9] m := by
  subst h6; subst hz
  walk_at "ev"
  unfold stepW
  cases part with
  | nil => walk_at "ev"; try rfl
  | cons c cs =>
    try simp only [List.isEmpty_cons]
    walk_at "ev"
    rw [h1 _ _ _ hb (by omega) fun n hn => by have := hL n hn; omega]
    walk_at "ev"
    rw [lc_mapN (ptD base) (fun n => .str (wOne base (c :: cs) place n)) rfl (fun n hn => ?_) (by omega)]
    · walk_at "ev"
      rw [if_neg (by simp), List.map_append, List.map_map]
      rfl
    · have h3 := hL n hn
      rw [bodyC_nmE]
      walk_at "ev"
      unfold ptD
      rw [h2 (pt base n) (c :: cs) place m (show 4 ≤ 10 by decide) (by omega) fun p hp2 => pt_le (k := 5000) (by omega) (by omega) p hp2]
      rfl
abbrev codesOk (s : List Nat) : Prop := ∀ c ∈ s, c < 1114112
theorem cut_ok {s : List Nat} (h : codesOk s) (lo hi : Option Int) : codesOk (cutN s lo hi) := fun c hc => by
  unfold cutN at hc
  exact h c (List.mem_of_mem_drop (List.mem_of_mem_take hc))
theorem spA_okc {s : List Nat} (h : codesOk s) (c : Nat) : codesOk (spA s c) := by unfold spA; split <;> first | exact h | exact cut_ok h _ _
theorem spB_okc {s : List Nat} (h : codesOk s) (c : Nat) : codesOk (spB s c) := by unfold spB; split <;> first | exact (fun _ z => by cases z) | exact cut_ok h _ _
theorem widen_ok {c1 c2 c3 : Fn} (h1 : SplitF c1) (h2 : PartedF c2) (h3 : WithF c3) {m : Mem} {s : List Nat} (hs : s.length ≤ 50) (hc : codesOk s) : popR m (runB 10 (sv_widenings c1 c2 c3) [.str s] m) = .ok (.fl ((wid s).map D.str)) m := by
  have a1 := spA_le s 64
  have a2 := spB_le s 64
  have a3 := spA_le (spA s 64) 46
  have a4 := spB_le (spA s 64) 46
  have a5 := spA_le (spA (spA s 64) 46) 95
  have a6 := spB_le (spA (spA s 64) 46) 95
  have k1 := spA_okc hc 64
  have k2 := spB_okc hc 64
  have k3 := spB_okc k1 46
  have k4 := spB_okc (spA_okc k1 46) 95
  obtain ⟨s1, t1⟩ := stepW_le (base := spA (spA (spA s 64) 46) 95) (part := spB (spA s 64) 46) (L := [spA (spA (spA s 64) 46) 95]) (place := 2) (k := 50) (j := 1) (by omega) (by omega) (by intro n hn; rw [List.mem_singleton] at hn; subst hn; omega) (Nat.le_refl _)
  obtain ⟨s2, t2⟩ := stepW_le (base := spA (spA (spA s 64) 46) 95) (part := spB (spA (spA s 64) 46) 95) (place := 1) (k := 200) (j := 2) (by omega) (by omega) s1 t1
  unfold sv_widenings
  walk_at "ev"
  rw [h1 _ _ _ (by omega)]
  walk_at "ev"
  rw [h1 _ _ _ (by omega)]
  walk_at "ev"
  rw [h1 _ _ _ (by omega)]
  walk_at "el"
  rw [rs_body rfl]
  simp only [List.set_cons_succ, List.set_cons_zero]
  rw [step_ok h2 h3 (L := [spA (spA (spA s 64) 46) 95]) (place := 2) (Ld := [.str (spA (spA (spA s 64) 46) 95)]) (pz := 2) rfl rfl (by omega) (by omega) k3 (by intro n hn; rw [List.mem_singleton] at hn; subst hn; omega) (show 1 ≤ 50 by decide)]
  walk_at "el"
  rw [rs_body rfl]
  simp only [List.set_cons_succ, List.set_cons_zero]
  rw [step_ok h2 h3 (place := 1) (pz := 1) rfl rfl (by omega) (by omega) k4 (fun n hn => by have := s1 n hn; omega) (by omega)]
  walk_at "el"
  rw [rs_body rfl]
  simp only [List.set_cons_succ, List.set_cons_zero]
  rw [step_ok h2 h3 (place := 3) (pz := 3) rfl rfl (by omega) (by omega) k2 (fun n hn => by have := s2 n hn; omega) (by omega)]
  walk_at "el"
  exact q_pop0 (q_pls_strs _)

/-! ### the laws' own list -/
def ixS (s : List Nat) (c : Nat) : Nat := (Txt.index0 (stS (s ++ [c])) (stS [c])).getD 0
def opts (x : List Nat) : List (List Nat) := match x with
  | [] => [[]]
  | x => [x, []]
def lA (s : List Nat) (c : Nat) : List Nat := cutN s none (some (ixS s c))
def lB (s : List Nat) (c : Nat) : List Nat := cutN s (some (ixS s c)) none
def lin (base last charset middle : List Nat) : List (List Nat) := (opts charset).map fun e => base ++ middle ++ e ++ last
def lwid (s : List Nat) : List (List Nat) :=
  (opts (lB s 64)).flatMap fun last => (opts (lB (lA (lA s 64) 46) 95)).flatMap fun middle => lin (lA (lA (lA s 64) 46) 95) last (lB (lA s 64) 46) middle
theorem opts_cut (x : List Nat) : cutD [.str x, .str []] (some (if x.isEmpty = true then 1 else 0)) none = (opts x).map D.str := by
  cases x <;> rfl
theorem opts_len (x : List Nat) : (opts x).length ≤ 2 := by cases x <;> simp [opts]
theorem opts_mem {x y : List Nat} (h : y ∈ opts x) : y.length ≤ x.length := by
  cases x with
  | nil => simp [opts] at h; subst h; exact Nat.le_refl _
  | cons c x => simp [opts] at h; rcases h with rfl | rfl <;> simp
theorem flatMap_len {α β : Type} {f : α → List β} {b : Nat} : ∀ {L : List α}, (∀ x ∈ L, (f x).length ≤ b) → (L.flatMap f).length ≤ b * L.length
  | [], _ => by simp
  | x :: L, h => by
    have h1 := h x List.mem_cons_self
    have h2 := flatMap_len (f := f) (b := b) (L := L) fun y hy => h y (List.mem_cons_of_mem _ hy)
    simp only [List.flatMap_cons, List.length_append, List.length_cons, Nat.mul_succ]
    omega
theorem lin_len (b last charset middle : List Nat) : (lin b last charset middle).length ≤ 2 := by unfold lin; rw [List.length_map]; exact opts_len _
theorem take_flat {α β : Type} {f : α → List β} {L : List α} {i : Nat} {x : α} (h : L[i]? = some x) : (L.take (i + 1)).flatMap f = (L.take i).flatMap f ++ f x := by
  rw [List.take_succ, h, List.flatMap_append]
  simp
theorem ixS_ok {s : List Nat} {c : Nat} (h : (Txt.index0 (stS (s ++ [c])) (stS [c])).isSome = true) : Txt.index0 (stS (s ++ [c])) (stS [c]) = some (ixS s c) := by
  obtain ⟨i, e⟩ := Option.isSome_iff_exists.mp h
  rw [e]; unfold ixS; rw [e]; rfl
theorem lw_ok {m : Mem} {s : List Nat} (hs : s.length ≤ 50) (hc : codesOk s) (h4 : (Txt.index0 (stS (s ++ [64])) (stS [64])).isSome = true) (h5 : (Txt.index0 (stS (lA s 64 ++ [46])) (stS [46])).isSome = true) (h6 : (Txt.index0 (stS (lA (lA s 64) 46 ++ [95])) (stS [95])).isSome = true) :
    popR m (runB 9 sv__law_widenings [.str s] m) = .ok (.fl ((lwid s).map D.str)) m := by
  have b1 : (lA s 64).length ≤ s.length := cutN_le
  have b2 : (lB s 64).length ≤ s.length := cutN_le
  have b3 : (lA (lA s 64) 46).length ≤ (lA s 64).length := cutN_le
  have b4 : (lB (lA s 64) 46).length ≤ (lA s 64).length := cutN_le
  have b5 : (lA (lA (lA s 64) 46) 95).length ≤ (lA (lA s 64) 46).length := cutN_le
  have b6 : (lB (lA (lA s 64) 46) 95).length ≤ (lA (lA s 64) 46).length := cutN_le
  have hcA : codesOk (lA s 64) := cut_ok hc _ _
  have hcM : codesOk (lB s 64) := cut_ok hc _ _
  have hcC : codesOk (lB (lA s 64) 46) := cut_ok hcA _ _
  have hcR : codesOk (lA (lA s 64) 46) := cut_ok hcA _ _
  have hcT : codesOk (lB (lA (lA s 64) 46) 95) := cut_ok hcR _ _
  unfold sv__law_widenings
  walk_at "ev"
  rw [r_strix (ixS_ok h4)]
  walk_at "ev"
  rw [show cutN s none (some (ixS s 64)) = lA s 64 from rfl, show cutN s (some (ixS s 64)) none = lB s 64 from rfl]
  walk_at "ev"
  rw [r_strix (ixS_ok h5)]
  walk_at "ev"
  rw [show cutN (lA s 64) none (some (ixS (lA s 64) 46)) = lA (lA s 64) 46 from rfl, show cutN (lA s 64) (some (ixS (lA s 64) 46)) none = lB (lA s 64) 46 from rfl]
  walk_at "ev"
  rw [r_strix (ixS_ok h6)]
  walk_at "ev"
  unfold lwid
  have eB : cutN (lA (lA s 64) 46) none (some (ixS (lA (lA s 64) 46) 95)) = lA (lA (lA s 64) 46) 95 := rfl
  have eT : cutN (lA (lA s 64) 46) (some (ixS (lA (lA s 64) 46) 95)) none = lB (lA (lA s 64) 46) 95 := rfl
  generalize lA (lA (lA s 64) 46) 95 = B at *
  generalize lB (lA (lA s 64) 46) 95 = Te at *
  generalize lA (lA s 64) 46 = R at *
  generalize lB s 64 = M at *
  generalize lB (lA s 64) 46 = C at *
  rw [opts_cut]
  generalize hL : loopF gT (bodyF _ _) _ _ _ = r
  have hl8 : ∀ i, (((opts M).take i).flatMap fun last => (opts Te).flatMap fun middle => lin B last C middle).length ≤ 8 := fun i => by
    have z1 := flatMap_len (f := fun last => (opts Te).flatMap fun middle => lin B last C middle) (b := 4) (L := (opts M).take i) fun x _ => by
      have z2 := flatMap_len (f := fun middle => lin B x C middle) (b := 2) (L := opts Te) fun y _ => lin_len _ _ _ _
      have := opts_len Te
      omega
    have := opts_len M
    rw [List.length_take] at z1
    omega
  refine for_kN hL (fun q : Nat × Option D × Option D × Option D => [some (.str s), some (.int (ixS R 95)), some (.str R), some (.str M), some (.str C), some (.ref m.length), q.2.1, q.2.2.1, q.2.2.2])
    (fun q => m ++ [.lst ((((opts M).take q.1).flatMap fun last => (opts Te).flatMap fun middle => lin B last C middle).map D.str)]) (fun i q => q.1 = i ∧ True) (0, none, none, none) rfl rfl (fun _ _ _ => rfl) ⟨rfl, trivial⟩ (fun i q last hx hi => ?_) (fun q hr hi => ?_)
  · obtain ⟨rfl, _⟩ := hi
    have hlm := opts_mem (List.mem_of_getElem? hx)
    walk_at "ev"
    rw [eT]
    walk_at "ev"
    rw [opts_cut]
    generalize hL2 : loopF gT (bodyF _ _) _ _ _ = r2
    refine for_kN hL2 (fun p : Nat × Option D × Option D => [some (.str s), some (.int (ixS R 95)), some (.str R), some (.str M), some (.str C), some (.ref m.length), some (.str last), p.2.1, p.2.2])
      (fun p => m ++ [.lst (((((opts M).take q.1).flatMap fun last => (opts Te).flatMap fun middle => lin B last C middle) ++ ((opts Te).take p.1).flatMap fun middle => lin B last C middle).map D.str)]) (fun i p => p.1 = i ∧ True) (0, q.2.2.1, q.2.2.2) rfl (by simp) (fun _ _ _ => rfl) ⟨rfl, trivial⟩ (fun i p mid hx2 hi2 => ?_) (fun p hr2 hi2 => ?_)
    · obtain ⟨rfl, _⟩ := hi2
      have hmm := opts_mem (List.mem_of_getElem? hx2)
      refine ⟨(p.1 + 1, some (.str mid), p.2.2), .inl ?_, rfl, trivial⟩
      walk_at "ev"
      rw [opts_cut, lc_mapN D.str (fun e => .str (B ++ mid ++ e ++ last)) rfl (fun e he => ?_) (by have := opts_len C; omega)]
      · have z2 := flatMap_len (f := fun middle => lin B last C middle) (b := 2) (L := (opts Te).take p.1) fun y _ => lin_len _ _ _ _
        have z3 := opts_len Te
        have z4 := hl8 q.1
        have z5 := opts_len C
        rw [List.length_take] at z2
        walk_at "ev"
        rw [take_flat hx2]
        simp only [List.map_append, List.append_assoc, lin, List.map_map]
        rfl
      · have hee := opts_mem he
        rw [bodyC_nmE]
        walk_at "ev"
        rw [eB]
        walk_at "ev"
    · subst hr2
      refine ⟨(q.1 + 1, some (.str last), p.2.1, p.2.2), .inl ?_, rfl, trivial⟩
      rw [hi2.1, List.take_length, take_flat hx]
  · subst hr
    walk_at "ev"
    rw [hi.1, List.take_length]
    exact q_popr (q_pls_strs _)
/-! ### full names -/
def lowS (s : List Nat) : List Nat := unS (Txt.lower (stS s))
theorem q_lower {m : Mem} {s : List Nat} (h : s.length ≤ 5592405) : mLower (.str s) [] m = .ok (.str (lowS s)) m := by show okD _ _ m = _; unfold okD; rw [if_pos (decide_eq_true h)]; rfl
theorem q_get2 {m : Mem} {a : Nat} {kvs : List (Ky × D)} {s : List Nat} {d : D} (h : (m : List O)[a]? = some (.dk kvs)) : mGet (.ref a) [.str s, d] m = .ok ((valK kvs (.inr s)).getD d) m := by unfold mGet; rw [mDct_at h]; rfl
theorem pl_put {kvs : List (Ky × D)} {j : Ky} {s : List Nat} (hp : O.pl (.dk kvs) = true) : O.pl (.dk (putKy kvs j (.str s))) = true := by
  show ((putKy kvs _ _).all fun p => p.2.pl) = true
  have hp' : (kvs.all fun p => p.2.pl) = true := hp
  unfold putKy
  split
  · rw [List.all_map, List.all_eq_true]
    intro x hx
    have := List.all_eq_true.mp hp' x hx
    dsimp only [Function.comp]
    split
    · rfl
    · exact this
  · rw [List.all_append, hp']; rfl
theorem setFull_ok {m : Mem} {a b : Nat} {fs : List (Str × D)} {kvs : List (Ky × D)} {l f : List Nat} (h1 : (m : List O)[a]? = some (.ins "World" fs)) (h2 : fs.lookup ("names" : Str) = some (.ref b)) (h3 : (m : List O)[b]? = some (.dk kvs)) (h4 : kvs.length < 16777216) (hl : l.length ≤ 1000) (hp : O.pl (.dk kvs) = true) :
    popR m (runB 3 sv_World_set_full_name [.ref a, .str l, .str f] m) = .ok .non (setM m b (.dk (putKy kvs (.inr (lowS l)) (.str f)))) := by
  unfold sv_World_set_full_name
  walk_at "ev"
  rw [insOf_at h1]
  walk_at "ev"
  rw [h2]
  walk_at "ev"
  rw [q_lower (by omega)]
  walk_at "ev"
  rw [setIx_d (k := .inr (lowS l)) h3 rfl h4]
  walk_at "ev"
  exact q_pops0 (List.getElem?_eq_some_iff.mp h3).1 (pl_put hp) rfl
theorem fullN_ok {m : Mem} {a b : Nat} {fs : List (Str × D)} {kvs : List (Ky × D)} {l : List Nat} (h1 : (m : List O)[a]? = some (.ins "World" fs)) (h2 : fs.lookup ("names" : Str) = some (.ref b)) (h3 : (m : List O)[b]? = some (.dk kvs)) (hl : l.length ≤ 1000) (hp : ((valK kvs (.inr (lowS l))).getD (.str l)).pl = true) :
    popR m (runB 2 sv_World_full_name [.ref a, .str l] m) = .ok ((valK kvs (.inr (lowS l))).getD (.str l)) m := by
  unfold sv_World_full_name
  walk_at "ev"
  rw [insOf_at h1]
  walk_at "ev"
  rw [h2]
  walk_at "ev"
  rw [r_mt1 (tyOk_d h3)]
  walk_at "ev"
  rw [q_lower (by omega)]
  walk_at "ev"
  rw [q_get2 h3]
  walk_at "ev"
  exact q_pop0 hp
theorem widened_ok {c1 c2 : Fn} {m : Mem} {a : Nat} {fs : List (Str × D)} {l s : List Nat} (h1 : (m : List O)[a]? = some (.ins "World" fs)) (h2 : fs.lookup ("full_name" : Str) = none) (hf : c2 [.ref a, .str l] m = .ok (.str s) m) (hw : c1 [.str s] m = .ok (.fl ((wid s).map D.str)) m) :
    popR m (runB 2 (sv_World_widened c1 c2) [.ref a, .str l] m) = .ok (.fl ((wid s).map D.str)) m := by
  unfold sv_World_widened
  walk_at "ev"
  rw [insOf_at h1]
  walk_at "ev"
  rw [h2, show List.lookup ("World" : Str) [("World", c2)] = some c2 from rfl]
  walk_at "ev"
  rw [hf]
  walk_at "ev"
  rw [hw]
  walk_at "ev"
  exact q_pop0 (q_pls_strs _)
theorem World_init_ok {m : Mem} : runB 1 sv_World_init [.ref m.length] (m ++ [.ins "World" []]) = .ok .non (m ++ [.ins "World" [("files", .ref (m.length + 1)), ("reads", .ref (m.length + 2)), ("variables", .ref (m.length + 3)), ("names", .ref (m.length + 4))], .dk [], .dk [], .dk [], .dk []]) := by
  unfold sv_World_init
  walk_at "ev"
  rw [setA_at (fs := []) q_m0 rfl, q_s0]
  walk_at "ev"
  rw [setA_at q_m0 rfl, q_s0]
  walk_at "ev"
  rw [setA_at q_m0 rfl, q_s0]
  walk_at "ev"
  rw [setA_at q_m0 rfl, q_s0]
  walk_at "ev"
  rfl
theorem World_init_ok2 {m M : Mem} {a : Nat} (hM : M = m ++ [.ins "World" []]) (ha : a = m.length) : runB 1 sv_World_init [.ref a] M = .ok .non (m ++ [.ins "World" [("files", .ref (m.length + 1)), ("reads", .ref (m.length + 2)), ("variables", .ref (m.length + 3)), ("names", .ref (m.length + 4))], .dk [], .dk [], .dk [], .dk []]) := by
  subst hM; subst ha; exact World_init_ok
end Pg
set_option Elab.async false
set_option linter.all false
set_option maxRecDepth 100000
set_option maxHeartbeats 4000000
namespace Pg
open PySem PySem.Spec PyProof.Rows L2 Itp
local macro_rules | `(tactic| walk_at "ev") => `(tactic| simp (disch := first | assumption | omega | ((try simp only [List.length_cons, List.length_nil, List.length_append, List.length_map, List.length_take, List.length_drop, List.length_reverse, List.length_set, List.length_replicate]) <;> omega) | fail) only [r_var, r_c, r_bin, r_bin1, r_bin2, r_bin1x, r_bin2x, r_un, r_un1, r_a0, r_a1, r_a2, r_a3, r_a2x, r_a3x, r_cb, r_cb1, r_cb1x, r_call, r_call1, r_call1x, r_mt, r_mts, r_mtf, r_mtr0, r_mtr1, r_mtr2, r_mtd0, r_mt2, r_test, r_test1, r_test2, r_testx, r_bl, r_bl1, r_blx, r_av, r_av1, r_avt, r_avf, r_ov, r_ov1, r_ovt, r_ovf, r_nv, r_nv1, r_nv2, r_at, r_att, r_atf, r_ot, r_ott, r_otf, r_nt, r_nt1, r_if, r_ift, r_iff, r_ifx, r_tup, r_tup1, r_tupx, r_lst, r_lst1, r_ch, r_ch1, r_ch2, r_ch3, r_ch4, r_isi, r_isi1, r_isi2, r_bd0, r_bd1, r_bd2, r_rev, r_rev1, r_sl, r_sl1, r_sl2, r_sl3, r_it, r_it1, r_itt, r_itf, r_itsc, r_its, r_itr0, r_en, r_en1, r_opi, r_ent, r_enf, r_zip, r_zip1, r_zip2, r_zft, r_ztt, r_rng, r_rng1, r_rng2, r_rng3, r_lc, r_lc1, r_lc2, r_bc1, r_bc2, r_some, r_dnil, r_attr, r_attr1, r_attr2, r_opd, r_meth, r_meth1, r_meth2, r_meth3, r_meth4, r_make, r_make1, r_make2, r_newd, rs_nil, rs_seq, rs_sq1, rs_sq2, rs_sq3, rs_sq4, rs_sq5, rs_ret, rs_ret1, rs_retx, rs_retn, rs_brk, rs_cont, rs_drop, rs_drop1, rs_dropx, rs_asg, rs_asg1, rs_asgx, rs_ope, rs_par, rs_par1, rs_par2, rs_par3, rs_par31, rs_par32, rs_par33, rs_if, rs_ift, rs_iff, rs_ifx, rs_sub, rs_sub1, rs_sub2, rs_sub3, rs_opm, rs_sls, rs_sls1, rs_sls2, rs_sls3, rs_sls4, rs_att, rs_att2, rs_att3, rs_tas0, rs_tas1, rs_tas2, rs_tas3, rs_seta, rs_seta1, rs_seta2, rs_for, rs_for1, rs_body, rs_bodyn, rs_run, rs_end1, rs_end2, rs_end3, r_bnm, r_btu, r_bd00, r_bd01, r_obs, r_trn, r_trb, r_tri, r_trt, r_trf, r_tyn, r_tyb, r_tyi, r_tys, r_tyt, r_tyf, r_tysc, r_dt, r_df, r_eqF, r_eqT, r_eqbF, r_eqbT, r_seF, r_seT, r_isF, r_isT, r_find, r_neg, r_max, r_min, rs_kl1, rs_kl2, rs_kl3, rs_kl4, rs_kl5, r_strix, r_at0, r_at1, r_at2, r_at3, r_at4, r_at5, r_at6, r_at7, r_at8, r_at9, r_at10, r_at11, r_at12, r_all, r_any, r_all_true, rs_try, rs_try1, rs_try2, rs_try3, rs_tra, rs_tra1, rs_tra2, rs_tra3, rs_nox, rs_del1, rs_del2, rs_del3, rs_del4, rs_raise, rs_raise1, rs_raise0, rs_raiseZ, r_xf, r_isx, r_kix, r_kix1, q_atI, q_nok, q_nbad, q_m0, q_m1, q_m2, q_m3, q_s0, q_s1, q_s2, q_s3, q_ss, q_mkT, q_mkF, q_mkM, q_addi, q_adds, q_addt, q_addf, q_subi, q_muli, q_divi, q_modi, q_lt, q_le, q_gt, q_ge, q_ixt, q_ixf, q_ixsc, q_ixrm, q_lens, q_lent, q_lenf, q_lensc, q_lenrm, q_inti, q_intb, q_ord, q_tupt, q_tupf, q_tuprm, q_lstt, q_lstf, q_appm, q_extm, q_slfF, q_slfM, q_sltT, q_sls, nn1, List.isEmpty_nil, List.isEmpty_cons, nx1, nx2, List.map_cons, List.map_nil, List.length_cons, List.length_nil, List.replicate_succ, List.replicate_zero, List.cons_append, List.nil_append, List.append_nil, List.set_cons_succ, List.set_cons_zero, List.getElem?_cons_zero, List.getElem?_cons_succ, Nat.reduceSub, Nat.reduceAdd, List.length_append, List.length_map, List.append_assoc, Nat.zero_add, if_true, if_false, Bool.false_eq_true, Bool.not_true, Bool.not_false, isNonB, wipeE, List.any_cons, List.any_nil, isT, Bool.or_false, Bool.or_true, Bool.false_or, Bool.true_or])
local macro_rules | `(tactic| walk_at "el") => `(tactic| simp (disch := first | assumption | omega | ((try simp only [List.length_cons, List.length_nil, List.length_append, List.length_map, List.length_take, List.length_drop, List.length_reverse, List.length_set, List.length_replicate]) <;> omega) | fail) only [rs_lf0, rs_lf1, r_var, r_c, r_bin, r_bin1, r_bin2, r_bin1x, r_bin2x, r_un, r_un1, r_a0, r_a1, r_a2, r_a3, r_a2x, r_a3x, r_cb, r_cb1, r_cb1x, r_call, r_call1, r_call1x, r_mt, r_mts, r_mtf, r_mtr0, r_mtr1, r_mtr2, r_mtd0, r_mt2, r_test, r_test1, r_test2, r_testx, r_bl, r_bl1, r_blx, r_av, r_av1, r_avt, r_avf, r_ov, r_ov1, r_ovt, r_ovf, r_nv, r_nv1, r_nv2, r_at, r_att, r_atf, r_ot, r_ott, r_otf, r_nt, r_nt1, r_if, r_ift, r_iff, r_ifx, r_tup, r_tup1, r_tupx, r_lst, r_lst1, r_ch, r_ch1, r_ch2, r_ch3, r_ch4, r_isi, r_isi1, r_isi2, r_bd0, r_bd1, r_bd2, r_rev, r_rev1, r_sl, r_sl1, r_sl2, r_sl3, r_it, r_it1, r_itt, r_itf, r_itsc, r_its, r_itr0, r_en, r_en1, r_opi, r_ent, r_enf, r_zip, r_zip1, r_zip2, r_zft, r_ztt, r_rng, r_rng1, r_rng2, r_rng3, r_lc, r_lc1, r_lc2, r_bc1, r_bc2, r_some, r_dnil, r_attr, r_attr1, r_attr2, r_opd, r_meth, r_meth1, r_meth2, r_meth3, r_meth4, r_make, r_make1, r_make2, r_newd, rs_nil, rs_seq, rs_sq1, rs_sq2, rs_sq3, rs_sq4, rs_sq5, rs_ret, rs_ret1, rs_retx, rs_retn, rs_brk, rs_cont, rs_drop, rs_drop1, rs_dropx, rs_asg, rs_asg1, rs_asgx, rs_ope, rs_par, rs_par1, rs_par2, rs_par3, rs_par31, rs_par32, rs_par33, rs_if, rs_ift, rs_iff, rs_ifx, rs_sub, rs_sub1, rs_sub2, rs_sub3, rs_opm, rs_sls, rs_sls1, rs_sls2, rs_sls3, rs_sls4, rs_att, rs_att2, rs_att3, rs_tas0, rs_tas1, rs_tas2, rs_tas3, rs_seta, rs_seta1, rs_seta2, rs_for, rs_for1, rs_body, rs_bodyn, rs_run, rs_end1, rs_end2, rs_end3, r_bnm, r_btu, r_bd00, r_bd01, r_obs, r_trn, r_trb, r_tri, r_trt, r_trf, r_tyn, r_tyb, r_tyi, r_tys, r_tyt, r_tyf, r_tysc, r_dt, r_df, r_eqF, r_eqT, r_eqbF, r_eqbT, r_seF, r_seT, r_isF, r_isT, r_find, r_neg, r_max, r_min, rs_kl1, rs_kl2, rs_kl3, rs_kl4, rs_kl5, r_strix, r_at0, r_at1, r_at2, r_at3, r_at4, r_at5, r_at6, r_at7, r_at8, r_at9, r_at10, r_at11, r_at12, r_all, r_any, r_all_true, rs_try, rs_try1, rs_try2, rs_try3, rs_tra, rs_tra1, rs_tra2, rs_tra3, rs_nox, rs_del1, rs_del2, rs_del3, rs_del4, rs_raise, rs_raise1, rs_raise0, rs_raiseZ, r_xf, r_isx, r_kix, r_kix1, q_atI, q_nok, q_nbad, q_m0, q_m1, q_m2, q_m3, q_s0, q_s1, q_s2, q_s3, q_ss, q_mkT, q_mkF, q_mkM, q_addi, q_adds, q_addt, q_addf, q_subi, q_muli, q_divi, q_modi, q_lt, q_le, q_gt, q_ge, q_ixt, q_ixf, q_ixsc, q_ixrm, q_lens, q_lent, q_lenf, q_lensc, q_lenrm, q_inti, q_intb, q_ord, q_tupt, q_tupf, q_tuprm, q_lstt, q_lstf, q_appm, q_extm, q_slfF, q_slfM, q_sltT, q_sls, nn1, List.isEmpty_nil, List.isEmpty_cons, nx1, nx2, List.map_cons, List.map_nil, List.length_cons, List.length_nil, List.replicate_succ, List.replicate_zero, List.cons_append, List.nil_append, List.append_nil, List.set_cons_succ, List.set_cons_zero, List.getElem?_cons_zero, List.getElem?_cons_succ, Nat.reduceSub, Nat.reduceAdd, List.length_append, List.length_map, List.append_assoc, Nat.zero_add, if_true, if_false, Bool.false_eq_true, Bool.not_true, Bool.not_false, isNonB, wipeE, List.any_cons, List.any_nil, isT, Bool.or_false, Bool.or_true, Bool.false_or, Bool.true_or])
local macro_rules | `(tactic| walk_at "ex") => `(tactic| simp (disch := first | assumption | omega | ((try simp only [List.length_cons, List.length_nil, List.length_append, List.length_map, List.length_take, List.length_drop, List.length_reverse, List.length_set, List.length_replicate]) <;> omega) | fail) only [r_var, r_c, r_bin, r_bin1, r_bin2, r_bin1x, r_bin2x, r_un, r_un1, r_a0, r_a1, r_a2, r_a3, r_a2x, r_a3x, r_cb, r_cb1, r_cb1x, r_call, r_call1, r_call1x, r_mt, r_mts, r_mtf, r_mtr0, r_mtr1, r_mtr2, r_mtd0, r_mt2, r_test, r_test1, r_test2, r_testx, r_bl, r_bl1, r_blx, r_av, r_av1, r_avt, r_avf, r_ov, r_ov1, r_ovt, r_ovf, r_nv, r_nv1, r_nv2, r_at, r_att, r_atf, r_ot, r_ott, r_otf, r_nt, r_nt1, r_if, r_ift, r_iff, r_ifx, r_tup, r_tup1, r_tupx, r_lst, r_lst1, r_ch, r_ch1, r_ch2, r_ch3, r_ch4, r_isi, r_isi1, r_isi2, r_bd0, r_bd1, r_bd2, r_rev, r_rev1, r_sl, r_sl1, r_sl2, r_sl3, r_it, r_it1, r_itt, r_itf, r_itsc, r_its, r_itr0, r_en, r_en1, r_opi, r_ent, r_enf, r_zip, r_zip1, r_zip2, r_zft, r_ztt, r_rng, r_rng1, r_rng2, r_rng3, r_lc, r_lc1, r_lc2, r_bc1, r_bc2, r_some, r_dnil, r_attr, r_attr1, r_attr2, r_opd, r_meth, r_meth1, r_meth2, r_meth3, r_meth4, r_make, r_make1, r_make2, r_newd, rs_nil, rs_seq, rs_sq1, rs_sq2, rs_sq3, rs_sq4, rs_sq5, rs_ret, rs_ret1, rs_retx, rs_retn, rs_brk, rs_cont, rs_drop, rs_drop1, rs_dropx, rs_asg, rs_asg1, rs_asgx, rs_ope, rs_par, rs_par1, rs_par2, rs_par3, rs_par31, rs_par32, rs_par33, rs_if, rs_ift, rs_iff, rs_ifx, rs_sub, rs_sub1, rs_sub2, rs_sub3, rs_opm, rs_sls, rs_sls1, rs_sls2, rs_sls3, rs_sls4, rs_att, rs_att2, rs_att3, rs_tas0, rs_tas1, rs_tas2, rs_tas3, rs_seta, rs_seta1, rs_seta2, rs_for, rs_for1, rs_body, rs_bodyn, rs_run, rs_end1, rs_end2, rs_end3, r_bnm, r_btu, r_bd00, r_bd01, r_obs, r_trn, r_trb, r_tri, r_trt, r_trf, r_tyn, r_tyb, r_tyi, r_tys, r_tyt, r_tyf, r_tysc, r_dt, r_df, r_eqF, r_eqT, r_eqbF, r_eqbT, r_seF, r_seT, r_isF, r_isT, r_find, r_neg, r_max, r_min, rs_kl1, rs_kl2, rs_kl3, rs_kl4, rs_kl5, r_strix, r_at0, r_at1, r_at2, r_at3, r_at4, r_at5, r_at6, r_at7, r_at8, r_at9, r_at10, r_at11, r_at12, r_all, r_any, r_all_true, rs_try, rs_try1, rs_try2, rs_try3, rs_tra, rs_tra1, rs_tra2, rs_tra3, rs_nox, rs_del1, rs_del2, rs_del3, rs_del4, rs_raise, rs_raise1, rs_raise0, rs_raiseZ, r_xf, r_isx, r_kix, r_kix1, q_atI, q_nok, q_nbad, q_m0, q_m1, q_m2, q_m3, q_s0, q_s1, q_s2, q_s3, q_ss, q_mkT, q_mkF, q_mkM, q_addi, q_adds, q_addt, q_addf, q_subi, q_muli, q_divi, q_modi, q_lt, q_le, q_gt, q_ge, q_ixt, q_ixf, q_ixsc, q_ixrm, q_lens, q_lent, q_lenf, q_lensc, q_lenrm, q_inti, q_intb, q_ord, q_tupt, q_tupf, q_tuprm, q_lstt, q_lstf, q_appm, q_extm, q_slfF, q_slfM, q_sltT, q_sls, nn1, List.isEmpty_nil, List.isEmpty_cons, nx1, nx2, List.map_cons, List.map_nil, List.length_cons, List.length_nil, List.replicate_succ, List.replicate_zero, List.cons_append, List.nil_append, List.append_nil, List.set_cons_succ, List.set_cons_zero, List.getElem?_cons_zero, List.getElem?_cons_succ, Nat.reduceSub, Nat.reduceAdd, List.length_append, List.length_map, List.append_assoc, Nat.zero_add, if_true, if_false, Bool.false_eq_true, Bool.not_true, Bool.not_false, isNonB, wipeE, List.any_cons, List.any_nil, isT, Bool.or_false, Bool.or_true, Bool.false_or, Bool.true_or, *])
abbrev nI (n : Nat) : D := .int (n : Int)
abbrev ic (c : List Nat) : List D := c.map nI
def cb (n : Nat) : List Nat := if n < 128 then [n] else if n < 2048 then [192 + n / 64, 128 + n % 64] else if n < 65536 then [224 + n / 4096, 128 + n / 64 % 64, 128 + n % 64] else [240 + n / 262144, 128 + n / 4096 % 64, 128 + n / 64 % 64, 128 + n % 64]
theorem cb_len (n : Nat) : (cb n).length ≤ 4 := by unfold cb; split <;> (try split) <;> (try split) <;> simp
theorem pls_ic (c : List Nat) : D.pls (ic c) = true := q_pls_map (fun x => rfl) c
theorem pop_ic {m : Mem} (c : List Nat) : popR m (.ok (.fl (ic c)) m) = .ok (.fl (ic c)) m := q_pop0 (pls_ic c)
theorem ic_app (a b : List Nat) : ic (a ++ b) = ic a ++ ic b := List.map_append
theorem code_bytes_ok {n : Nat} (h : n < 1114112) {m : Mem} : popR m (runB 1 sv_code_bytes [nI n] m) = .ok (.fl (ic (cb n))) m := by
  unfold sv_code_bytes
  walk_at "ev"
  by_cases h1 : n < 128
  · rw [show decide ((n : Int) < 128) = true by simp; omega]
    walk_at "ev"
    rw [show cb n = [n] from if_pos h1]
    exact pop_ic [n]
  rw [show decide ((n : Int) < 128) = false by simp; omega]
  walk_at "ev"
  by_cases h2 : n < 2048
  · rw [show decide ((n : Int) < 2048) = true by simp; omega]
    walk_at "ev"
    rw [show cb n = [192 + n / 64, 128 + n % 64] by unfold cb; rw [if_neg h1, if_pos h2]]
    exact pop_ic [192 + n / 64, 128 + n % 64]
  rw [show decide ((n : Int) < 2048) = false by simp; omega]
  walk_at "ev"
  by_cases h3 : n < 65536
  · rw [show decide ((n : Int) < 65536) = true by simp; omega]
    walk_at "ev"
    rw [show cb n = [224 + n / 4096, 128 + n / 64 % 64, 128 + n % 64] by unfold cb; rw [if_neg h1, if_neg h2, if_pos h3]]
    exact pop_ic [224 + n / 4096, 128 + n / 64 % 64, 128 + n % 64]
  rw [show decide ((n : Int) < 65536) = false by simp; omega]
  walk_at "ev"
  rw [show cb n = [240 + n / 262144, 128 + n / 4096 % 64, 128 + n / 64 % 64, 128 + n % 64] by unfold cb; rw [if_neg h1, if_neg h2, if_neg h3]]
  exact pop_ic [240 + n / 262144, 128 + n / 4096 % 64, 128 + n / 64 % 64, 128 + n % 64]
/-! encode -/
def uS : List Nat := [117, 116, 102, 45, 56]
def aS : List Nat := [97, 115, 99, 105, 105]
def lS : List Nat := [108, 97, 116, 105, 110, 45, 49]
theorem eq_uu {m : Mem} : opEq false (.str uS) (.str [117, 116, 102, 45, 56]) m = .ok (.bl true) m := q_eqb (c := true) (by kernel_rfl)
theorem eq_au {m : Mem} : opEq false (.str aS) (.str [117, 116, 102, 45, 56]) m = .ok (.bl false) m := q_eqb (c := false) (by kernel_rfl)
theorem eq_lu {m : Mem} : opEq false (.str lS) (.str [117, 116, 102, 45, 56]) m = .ok (.bl false) m := q_eqb (c := false) (by kernel_rfl)
theorem eq_ul {m : Mem} : opEq false (.str uS) (.str [108, 97, 116, 105, 110, 45, 49]) m = .ok (.bl false) m := q_eqb (c := false) (by kernel_rfl)
theorem eq_al {m : Mem} : opEq false (.str aS) (.str [108, 97, 116, 105, 110, 45, 49]) m = .ok (.bl false) m := q_eqb (c := false) (by kernel_rfl)
theorem eq_ll {m : Mem} : opEq false (.str lS) (.str [108, 97, 116, 105, 110, 45, 49]) m = .ok (.bl true) m := q_eqb (c := true) (by kernel_rfl)
def CbF (c : Fn) : Prop := ∀ (n : Nat) (m : Mem), n < 1114112 → c [nI n] m = .ok (.fl (ic (cb n))) m
def encB (c : Fn) : SV := (sIf (dBl (dBin (opEq false) (dVar 1) (dC (.str [117, 116, 102, 45, 56])))) (sDrop (dMt "list" mExtend (dVar 2) [(dCall c [(dVar 4)])])) (sIf (dBl (dBin opLt (dVar 4) (dKix tab_LIMITS (dVar 1)))) (sDrop (dMt "list" mAppend (dVar 2) [(dVar 4)])) (sRaise "EncodeError" ["index"] [(dVar 3)])))
theorem enc_utf {c : Fn} (hc : CbF c) {m : Mem} {x : Option D} : ∀ (L : List Nat) (k : Nat) (acc : List Nat) (y z : Option D), (∀ n ∈ L, n < 1114112) → acc.length + 4 * L.length ≤ 1000000 →
    ∃ y' z', loopF gT (bodyF (.tup [.nm 3, .nm 4]) (encB c)) (enD k (ic L)) [x, some (.str uS), some (.ref m.length), y, z] (m ++ [.lst (ic acc)]) = .ok .nx [x, some (.str uS), some (.ref m.length), y', z'] (m ++ [.lst (ic (acc ++ L.flatMap cb))])
  | [], k, acc, y, z, _, _ => ⟨y, z, by simp [enD, rs_lf0]⟩
  | n :: L, k, acc, y, z, h, hl => by
    have h4 := cb_len n
    simp only [List.length_cons] at hl
    obtain ⟨y', z', e⟩ := enc_utf hc (m := m) (x := x) L (k + 1) (acc ++ cb n) (some (.int k)) (some (nI n)) (fun n hn => h n (List.mem_cons_of_mem _ hn)) (by rw [List.length_append]; omega)
    refine ⟨y', z', ?_⟩
    rw [List.flatMap_cons, ← List.append_assoc, ← e]
    show loopF gT _ (.tup [.int k, nI n] :: enD (k + 1) (ic L)) _ _ = _
    rw [rs_lf1, rs_body (e1 := [x, some (.str uS), some (.ref m.length), some (.int k), some (nI n)]) rfl]
    have eb : encB c [x, some (.str uS), some (.ref m.length), some (.int k), some (nI n)] (m ++ [.lst (ic acc)]) = .ok .nx [x, some (.str uS), some (.ref m.length), some (.int k), some (nI n)] (m ++ [.lst (ic (acc ++ cb n))]) := by
      unfold encB
      walk_at "ev"
      rw [eq_uu]
      walk_at "ev"
      rw [hc n _ (h n List.mem_cons_self)]
      walk_at "ev"
      rw [ic_app]
    rw [eb, rs_kl1]
theorem lim_a : tab_LIMITS.lookup aS = some (.int 128) := by rfl
theorem lim_l : tab_LIMITS.lookup lS = some (.int 256) := by rfl
/-- where the first code is that the limit does not have -/
def bad1 (lim : Nat) : Nat → List Nat → Option Nat
  | _, [] => none
  | k, n :: L => if n < lim then bad1 lim (k + 1) L else some k
def xE (k : Nat) : Exn := ⟨"EncodeError", [("index", nI k)]⟩
theorem enc_lim {c : Fn} {cs : List Nat} {lim : Nat} (hu : ∀ m : Mem, opEq false (.str cs) (.str [117, 116, 102, 45, 56]) m = .ok (.bl false) m) (hl0 : tab_LIMITS.lookup cs = some (nI lim)) {m : Mem} {x : Option D} : ∀ (L : List Nat) (k : Nat) (acc : List Nat) (y z : Option D), acc.length + L.length ≤ 1000000 →
    ∃ y' z' W, loopF gT (bodyF (.tup [.nm 3, .nm 4]) (encB c)) (enD k (ic L)) [x, some (.str cs), some (.ref m.length), y, z] (m ++ [.lst (ic acc)]) = match bad1 lim k L with
      | none => .ok .nx [x, some (.str cs), some (.ref m.length), y', z'] (m ++ [.lst (ic (acc ++ L))])
      | some j => .ex (xE j) [x, some (.str cs), some (.ref m.length), y', z'] (m ++ [.lst (ic W)])
  | [], k, acc, y, z, _ => ⟨y, z, [], by simp [enD, rs_lf0, bad1]⟩
  | n :: L, k, acc, y, z, hl => by
    simp only [List.length_cons] at hl
    show ∃ y' z' W, loopF gT _ (.tup [.int k, nI n] :: enD (k + 1) (ic L)) _ _ = _
    rw [rs_lf1, rs_body (e1 := [x, some (.str cs), some (.ref m.length), some (.int k), some (nI n)]) rfl]
    by_cases hn : n < lim
    · have eb : encB c [x, some (.str cs), some (.ref m.length), some (.int k), some (nI n)] (m ++ [.lst (ic acc)]) = .ok .nx [x, some (.str cs), some (.ref m.length), some (.int k), some (nI n)] (m ++ [.lst (ic (acc ++ [n]))]) := by
        unfold encB
        walk_at "ev"
        rw [hu]
        walk_at "ev"
        rw [ic_app]
        rfl
      rw [eb, rs_kl1]
      obtain ⟨y', z', W, e⟩ := enc_lim hu hl0 (m := m) (x := x) L (k + 1) (acc ++ [n]) (some (.int k)) (some (nI n)) (by rw [List.length_append]; simp only [List.length_cons, List.length_nil]; omega)
      refine ⟨y', z', W, ?_⟩
      rw [e, show bad1 lim k (n :: L) = bad1 lim (k + 1) L from if_pos hn, List.append_assoc]
      rfl
    · have eb : encB c [x, some (.str cs), some (.ref m.length), some (.int k), some (nI n)] (m ++ [.lst (ic acc)]) = .ex (xE k) [x, some (.str cs), some (.ref m.length), some (.int k), some (nI n)] (m ++ [.lst (ic acc)]) := by
        unfold encB
        walk_at "ev"
        rw [hu]
        walk_at "ev"
        rfl
      refine ⟨some (.int k), some (nI n), acc, ?_⟩
      rw [eb, rs_kl5, show bad1 lim k (n :: L) = some k from if_neg hn]
/-- a text as it is handed in: a tuple or a list -/
inductive Hv (c : List Nat) : D → Prop
  | t : Hv c (.tup (ic c))
  | f : Hv c (.fl (ic c))
theorem encode_utf {c : Fn} (hc : CbF c) {m : Mem} {L : List Nat} {d : D} (hd : Hv L d) (h : ∀ n ∈ L, n < 1114112) (hl : L.length ≤ 1000) : popR m (runB 5 (sv_encode c) [d, .str uS] m) = .ok (.tup (ic (L.flatMap cb))) m := by
  have hz : (L.flatMap cb).length ≤ 4000 := by
    have : ∀ L : List Nat, (L.flatMap cb).length ≤ 4 * L.length := fun L => by
      induction L with
      | nil => simp
      | cons n L ih =>
        rw [List.flatMap_cons, List.length_append, List.length_cons]
        have := cb_len n
        omega
    have := this L
    omega
  unfold sv_encode
  obtain ⟨y, z, e⟩ := enc_utf hc (m := m) (x := some d) L 0 [] none none h (by simp; omega)
  have hp := q_pop (m := m) (l := [.lst (ic (L.flatMap cb))]) (d := .tup (ic (L.flatMap cb))) (pls_ic _)
  cases hd
  all_goals
    walk_at "ev"
    generalize hL : loopF gT _ _ _ _ = r
    rw [show r = _ from hL.symm.trans e, List.nil_append]
    walk_at "ev"
    exact hp
theorem encode_lim {c : Fn} {cs : List Nat} {lim : Nat} (hu : ∀ m : Mem, opEq false (.str cs) (.str [117, 116, 102, 45, 56]) m = .ok (.bl false) m) (hl0 : tab_LIMITS.lookup cs = some (nI lim)) {m : Mem} {L : List Nat} {d : D} (hd : Hv L d) (hl : L.length ≤ 1000) :
    popR m (runB 5 (sv_encode c) [d, .str cs] m) = match bad1 lim 0 L with
      | none => .ok (.tup (ic L)) m
      | some j => .ex (xE j) m := by
  unfold sv_encode
  obtain ⟨y, z, W, e⟩ := enc_lim (c := c) hu hl0 (m := m) (x := some d) L 0 [] none none (by simp; omega)
  have hp := q_pop (m := m) (l := [.lst (ic L)]) (d := .tup (ic L)) (pls_ic _)
  have hx := fun j => q_pope (m := m) (l := [.lst (ic W)]) (c := "EncodeError") (fs := [("index", nI j)]) rfl
  cases hb : bad1 lim 0 L with
  | none =>
    rw [hb] at e
    cases hd
    all_goals
      walk_at "ev"
      generalize hL : loopF gT _ _ _ _ = r
      rw [show r = _ from hL.symm.trans e, List.nil_append]
      walk_at "ev"
      exact hp
  | some j =>
    rw [hb] at e
    cases hd
    all_goals
      walk_at "ev"
      generalize hL : loopF gT _ _ _ _ = r
      rw [show r = _ from hL.symm.trans e]
      walk_at "ev"
      exact hx j
theorem pop_told {m : Mem} (s : List Nat) (c : List Nat) : popR m (.ok (.tup [.str s, .tup (ic c)]) m) = .ok (.tup [.str s, .tup (ic c)]) m := q_pop0 (by show (true && ((D.pls (ic c)) && true)) = true; rw [pls_ic]; rfl)
theorem pop_no {m : Mem} (s : List Nat) (j : Nat) : popR m (.ok (.tup [.str s, nI j]) m) = .ok (.tup [.str s, nI j]) m := q_pop0 rfl
/-! the law's own reckoning -/
def cb2 (n : Nat) : List Nat := if n < 128 then [n] else
  let k := 1 + (if 2047 < n then 1 else 0) + (if 65535 < n then 1 else 0)
  ([0, 192, 224, 240].getD k 0 + n / [1, 64, 4096, 262144].getD k 1) :: ((List.range k).map fun i => 128 + n / [1, 64, 4096, 262144].getD (k - 1 - i) 1 % 64)
theorem law_bytes {m : Mem} {src : Option D} {n : Nat} (h : n < 1114112) {acc : List Nat} (hl : acc.length ≤ 1000000) {o3 o4 o5 : Option D} {P : Itp.Env → Mem → Prop}
    (k : ∀ o3 o4 o5, P [src, some (.ref m.length), some (nI n), o3, o4, o5] (m ++ [.lst (ic (acc ++ cb n))])) :
    Nx ((sIf (dBl (dBin opLt (dVar 2) (dC (.int 128)))) (sDrop (dMt "list" mAppend (dVar 1) [(dVar 2)])) (sSeq (sAsg (.nm 3) (dBin (opAdd false) (dBin (opAdd false) (dC (.int 1)) (dCB bInt [(dBin opGt (dVar 2) (dC (.int 2047)))])) (dCB bInt [(dBin opGt (dVar 2) (dC (.int 65535)))])))
    (sSeq (sAsg (.nm 4) (dLst false [(dC (.int 1)), (dC (.int 64)), (dC (.int 4096)), (dC (.int 262144))]))
    (sSeq (sDrop (dMt "list" mAppend (dVar 1) [(dBin (opAdd false) (dBin opIx (dLst false [(dC (.int 0)), (dC (.int 192)), (dC (.int 224)), (dC (.int 240))]) (dVar 3)) (dBin opFDiv (dVar 2) (dBin opIx (dVar 4) (dVar 3))))]))
    (sFor (dRng [(dBin opSub (dVar 3) (dC (.int 1))), (dUn opNeg (dC (.int 1))), (dUn opNeg (dC (.int 1)))]) (.nm 5) (sDrop (dMt "list" mAppend (dVar 1) [(dBin (opAdd false) (dC (.int 128)) (dBin opMod (dBin opFDiv (dVar 2) (dBin opIx (dVar 4) (dVar 5))) (dC (.int 64))))]))))))) [src, some (.ref m.length), some (nI n), o3, o4, o5] (m ++ [.lst (ic acc)])) P := by
  walk_at "ev"
  by_cases h1 : n < 128
  · rw [show decide ((n : Int) < 128) = true by simp; omega]
    walk_at "ev"
    have := k o3 o4 o5
    rw [ic_app, show cb n = [n] from if_pos h1] at this
    exact this
  rw [show decide ((n : Int) < 128) = false by simp; omega]
  walk_at "ev"
  by_cases h2 : n < 2048
  · rw [show decide (2047 < (n : Int)) = false by simp; omega, show decide (65535 < (n : Int)) = false by simp; omega]
    walk_at "ev"
    simp only [show ((1 : Int) + 0 + 0) = 1 from rfl]
    walk_at "ev"
    rw [show rngD ((1 : Int) - 1) ((1 : Int) - 1 - -1).toNat = [.int 0] from rfl]
    walk_at "el"
    have hk := k (some (.int 1)) (some (.fl [.int 1, .int 64, .int 4096, .int 262144])) (some (.int 0))
    rw [ic_app, show cb n = [192 + n / 64, 128 + n % 64] by unfold cb; rw [if_neg h1, if_pos h2]] at hk
    rw [Int.ediv_one]
    exact hk
  rw [show decide (2047 < (n : Int)) = true by simp; omega]
  by_cases h3 : n < 65536
  · rw [show decide (65535 < (n : Int)) = false by simp; omega]
    walk_at "ev"
    simp only [show ((1 : Int) + 1 + 0) = 2 from rfl]
    walk_at "ev"
    rw [show rngD ((2 : Int) - 1) ((2 : Int) - 1 - -1).toNat = [.int 1, .int 0] from rfl]
    walk_at "el"
    have hk := k (some (.int 2)) (some (.fl [.int 1, .int 64, .int 4096, .int 262144])) (some (.int 0))
    rw [ic_app, show cb n = [224 + n / 4096, 128 + n / 64 % 64, 128 + n % 64] by unfold cb; rw [if_neg h1, if_neg h2, if_pos h3]] at hk
    rw [Int.ediv_one]
    exact hk
  · rw [show decide (65535 < (n : Int)) = true by simp; omega]
    walk_at "ev"
    simp only [show ((1 : Int) + 1 + 1) = 3 from rfl]
    walk_at "ev"
    rw [show rngD ((3 : Int) - 1) ((3 : Int) - 1 - -1).toNat = [.int 2, .int 1, .int 0] from rfl]
    walk_at "el"
    have hk := k (some (.int 3)) (some (.fl [.int 1, .int 64, .int 4096, .int 262144])) (some (.int 0))
    rw [ic_app, show cb n = [240 + n / 262144, 128 + n / 4096 % 64, 128 + n / 64 % 64, 128 + n % 64] by unfold cb; rw [if_neg h1, if_neg h2, if_neg h3]] at hk
    rw [Int.ediv_one]
    exact hk
theorem utf8_ok {m : Mem} {L : List Nat} (h : ∀ n ∈ L, n < 1114112) (hl : L.length ≤ 1000) : popR m (runB 6 sv__law_utf8 [.fl (ic L)] m) = .ok (.tup (ic (L.flatMap cb))) m := by
  have hz : ∀ L : List Nat, (L.flatMap cb).length ≤ 4 * L.length := fun L => by
    induction L with
    | nil => simp
    | cons n L ih =>
      rw [List.flatMap_cons, List.length_append, List.length_cons]
      have := cb_len n
      omega
  have hp := q_pop (m := m) (l := [.lst (ic (L.flatMap cb))]) (d := .tup (ic (L.flatMap cb))) (pls_ic _)
  unfold sv__law_utf8
  walk_at "ev"
  generalize hL : loopF gT (bodyF _ _) _ _ _ = r
  refine for_nN hL (fun s : Nat × Option D × Option D × Option D × Option D => [some (.fl (ic L)), some (.ref m.length), s.2.1, s.2.2.1, s.2.2.2.1, s.2.2.2.2]) (fun s => m ++ [.lst (ic ((L.take s.1).flatMap cb))]) (fun i s => s.1 = i) (0, none, none, none, none) rfl rfl (fun _ _ _ => rfl) rfl (fun i s x hx hi => ?_) (fun s hr hi => ?_)
  · subst hi
    have hx2 := h x (List.mem_of_getElem? hx)
    have h3 := hz (L.take s.1)
    have h4 : (L.take s.1).length ≤ L.length := by rw [List.length_take]; omega
    rw [rs_body (e1 := [some (.fl (ic L)), some (.ref m.length), some (nI x), s.2.2.1, s.2.2.2.1, s.2.2.2.2]) rfl]
    refine law_bytes hx2 (by omega) (fun o3 o4 o5 => ?_)
    exact ⟨(s.1 + 1, _, _, _, _), rfl, by rw [take_flat hx], rfl⟩
  · subst hr
    have h3 := hz L
    walk_at "ev"
    rw [hi, List.take_length]
    walk_at "ev"
    exact hp
theorem utf8_okT {m : Mem} {L : List Nat} (h : ∀ n ∈ L, n < 1114112) (hl : L.length ≤ 1000) : popR m (runB 6 sv__law_utf8 [.tup (ic L)] m) = .ok (.tup (ic (L.flatMap cb))) m := by
  have hz : ∀ L : List Nat, (L.flatMap cb).length ≤ 4 * L.length := fun L => by
    induction L with
    | nil => simp
    | cons n L ih =>
      rw [List.flatMap_cons, List.length_append, List.length_cons]
      have := cb_len n
      omega
  have hp := q_pop (m := m) (l := [.lst (ic (L.flatMap cb))]) (d := .tup (ic (L.flatMap cb))) (pls_ic _)
  unfold sv__law_utf8
  walk_at "ev"
  generalize hL : loopF gT (bodyF _ _) _ _ _ = r
  refine for_nN hL (fun s : Nat × Option D × Option D × Option D × Option D => [some (.tup (ic L)), some (.ref m.length), s.2.1, s.2.2.1, s.2.2.2.1, s.2.2.2.2]) (fun s => m ++ [.lst (ic ((L.take s.1).flatMap cb))]) (fun i s => s.1 = i) (0, none, none, none, none) rfl rfl (fun _ _ _ => rfl) rfl (fun i s x hx hi => ?_) (fun s hr hi => ?_)
  · subst hi
    have hx2 := h x (List.mem_of_getElem? hx)
    have h3 := hz (L.take s.1)
    have h4 : (L.take s.1).length ≤ L.length := by rw [List.length_take]; omega
    rw [rs_body (e1 := [some (.tup (ic L)), some (.ref m.length), some (nI x), s.2.2.1, s.2.2.2.1, s.2.2.2.2]) rfl]
    refine law_bytes hx2 (by omega) (fun o3 o4 o5 => ?_)
    exact ⟨(s.1 + 1, _, _, _, _), rfl, by rw [take_flat hx], rfl⟩
  · subst hr
    have h3 := hz L
    walk_at "ev"
    rw [hi, List.take_length]
    walk_at "ev"
    exact hp
/-! draws -/
theorem draw_at {c : Fn} (hc : DrawF c) {m : Mem} {n : Nat} {l : List D} (X : Mem) {many : Int} (hl : SrcL n l) (hn : n < 2 ^ 40) (h0 : 0 < many) (h1 : many < 2 ^ 100) :
    ∃ (r : Nat) (l' : List D), c [.ref m.length, .int many] (m ++ .lst l :: X) = .ok (.int r) (m ++ .lst l' :: X) ∧ (r : Int) < many ∧ SrcL (n + 1) l' := by
  obtain ⟨r, l', e, h2, h3⟩ := hc (m ++ .lst l :: X) m.length n l many q_m0 hl hn h0 h1
  exact ⟨r, l', by rw [e, q_s0], h2, h3⟩
theorem pop_src {m : Mem} {l l' : List D} {n : Nat} (Y : Mem) {d : D} (hl : SrcL n l') (hd : d.pl = true) : popR (m ++ [.lst l]) (.ok d (m ++ .lst l' :: Y)) = .ok d (m ++ [.lst l']) := by
  have h := q_pops (m := m ++ [.lst l]) (l := Y) (a := m.length) (o := .lst l') (d := d) (by simp) (src_pl hl) hd
  rw [q_s0, List.append_assoc] at h
  exact h
theorem popr_src {m : Mem} {l l' ds : List D} {n : Nat} (hl : SrcL n l') (hd : D.pls ds = true) : popR (m ++ [.lst l]) (.ok (.ref (m.length + 1)) (m ++ .lst l' :: [.lst ds])) = .ok (.fl ds) (m ++ [.lst l']) := by
  have hz : (m ++ [O.lst l]).length = m.length + 1 := by simp
  have h1 := popM_set (g := frzO (m ++ .lst l' :: [.lst ds]) (m ++ [O.lst l]).length) (m ++ [.lst l]) [.lst ds] m.length (.lst l') (by simp) (frzO_pl (src_pl hl))
  have e : (m ++ [O.lst l]).set m.length (.lst l') = m ++ [.lst l'] := q_s0
  rw [e, List.append_assoc] at h1
  dsimp only [popR]
  replace h1 : popM (frzO (m ++ ([.lst l'] ++ [.lst ds])) (m ++ [O.lst l]).length) (m ++ [.lst l]) (m ++ ([.lst l'] ++ [.lst ds])) = some (m ++ [.lst l']) := h1
  rw [show m ++ .lst l' :: [.lst ds] = m ++ ([.lst l'] ++ [.lst ds]) from rfl, h1]
  have e2 : frzD (m ++ ([.lst l'] ++ [.lst ds])) (m ++ [O.lst l]).length (.ref (m.length + 1)) = some (.fl ds) := by
    show frzRef _ _ 6 (m.length + 1) = _
    unfold frzRef
    rw [hz, if_neg (Nat.lt_irrefl _), show ((m ++ ([.lst l'] ++ [.lst ds]) : Mem) : List O)[m.length + 1]? = some (.lst ds) from q_m1]
    show (D.mapRs _ ds).map D.fl = _
    rw [mapRs_pl ds hd]; rfl
  rw [e2]
def okC (c : List Nat) : Prop := ∀ n ∈ c, n < 1114112
theorem okC_app {c : List Nat} {n : Nat} (h : okC c) (hn : n < 1114112) : okC (c ++ [n]) := fun x hx => by
  rcases List.mem_append.mp hx with h1 | h1
  · exact h x h1
  · rw [List.mem_singleton.mp h1]; exact hn
theorem app1 {m : Mem} {o : O} {ds : List D} {y : D} (h : ds.length < 16777216) : mAppend (.ref (m.length + 1)) [y] (m ++ o :: [.lst ds]) = .ok .non (m ++ o :: [.lst (ds ++ [y])]) := by rw [q_app q_m1 h, q_s1]
theorem tupM1 {m : Mem} {o : O} {ds : List D} (h : ds.length ≤ 16777216) : bTuple [.ref (m.length + 1)] (m ++ o :: [.lst ds]) = .ok (.tup ds) (m ++ o :: [.lst ds]) := by rw [q_tupr q_m1, q_mkT h]
def mnA : List Nat := [10, 9, 32, 34, 92, 37, 58, 59, 1, 127]
def mnB : List Nat := [128, 255, 256, 2047, 2048, 55295, 57344, 65535, 65536, 1114111]
theorem ix_menu {L : List Nat} {r : Nat} (h : r < L.length) {m : Mem} : opIx (.fl (ic L)) (.int r) m = .ok (nI L[r]) m := by
  walk_at "ev"
  rw [List.getElem?_map, List.getElem?_eq_getElem h]
  rfl
theorem mnA_ok : ∀ n ∈ mnA, n < 1114112 := by decide
theorem mnB_ok : ∀ n ∈ mnB, n < 1114112 := by decide
structure SC where
  c : List Nat
  l : List D
  y : Option D
  z : Option D
theorem codes_ok {cd : Fn} (hd : DrawF cd) {m : Mem} {n : Nat} {l : List D} {most : Nat} (hl : SrcL n l) (hn : n < 2 ^ 39) (hm : most ≤ 100) :
    ∃ (cs : List Nat) (l' : List D), popR (m ++ [.lst l]) (runB 5 (sv__law_codes cd) [.ref m.length, nI most] (m ++ [.lst l])) = .ok (.tup (ic cs)) (m ++ [.lst l']) ∧ cs.length ≤ most ∧ okC cs ∧ SrcL (n + 1 + 2 * most) l' := by
  obtain ⟨r, l1, e1, hr, hl1⟩ := draw_at hd (m := m) [.lst []] (many := (most : Int) + 1) hl (by omega) (by omega) (by omega)
  unfold sv__law_codes
  walk_at "ev"
  rw [e1]
  walk_at "ev"
  generalize hL : loopF gT (bodyF _ _) _ _ _ = rr
  refine for_nR hL (fun s : SC => [some (.ref m.length), some (nI most), some (.ref (m.length + 1)), s.y, s.z]) (fun s => m ++ .lst s.l :: [.lst (ic s.c)]) (fun i s => s.c.length = i ∧ okC s.c ∧ SrcL (n + 1 + 2 * i) s.l) ⟨[], l1, none, none⟩ rfl rfl (fun _ _ _ => rfl) ⟨rfl, (fun _ h => by cases h), hl1⟩ (fun i s hi hs => ?_) (fun s hr2 hs => ?_)
  · obtain ⟨q1, q2, q3⟩ := hs
    have hi2 : i < r := by omega
    obtain ⟨w, l2, e2, hw, hl2⟩ := draw_at hd (m := m) [.lst (ic s.c)] (many := 8) q3 (by omega) (by decide) (by decide)
    walk_at "ev"
    rw [e2]
    walk_at "ev"
    have fin : ∀ (x : Nat) (l3 : List D), x < 1114112 → SrcL (n + 1 + 2 * i + 1 + 1) l3 → ∃ s' : SC, [some (.ref m.length), some (nI most), some (.ref (m.length + 1)), some (.int i), some (.int w)] = [some (.ref m.length), some (nI most), some (.ref (m.length + 1)), s'.y, s'.z] ∧ m ++ .lst l3 :: [.lst (ic s.c ++ [nI x])] = m ++ .lst s'.l :: [.lst (ic s'.c)] ∧ (s'.c.length = i + 1 ∧ okC s'.c ∧ SrcL (n + 1 + 2 * (i + 1)) s'.l) := fun x l3 hx h3 =>
      ⟨⟨s.c ++ [x], l3, some (.int i), some (.int w)⟩, rfl, by rw [ic_app]; rfl, by rw [List.length_append, q1]; rfl, okC_app q2 hx, h3⟩
    by_cases h1 : w < 5
    · rw [show decide ((w : Int) < 5) = true by simp; omega]
      obtain ⟨v, l3, e3, hv, hl3⟩ := draw_at hd (m := m) [.lst (ic s.c)] (many := 4) hl2 (by omega) (by decide) (by decide)
      walk_at "ev"
      rw [e3]
      walk_at "ev"
      rw [app1 (by rw [List.length_map, q1]; omega)]
      walk_at "ev"
      exact fin (97 + v) l3 (by omega) hl3
    rw [show decide ((w : Int) < 5) = false by simp; omega]
    obtain ⟨v, l3, e3, hv, hl3⟩ := draw_at hd (m := m) [.lst (ic s.c)] (many := 10) hl2 (by omega) (by decide) (by decide)
    walk_at "ev"
    by_cases h2 : w = 5
    · rw [show decide ((w : Int) = 5) = true by simp; omega]
      walk_at "ev"
      rw [e3]
      walk_at "ev"
      have hv2 : v < mnA.length := by show v < 10; omega
      have e4 : ([.int 10, .int 9, .int 32, .int 34, .int 92, .int 37, .int 58, .int 59, .int 1, .int 127] : List D)[v]? = some (nI mnA[v]) := by
        show (ic mnA)[v]? = _
        rw [List.getElem?_map, List.getElem?_eq_getElem hv2]; rfl
      rw [e4]
      walk_at "ev"
      rw [app1 (by rw [List.length_map, q1]; omega)]
      walk_at "ev"
      exact fin _ l3 (mnA_ok _ (List.getElem_mem _)) hl3
    · rw [show decide ((w : Int) = 5) = false by simp; omega]
      walk_at "ev"
      rw [e3]
      walk_at "ev"
      have hv2 : v < mnB.length := by show v < 10; omega
      have e4 : ([.int 128, .int 255, .int 256, .int 2047, .int 2048, .int 55295, .int 57344, .int 65535, .int 65536, .int 1114111] : List D)[v]? = some (nI mnB[v]) := by
        show (ic mnB)[v]? = _
        rw [List.getElem?_map, List.getElem?_eq_getElem hv2]; rfl
      rw [e4]
      walk_at "ev"
      rw [app1 (by rw [List.length_map, q1]; omega)]
      walk_at "ev"
      exact fin _ l3 (mnB_ok _ (List.getElem_mem _)) hl3
  · obtain ⟨q1, q2, q3⟩ := hs
    subst hr2
    walk_at "ev"
    have hr3 : ((r : Int).toNat) = r := by omega
    rw [hr3] at q1 q3
    rw [tupM1 (by rw [List.length_map, q1]; omega)]
    walk_at "ev"
    refine ⟨s.c, s.l, ?_, by omega, q2, q3.mono (by omega)⟩
    exact pop_src _ q3 (pls_ic _)
theorem ins1 {m : Mem} {o : O} {c : List Nat} {i x : Nat} (h : c.length < 100) (hi : i ≤ 1000) : mInsert (.ref (m.length + 1)) [.int i, nI x] (m ++ o :: [.lst (ic c)]) = .ok .non (m ++ o :: [.lst (ic (c.take i ++ [x] ++ c.drop i))]) := by
  have e : mInsert (.ref (m.length + 1)) [.int i, nI x] (m ++ o :: [.lst (ic c)]) = if (ic c).length < SZ ∧ (0 : Int) ≤ i ∧ (i : Int) < 2 ^ 63 then .ok .non (setM (m ++ o :: [.lst (ic c)]) (m.length + 1) (.lst ((ic c).take (i : Int).toNat ++ [nI x] ++ (ic c).drop (i : Int).toNat))) else .bad := by
    show (match (m ++ o :: [.lst (ic c)] : List O)[m.length + 1]? with | some (.lst ds) => _ | _ => _) = _
    rw [q_m1]
  rw [e, if_pos ⟨by rw [List.length_map]; exact Nat.lt_trans h (by decide), by omega, by omega⟩, q_s1, show (i : Int).toNat = i by omega, ic_app, ic_app]
  simp only [ic, List.map_take, List.map_drop, List.map_cons, List.map_nil]
theorem okC_ins {c : List Nat} {i x : Nat} (h : okC c) (hx : x < 1114112) : okC (c.take i ++ [x] ++ c.drop i) := fun n hn => by
  rcases List.mem_append.mp hn with h1 | h1
  · rcases List.mem_append.mp h1 with h2 | h2
    · exact h n (List.mem_of_mem_take h2)
    · rw [List.mem_singleton.mp h2]; exact hx
  · exact h n (List.mem_of_mem_drop h1)
def CodesF (c : Fn) : Prop := ∀ (m : Mem) (n : Nat) (l : List D) (most : Nat), SrcL n l → n < 2 ^ 39 → most ≤ 100 → ∃ (cs : List Nat) (l' : List D), c [.ref m.length, nI most] (m ++ [.lst l]) = .ok (.tup (ic cs)) (m ++ [.lst l']) ∧ cs.length ≤ most ∧ okC cs ∧ SrcL (n + 1 + 2 * most) l'
theorem handed_ok {cd : Fn} (hd : DrawF cd) {m : Mem} {n : Nat} {l : List D} {c : List Nat} (hl : SrcL n l) (hn : n < 2 ^ 38) (hc : c.length ≤ 1000) :
    ∃ (d : D) (l' : List D), popR (m ++ [.lst l]) (runB 2 (sv__law_handed cd) [.ref m.length, .fl (ic c)] (m ++ [.lst l])) = .ok d (m ++ [.lst l']) ∧ Hv c d ∧ SrcL (n + 1) l' := by
  obtain ⟨r, l1, e1, hr, hl1⟩ := draw_at hd (m := m) [] (many := 2) hl (by omega) (by decide) (by decide)
  unfold sv__law_handed
  walk_at "ev"
  rw [e1]
  have h2 : r = 0 ∨ r = 1 := by omega
  rcases h2 with rfl | rfl
  · walk_at "ev"
    exact ⟨_, l1, pop_src [] hl1 (pls_ic c), .t, hl1⟩
  · walk_at "ev"
    exact ⟨_, l1, pop_src [] hl1 (pls_ic c), .f, hl1⟩
end Pg
set_option Elab.async false
set_option linter.all false
set_option maxRecDepth 100000
set_option maxHeartbeats 4000000
/-! Pg D: bytes decoded. -/
namespace Pg
open PySem PySem.Spec PyProof.Rows L2 Itp
local macro_rules | `(tactic| walk_at "ev") => `(tactic| simp (disch := first | assumption | omega | ((try simp only [List.length_cons, List.length_nil, List.length_append, List.length_map, List.length_take, List.length_drop, List.length_reverse, List.length_set, List.length_replicate]) <;> omega) | fail) only [r_var, r_c, r_bin, r_bin1, r_bin2, r_bin1x, r_bin2x, r_un, r_un1, r_a0, r_a1, r_a2, r_a3, r_a2x, r_a3x, r_cb, r_cb1, r_cb1x, r_call, r_call1, r_call1x, r_mt, r_mts, r_mtf, r_mtr0, r_mtr1, r_mtr2, r_mtd0, r_mt2, r_test, r_test1, r_test2, r_testx, r_bl, r_bl1, r_blx, r_av, r_av1, r_avt, r_avf, r_ov, r_ov1, r_ovt, r_ovf, r_nv, r_nv1, r_nv2, r_at, r_att, r_atf, r_ot, r_ott, r_otf, r_nt, r_nt1, r_if, r_ift, r_iff, r_ifx, r_tup, r_tup1, r_tupx, r_lst, r_lst1, r_ch, r_ch1, r_ch2, r_ch3, r_ch4, r_isi, r_isi1, r_isi2, r_bd0, r_bd1, r_bd2, r_rev, r_rev1, r_sl, r_sl1, r_sl2, r_sl3, r_it, r_it1, r_itt, r_itf, r_itsc, r_its, r_itr0, r_en, r_en1, r_opi, r_ent, r_enf, r_zip, r_zip1, r_zip2, r_zft, r_ztt, r_rng, r_rng1, r_rng2, r_rng3, r_lc, r_lc1, r_lc2, r_bc1, r_bc2, r_some, r_dnil, r_attr, r_attr1, r_attr2, r_opd, r_meth, r_meth1, r_meth2, r_meth3, r_meth4, r_make, r_make1, r_make2, r_newd, rs_nil, rs_seq, rs_sq1, rs_sq2, rs_sq3, rs_sq4, rs_sq5, rs_ret, rs_ret1, rs_retx, rs_retn, rs_brk, rs_cont, rs_drop, rs_drop1, rs_dropx, rs_asg, rs_asg1, rs_asgx, rs_ope, rs_par, rs_par1, rs_par2, rs_par3, rs_par31, rs_par32, rs_par33, rs_if, rs_ift, rs_iff, rs_ifx, rs_sub, rs_sub1, rs_sub2, rs_sub3, rs_opm, rs_sls, rs_sls1, rs_sls2, rs_sls3, rs_sls4, rs_att, rs_att2, rs_att3, rs_tas0, rs_tas1, rs_tas2, rs_tas3, rs_seta, rs_seta1, rs_seta2, rs_for, rs_for1, rs_body, rs_bodyn, rs_run, rs_end1, rs_end2, rs_end3, r_bnm, r_btu, r_bd00, r_bd01, r_obs, r_trn, r_trb, r_tri, r_trt, r_trf, r_tyn, r_tyb, r_tyi, r_tys, r_tyt, r_tyf, r_tysc, r_dt, r_df, r_eqF, r_eqT, r_eqbF, r_eqbT, r_seF, r_seT, r_isF, r_isT, r_find, r_neg, r_max, r_min, rs_kl1, rs_kl2, rs_kl3, rs_kl4, rs_kl5, r_strix, r_at0, r_at1, r_at2, r_at3, r_at4, r_at5, r_at6, r_at7, r_at8, r_at9, r_at10, r_at11, r_at12, r_all, r_any, r_all_true, rs_try, rs_try1, rs_try2, rs_try3, rs_tra, rs_tra1, rs_tra2, rs_tra3, rs_nox, rs_del1, rs_del2, rs_del3, rs_del4, rs_raise, rs_raise1, rs_raise0, rs_raiseZ, r_xf, r_isx, r_kix, r_kix1, q_atI, q_nok, q_nbad, q_m0, q_m1, q_m2, q_m3, q_s0, q_s1, q_s2, q_s3, q_ss, q_mkT, q_mkF, q_mkM, q_addi, q_adds, q_addt, q_addf, q_subi, q_muli, q_divi, q_modi, q_lt, q_le, q_gt, q_ge, q_ixt, q_ixf, q_ixsc, q_ixrm, q_lens, q_lent, q_lenf, q_lensc, q_lenrm, q_inti, q_intb, q_ord, q_tupt, q_tupf, q_tuprm, q_lstt, q_lstf, q_appm, q_extm, q_slfF, q_slfM, q_sltT, q_sls, nn1, List.isEmpty_nil, List.isEmpty_cons, nx1, nx2, List.map_cons, List.map_nil, List.length_cons, List.length_nil, List.replicate_succ, List.replicate_zero, List.cons_append, List.nil_append, List.append_nil, List.set_cons_succ, List.set_cons_zero, List.getElem?_cons_zero, List.getElem?_cons_succ, Nat.reduceSub, Nat.reduceAdd, List.length_append, List.length_map, List.append_assoc, Nat.zero_add, if_true, if_false, Bool.false_eq_true, Bool.not_true, Bool.not_false, isNonB, wipeE, List.any_cons, List.any_nil, isT, Bool.or_false, Bool.or_true, Bool.false_or, Bool.true_or])
local macro_rules | `(tactic| walk_at "el") => `(tactic| simp (disch := first | assumption | omega | ((try simp only [List.length_cons, List.length_nil, List.length_append, List.length_map, List.length_take, List.length_drop, List.length_reverse, List.length_set, List.length_replicate]) <;> omega) | fail) only [rs_lf0, rs_lf1, r_var, r_c, r_bin, r_bin1, r_bin2, r_bin1x, r_bin2x, r_un, r_un1, r_a0, r_a1, r_a2, r_a3, r_a2x, r_a3x, r_cb, r_cb1, r_cb1x, r_call, r_call1, r_call1x, r_mt, r_mts, r_mtf, r_mtr0, r_mtr1, r_mtr2, r_mtd0, r_mt2, r_test, r_test1, r_test2, r_testx, r_bl, r_bl1, r_blx, r_av, r_av1, r_avt, r_avf, r_ov, r_ov1, r_ovt, r_ovf, r_nv, r_nv1, r_nv2, r_at, r_att, r_atf, r_ot, r_ott, r_otf, r_nt, r_nt1, r_if, r_ift, r_iff, r_ifx, r_tup, r_tup1, r_tupx, r_lst, r_lst1, r_ch, r_ch1, r_ch2, r_ch3, r_ch4, r_isi, r_isi1, r_isi2, r_bd0, r_bd1, r_bd2, r_rev, r_rev1, r_sl, r_sl1, r_sl2, r_sl3, r_it, r_it1, r_itt, r_itf, r_itsc, r_its, r_itr0, r_en, r_en1, r_opi, r_ent, r_enf, r_zip, r_zip1, r_zip2, r_zft, r_ztt, r_rng, r_rng1, r_rng2, r_rng3, r_lc, r_lc1, r_lc2, r_bc1, r_bc2, r_some, r_dnil, r_attr, r_attr1, r_attr2, r_opd, r_meth, r_meth1, r_meth2, r_meth3, r_meth4, r_make, r_make1, r_make2, r_newd, rs_nil, rs_seq, rs_sq1, rs_sq2, rs_sq3, rs_sq4, rs_sq5, rs_ret, rs_ret1, rs_retx, rs_retn, rs_brk, rs_cont, rs_drop, rs_drop1, rs_dropx, rs_asg, rs_asg1, rs_asgx, rs_ope, rs_par, rs_par1, rs_par2, rs_par3, rs_par31, rs_par32, rs_par33, rs_if, rs_ift, rs_iff, rs_ifx, rs_sub, rs_sub1, rs_sub2, rs_sub3, rs_opm, rs_sls, rs_sls1, rs_sls2, rs_sls3, rs_sls4, rs_att, rs_att2, rs_att3, rs_tas0, rs_tas1, rs_tas2, rs_tas3, rs_seta, rs_seta1, rs_seta2, rs_for, rs_for1, rs_body, rs_bodyn, rs_run, rs_end1, rs_end2, rs_end3, r_bnm, r_btu, r_bd00, r_bd01, r_obs, r_trn, r_trb, r_tri, r_trt, r_trf, r_tyn, r_tyb, r_tyi, r_tys, r_tyt, r_tyf, r_tysc, r_dt, r_df, r_eqF, r_eqT, r_eqbF, r_eqbT, r_seF, r_seT, r_isF, r_isT, r_find, r_neg, r_max, r_min, rs_kl1, rs_kl2, rs_kl3, rs_kl4, rs_kl5, r_strix, r_at0, r_at1, r_at2, r_at3, r_at4, r_at5, r_at6, r_at7, r_at8, r_at9, r_at10, r_at11, r_at12, r_all, r_any, r_all_true, rs_try, rs_try1, rs_try2, rs_try3, rs_tra, rs_tra1, rs_tra2, rs_tra3, rs_nox, rs_del1, rs_del2, rs_del3, rs_del4, rs_raise, rs_raise1, rs_raise0, rs_raiseZ, r_xf, r_isx, r_kix, r_kix1, q_atI, q_nok, q_nbad, q_m0, q_m1, q_m2, q_m3, q_s0, q_s1, q_s2, q_s3, q_ss, q_mkT, q_mkF, q_mkM, q_addi, q_adds, q_addt, q_addf, q_subi, q_muli, q_divi, q_modi, q_lt, q_le, q_gt, q_ge, q_ixt, q_ixf, q_ixsc, q_ixrm, q_lens, q_lent, q_lenf, q_lensc, q_lenrm, q_inti, q_intb, q_ord, q_tupt, q_tupf, q_tuprm, q_lstt, q_lstf, q_appm, q_extm, q_slfF, q_slfM, q_sltT, q_sls, nn1, List.isEmpty_nil, List.isEmpty_cons, nx1, nx2, List.map_cons, List.map_nil, List.length_cons, List.length_nil, List.replicate_succ, List.replicate_zero, List.cons_append, List.nil_append, List.append_nil, List.set_cons_succ, List.set_cons_zero, List.getElem?_cons_zero, List.getElem?_cons_succ, Nat.reduceSub, Nat.reduceAdd, List.length_append, List.length_map, List.append_assoc, Nat.zero_add, if_true, if_false, Bool.false_eq_true, Bool.not_true, Bool.not_false, isNonB, wipeE, List.any_cons, List.any_nil, isT, Bool.or_false, Bool.or_true, Bool.false_or, Bool.true_or])
local macro_rules | `(tactic| walk_at "ex") => `(tactic| simp (disch := first | assumption | omega | ((try simp only [List.length_cons, List.length_nil, List.length_append, List.length_map, List.length_take, List.length_drop, List.length_reverse, List.length_set, List.length_replicate]) <;> omega) | fail) only [r_var, r_c, r_bin, r_bin1, r_bin2, r_bin1x, r_bin2x, r_un, r_un1, r_a0, r_a1, r_a2, r_a3, r_a2x, r_a3x, r_cb, r_cb1, r_cb1x, r_call, r_call1, r_call1x, r_mt, r_mts, r_mtf, r_mtr0, r_mtr1, r_mtr2, r_mtd0, r_mt2, r_test, r_test1, r_test2, r_testx, r_bl, r_bl1, r_blx, r_av, r_av1, r_avt, r_avf, r_ov, r_ov1, r_ovt, r_ovf, r_nv, r_nv1, r_nv2, r_at, r_att, r_atf, r_ot, r_ott, r_otf, r_nt, r_nt1, r_if, r_ift, r_iff, r_ifx, r_tup, r_tup1, r_tupx, r_lst, r_lst1, r_ch, r_ch1, r_ch2, r_ch3, r_ch4, r_isi, r_isi1, r_isi2, r_bd0, r_bd1, r_bd2, r_rev, r_rev1, r_sl, r_sl1, r_sl2, r_sl3, r_it, r_it1, r_itt, r_itf, r_itsc, r_its, r_itr0, r_en, r_en1, r_opi, r_ent, r_enf, r_zip, r_zip1, r_zip2, r_zft, r_ztt, r_rng, r_rng1, r_rng2, r_rng3, r_lc, r_lc1, r_lc2, r_bc1, r_bc2, r_some, r_dnil, r_attr, r_attr1, r_attr2, r_opd, r_meth, r_meth1, r_meth2, r_meth3, r_meth4, r_make, r_make1, r_make2, r_newd, rs_nil, rs_seq, rs_sq1, rs_sq2, rs_sq3, rs_sq4, rs_sq5, rs_ret, rs_ret1, rs_retx, rs_retn, rs_brk, rs_cont, rs_drop, rs_drop1, rs_dropx, rs_asg, rs_asg1, rs_asgx, rs_ope, rs_par, rs_par1, rs_par2, rs_par3, rs_par31, rs_par32, rs_par33, rs_if, rs_ift, rs_iff, rs_ifx, rs_sub, rs_sub1, rs_sub2, rs_sub3, rs_opm, rs_sls, rs_sls1, rs_sls2, rs_sls3, rs_sls4, rs_att, rs_att2, rs_att3, rs_tas0, rs_tas1, rs_tas2, rs_tas3, rs_seta, rs_seta1, rs_seta2, rs_for, rs_for1, rs_body, rs_bodyn, rs_run, rs_end1, rs_end2, rs_end3, r_bnm, r_btu, r_bd00, r_bd01, r_obs, r_trn, r_trb, r_tri, r_trt, r_trf, r_tyn, r_tyb, r_tyi, r_tys, r_tyt, r_tyf, r_tysc, r_dt, r_df, r_eqF, r_eqT, r_eqbF, r_eqbT, r_seF, r_seT, r_isF, r_isT, r_find, r_neg, r_max, r_min, rs_kl1, rs_kl2, rs_kl3, rs_kl4, rs_kl5, r_strix, r_at0, r_at1, r_at2, r_at3, r_at4, r_at5, r_at6, r_at7, r_at8, r_at9, r_at10, r_at11, r_at12, r_all, r_any, r_all_true, rs_try, rs_try1, rs_try2, rs_try3, rs_tra, rs_tra1, rs_tra2, rs_tra3, rs_nox, rs_del1, rs_del2, rs_del3, rs_del4, rs_raise, rs_raise1, rs_raise0, rs_raiseZ, r_xf, r_isx, r_kix, r_kix1, q_atI, q_nok, q_nbad, q_m0, q_m1, q_m2, q_m3, q_s0, q_s1, q_s2, q_s3, q_ss, q_mkT, q_mkF, q_mkM, q_addi, q_adds, q_addt, q_addf, q_subi, q_muli, q_divi, q_modi, q_lt, q_le, q_gt, q_ge, q_ixt, q_ixf, q_ixsc, q_ixrm, q_lens, q_lent, q_lenf, q_lensc, q_lenrm, q_inti, q_intb, q_ord, q_tupt, q_tupf, q_tuprm, q_lstt, q_lstf, q_appm, q_extm, q_slfF, q_slfM, q_sltT, q_sls, nn1, List.isEmpty_nil, List.isEmpty_cons, nx1, nx2, List.map_cons, List.map_nil, List.length_cons, List.length_nil, List.replicate_succ, List.replicate_zero, List.cons_append, List.nil_append, List.append_nil, List.set_cons_succ, List.set_cons_zero, List.getElem?_cons_zero, List.getElem?_cons_succ, Nat.reduceSub, Nat.reduceAdd, List.length_append, List.length_map, List.append_assoc, Nat.zero_add, if_true, if_false, Bool.false_eq_true, Bool.not_true, Bool.not_false, isNonB, wipeE, List.any_cons, List.any_nil, isT, Bool.or_false, Bool.or_true, Bool.false_or, Bool.true_or, *])
/-- how many bytes a code has that begins with this one -/
def szOf (lead : Nat) : Nat := if 240 ≤ lead then 4 else if 224 ≤ lead then 3 else if 192 ≤ lead then 2 else 1
def bsOf (s : Nat) : Nat := ([0, 0, 192, 224, 240] : List Nat).getD s 0
def foldC (c : Int) (bs : List Nat) : Int := bs.foldl (fun (c : Int) (b : Nat) => c * 64 + (b : Int) - 128) c
/-- the code at the beginning of some bytes -/
def codeW : List Nat → Option Nat
  | [] => none
  | b :: R => if szOf b = 1 then (if b < 128 then some b else none) else
    let c := foldC ((b : Int) - bsOf (szOf b)) (R.take (szOf b - 1))
    if c < 128 ∨ 1114111 < c ∨ (55296 ≤ c ∧ c ≤ 57343) ∨ cb c.toNat ≠ (b :: R).take (szOf b) then none else some c.toNat
def loW (b : Nat) : Nat := if b = 224 then 160 else if b = 237 then 128 else if b = 240 then 144 else if b = 244 then 128 else 128
def hiW (b : Nat) : Nat := if b = 224 then 191 else if b = 237 then 159 else if b = 240 then 191 else if b = 244 then 143 else 191
def sz2 (b : Nat) : Nat := 2 + (if 223 < b then 1 else 0) + (if 239 < b then 1 else 0)
def okB (n : Nat) : Bool := decide (127 < n ∧ n < 192)
/-- the law's own length of the code at the beginning -/
def lenW : List Nat → Nat
  | [] => 0
  | [b] => if b < 128 then 1 else 0
  | b :: d :: R2 => if b < 128 then 1 else if b < 194 ∨ 244 < b then 0 else
    if ¬ (loW b ≤ d ∧ d ≤ hiW b) ∨ (R2.take (sz2 b - 2)).length < sz2 b - 2 ∨ (R2.take (sz2 b - 2)).all okB = false then 0 else sz2 b
structure CL (W : List Nat) (c : Nat) : Prop where
  len : lenW W = (cb c).length
  pos : 0 < lenW W
  le : lenW W ≤ W.length
  code : foldC ((W.getD 0 0 : Nat) - bsOf (lenW W)) ((W.drop 1).take (lenW W - 1)) = c
  lt : c < 1114112
theorem cbB {n : Nat} (h1 : 128 ≤ n) (h2 : n < 2048) : cb n = [192 + n / 64, 128 + n % 64] := by unfold cb; rw [if_neg (by omega), if_pos h2]
theorem cbC {n : Nat} (h1 : 2048 ≤ n) (h2 : n < 65536) : cb n = [224 + n / 4096, 128 + n / 64 % 64, 128 + n % 64] := by unfold cb; rw [if_neg (by omega), if_neg (by omega), if_pos h2]
theorem cbD {n : Nat} (h1 : 65536 ≤ n) : cb n = [240 + n / 262144, 128 + n / 4096 % 64, 128 + n / 64 % 64, 128 + n % 64] := by unfold cb; rw [if_neg (by omega), if_neg (by omega), if_neg (by omega)]
theorem cb_inv {n : Nat} (h : 128 ≤ n) : (n < 2048 ∧ cb n = [192 + n / 64, 128 + n % 64]) ∨ (2048 ≤ n ∧ n < 65536 ∧ cb n = [224 + n / 4096, 128 + n / 64 % 64, 128 + n % 64]) ∨ (65536 ≤ n ∧ cb n = [240 + n / 262144, 128 + n / 4096 % 64, 128 + n / 64 % 64, 128 + n % 64]) := by
  by_cases h1 : n < 2048
  · exact .inl ⟨h1, cbB h h1⟩
  · by_cases h2 : n < 65536
    · exact .inr (.inl ⟨by omega, h2, cbC (by omega) h2⟩)
    · exact .inr (.inr ⟨by omega, cbD (by omega)⟩)
def Gd1 (W : List Nat) (s n : Nat) : Prop := 128 ≤ n ∧ n ≤ 1114111 ∧ ¬ (55296 ≤ n ∧ n ≤ 57343) ∧ cb n = W.take s
def CW (W : List Nat) : Option Nat → Prop
  | none => lenW W = 0
  | some c => CL W c
theorem cw_out {b s : Nat} {R : List Nat} (hs : szOf b = s) (h1 : s ≠ 1) {x : Int} (hx : foldC ((b : Int) - bsOf s) (R.take (s - 1)) = x) (hA : lenW (b :: R) ≠ 0 → ∃ n : Nat, x = n ∧ Gd1 (b :: R) s n) (hB : ∀ n : Nat, x = n → Gd1 (b :: R) s n → lenW (b :: R) = s ∧ (cb n).length = s ∧ s ≤ R.length + 1 ∧ 0 < s) : CW (b :: R) (codeW (b :: R)) := by
  subst hs
  have e : codeW (b :: R) = if x < 128 ∨ 1114111 < x ∨ (55296 ≤ x ∧ x ≤ 57343) ∨ cb x.toNat ≠ (b :: R).take (szOf b) then none else some x.toNat := by
    rw [← hx]
    show (if szOf b = 1 then _ else _) = _
    rw [if_neg h1]
  by_cases c : x < 128 ∨ 1114111 < x ∨ (55296 ≤ x ∧ x ≤ 57343) ∨ cb x.toNat ≠ (b :: R).take (szOf b)
  · rw [e, if_pos c]
    show lenW (b :: R) = 0
    refine Decidable.byContradiction fun h => ?_
    obtain ⟨n, rfl, q1, q2, q3, q4⟩ := hA h
    rw [Int.toNat_natCast] at c
    rcases c with c | c | c | c
    · omega
    · omega
    · omega
    · exact c q4
  · rw [e, if_neg c]
    simp only [not_or, Decidable.not_not] at c
    obtain ⟨n, hn⟩ : ∃ n : Nat, x = n := ⟨x.toNat, by omega⟩
    rw [hn, Int.toNat_natCast]
    rw [hn, Int.toNat_natCast] at c
    have gd : Gd1 (b :: R) (szOf b) n := ⟨by omega, by omega, by omega, c.2.2.2⟩
    obtain ⟨h1, h2, h3, h4⟩ := hB n hn gd
    refine ⟨by rw [h1, h2], by rw [h1]; exact h4, by rw [h1]; exact h3, ?_, by have := gd.2.1; omega⟩
    rw [h1, ← hn]
    exact hx
theorem len2 {b d : Nat} {R : List Nat} (h1 : 192 ≤ b) (h2 : b < 224) : lenW (b :: d :: R) = if 194 ≤ b ∧ 128 ≤ d ∧ d < 192 then 2 else 0 := by
  show (if b < 128 then 1 else if b < 194 ∨ 244 < b then 0 else if ¬ (loW b ≤ d ∧ d ≤ hiW b) ∨ (R.take (sz2 b - 2)).length < sz2 b - 2 ∨ (R.take (sz2 b - 2)).all okB = false then 0 else sz2 b) = _
  have e2 : sz2 b = 2 := by unfold sz2; rw [if_neg (by omega), if_neg (by omega)]
  have e3 : loW b = 128 := by unfold loW; rw [if_neg (by omega), if_neg (by omega), if_neg (by omega), if_neg (by omega)]
  have e4 : hiW b = 191 := by unfold hiW; rw [if_neg (by omega), if_neg (by omega), if_neg (by omega), if_neg (by omega)]
  rw [e2, e3, e4, if_neg (by omega)]
  by_cases a : b < 194
  · rw [if_pos (.inl a), if_neg (by omega)]
  · rw [if_neg (by omega)]
    by_cases q : 128 ≤ d ∧ d < 192
    · rw [if_neg (by simp; omega), if_pos ⟨by omega, q⟩]
    · rw [if_pos (.inl (by omega)), if_neg (by omega)]
theorem cw2 {b : Nat} {R : List Nat} (h : ∀ x ∈ b :: R, x < 256) (h1 : 192 ≤ b) (h2 : b < 224) : CW (b :: R) (codeW (b :: R)) := by
  have hs : szOf b = 2 := by unfold szOf; rw [if_neg (by omega), if_neg (by omega), if_pos h1]
  cases R with
  | nil =>
    refine cw_out hs (by decide) rfl (fun z => (z ?_).elim) fun n hn g => ?_
    · show (if b < 128 then 1 else 0) = 0
      rw [if_neg (by omega)]
    · replace hn : (b : Int) - (192 : Nat) = n := hn
      have := g.1
      omega
  | cons d R =>
    have hd : d < 256 := h d (by simp)
    refine cw_out hs (by decide) (x := ((b : Int) - (192 : Nat)) * 64 + d - 128) rfl (fun z => ?_) fun n hn g => ?_
    · rw [len2 h1 h2] at z
      by_cases q : 194 ≤ b ∧ 128 ≤ d ∧ d < 192
      · obtain ⟨n, hn⟩ : ∃ n, n = (b - 192) * 64 + (d - 128) := ⟨_, rfl⟩
        refine ⟨n, by omega, by omega, by omega, by omega, ?_⟩
        rw [cbB (by omega) (by omega), show 192 + n / 64 = b by omega, show 128 + n % 64 = d by omega]
        rfl
      · exact (z (if_neg q)).elim
    · obtain ⟨g1, g2, g3, g4⟩ := g
      replace g4 : cb n = [b, d] := g4
      rcases cb_inv (n := n) (by omega) with ⟨k1, k2⟩ | ⟨k1, k2, k3⟩ | ⟨k1, k2⟩
      · rw [k2] at g4
        injection g4 with q1 q2
        injection q2 with q2 q3
        have hl2 : lenW (b :: d :: R) = 2 := by rw [len2 h1 h2, if_pos ⟨by omega, by omega, by omega⟩]
        exact ⟨hl2, by rw [k2]; rfl, by simp, by decide⟩
      · rw [k3] at g4; simp at g4
      · rw [k2] at g4; simp at g4
theorem len3 {b d : Nat} {R : List Nat} (h1 : 224 ≤ b) (h2 : b < 240) : lenW (b :: d :: R) = match R with
    | [] => 0
    | f :: _ => if (128 ≤ d ∧ d < 192) ∧ (b = 224 → 160 ≤ d) ∧ (b = 237 → d < 160) ∧ 128 ≤ f ∧ f < 192 then 3 else 0 := by
  show (if b < 128 then 1 else if b < 194 ∨ 244 < b then 0 else if ¬ (loW b ≤ d ∧ d ≤ hiW b) ∨ (R.take (sz2 b - 2)).length < sz2 b - 2 ∨ (R.take (sz2 b - 2)).all okB = false then 0 else sz2 b) = _
  have e2 : sz2 b = 3 := by unfold sz2; rw [if_pos (by omega), if_neg (by omega)]
  have e3 : (loW b ≤ d ∧ d ≤ hiW b) ↔ ((128 ≤ d ∧ d < 192) ∧ (b = 224 → 160 ≤ d) ∧ (b = 237 → d < 160)) := by
    unfold loW hiW
    by_cases a : b = 224
    · subst a; simp; omega
    · by_cases a2 : b = 237
      · subst a2; simp; omega
      · rw [if_neg a, if_neg a2, if_neg (by omega), if_neg (by omega), if_neg a, if_neg a2, if_neg (by omega), if_neg (by omega)]; omega
  rw [e2, if_neg (by omega), if_neg (by omega)]
  cases R with
  | nil => rw [if_pos (.inr (.inl (by simp)))]
  | cons f R =>
    have e6 : ((f :: R).take (3 - 2)).all okB = false ↔ ¬ (128 ≤ f ∧ f < 192) := by
      show (okB f && true) = false ↔ _
      rw [Bool.and_true]
      unfold okB
      rw [decide_eq_false_iff_not]; omega
    have e7 : ¬ ((f :: R).take (3 - 2)).length < 3 - 2 := by simp
    show _ = if (128 ≤ d ∧ d < 192) ∧ (b = 224 → 160 ≤ d) ∧ (b = 237 → d < 160) ∧ 128 ≤ f ∧ f < 192 then 3 else 0
    by_cases q : (128 ≤ d ∧ d < 192) ∧ (b = 224 → 160 ≤ d) ∧ (b = 237 → d < 160) ∧ 128 ≤ f ∧ f < 192
    · rw [if_neg, if_pos q]
      rw [e3, e6]
      omega
    · rw [if_pos, if_neg q]
      rw [e3, e6]
      omega
theorem cw3 {b : Nat} {R : List Nat} (h : ∀ x ∈ b :: R, x < 256) (h1 : 224 ≤ b) (h2 : b < 240) : CW (b :: R) (codeW (b :: R)) := by
  have hs : szOf b = 3 := by unfold szOf; rw [if_neg (by omega), if_pos (by omega)]
  match R, h with
  | [], h =>
    refine cw_out hs (by decide) rfl (fun z => (z ?_).elim) fun n hn g => ?_
    · show (if b < 128 then 1 else 0) = 0
      rw [if_neg (by omega)]
    · replace hn : (b : Int) - (224 : Nat) = n := hn
      have := g.1
      omega
  | [d], h =>
    have hd : d < 256 := h d (by simp)
    refine cw_out hs (by decide) (x := ((b : Int) - (224 : Nat)) * 64 + d - 128) rfl (fun z => (z ?_).elim) fun n hn g => ?_
    · rw [len3 h1 h2]
    · obtain ⟨g1, g2, g3, g4⟩ := g
      replace g4 : cb n = [b, d] := g4
      rw [cbB (by omega) (by omega)] at g4
      injection g4 with q1 q2
      omega
  | d :: f :: R, h =>
    have hd : d < 256 := h d (by simp)
    have hf : f < 256 := h f (by simp)
    refine cw_out hs (by decide) (x := (((b : Int) - (224 : Nat)) * 64 + d - 128) * 64 + f - 128) rfl (fun z => ?_) fun n hn g => ?_
    · rw [len3 h1 h2] at z
      by_cases q : (128 ≤ d ∧ d < 192) ∧ (b = 224 → 160 ≤ d) ∧ (b = 237 → d < 160) ∧ 128 ≤ f ∧ f < 192
      · obtain ⟨n, hn⟩ : ∃ n, n = ((b - 224) * 64 + (d - 128)) * 64 + (f - 128) := ⟨_, rfl⟩
        refine ⟨n, by omega, by omega, by omega, by omega, ?_⟩
        rw [cbC (by omega) (by omega), show 224 + n / 4096 = b by omega, show 128 + n / 64 % 64 = d by omega, show 128 + n % 64 = f by omega]
        rfl
      · exact (z (if_neg q)).elim
    · obtain ⟨g1, g2, g3, g4⟩ := g
      replace g4 : cb n = [b, d, f] := g4
      rcases cb_inv (n := n) (by omega) with ⟨k1, k2⟩ | ⟨k1, k2, k3⟩ | ⟨k1, k2⟩
      · rw [k2] at g4; simp at g4
      · rw [k3] at g4
        injection g4 with q1 q2
        injection q2 with q2 q3
        injection q3 with q3 q4
        have hl2 : lenW (b :: d :: f :: R) = 3 := by rw [len3 h1 h2]; exact if_pos ⟨by omega, by omega, by omega, by omega, by omega⟩
        exact ⟨hl2, by rw [k3]; rfl, by simp, by decide⟩
      · rw [k2] at g4; simp at g4
theorem len4 {b d : Nat} {R : List Nat} (h1 : 240 ≤ b) : lenW (b :: d :: R) = match R with
    | f :: g :: _ => if b ≤ 244 ∧ (128 ≤ d ∧ d < 192) ∧ (b = 240 → 144 ≤ d) ∧ (b = 244 → d < 144) ∧ (128 ≤ f ∧ f < 192) ∧ 128 ≤ g ∧ g < 192 then 4 else 0
    | _ => 0 := by
  show (if b < 128 then 1 else if b < 194 ∨ 244 < b then 0 else if ¬ (loW b ≤ d ∧ d ≤ hiW b) ∨ (R.take (sz2 b - 2)).length < sz2 b - 2 ∨ (R.take (sz2 b - 2)).all okB = false then 0 else sz2 b) = _
  have e2 : sz2 b = 4 := by unfold sz2; rw [if_pos (by omega), if_pos (by omega)]
  have e3 : (loW b ≤ d ∧ d ≤ hiW b) ↔ ((128 ≤ d ∧ d < 192) ∧ (b = 240 → 144 ≤ d) ∧ (b = 244 → d < 144)) := by
    unfold loW hiW
    rw [if_neg (show ¬ b = 224 by omega), if_neg (show ¬ b = 237 by omega), if_neg (show ¬ b = 224 by omega), if_neg (show ¬ b = 237 by omega)]
    by_cases a : b = 240
    · subst a; simp; omega
    · by_cases a2 : b = 244
      · subst a2; simp; omega
      · rw [if_neg a, if_neg a2, if_neg a, if_neg a2]; omega
  rw [e2, if_neg (by omega)]
  by_cases hb : 244 < b
  · rw [if_pos (.inr hb)]
    split
    · rw [if_neg (by omega)]
    · rfl
  rw [if_neg (by omega)]
  match R with
  | [] => rw [if_pos (.inr (.inl (by simp)))]
  | [f] => rw [if_pos (.inr (.inl (by simp)))]
  | f :: g :: R =>
    have e5 : ((f :: g :: R).take (4 - 2)).all okB = false ↔ ¬ ((128 ≤ f ∧ f < 192) ∧ 128 ≤ g ∧ g < 192) := by
      show (okB f && (okB g && true)) = false ↔ _
      rw [Bool.and_true]
      unfold okB
      rw [← Bool.decide_and, decide_eq_false_iff_not]; omega
    have e7 : ¬ ((f :: g :: R).take (4 - 2)).length < 4 - 2 := by simp
    show _ = if b ≤ 244 ∧ (128 ≤ d ∧ d < 192) ∧ (b = 240 → 144 ≤ d) ∧ (b = 244 → d < 144) ∧ (128 ≤ f ∧ f < 192) ∧ 128 ≤ g ∧ g < 192 then 4 else 0
    by_cases q : b ≤ 244 ∧ (128 ≤ d ∧ d < 192) ∧ (b = 240 → 144 ≤ d) ∧ (b = 244 → d < 144) ∧ (128 ≤ f ∧ f < 192) ∧ 128 ≤ g ∧ g < 192
    · rw [if_neg, if_pos q]
      rw [e3, e5]
      omega
    · rw [if_pos, if_neg q]
      rw [e3, e5]
      omega
theorem cw4 {b : Nat} {R : List Nat} (h : ∀ x ∈ b :: R, x < 256) (h1 : 240 ≤ b) : CW (b :: R) (codeW (b :: R)) := by
  have hs : szOf b = 4 := by unfold szOf; rw [if_pos (by omega)]
  have hb : b < 256 := h b (by simp)
  match R, h with
  | [], h =>
    refine cw_out hs (by decide) rfl (fun z => (z ?_).elim) fun n hn g => ?_
    · show (if b < 128 then 1 else 0) = 0
      rw [if_neg (by omega)]
    · replace hn : (b : Int) - (240 : Nat) = n := hn
      have := g.1
      omega
  | [d], h =>
    have hd : d < 256 := h d (by simp)
    refine cw_out hs (by decide) (x := ((b : Int) - (240 : Nat)) * 64 + d - 128) rfl (fun z => (z ?_).elim) fun n hn g => ?_
    · rw [len4 h1]
    · obtain ⟨g1, g2, g3, g4⟩ := g
      replace g4 : cb n = [b, d] := g4
      rw [cbB (by omega) (by omega)] at g4
      injection g4 with q1 q2
      omega
  | [d, f], h =>
    have hd : d < 256 := h d (by simp)
    have hf : f < 256 := h f (by simp)
    refine cw_out hs (by decide) (x := (((b : Int) - (240 : Nat)) * 64 + d - 128) * 64 + f - 128) rfl (fun z => (z ?_).elim) fun n hn g => ?_
    · rw [len4 h1]
    · obtain ⟨g1, g2, g3, g4⟩ := g
      replace g4 : cb n = [b, d, f] := g4
      rcases cb_inv (n := n) (by omega) with ⟨k1, k2⟩ | ⟨k1, k2, k3⟩ | ⟨k1, k2⟩
      · rw [k2] at g4; simp at g4
      · rw [k3] at g4
        injection g4 with q1 q2
        omega
      · rw [k2] at g4; simp at g4
  | d :: f :: g :: R, h =>
    have hd : d < 256 := h d (by simp)
    have hf : f < 256 := h f (by simp)
    have hg : g < 256 := h g (by simp)
    refine cw_out hs (by decide) (x := ((((b : Int) - (240 : Nat)) * 64 + d - 128) * 64 + f - 128) * 64 + g - 128) rfl (fun z => ?_) fun n hn gg => ?_
    · rw [len4 h1] at z
      by_cases q : b ≤ 244 ∧ (128 ≤ d ∧ d < 192) ∧ (b = 240 → 144 ≤ d) ∧ (b = 244 → d < 144) ∧ (128 ≤ f ∧ f < 192) ∧ 128 ≤ g ∧ g < 192
      · obtain ⟨n, hn⟩ : ∃ n, n = (((b - 240) * 64 + (d - 128)) * 64 + (f - 128)) * 64 + (g - 128) := ⟨_, rfl⟩
        refine ⟨n, by omega, by omega, by omega, by omega, ?_⟩
        rw [cbD (by omega), show 240 + n / 262144 = b by omega, show 128 + n / 4096 % 64 = d by omega, show 128 + n / 64 % 64 = f by omega, show 128 + n % 64 = g by omega]
        rfl
      · exact (z (if_neg q)).elim
    · obtain ⟨g1, g2, g3, g4⟩ := gg
      replace g4 : cb n = [b, d, f, g] := g4
      rcases cb_inv (n := n) (by omega) with ⟨k1, k2⟩ | ⟨k1, k2, k3⟩ | ⟨k1, k2⟩
      · rw [k2] at g4; simp at g4
      · rw [k3] at g4; simp at g4
      · rw [k2] at g4
        injection g4 with q1 q2
        injection q2 with q2 q3
        injection q3 with q3 q4
        injection q4 with q4 q5
        have hl2 : lenW (b :: d :: f :: g :: R) = 4 := by rw [len4 h1]; exact if_pos ⟨by omega, by omega, by omega, by omega, by omega, by omega, by omega⟩
        exact ⟨hl2, by rw [k2]; rfl, by simp, by decide⟩
theorem cw_all {b : Nat} {R : List Nat} (h : ∀ x ∈ b :: R, x < 256) : CW (b :: R) (codeW (b :: R)) := by
  by_cases h1 : b < 192
  · have hs : szOf b = 1 := by unfold szOf; rw [if_neg (by omega), if_neg (by omega), if_neg (by omega)]
    have e : codeW (b :: R) = if b < 128 then some b else none := by
      show (if szOf b = 1 then _ else _) = _
      rw [if_pos hs]
    rw [e]
    by_cases h2 : b < 128
    · rw [if_pos h2]
      have hl : lenW (b :: R) = 1 := by
        cases R with
        | nil => exact if_pos h2
        | cons d R => exact if_pos h2
      refine ⟨by rw [hl]; unfold cb; rw [if_pos h2]; rfl, by rw [hl]; decide, by rw [hl]; simp, ?_, by omega⟩
      rw [hl]
      show (b : Int) - (0 : Nat) = b
      omega
    · rw [if_neg h2]
      show lenW (b :: R) = 0
      cases R with
      | nil => exact if_neg h2
      | cons d R =>
        show (if b < 128 then 1 else if b < 194 ∨ 244 < b then 0 else _) = _
        rw [if_neg h2, if_pos (.inl (by omega))]
  · by_cases h2 : b < 224
    · exact cw2 h (by omega) h2
    · by_cases h3 : b < 240
      · exact cw3 h (by omega) h3
      · exact cw4 h (by omega)

/-! a text as it is handed in -/
theorem cutN_I {α : Type} {L : List Nat} {lo hi : Int} (h0 : 0 ≤ lo) (h1 : 0 ≤ hi) : cutN L (some lo) (some hi) = (L.drop lo.toNat).take (hi.toNat - lo.toNat) := by
  unfold cutN
  rw [show lo = ((lo.toNat : Nat) : Int) by omega, show hi = ((hi.toNat : Nat) : Int) by omega, HT.sIx_nat, HT.sIx_nat, Int.toNat_natCast, Int.toNat_natCast]
  by_cases c : lo.toNat < L.length
  · rw [show min lo.toNat L.length = lo.toNat by omega]
    by_cases c2 : hi.toNat ≤ L.length
    · rw [show min hi.toNat L.length = hi.toNat by omega]
    · rw [show min hi.toNat L.length = L.length by omega, List.take_of_length_le (by rw [List.length_drop]; omega), List.take_of_length_le (by rw [List.length_drop]; omega)]
  · rw [show min lo.toNat L.length = L.length by omega, List.drop_eq_nil_of_le (by omega), List.drop_eq_nil_of_le (by omega), List.take_nil, List.take_nil]
theorem cutD_ic (L : List Nat) (lo hi : Option Int) : cutD (ic L) lo hi = ic (cutN L lo hi) := by
  unfold Itp.cutD cutN ic
  rw [List.length_map, List.map_take, List.map_drop]
section
variable {L : List Nat} {d : D} {m : Mem}
theorem hv_ix (hd : Hv L d) {a : Int} {b : Nat} (h0 : 0 ≤ a) (h : L[a.toNat]? = some b) : opIx d (.int a) m = .ok (nI b) m := by
  have e : L2.atI (ic L) a = some (nI b) := by
    rw [show a = ((a.toNat : Nat) : Int) by omega, q_atI]
    show (L.map nI)[a.toNat]? = _
    rw [List.getElem?_map, h]; rfl
  cases hd
  · rw [q_ixt, e]
  · rw [q_ixf, e]
theorem hv_len (hd : Hv L d) : bLen [d] m = .ok (.int L.length) m := by
  cases hd
  · rw [q_lent, List.length_map]
  · rw [q_lenf, List.length_map]
theorem hv_sl (hd : Hv L d) (hl : L.length ≤ 1000000) {lo hi : Option Int} : ∃ d', slD false d lo hi m = .ok d' m ∧ Hv (cutN L lo hi) d' := by
  cases hd
  · refine ⟨_, q_sltT (by rw [List.length_map]; omega), ?_⟩
    rw [cutD_ic]; exact .t
  · refine ⟨_, q_slfF (by rw [List.length_map]; omega), ?_⟩
    rw [cutD_ic]; exact .f
theorem hv_it (hd : Hv L d) : itD d m = .ok ⟨ic L, gT⟩ m := by cases hd <;> rfl
theorem hv_list (hd : Hv L d) (hl : L.length ≤ 1000000) : bList false [d] m = .ok (.fl (ic L)) m := by
  cases hd
  · rw [q_lstt, q_mkF (by rw [List.length_map]; omega)]
  · rw [q_lstf, q_mkF (by rw [List.length_map]; omega)]
theorem hv_tup (hd : Hv L d) (hl : L.length ≤ 1000000) : bTuple [d] m = .ok (.tup (ic L)) m := by
  cases hd
  · rfl
  · rw [q_tupf, q_mkT (by rw [List.length_map]; omega)]
end
theorem body2 {i j : Nat} {s : SV} {x y : D} {env : Itp.Env} {m : Mem} : bodyF (.tup [.nm i, .nm j]) s (.tup [x, y]) env m = s ((env.set i (some x)).set j (some y)) m := rfl
def optD : Option Nat → D
  | none => .non
  | some c => nI c
theorem drop_cons {L : List Nat} {a : Nat} (ha : a < L.length) : ∃ b R, L.drop a = b :: R ∧ L[a]? = some b ∧ L.drop (a + 1) = R := ⟨L[a], L.drop (a + 1), List.drop_eq_getElem_cons ha, List.getElem?_eq_getElem ha, rfl⟩
def foldB (i j : Nat) : SV := (sAsg (.nm i) (dBin opSub (dBin (opAdd false) (dBin (opMul false) (dVar i) (dC (.int 64))) (dVar j)) (dC (.int 128))))
theorem fold67 {x0 x1 x2 x3 x4 x5 x7 : Option D} {m : Mem} {W : List Nat} (h : ∀ x ∈ W, x < 256) (hl : W.length ≤ 3) {c : Int} (hc : 0 ≤ c ∧ c < 64) :
    ∃ x7', loopF gT (bodyF (.nm 7) (foldB 6 7)) (ic W) [x0, x1, x2, x3, x4, x5, some (.int c), x7] m = .ok .nx [x0, x1, x2, x3, x4, x5, some (.int (foldC c W)), x7'] m := by
  have st : ∀ (c : Int) (x : Nat) (y : Option D), -100000000 < c ∧ c < 100000000 → bodyF (.nm 7) (foldB 6 7) (nI x) [x0, x1, x2, x3, x4, x5, some (.int c), y] m = .ok .nx [x0, x1, x2, x3, x4, x5, some (.int (c * 64 + (x : Int) - 128)), some (nI x)] m := by
    intro c x y hc
    unfold foldB
    walk_at "ev"
  match W, h, hl with
  | [], _, _ => exact ⟨x7, rfl⟩
  | [x], h, _ =>
    have hx := h x (by simp)
    refine ⟨some (nI x), ?_⟩
    show loopF gT _ [nI x] _ _ = _
    rw [rs_lf1, st c x _ (by omega), rs_kl1, rs_lf0]
    rfl
  | [x, y], h, _ =>
    have hx := h x (by simp)
    have hy := h y (by simp)
    refine ⟨some (nI y), ?_⟩
    show loopF gT _ [nI x, nI y] _ _ = _
    rw [rs_lf1, st c x _ (by omega), rs_kl1, rs_lf1, st _ y _ (by omega), rs_kl1, rs_lf0]
    rfl
  | [x, y, z], h, _ =>
    have hx := h x (by simp)
    have hy := h y (by simp)
    have hz := h z (by simp)
    refine ⟨some (nI z), ?_⟩
    show loopF gT _ [nI x, nI y, nI z] _ _ = _
    rw [rs_lf1, st c x _ (by omega), rs_kl1, rs_lf1, st _ y _ (by omega), rs_kl1, rs_lf1, st _ z _ (by omega), rs_kl1, rs_lf0]
    rfl
  | _ :: _ :: _ :: _ :: _, _, hl => simp at hl
theorem code_at_ok {c : Fn} (hc : CbF c) {m : Mem} {L : List Nat} {d : D} (hd : Hv L d) (h : ∀ x ∈ L, x < 256) {a : Nat} (ha : a < L.length) (hl : L.length ≤ 1000) :
    popR m (runB 8 (sv_code_at c) [d, nI a] m) = .ok (optD (codeW (L.drop a))) m := by
  obtain ⟨b, R, eW, hb, eR⟩ := drop_cons ha
  have hW : ∀ x ∈ b :: R, x < 256 := fun x hx => h x (List.mem_of_mem_drop (by rw [eW]; exact hx))
  have hbb : b < 256 := hW b (by simp)
  have pI : ∀ n : Nat, popR m (.ok (nI n) m) = .ok (nI n) m := fun n => q_pop0 rfl
  have pN : popR m (.ok .non m) = .ok .non m := q_pop0 rfl
  have big : ∀ s : Nat, 2 ≤ s → s ≤ 4 → szOf b = s → ∀ (x4 x5 x7 : Option D), popR m (kEnd ((sSeq (sAsg (.nm 6) (dBin opSub (dVar 2) (dBin opIx (dTup [(dC (.int 0)), (dC (.int 0)), (dC (.int 192)), (dC (.int 224)), (dC (.int 240))]) (dVar 3))))
    (sSeq (sFor (dIt (dSl false (dVar 0) (some (dBin (opAdd false) (dVar 1) (dC (.int 1)))) (some (dBin (opAdd false) (dVar 1) (dVar 3))))) (.nm 7) (sAsg (.nm 6) (dBin opSub (dBin (opAdd false) (dBin (opMul false) (dVar 6) (dC (.int 64))) (dVar 7)) (dC (.int 128)))))
    (sSeq (sIf (dOrT (dBl (dBin opLt (dVar 6) (dC (.int 128)))) (dOrT (dBl (dBin opGt (dVar 6) (dC (.int 1114111)))) (dOrT (dBl (dChain opLe opLe (dC (.int 55296)) (dVar 6) (dC (.int 57343)))) (dBl (dBin (opEq true) (dCall c [(dVar 6)]) (dCB (bList false) [(dSl false (dVar 0) (some (dVar 1)) (some (dBin (opAdd false) (dVar 1) (dVar 3))))])))))) (sRet (dC (.non))) sNil)
    (sRet (dVar 6))))) [some d, some (nI a), some (nI b), some (nI s), x4, x5, none, x7] m)) = .ok (optD (codeW (L.drop a))) m := by
    intro s hs1 hs2 hsz x4 x5 x7
    have hbs : ([.int 0, .int 0, .int 192, .int 224, .int 240] : List D)[s]? = some (nI (bsOf s)) := by
      rcases (show s = 2 ∨ s = 3 ∨ s = 4 by omega) with rfl | rfl | rfl <;> rfl
    have hbr : bsOf s ≤ b ∧ b < bsOf s + 64 := by
      unfold szOf at hsz
      by_cases a1 : 240 ≤ b
      · rw [if_pos a1] at hsz; subst hsz; show 240 ≤ b ∧ b < 240 + 64; omega
      rw [if_neg a1] at hsz
      by_cases a2 : 224 ≤ b
      · rw [if_pos a2] at hsz; subst hsz; show 224 ≤ b ∧ b < 224 + 64; omega
      rw [if_neg a2] at hsz
      by_cases a3 : 192 ≤ b
      · rw [if_pos a3] at hsz; subst hsz; show 192 ≤ b ∧ b < 192 + 64; omega
      rw [if_neg a3] at hsz
      omega
    walk_at "ev"
    rw [hbs]
    walk_at "ev"
    obtain ⟨d2, e2, hd2⟩ := hv_sl (m := m) hd (by omega) (lo := some ((a : Int) + 1)) (hi := some ((a : Int) + (s : Nat)))
    rw [e2]
    walk_at "ev"
    rw [hv_it hd2]
    walk_at "ev"
    have eC : cutN L (some ((a : Int) + 1)) (some ((a : Int) + (s : Nat))) = R.take (s - 1) := by
      rw [cutN_I (α := Nat) (by omega) (by omega), show ((a : Int) + 1).toNat = a + 1 by omega, show ((a : Int) + (s : Nat)).toNat - (a + 1) = s - 1 by omega, eR]
    rw [eC]
    obtain ⟨y7, e3⟩ := fold67 (m := m) (x0 := some d) (x1 := some (nI a)) (x2 := some (nI b)) (x3 := some (nI s)) (x4 := x4) (x5 := x5) (x7 := x7) (W := R.take (s - 1)) (fun x hx => hW x (List.mem_cons_of_mem _ (List.mem_of_mem_take hx))) (by rw [List.length_take]; omega) (c := (b : Int) - (bsOf s : Nat)) (by omega)
    unfold foldB at e3
    rw [e3]
    obtain ⟨x, hx⟩ : ∃ x, foldC ((b : Int) - (bsOf s : Nat)) (R.take (s - 1)) = x := ⟨_, rfl⟩
    have ew : codeW (L.drop a) = if x < 128 ∨ 1114111 < x ∨ (55296 ≤ x ∧ x ≤ 57343) ∨ cb x.toNat ≠ (b :: R).take s then none else some x.toNat := by
      rw [eW, ← hx, ← hsz]
      show (if szOf b = 1 then _ else _) = _
      rw [if_neg (by omega)]
    rw [hx]
    walk_at "ev"
    by_cases q1 : x < 128
    · rw [ew, if_pos (.inl q1)]
      walk_at "ev"
      exact pN
    by_cases q2 : 1114111 < x
    · rw [ew, if_pos (.inr (.inl q2))]
      walk_at "ev"
      exact pN
    by_cases q3 : 55296 ≤ x ∧ x ≤ 57343
    · rw [ew, if_pos (.inr (.inr (.inl q3)))]
      obtain ⟨q4, q5⟩ := q3
      walk_at "ev"
      exact pN
    have q3' : x < 55296 ∨ 57343 < x := by omega
    obtain ⟨n, rfl⟩ : ∃ n : Nat, x = n := ⟨x.toNat, by omega⟩
    rw [Int.toNat_natCast] at ew
    obtain ⟨d3, e4, hd3⟩ := hv_sl (m := m) hd (by omega) (lo := some (a : Int)) (hi := some ((a : Int) + (s : Nat)))
    have eC2 : cutN L (some (a : Int)) (some ((a : Int) + (s : Nat))) = (b :: R).take s := by
      rw [cutN_I (α := Nat) (by omega) (by omega), show ((a : Int)).toNat = a by omega, show ((a : Int) + (s : Nat)).toNat - a = s by omega, eW]
    rw [eC2] at hd3
    have fin : popR m (kEnd (kSeq (sRet (dVar 6)) (kIfS (sRet (dC (.non))) sNil [some d, some (nI a), some (nI b), some (nI s), x4, x5, some (nI n), y7] (kBl (kBin (opEq true) (dCB (bList false) [(dSl false (dVar 0) (some (dVar 1)) (some (dBin (opAdd false) (dVar 1) (dVar 3))))]) [some d, some (nI a), some (nI b), some (nI s), x4, x5, some (nI n), y7] (c [nI n] m)))))) = .ok (optD (codeW (L.drop a))) m := by
      rw [hc n m (by omega)]
      walk_at "ev"
      rw [e4]
      walk_at "ev"
      rw [hv_list hd3 (by rw [List.length_take]; omega)]
      walk_at "ev"
      have e5 : opEq true (.fl (ic (cb n))) (.fl (ic ((b :: R).take s))) m = .ok (.bl (!decide (cb n = (b :: R).take s))) m := eq_nats (m := m) (ng := true)
      rw [e5]
      by_cases q : cb n = (b :: R).take s
      · rw [ew, if_neg (by simp only [not_or, Decidable.not_not]; exact ⟨q1, q2, q3, q⟩), decide_eq_true q]
        walk_at "ev"
        exact pI n
      · rw [ew, if_pos (.inr (.inr (.inr q))), decide_eq_false q]
        walk_at "ev"
        exact pN
    rcases q3' with q3' | q3'
    · walk_at "ev"
      exact fin
    · walk_at "ev"
      exact fin
  unfold sv_code_at
  walk_at "ev"
  rw [hv_ix hd (by omega) (by rw [show ((a : Int)).toNat = a by omega]; exact hb)]
  walk_at "ev"
  rw [rs_lf1, body2]
  by_cases h1 : b < 192
  · have hs : szOf b = 1 := by unfold szOf; rw [if_neg (by omega), if_neg (by omega), if_neg (by omega)]
    walk_at "ev"
    rw [rs_lf1, body2]
    walk_at "ev"
    rw [rs_lf1, body2]
    walk_at "ev"
    rw [rs_lf0]
    walk_at "ev"
    have ew : codeW (L.drop a) = if b < 128 then some b else none := by
      rw [eW]
      show (if szOf b = 1 then _ else _) = _
      rw [if_pos hs]
    by_cases q : b < 128
    · rw [ew, if_pos q]
      walk_at "ev"
      exact pI b
    · rw [ew, if_neg q]
      walk_at "ev"
      exact pN
  by_cases h2 : b < 224
  · have hs : szOf b = 2 := by unfold szOf; rw [if_neg (by omega), if_neg (by omega), if_pos (by omega)]
    walk_at "ev"
    rw [rs_lf1, body2]
    walk_at "ev"
    rw [rs_lf1, body2]
    walk_at "ev"
    rw [rs_lf0]
    walk_at "ev"
    rw [← big 2 (by decide) (by decide) hs (some (.int 240)) (some (.int 4)) none]
    walk_at "ev"
    rfl
  by_cases h3 : b < 240
  · have hs : szOf b = 3 := by unfold szOf; rw [if_neg (by omega), if_pos (by omega)]
    walk_at "ev"
    rw [rs_lf1, body2]
    walk_at "ev"
    rw [rs_lf1, body2]
    walk_at "ev"
    rw [rs_lf0]
    walk_at "ev"
    rw [← big 3 (by decide) (by decide) hs (some (.int 240)) (some (.int 4)) none]
    walk_at "ev"
    rfl
  · have hs : szOf b = 4 := by unfold szOf; rw [if_pos (by omega)]
    walk_at "ev"
    rw [rs_lf1, body2]
    walk_at "ev"
    rw [rs_lf1, body2]
    walk_at "ev"
    rw [rs_lf0]
    walk_at "ev"
    rw [← big 4 (by decide) (by decide) hs (some (.int 240)) (some (.int 4)) none]
    walk_at "ev"
    rfl
/-! the walk over the bytes -/
inductive Dec (nx : List Nat → Option (Nat × Nat)) : List Nat → Nat → List Nat → Nat ⊕ List Nat → Prop
  | nil {a : Nat} {acc : List Nat} : Dec nx [] a acc (.inr acc)
  | bad {b : Nat} {R : List Nat} {a : Nat} {acc : List Nat} : nx (b :: R) = none → Dec nx (b :: R) a acc (.inl a)
  | step {b : Nat} {R : List Nat} {a : Nat} {acc : List Nat} {c n : Nat} {r : Nat ⊕ List Nat} : nx (b :: R) = some (c, n) → Dec nx ((b :: R).drop n) (a + n) (acc ++ [c]) r → Dec nx (b :: R) a acc r
def nxU (W : List Nat) : Option (Nat × Nat) := (codeW W).map fun c => (c, (cb c).length)
def nxL (lim : Nat) : List Nat → Option (Nat × Nat)
  | [] => none
  | b :: _ => if b < lim then some (b, 1) else none
def NxOk (nx : List Nat → Option (Nat × Nat)) : Prop := ∀ (b : Nat) (R : List Nat) (c n : Nat), (∀ x ∈ b :: R, x < 256) → nx (b :: R) = some (c, n) → 0 < n ∧ n ≤ R.length + 1 ∧ c < 1114112
theorem nxU_cl {b : Nat} {R : List Nat} (h : ∀ x ∈ b :: R, x < 256) : (nxU (b :: R) = none ∧ codeW (b :: R) = none ∧ lenW (b :: R) = 0) ∨ ∃ c, nxU (b :: R) = some (c, (cb c).length) ∧ codeW (b :: R) = some c ∧ CL (b :: R) c := by
  have e := cw_all h
  unfold nxU
  cases q : codeW (b :: R) with
  | none => rw [q] at e; exact .inl ⟨rfl, rfl, e⟩
  | some c => rw [q] at e; exact .inr ⟨c, rfl, rfl, e⟩
theorem nxU_ok : NxOk nxU := fun b R c n h e => by
  rcases nxU_cl h with ⟨e1, _⟩ | ⟨c', e1, _, cl⟩
  · rw [e1] at e; cases e
  · rw [e1] at e
    cases e
    have h1 := cl.len
    have h2 := cl.pos
    have h3 := cl.le
    rw [List.length_cons] at h3
    exact ⟨by omega, by omega, cl.lt⟩
theorem nxL_ok {lim : Nat} (hl : lim ≤ 256) : NxOk (nxL lim) := fun b R c n h e => by
  replace e : (if b < lim then some (b, 1) else none) = some (c, n) := e
  by_cases q : b < lim
  · rw [if_pos q] at e
    cases e
    exact ⟨by omega, by omega, by omega⟩
  · rw [if_neg q] at e
    cases e
theorem dec_ex {nx : List Nat → Option (Nat × Nat)} (g : NxOk nx) : ∀ (k : Nat) (W : List Nat) (a : Nat) (acc : List Nat), W.length ≤ k → (∀ x ∈ W, x < 256) → ∃ r, Dec nx W a acc r
  | _, [], a, acc, _, _ => ⟨_, .nil⟩
  | 0, b :: R, _, _, h, _ => by simp at h
  | k + 1, b :: R, a, acc, h, hb => by
    cases q : nx (b :: R) with
    | none => exact ⟨_, .bad q⟩
    | some p =>
      obtain ⟨c, n⟩ := p
      obtain ⟨h1, h2, h3⟩ := g b R c n hb q
      rw [List.length_cons] at h
      obtain ⟨r, e⟩ := dec_ex g k ((b :: R).drop n) (a + n) (acc ++ [c]) (by rw [List.length_drop, List.length_cons]; omega) fun x hx => hb x (List.mem_of_mem_drop hx)
      exact ⟨r, .step q e⟩
theorem dec_len {nx : List Nat → Option (Nat × Nat)} (g : NxOk nx) {W : List Nat} {a : Nat} {acc : List Nat} {r : Nat ⊕ List Nat} (h : Dec nx W a acc r) : (∀ x ∈ W, x < 256) → match r with
    | .inl j => j < a + W.length
    | .inr T => T.length ≤ acc.length + W.length := by
  induction h with
  | nil => exact fun _ => Nat.le_refl _
  | bad e => exact fun _ => by simp only [List.length_cons]; omega
  | step e h ih =>
    rename_i b R a acc c n r
    intro hb
    obtain ⟨h1, h2, h3⟩ := g _ _ _ _ hb e
    have := ih fun x hx => hb x (List.mem_of_mem_drop hx)
    rw [List.length_drop] at this
    simp only [List.length_cons, List.length_append, List.length_nil] at this ⊢
    cases r with
    | inl j => dsimp only at this ⊢; omega
    | inr T => dsimp only at this ⊢; omega
inductive Chs : List Nat → (List Nat → Option (Nat × Nat)) → Prop
  | u : Chs uS nxU
  | a : Chs aS (nxL 128)
  | l : Chs lS (nxL 256)
theorem Chs.ok {cs : List Nat} {nx : List Nat → Option (Nat × Nat)} (h : Chs cs nx) : NxOk nx := by
  cases h
  · exact nxU_ok
  · exact nxL_ok (by decide)
  · exact nxL_ok (by decide)
def CaF (c : Fn) : Prop := ∀ (m : Mem) (d : D) (L : List Nat) (a : Nat), Hv L d → (∀ x ∈ L, x < 256) → a < L.length → L.length ≤ 1000 → c [d, nI a] m = .ok (optD (codeW (L.drop a))) m
def yE (k : Nat) : Exn := ⟨"DecodeError", [("index", nI k)]⟩
def decB (c1 c2 : Fn) : SV := (sSeq (sAsg (.nm 4) (dBin opIx (dVar 0) (dVar 3)))
    (sSeq (sIf (dBl (dBin (opEq false) (dVar 1) (dC (.str [117, 116, 102, 45, 56])))) (sAsg (.nm 4) (dCall c1 [(dVar 0), (dVar 3)])) (sIf (dBl (dBin opGe (dVar 4) (dKix tab_LIMITS (dVar 1)))) (sAsg (.nm 4) (dC (.non))) sNil))
    (sSeq (sIf (dBl (dBin (opIsN false) (dVar 4) (dC (.non)))) (sRaise "DecodeError" ["index"] [(dVar 3)]) sNil)
    (sSeq (sDrop (dMt "list" mAppend (dVar 2) [(dVar 4)]))
    (sAsg (.nm 3) (dBin (opAdd false) (dVar 3) (dIf (dBl (dBin (opEq false) (dVar 1) (dC (.str [117, 116, 102, 45, 56])))) (dCB bLen [(dCall c2 [(dVar 4)])]) (dC (.int 1)))))))))
theorem decB_ok {c1 c2 : Fn} (h1 : CaF c1) (h2 : CbF c2) {m : Mem} {L cs acc : List Nat} {nx : List Nat → Option (Nat × Nat)} (hx : Chs cs nx) {d : D} (hd : Hv L d) (h : ∀ x ∈ L, x < 256) {a : Nat} (ha : a < L.length) (hl : L.length ≤ 1000) (hacc : acc.length ≤ 1000) {x4 : Option D} :
    ∃ y4, decB c1 c2 [some d, some (.str cs), some (.ref m.length), some (nI a), x4] (m ++ [.lst (ic acc)]) = match nx (L.drop a) with
      | none => .ex (yE a) [some d, some (.str cs), some (.ref m.length), some (nI a), y4] (m ++ [.lst (ic acc)])
      | some (c, n) => .ok .nx [some d, some (.str cs), some (.ref m.length), some (nI (a + n)), y4] (m ++ [.lst (ic (acc ++ [c]))]) := by
  obtain ⟨b, R, eW, hb, eR⟩ := drop_cons ha
  have hW : ∀ x ∈ b :: R, x < 256 := fun x hx => h x (List.mem_of_mem_drop (by rw [eW]; exact hx))
  have hbb : b < 256 := hW b (by simp)
  have hix := fun m => hv_ix (m := m) hd (show (0 : Int) ≤ (a : Int) by omega) (by rw [show ((a : Int)).toNat = a by omega]; exact hb)
  have lm : ∀ {lim : Nat}, lim ≤ 256 → (∀ m : Mem, opEq false (.str cs) (.str [117, 116, 102, 45, 56]) m = .ok (.bl false) m) → tab_LIMITS.lookup cs = some (nI lim) → ∃ y4, decB c1 c2 [some d, some (.str cs), some (.ref m.length), some (nI a), x4] (m ++ [.lst (ic acc)]) = match nxL lim (L.drop a) with
      | none => .ex (yE a) [some d, some (.str cs), some (.ref m.length), some (nI a), y4] (m ++ [.lst (ic acc)])
      | some (c, n) => .ok .nx [some d, some (.str cs), some (.ref m.length), some (nI (a + n)), y4] (m ++ [.lst (ic (acc ++ [c]))]) := by
    intro lim hlim hu ht
    rw [eW]
    by_cases q : b < lim
    · rw [show nxL lim (b :: R) = some (b, 1) from if_pos q]
      refine ⟨some (nI b), ?_⟩
      unfold decB
      walk_at "ev"
      rw [hix]
      walk_at "ev"
      rw [hu]
      walk_at "ev"
      rw [hu]
      walk_at "ev"
      rw [ic_app]
      rfl
    · rw [show nxL lim (b :: R) = none from if_neg q]
      refine ⟨some .non, ?_⟩
      unfold decB
      walk_at "ev"
      rw [hix]
      walk_at "ev"
      rw [hu]
      walk_at "ev"
      rfl
  cases hx
  · have hc := h1 (m ++ [.lst (ic acc)]) d L a hd h ha hl
    rw [eW] at hc ⊢
    rcases nxU_cl hW with ⟨e1, e2, _⟩ | ⟨c, e1, e2, cl⟩
    · rw [e1]
      rw [e2] at hc
      refine ⟨some .non, ?_⟩
      unfold decB
      walk_at "ev"
      rw [hix]
      walk_at "ev"
      rw [eq_uu]
      walk_at "ev"
      rw [hc]
      walk_at "ev"
      rw [show optD none = .non from rfl]
      walk_at "ev"
      rfl
    · rw [e1]
      rw [e2] at hc
      refine ⟨some (nI c), ?_⟩
      unfold decB
      walk_at "ev"
      rw [hix]
      walk_at "ev"
      rw [eq_uu]
      walk_at "ev"
      rw [hc]
      walk_at "ev"
      rw [show optD (some c) = nI c from rfl]
      walk_at "ev"
      rw [eq_uu]
      walk_at "ev"
      rw [h2 c _ cl.lt]
      walk_at "ev"
      rw [ic_app]
      rfl
  · exact lm (by decide) (fun m => eq_au) lim_a
  · exact lm (by decide) (fun m => eq_lu) lim_l
structure DS where
  acc : List Nat
  a : Nat
  y : Option D
def decR : Nat ⊕ List Nat → Mem → R D
  | .inl j, m => .ex (yE j) m
  | .inr T, m => .ok (.tup (ic T)) m
theorem decode_ok {c1 c2 : Fn} (h1 : CaF c1) (h2 : CbF c2) {m : Mem} {L cs : List Nat} {nx : List Nat → Option (Nat × Nat)} (hx : Chs cs nx) {d : D} (hd : Hv L d) (h : ∀ x ∈ L, x < 256) (hl : L.length ≤ 1000) {r : Nat ⊕ List Nat} (hr : Dec nx L 0 [] r) :
    popR m (runB 5 (sv_decode c1 c2) [d, .str cs] m) = decR r m := by
  have hrl := dec_len hx.ok hr h
  unfold sv_decode
  walk_at "ev"
  have key : ∃ y4 W a, sWhile (dBl (dBin opLt (dVar 3) (dCB bLen [(dVar 0)]))) (decB c1 c2) [some d, some (.str cs), some (.ref m.length), some (.int 0), none] (m ++ [.lst []]) = match r with
      | .inl j => .ex (yE j) [some d, some (.str cs), some (.ref m.length), some (nI a), y4] (m ++ [.lst (ic W)])
      | .inr T => .ok .nx [some d, some (.str cs), some (.ref m.length), some (nI a), y4] (m ++ [.lst (ic T)]) := by
    refine while_run2 (fun s : DS => [some d, some (.str cs), some (.ref m.length), some (nI s.a), s.y]) (fun s => m ++ [.lst (ic s.acc)]) (fun s => s.a ≤ L.length ∧ s.acc.length ≤ s.a ∧ Dec nx (L.drop s.a) s.a s.acc r) (fun s => decide (s.a < L.length)) (fun s => L.length - s.a)
      (fun res => ∃ y4 W a, res = match r with
      | .inl j => .ex (yE j) [some d, some (.str cs), some (.ref m.length), some (nI a), y4] (m ++ [.lst (ic W)])
      | .inr T => .ok .nx [some d, some (.str cs), some (.ref m.length), some (nI a), y4] (m ++ [.lst (ic T)])) (fun s hs => ?_) (fun s hs hc => ?_) (s0 := ⟨[], 0, none⟩) ⟨Nat.zero_le _, Nat.le_refl _, hr⟩ (by show L.length - 0 < 2 ^ 200; exact Nat.lt_of_le_of_lt (Nat.sub_le _ _) (Nat.lt_of_le_of_lt hl (by decide))) (fun s hs hc => ?_)
    · walk_at "ev"
      rw [hv_len hd]
      walk_at "ev"
      congr 1
      exact decide_eq_decide.mpr (by omega)
    · obtain ⟨q1, q2, q3⟩ := hs
      have ha := of_decide_eq_true hc
      obtain ⟨y4, e⟩ := decB_ok h1 h2 (m := m) (acc := s.acc) hx hd h ha hl (by omega) (x4 := s.y)
      obtain ⟨b, R, eW, hb, eR⟩ := drop_cons ha
      have hW : ∀ x ∈ b :: R, x < 256 := fun x hx => h x (List.mem_of_mem_drop (by rw [eW]; exact hx))
      rw [eW] at e q3
      cases q3 with
      | bad q =>
        rw [q] at e
        right
        exact ⟨_, e, y4, s.acc, s.a, rfl⟩
      | step q k =>
        rename_i c n
        rw [q] at e
        obtain ⟨g1, g2, g3⟩ := hx.ok _ _ _ _ hW q
        have hlen := congrArg List.length eW
        rw [List.length_drop, List.length_cons] at hlen
        left
        refine ⟨⟨s.acc ++ [c], s.a + n, y4⟩, .inl e, ⟨by dsimp only; omega, by simp only [List.length_append, List.length_cons, List.length_nil]; omega, ?_⟩, by dsimp only; omega⟩
        rw [← eW, List.drop_drop] at k
        exact k
    · obtain ⟨q1, q2, q3⟩ := hs
      have ha := of_decide_eq_false hc
      rw [List.drop_eq_nil_of_le (by omega)] at q3
      cases q3
      exact ⟨s.y, [], s.a, rfl⟩
  obtain ⟨y4, W, a, e⟩ := key
  unfold decB at e
  rw [e]
  cases r with
  | inl j =>
    walk_at "ev"
    exact q_pope rfl
  | inr T =>
    have hT : T.length ≤ 1000 := by
      have : T.length ≤ ([] : List Nat).length + L.length := hrl
      rw [List.length_nil] at this
      omega
    walk_at "ev"
    exact q_pop (d := .tup (ic T)) (pls_ic _)
end Pg
set_option Elab.async false
set_option linter.all false
set_option maxRecDepth 100000
set_option maxHeartbeats 4000000
namespace K37
open PySem PySem.Spec PyProof.Rows L2 Itp
abbrev topS (i : Nat) : Stmt := PySem.Challenge.pw_messageshelf_k37_pairs_of_any_file.main.body.getD i (.Pass ⟨0, 0, 0, 0⟩)
def clsB : Stmt → List Stmt
  | .ClassDef _ _ _ b _ _ _ _ _ _ _ => b
  | _ => []
abbrev clsS (i j : Nat) : Stmt := (clsB (topS i)).getD j (.Pass ⟨0, 0, 0, 0⟩)
abbrev exT : List (Str × ExD) := [("ShortFile", ⟨false, [], ["ShortFile", "ShelfError", "ValueError"]⟩), ("FileError", ⟨true, ["reason", "path"], ["FileError", "ShelfError", "ValueError"]⟩)]
def ini_FileError : IniD := ⟨"FileError", ["self", "reason", "path"], "FileError.__init__", clsS 3 0⟩
def sv_word_at (F F1 : Fm) : SV :=
    (sSeq (sAsg (.nm 3) (dIf (dBl (dBin (opEq false) (dVar 2) (dC (.str [98, 105, 103])))) (dSl false (dVar 0) (some (dVar 1)) (some (dBin (opAdd false) (dVar 1) (dC (.int 4))))) (dRev false (dSl false (dVar 0) (some (dVar 1)) (some (dBin (opAdd false) (dVar 1) (dC (.int 4))))))))
    (sSeq (sAsg (.nm 4) (dC (.int 0)))
    (sSeq (sFor (dIt (dVar 3)) (.nm 5) (sAsg (.nm 4) (dBin (opAdd false) (dBin (opMul false) (dVar 4) (dC (.int 256))) (dVar 5))))
    (sRet (dVar 4)))))
def df_word_at : Df := ⟨("word_at", none), "word_at", "word_at", 3, ["data", "at", "order", "piece", "found", "byte"], topS 5, fun _ => 0, sv_word_at, 1, []⟩
def sv_order_of (F F1 : Fm) : SV :=
    (sSeq (sIf (dBl (dBin opLt (dCB bLen [(dVar 0)]) (dC (.int 4)))) (sRaise0 "ShortFile") sNil)
    (sSeq (sIf (dBl (dBin (opIn true) (dSl false (dVar 0) none (some (dC (.int 4)))) (dTup [(dTup [(dC (.int 222)), (dC (.int 18)), (dC (.int 4)), (dC (.int 149))]), (dTup [(dC (.int 149)), (dC (.int 4)), (dC (.int 18)), (dC (.int 222))])]))) (sRaise "FileError" ["reason", "path"] [(dC (.str [109, 97, 103, 105, 99])), (dVar 1)]) sNil)
    (sRet (dIf (dBl (dBin (opEq false) (dBin opIx (dVar 0) (dC (.int 0))) (dC (.int 222)))) (dC (.str [108, 105, 116, 116, 108, 101])) (dC (.str [98, 105, 103]))))))
def df_order_of : Df := ⟨("order_of", none), "order_of", "order_of", 2, ["data", "path"], topS 6, fun _ => 0, sv_order_of, 1, []⟩
def sv_row_of (F F1 : Fm) : SV :=
    (sSeq (sIf (dBl (dBin opGt (dBin (opAdd false) (dVar 1) (dC (.int 8))) (dCB bLen [(dVar 0)]))) (sRaise0 "ShortFile") sNil)
    (sRet (dTup [(dCall (F 0) [(dVar 0), (dVar 1), (dVar 2)]), (dCall (F 0) [(dVar 0), (dBin (opAdd false) (dVar 1) (dC (.int 4))), (dVar 2)])])))
def df_row_of : Df := ⟨("row_of", none), "row_of", "row_of", 3, ["data", "at", "order"], topS 7, fun _ => 0, sv_row_of, 1, []⟩
def sv_Source_init (F F1 : Fm) : SV :=
    (sSeq (sSetA ["Source"] "data" (dCB bTuple [(dVar 1)]) (dVar 0))
    (sSeq (sSetA ["Source"] "path" (dVar 2) (dVar 0))
    (sSeq (sSetA ["Source"] "order" (dCall (F 1) [(dAttr "data" (dVar 0)), (dVar 2)]) (dVar 0))
    (sSeq (sIf (dBl (dBin opLt (dCB bLen [(dAttr "data" (dVar 0))]) (dC (.int 20)))) (sRaise0 "ShortFile") sNil)
    (sSeq (sAsg (.nm 3) (dLc false [4] (dIt (dTup [(dC (.int 4)), (dC (.int 8)), (dC (.int 12)), (dC (.int 16))])) (.nm 4) dNil (dCall (F 0) [(dAttr "data" (dVar 0)), (dVar 4), (dAttr "order" (dVar 0))])))
    (sSeq (sIf (dBl (dBin opGt (dBin opFDiv (dBin opIx (dVar 3) (dC (.int 0))) (dC (.int 65536))) (dC (.int 1)))) (sRaise "FileError" ["reason", "path"] [(dC (.str [118, 101, 114, 115, 105, 111, 110])), (dVar 2)]) sNil)
    (sAttrs [(["Source"], "many", (dVar 0)), (["Source"], "ids", (dVar 0)), (["Source"], "texts", (dVar 0))] (dTup [(dBin opIx (dVar 3) (dC (.int 1))), (dBin opIx (dVar 3) (dC (.int 2))), (dBin opIx (dVar 3) (dC (.int 3)))]))))))))
def df_Source_init : Df := ⟨("Source", some "__init__"), "__init__", "Source.__init__", 3, ["self", "data", "path", "words", "at"], clsS 8 0, fun _ => 0, sv_Source_init, 0, []⟩
def sv_Source_entry (F F1 : Fm) : SV :=
    (sSeq (sAsg (.tup [(.nm 2), (.nm 3)]) (dCall (F 2) [(dAttr "data" (dVar 0)), (dBin (opAdd false) (dAttr "ids" (dVar 0)) (dBin (opMul false) (dC (.int 8)) (dVar 1))), (dAttr "order" (dVar 0))]))
    (sSeq (sAsg (.tup [(.nm 4), (.nm 5)]) (dCall (F 2) [(dAttr "data" (dVar 0)), (dBin (opAdd false) (dAttr "texts" (dVar 0)) (dBin (opMul false) (dC (.int 8)) (dVar 1))), (dAttr "order" (dVar 0))]))
    (sSeq (sIf (dOrT (dBl (dBin opGe (dBin (opAdd false) (dVar 3) (dVar 2)) (dCB bLen [(dAttr "data" (dVar 0))]))) (dBl (dBin opGe (dBin (opAdd false) (dVar 5) (dVar 4)) (dCB bLen [(dAttr "data" (dVar 0))])))) (sRaise "FileError" ["reason", "path"] [(dC (.str [99, 111, 114, 114, 117, 112, 116])), (dAttr "path" (dVar 0))]) sNil)
    (sRet (dTup [(dSl false (dAttr "data" (dVar 0)) (some (dVar 3)) (some (dBin (opAdd false) (dVar 3) (dVar 2)))), (dSl false (dAttr "data" (dVar 0)) (some (dVar 5)) (some (dBin (opAdd false) (dVar 5) (dVar 4))))])))))
def df_Source_entry : Df := ⟨("Source", some "entry"), "entry", "Source.entry", 2, ["self", "number", "length", "place", "size", "start"], clsS 8 1, fun _ => 0, sv_Source_entry, 1, []⟩
def sv_read_mo (F F1 : Fm) : SV :=
    (sSeq (sAsg (.nm 1) (dMake "Source" (F1 3) [(dVar 0), (dC (.str []))]))
    (sSeq (sPar 2 3 (dLst true []) (dC (.int 0)))
    (sSeq (sWhile (dBl (dBin opLt (dVar 3) (dAttr "many" (dVar 1)))) (sSeq (sDrop (dMt "list" mAppend (dVar 2) [(dMeth "entry" [("Source", (F 4))] (dVar 1) [(dVar 3)])]))
    (sAsg (.nm 3) (dBin (opAdd false) (dVar 3) (dC (.int 1))))))
    (sRet (dVar 2)))))
def df_read_mo : Df := ⟨("read_mo", none), "read_mo", "read_mo", 1, ["data", "source", "found", "number"], topS 10, fun p => if (p.line == 50 && p.col == 21 && p.endLine == 50 && p.endCol == 23) then 1 else 0, sv_read_mo, 2, []⟩
def sv__law_source (F F1 : Fm) : SV := Pg.sv__law_source
def df__law_source : Df := ⟨("_law_source", none), "_law_source", "_law_source", 2, ["_law_script", "_law_k", "_law_cell", "_law_deep"], topS 12, fun p => if (p.line == 63 && p.col == 11 && p.endLine == 63 && p.endCol == 82) then 1 else 0, sv__law_source, 0, []⟩
def sv__law_draw (F F1 : Fm) : SV := Pg.sv__law_draw
def df__law_draw : Df := ⟨("_law_draw", none), "_law_draw", "_law_draw", 2, ["_law_source_here", "_law_many", "_law_digit", "_law_seed"], topS 13, fun _ => 0, sv__law_draw, 0, []⟩
def sv__law_pick (F F1 : Fm) : SV := Pg.sv__law_pick (F 7)
def df__law_pick : Df := ⟨("_law_pick", none), "_law_pick", "_law_pick", 2, ["_law_source_here", "_law_some"], topS 14, fun _ => 0, sv__law_pick, 0, []⟩
def sv__law_shuffled (F F1 : Fm) : SV :=
    (sSeq (sPar 2 3 (dCB (bList true) [(dVar 1)]) (dLst true []))
    (sSeq (sWhile (dBl (dBin (opEq true) (dVar 2) (dLst false []))) (sDrop (dMt "list" mAppend (dVar 3) [(dMt "list" mPop (dVar 2) [(dCall (F 7) [(dVar 0), (dCB bLen [(dVar 2)])])])])))
    (sRet (dVar 3))))
def df__law_shuffled : Df := ⟨("_law_shuffled", none), "_law_shuffled", "_law_shuffled", 2, ["_law_source_here", "_law_things", "_law_left", "_law_found"], topS 15, fun p => if (p.line == 75 && p.col == 29 && p.endLine == 75 && p.endCol == 46) || (p.line == 75 && p.col == 48 && p.endLine == 75 && p.endCol == 50) then 1 else 0, sv__law_shuffled, 1, []⟩
def sv__law_handed (F F1 : Fm) : SV := Pg.sv__law_handed (F 7)
def df__law_handed : Df := ⟨("_law_handed", none), "_law_handed", "_law_handed", 2, ["_law_source_here", "_law_codes"], topS 16, fun _ => 0, sv__law_handed, 1, []⟩
def sv__law_same (F F1 : Fm) : SV := Pg.sv__law_same (F 11)
def df__law_same : Df := ⟨("_law_same", none), "_law_same", "_law_same", 2, ["_law_found", "_law_due", "_law_one", "_law_two"], topS 17, fun _ => 0, sv__law_same, 0, []⟩
def sv__law_word (F F1 : Fm) : SV :=
    (sSeq (sAsg (.nm 2) (dLst true []))
    (sSeq (sFor (dRng [(dC (.int 4))]) (.nm 3) (sDrop (dMt "list" mAppend (dVar 2) [(dBin opMod (dBin opFDiv (dVar 0) (dBin opIx (dLst false [(dC (.int 1)), (dC (.int 256)), (dC (.int 65536)), (dC (.int 16777216))]) (dVar 3))) (dC (.int 256)))])))
    (sRet (dIf (dBl (dBin (opEq false) (dVar 1) (dC (.str [108, 105, 116, 116, 108, 101])))) (dVar 2) (dRev false (dVar 2))))))
def df__law_word : Df := ⟨("_law_word", none), "_law_word", "_law_word", 2, ["_law_value", "_law_order", "_law_found", "_law_k"], topS 18, fun p => if (p.line == 90 && p.col == 17 && p.endLine == 90 && p.endCol == 19) then 1 else 0, sv__law_word, 1, []⟩
def sv__law_blocks (F F1 : Fm) : SV :=
    (sSeq (sPar3 2 3 4 (dLst false [(dBin (opMul false) (dC (.int 8)) (dVar 1)), (dBin (opMul false) (dC (.int 8)) (dVar 1)), (dCall (F 7) [(dVar 0), (dC (.int 30))])]) (dLst true [(dC (.int 0)), (dC (.int 0)), (dC (.int 0))]) (dC (.int 28)))
    (sSeq (sFor (dIt (dCall (F 9) [(dVar 0), (dLst false [(dC (.int 0)), (dC (.int 1)), (dC (.int 2))])])) (.nm 5) (sSeq (sAsg (.nm 4) (dBin (opAdd false) (dVar 4) (dCall (F 7) [(dVar 0), (dC (.int 4))])))
    (sSeq (sSub (dVar 4) (dVar 3) (dVar 5))
    (sAsg (.nm 4) (dBin (opAdd false) (dVar 4) (dBin opIx (dVar 2) (dVar 5)))))))
    (sSeq (sIf (dBl (dBin (opEq false) (dCall (F 7) [(dVar 0), (dC (.int 5))]) (dC (.int 0)))) (sSub (dBin opIx (dVar 3) (dC (.int 0))) (dVar 3) (dC (.int 1))) sNil)
    (sRet (dTup [(dVar 3), (dVar 4)])))))
def df__law_blocks : Df := ⟨("_law_blocks", none), "_law_blocks", "_law_blocks", 2, ["_law_source_here", "_law_many", "_law_sizes", "_law_places", "_law_at", "_law_block"], topS 19, fun p => if (p.line == 95 && p.col == 105 && p.endLine == 95 && p.endCol == 114) then 1 else 0, sv__law_blocks, 1, []⟩
def sv__law_any_file (F F1 : Fm) : SV :=
    (sSeq (sAsg (.tup [(.nm 1), (.nm 2)]) (dTup [(dCall (F 8) [(dVar 0), (dLst false [(dC (.str [108, 105, 116, 116, 108, 101])), (dC (.str [98, 105, 103]))])]), (dCall (F 7) [(dVar 0), (dC (.int 8))])]))
    (sSeq (sAsg (.tup [(.nm 3), (.nm 4)]) (dCall (F 13) [(dVar 0), (dVar 2)]))
    (sSeq (sAsg (.nm 5) (dLc true [10] (dRng [(dVar 4)]) (.nm 10) dNil (dCall (F 8) [(dVar 0), (dTup [(dC (.int 0)), (dC (.int 4)), (dC (.int 97)), (dC (.int 98)), (dC (.int 255)), (dC (.int 10)), (dC (.int 128))])])))
    (sSeq (sAsg (.nm 6) (dCall (F 8) [(dVar 0), (dLst false [(dC (.int 0)), (dC (.int 1)), (dC (.int 65535)), (dC (.int 65536)), (dC (.int 131071)), (dC (.int 70000))])]))
    (sSeq (sAsg (.nm 7) (dLst false [(dTup [(dC (.int 0)), (dC (.int 2500072158))]), (dTup [(dC (.int 4)), (dVar 6)]), (dTup [(dC (.int 8)), (dVar 2)]), (dTup [(dC (.int 12)), (dBin opIx (dVar 3) (dC (.int 0)))]), (dTup [(dC (.int 16)), (dBin opIx (dVar 3) (dC (.int 1)))])]))
    (sSeq (sAsg (.nm 8) (dLst true []))
    (sSeq (sFor (dIt (dSl false (dVar 3) none (some (dC (.int 2))))) (.nm 9) (sFor (dRng [(dVar 2)]) (.nm 10) (sSeq (sAsg (.nm 11) (dCall (F 7) [(dVar 0), (dVar 4)]))
    (sSeq (sAsg (.nm 12) (dCall (F 7) [(dVar 0), (dCB bMin [(dC (.int 14)), (dBin opSub (dVar 4) (dVar 11))])]))
    (sSeq (sAsg (.nm 7) (dBin (opAdd false) (dVar 7) (dLst false [(dTup [(dBin (opAdd false) (dVar 9) (dBin (opMul false) (dC (.int 8)) (dVar 10))), (dVar 12)]), (dTup [(dBin (opAdd false) (dBin (opAdd false) (dVar 9) (dBin (opMul false) (dC (.int 8)) (dVar 10))) (dC (.int 4))), (dVar 11)])])))
    (sDrop (dMt "list" mAppend (dVar 8) [(dTup [(dVar 11), (dVar 12)])])))))))
    (sSeq (sFor (dIt (dVar 7)) (.tup [(.nm 13), (.nm 14)]) (sSlS (dCall (F 12) [(dVar 14), (dVar 1)]) (dVar 5) (some (dVar 13)) (some (dBin (opAdd false) (dVar 13) (dC (.int 4))))))
    (sSeq (sIf (dBl (dBin (opEq false) (dBin opIx (dVar 3) (dC (.int 0))) (dBin opIx (dVar 3) (dC (.int 1))))) (sAsg (.nm 8) (dBin (opMul true) (dSl false (dVar 8) (some (dVar 2)) none) (dC (.int 2)))) sNil)
    (sSeq (sAsg (.nm 15) (dLc false [11, 12] (dIt (dVar 8)) (.tup [(.nm 11), (.nm 12)]) dNil (dCB bTuple [(dSl false (dVar 5) (some (dVar 11)) (some (dBin (opAdd false) (dVar 11) (dVar 12))))])))
    (sRet (dTup [(dCB bTuple [(dVar 5)]), (dLc false [10] (dRng [(dVar 2)]) (.nm 10) dNil (dTup [(dBin opIx (dVar 15) (dVar 10)), (dBin opIx (dVar 15) (dBin (opAdd false) (dVar 2) (dVar 10)))]))]))))))))))))
def df__law_any_file : Df := ⟨("_law_any_file", none), "_law_any_file", "_law_any_file", 1, ["_law_source_here", "_law_byte_order", "_law_many", "_law_places", "_law_size", "_law_data", "_law_version", "_law_words", "_law_spans", "_law_table", "_law_k", "_law_begin", "_law_length", "_law_at", "_law_word_here", "_law_cut"], topS 20, fun p => if (p.line == 106 && p.col == 16 && p.endLine == 106 && p.endCol == 106) || (p.line == 109 && p.col == 17 && p.endLine == 109 && p.endCol == 19) || (p.line == 119 && p.col == 21 && p.endLine == 119 && p.endCol == 47) then 1 else 0, sv__law_any_file, 1, []⟩
def sv_law (F F1 : Fm) : SV :=
    (sSeq (sFor (dRng [(dCB bMax [(dC (.int 5)), (dCB bMin [(dC (.int 15)), (dCB bLen [(dVar 0)])])])]) (.nm 1) (sSeq (sAsg (.nm 2) (dCall (F 6) [(dVar 0), (dVar 1)]))
    (sSeq (sAsg (.tup [(.nm 3), (.nm 4)]) (dCall (F 14) [(dVar 2)]))
    (sSeq (sAsg (.nm 5) (dCall (F 10) [(dVar 2), (dVar 3)]))
    (sFor (dRng [(dC (.int 2))]) (.nm 6) (sSeq (sAsg (.nm 7) (dCall (F 5) [(dVar 5)]))
    (sSeq (sIf (dOrT (dNotT (dTest (dCall (F 11) [(dVar 7), (dVar 4)]))) (dBl (dBin (opEq true) (dCB bTuple [(dVar 5)]) (dVar 3)))) (sRet (dC (.bl false))) sNil)
    (sDrop (dMt "list" mClear (dVar 7) [])))))))))
    (sRet (dC (.bl true))))
def df_law : Df := ⟨("law", none), "law", "law", 1, ["_law_script", "_law_turn", "_law_source_here", "_law_data", "_law_pairs", "_law_handed_here", "_law_time", "_law_found"], topS 21, fun p => if (p.line == 128 && p.col == 25 && p.endLine == 128 && p.endCol == 50) then 1 else 0, sv_law, 0, []⟩
def prog : List Df := [df_word_at, df_order_of, df_row_of, df_Source_init, df_Source_entry, df_read_mo, df__law_source, df__law_draw, df__law_pick, df__law_shuffled, df__law_handed, df__law_same, df__law_word, df__law_blocks, df__law_any_file, df_law]
theorem e_word_at {k : Nat} {ds : List D} {m : Mem} : callN prog (k + 1) 0 ds m = popR m (runB 6 (sv_word_at (callN prog k) (callN prog (k - 1))) ds m) := callN_pop (d := df_word_at) rfl
theorem e_order_of {k : Nat} {ds : List D} {m : Mem} : callN prog (k + 1) 1 ds m = popR m (runB 2 (sv_order_of (callN prog k) (callN prog (k - 1))) ds m) := callN_pop (d := df_order_of) rfl
theorem e_row_of {k : Nat} {ds : List D} {m : Mem} : callN prog (k + 1) 2 ds m = popR m (runB 3 (sv_row_of (callN prog k) (callN prog (k - 1))) ds m) := callN_pop (d := df_row_of) rfl
theorem e_Source_init {k : Nat} {ds : List D} {m : Mem} : callN prog (k + 1) 3 ds m = (runB 5 (sv_Source_init (callN prog k) (callN prog (k - 1))) ds m) := callN_succ (d := df_Source_init) rfl
theorem e_Source_entry {k : Nat} {ds : List D} {m : Mem} : callN prog (k + 1) 4 ds m = popR m (runB 6 (sv_Source_entry (callN prog k) (callN prog (k - 1))) ds m) := callN_pop (d := df_Source_entry) rfl
theorem e_read_mo {k : Nat} {ds : List D} {m : Mem} : callN prog (k + 1) 5 ds m = popK m (runB 4 (sv_read_mo (callN prog k) (callN prog (k - 1))) ds m) := callN_popK (d := df_read_mo) rfl
theorem e__law_source {k : Nat} {ds : List D} {m : Mem} : callN prog (k + 1) 6 ds m = (runB 4 (Pg.sv__law_source) ds m) := callN_succ (d := df__law_source) rfl
theorem e__law_draw {k : Nat} {ds : List D} {m : Mem} : callN prog (k + 1) 7 ds m = (runB 4 (Pg.sv__law_draw) ds m) := callN_succ (d := df__law_draw) rfl
theorem e__law_pick {k : Nat} {ds : List D} {m : Mem} : callN prog (k + 1) 8 ds m = (runB 2 (Pg.sv__law_pick (callN prog k 7)) ds m) := callN_succ (d := df__law_pick) rfl
theorem e__law_shuffled {k : Nat} {ds : List D} {m : Mem} : callN prog (k + 1) 9 ds m = popR m (runB 4 (sv__law_shuffled (callN prog k) (callN prog (k - 1))) ds m) := callN_pop (d := df__law_shuffled) rfl
theorem e__law_handed {k : Nat} {ds : List D} {m : Mem} : callN prog (k + 1) 10 ds m = popR m (runB 2 (Pg.sv__law_handed (callN prog k 7)) ds m) := callN_pop (d := df__law_handed) rfl
theorem e__law_same {k : Nat} {ds : List D} {m : Mem} : callN prog (k + 1) 11 ds m = (runB 4 (Pg.sv__law_same (callN prog k 11)) ds m) := callN_succ (d := df__law_same) rfl
theorem e__law_word {k : Nat} {ds : List D} {m : Mem} : callN prog (k + 1) 12 ds m = popR m (runB 4 (sv__law_word (callN prog k) (callN prog (k - 1))) ds m) := callN_pop (d := df__law_word) rfl
theorem e__law_blocks {k : Nat} {ds : List D} {m : Mem} : callN prog (k + 1) 13 ds m = popR m (runB 6 (sv__law_blocks (callN prog k) (callN prog (k - 1))) ds m) := callN_pop (d := df__law_blocks) rfl
theorem e__law_any_file {k : Nat} {ds : List D} {m : Mem} : callN prog (k + 1) 14 ds m = popR m (runB 16 (sv__law_any_file (callN prog k) (callN prog (k - 1))) ds m) := callN_pop (d := df__law_any_file) rfl
theorem e_law {k : Nat} {ds : List D} {m : Mem} : callN prog (k + 1) 15 ds m = (runB 8 (sv_law (callN prog k) (callN prog (k - 1))) ds m) := callN_succ (d := df_law) rfl
def md : Md := ⟨[], [("word_at", 0, 3), ("order_of", 1, 2), ("row_of", 2, 3), ("read_mo", 5, 1), ("_law_source", 6, 2), ("_law_draw", 7, 2), ("_law_pick", 8, 2), ("_law_shuffled", 9, 2), ("_law_handed", 10, 2), ("_law_same", 11, 2), ("_law_word", 12, 2), ("_law_blocks", 13, 2), ("_law_any_file", 14, 1), ("law", 15, 1)], ["all", "bool", "int", "isinstance", "len", "list", "max", "min", "range", "tuple", "zip"], ["Source"], [("entry", [("Source", 4, 2)])], [("Source", 3, 3)], [("data", ["Source"]), ("path", ["Source"]), ("order", ["Source"]), ("many", ["Source"]), ("ids", ["Source"]), ("texts", ["Source"])], exT, [], [ini_FileError], [], [], [], []⟩
theorem ini_ok_FileError : IniOk ini_FileError := ⟨⟨rfl, rfl, rfl, by decide +kernel, rfl, by decide +kernel, by decide +kernel⟩, .two, by decide +kernel, fun kV doc pm an cdv ct us hl => match us, hl with | [_, _, _], _ => rfl⟩
theorem is_word_at : DefIs md df_word_at := ⟨by decide, ⟨rfl, rfl, rfl, by decide +kernel, rfl, by decide +kernel, by decide +kernel⟩, fun F F1 => by kernel_rfl, fun _ kV doc pm an cdv ct us hl => match us, hl with | [_, _, _], _ => rfl, fun h => absurd rfl h, by rfl, by decide⟩
theorem is_order_of : DefIs md df_order_of := ⟨by decide, ⟨rfl, rfl, rfl, by decide +kernel, rfl, by decide +kernel, by decide +kernel⟩, fun F F1 => by kernel_rfl, fun _ kV doc pm an cdv ct us hl => match us, hl with | [_, _], _ => rfl, fun h => absurd rfl h, by rfl, by decide⟩
theorem is_row_of : DefIs md df_row_of := ⟨by decide, ⟨rfl, rfl, rfl, by decide +kernel, rfl, by decide +kernel, by decide +kernel⟩, fun F F1 => by kernel_rfl, fun _ kV doc pm an cdv ct us hl => match us, hl with | [_, _, _], _ => rfl, fun h => absurd rfl h, by rfl, by decide⟩
theorem is_Source_init : DefIs md df_Source_init := ⟨by decide, ⟨rfl, rfl, rfl, by decide +kernel, rfl, by decide +kernel, by decide +kernel⟩, fun F F1 => by kernel_rfl, fun _ kV doc pm an cdv ct us hl => match us, hl with | [_, _, _], _ => rfl, fun h => absurd rfl h, by rfl, by decide⟩
theorem is_Source_entry : DefIs md df_Source_entry := ⟨by decide, ⟨rfl, rfl, rfl, by decide +kernel, rfl, by decide +kernel, by decide +kernel⟩, fun F F1 => by kernel_rfl, fun _ kV doc pm an cdv ct us hl => match us, hl with | [_, _], _ => rfl, fun h => absurd rfl h, by rfl, by decide⟩
theorem is_read_mo : DefIs md df_read_mo := ⟨by decide, ⟨rfl, rfl, rfl, by decide +kernel, rfl, by decide +kernel, by decide +kernel⟩, fun F F1 => by kernel_rfl, fun _ kV doc pm an cdv ct us hl => match us, hl with | [_], _ => rfl, fun h => absurd rfl h, by rfl, by decide⟩
theorem is__law_source : DefIs md df__law_source := ⟨by decide, ⟨rfl, rfl, rfl, by decide +kernel, rfl, by decide +kernel, by decide +kernel⟩, fun F F1 => by kernel_rfl, fun _ kV doc pm an cdv ct us hl => match us, hl with | [_, _], _ => rfl, fun h => absurd rfl h, by rfl, by decide⟩
theorem is__law_draw : DefIs md df__law_draw := ⟨by decide, ⟨rfl, rfl, rfl, by decide +kernel, rfl, by decide +kernel, by decide +kernel⟩, fun F F1 => by kernel_rfl, fun _ kV doc pm an cdv ct us hl => match us, hl with | [_, _], _ => rfl, fun h => absurd rfl h, by rfl, by decide⟩
theorem is__law_pick : DefIs md df__law_pick := ⟨by decide, ⟨rfl, rfl, rfl, by decide +kernel, rfl, by decide +kernel, by decide +kernel⟩, fun F F1 => by kernel_rfl, fun _ kV doc pm an cdv ct us hl => match us, hl with | [_, _], _ => rfl, fun h => absurd rfl h, by rfl, by decide⟩
theorem is__law_shuffled : DefIs md df__law_shuffled := ⟨by decide, ⟨rfl, rfl, rfl, by decide +kernel, rfl, by decide +kernel, by decide +kernel⟩, fun F F1 => by kernel_rfl, fun _ kV doc pm an cdv ct us hl => match us, hl with | [_, _], _ => rfl, fun h => absurd rfl h, by rfl, by decide⟩
theorem is__law_handed : DefIs md df__law_handed := ⟨by decide, ⟨rfl, rfl, rfl, by decide +kernel, rfl, by decide +kernel, by decide +kernel⟩, fun F F1 => by kernel_rfl, fun _ kV doc pm an cdv ct us hl => match us, hl with | [_, _], _ => rfl, fun h => absurd rfl h, by rfl, by decide⟩
theorem is__law_same : DefIs md df__law_same := ⟨by decide, ⟨rfl, rfl, rfl, by decide +kernel, rfl, by decide +kernel, by decide +kernel⟩, fun F F1 => by kernel_rfl, fun _ kV doc pm an cdv ct us hl => match us, hl with | [_, _], _ => rfl, fun h => absurd rfl h, by rfl, by decide⟩
theorem is__law_word : DefIs md df__law_word := ⟨by decide, ⟨rfl, rfl, rfl, by decide +kernel, rfl, by decide +kernel, by decide +kernel⟩, fun F F1 => by kernel_rfl, fun _ kV doc pm an cdv ct us hl => match us, hl with | [_, _], _ => rfl, fun h => absurd rfl h, by rfl, by decide⟩
theorem is__law_blocks : DefIs md df__law_blocks := ⟨by decide, ⟨rfl, rfl, rfl, by decide +kernel, rfl, by decide +kernel, by decide +kernel⟩, fun F F1 => by kernel_rfl, fun _ kV doc pm an cdv ct us hl => match us, hl with | [_, _], _ => rfl, fun h => absurd rfl h, by rfl, by decide⟩
theorem is__law_any_file : DefIs md df__law_any_file := ⟨by decide, ⟨rfl, rfl, rfl, by decide +kernel, rfl, by decide +kernel, by decide +kernel⟩, fun F F1 => by kernel_rfl, fun _ kV doc pm an cdv ct us hl => match us, hl with | [_], _ => rfl, fun h => absurd rfl h, by rfl, by decide⟩
theorem is_law : DefIs md df_law := ⟨by decide, ⟨rfl, rfl, rfl, by decide +kernel, rfl, by decide +kernel, by decide +kernel⟩, fun F F1 => by kernel_rfl, fun _ kV doc pm an cdv ct us hl => match us, hl with | [_], _ => rfl, fun h => absurd rfl h, by rfl, by decide⟩
theorem pr : PrIs prog md := prIs_of (fun d hd => by
  simp only [prog, List.mem_cons, List.not_mem_nil, or_false] at hd
  rcases hd with rfl | rfl | rfl | rfl | rfl | rfl | rfl | rfl | rfl | rfl | rfl | rfl | rfl | rfl | rfl | rfl
  · exact is_word_at
  · exact is_order_of
  · exact is_row_of
  · exact is_Source_init
  · exact is_Source_entry
  · exact is_read_mo
  · exact is__law_source
  · exact is__law_draw
  · exact is__law_pick
  · exact is__law_shuffled
  · exact is__law_handed
  · exact is__law_same
  · exact is__law_word
  · exact is__law_blocks
  · exact is__law_any_file
  · exact is_law) (by decide +kernel) (fun d hd => by
  simp only [md, List.mem_cons, List.not_mem_nil, or_false] at hd
  rcases hd with rfl
  · exact ini_ok_FileError) (by decide +kernel)
end K37
set_option Elab.async false
set_option linter.all false
set_option maxRecDepth 100000
set_option maxHeartbeats 4000000
namespace K37
open PySem PySem.Spec PyProof.Rows L2 Itp Pg
local macro_rules | `(tactic| walk_at "ev") => `(tactic| simp (disch := first | assumption | omega | ((try simp only [List.length_cons, List.length_nil, List.length_append, List.length_map, List.length_take, List.length_drop, List.length_reverse, List.length_set, List.length_replicate]) <;> omega) | fail) only [r_var, r_c, r_bin, r_bin1, r_bin2, r_bin1x, r_bin2x, r_un, r_un1, r_a0, r_a1, r_a2, r_a3, r_a2x, r_a3x, r_cb, r_cb1, r_cb1x, r_call, r_call1, r_call1x, r_mt, r_mts, r_mtf, r_mtr0, r_mtr1, r_mtr2, r_mtd0, r_mt2, r_test, r_test1, r_test2, r_testx, r_bl, r_bl1, r_blx, r_av, r_av1, r_avt, r_avf, r_ov, r_ov1, r_ovt, r_ovf, r_nv, r_nv1, r_nv2, r_at, r_att, r_atf, r_ot, r_ott, r_otf, r_nt, r_nt1, r_if, r_ift, r_iff, r_ifx, r_tup, r_tup1, r_tupx, r_lst, r_lst1, r_ch, r_ch1, r_ch2, r_ch3, r_ch4, r_isi, r_isi1, r_isi2, r_bd0, r_bd1, r_bd2, r_rev, r_rev1, r_sl, r_sl1, r_sl2, r_sl3, r_it, r_it1, r_itt, r_itf, r_itsc, r_its, r_itr0, r_en, r_en1, r_opi, r_ent, r_enf, r_zip, r_zip1, r_zip2, r_zft, r_ztt, r_rng, r_rng1, r_rng2, r_rng3, r_lc, r_lc1, r_lc2, r_bc1, r_bc2, r_some, r_dnil, r_attr, r_attr1, r_attr2, r_opd, r_meth, r_meth1, r_meth2, r_meth3, r_meth4, r_make, r_make1, r_make2, r_newd, rs_nil, rs_seq, rs_sq1, rs_sq2, rs_sq3, rs_sq4, rs_sq5, rs_ret, rs_ret1, rs_retx, rs_retn, rs_brk, rs_cont, rs_drop, rs_drop1, rs_dropx, rs_asg, rs_asg1, rs_asgx, rs_ope, rs_par, rs_par1, rs_par2, rs_par3, rs_par31, rs_par32, rs_par33, rs_if, rs_ift, rs_iff, rs_ifx, rs_sub, rs_sub1, rs_sub2, rs_sub3, rs_opm, rs_sls, rs_sls1, rs_sls2, rs_sls3, rs_sls4, rs_att, rs_att2, rs_att3, rs_tas0, rs_tas1, rs_tas2, rs_tas3, rs_seta, rs_seta1, rs_seta2, rs_for, rs_for1, rs_body, rs_bodyn, rs_run, rs_end1, rs_end2, rs_end3, r_bnm, r_btu, r_bd00, r_bd01, r_obs, r_trn, r_trb, r_tri, r_trt, r_trf, r_tyn, r_tyb, r_tyi, r_tys, r_tyt, r_tyf, r_tysc, r_dt, r_df, r_eqF, r_eqT, r_eqbF, r_eqbT, r_seF, r_seT, r_isF, r_isT, r_find, r_neg, r_max, r_min, rs_kl1, rs_kl2, rs_kl3, rs_kl4, rs_kl5, r_strix, r_at0, r_at1, r_at2, r_at3, r_at4, r_at5, r_at6, r_at7, r_at8, r_at9, r_at10, r_at11, r_at12, r_all, r_any, r_all_true, rs_try, rs_try1, rs_try2, rs_try3, rs_tra, rs_tra1, rs_tra2, rs_tra3, rs_nox, rs_del1, rs_del2, rs_del3, rs_del4, rs_raise, rs_raise1, rs_raise0, rs_raiseZ, r_xf, r_isx, r_kix, r_kix1, q_atI, q_nok, q_nbad, q_m0, q_m1, q_m2, q_m3, q_s0, q_s1, q_s2, q_s3, q_ss, q_mkT, q_mkF, q_mkM, q_addi, q_adds, q_addt, q_addf, q_subi, q_muli, q_divi, q_modi, q_lt, q_le, q_gt, q_ge, q_ixt, q_ixf, q_ixsc, q_ixrm, q_lens, q_lent, q_lenf, q_lensc, q_lenrm, q_inti, q_intb, q_ord, q_tupt, q_tupf, q_tuprm, q_lstt, q_lstf, q_appm, q_extm, q_slfF, q_slfM, q_sltT, q_sls, nn1, List.isEmpty_nil, List.isEmpty_cons, nx1, nx2, List.map_cons, List.map_nil, List.length_cons, List.length_nil, List.replicate_succ, List.replicate_zero, List.cons_append, List.nil_append, List.append_nil, List.set_cons_succ, List.set_cons_zero, List.getElem?_cons_zero, List.getElem?_cons_succ, Nat.reduceSub, Nat.reduceAdd, List.length_append, List.length_map, List.append_assoc, Nat.zero_add, if_true, if_false, Bool.false_eq_true, Bool.not_true, Bool.not_false, isNonB, wipeE, List.any_cons, List.any_nil, isT, Bool.or_false, Bool.or_true, Bool.false_or, Bool.true_or])
local macro_rules | `(tactic| walk_at "el") => `(tactic| simp (disch := first | assumption | omega | ((try simp only [List.length_cons, List.length_nil, List.length_append, List.length_map, List.length_take, List.length_drop, List.length_reverse, List.length_set, List.length_replicate]) <;> omega) | fail) only [rs_lf0, rs_lf1, r_var, r_c, r_bin, r_bin1, r_bin2, r_bin1x, r_bin2x, r_un, r_un1, r_a0, r_a1, r_a2, r_a3, r_a2x, r_a3x, r_cb, r_cb1, r_cb1x, r_call, r_call1, r_call1x, r_mt, r_mts, r_mtf, r_mtr0, r_mtr1, r_mtr2, r_mtd0, r_mt2, r_test, r_test1, r_test2, r_testx, r_bl, r_bl1, r_blx, r_av, r_av1, r_avt, r_avf, r_ov, r_ov1, r_ovt, r_ovf, r_nv, r_nv1, r_nv2, r_at, r_att, r_atf, r_ot, r_ott, r_otf, r_nt, r_nt1, r_if, r_ift, r_iff, r_ifx, r_tup, r_tup1, r_tupx, r_lst, r_lst1, r_ch, r_ch1, r_ch2, r_ch3, r_ch4, r_isi, r_isi1, r_isi2, r_bd0, r_bd1, r_bd2, r_rev, r_rev1, r_sl, r_sl1, r_sl2, r_sl3, r_it, r_it1, r_itt, r_itf, r_itsc, r_its, r_itr0, r_en, r_en1, r_opi, r_ent, r_enf, r_zip, r_zip1, r_zip2, r_zft, r_ztt, r_rng, r_rng1, r_rng2, r_rng3, r_lc, r_lc1, r_lc2, r_bc1, r_bc2, r_some, r_dnil, r_attr, r_attr1, r_attr2, r_opd, r_meth, r_meth1, r_meth2, r_meth3, r_meth4, r_make, r_make1, r_make2, r_newd, rs_nil, rs_seq, rs_sq1, rs_sq2, rs_sq3, rs_sq4, rs_sq5, rs_ret, rs_ret1, rs_retx, rs_retn, rs_brk, rs_cont, rs_drop, rs_drop1, rs_dropx, rs_asg, rs_asg1, rs_asgx, rs_ope, rs_par, rs_par1, rs_par2, rs_par3, rs_par31, rs_par32, rs_par33, rs_if, rs_ift, rs_iff, rs_ifx, rs_sub, rs_sub1, rs_sub2, rs_sub3, rs_opm, rs_sls, rs_sls1, rs_sls2, rs_sls3, rs_sls4, rs_att, rs_att2, rs_att3, rs_tas0, rs_tas1, rs_tas2, rs_tas3, rs_seta, rs_seta1, rs_seta2, rs_for, rs_for1, rs_body, rs_bodyn, rs_run, rs_end1, rs_end2, rs_end3, r_bnm, r_btu, r_bd00, r_bd01, r_obs, r_trn, r_trb, r_tri, r_trt, r_trf, r_tyn, r_tyb, r_tyi, r_tys, r_tyt, r_tyf, r_tysc, r_dt, r_df, r_eqF, r_eqT, r_eqbF, r_eqbT, r_seF, r_seT, r_isF, r_isT, r_find, r_neg, r_max, r_min, rs_kl1, rs_kl2, rs_kl3, rs_kl4, rs_kl5, r_strix, r_at0, r_at1, r_at2, r_at3, r_at4, r_at5, r_at6, r_at7, r_at8, r_at9, r_at10, r_at11, r_at12, r_all, r_any, r_all_true, rs_try, rs_try1, rs_try2, rs_try3, rs_tra, rs_tra1, rs_tra2, rs_tra3, rs_nox, rs_del1, rs_del2, rs_del3, rs_del4, rs_raise, rs_raise1, rs_raise0, rs_raiseZ, r_xf, r_isx, r_kix, r_kix1, q_atI, q_nok, q_nbad, q_m0, q_m1, q_m2, q_m3, q_s0, q_s1, q_s2, q_s3, q_ss, q_mkT, q_mkF, q_mkM, q_addi, q_adds, q_addt, q_addf, q_subi, q_muli, q_divi, q_modi, q_lt, q_le, q_gt, q_ge, q_ixt, q_ixf, q_ixsc, q_ixrm, q_lens, q_lent, q_lenf, q_lensc, q_lenrm, q_inti, q_intb, q_ord, q_tupt, q_tupf, q_tuprm, q_lstt, q_lstf, q_appm, q_extm, q_slfF, q_slfM, q_sltT, q_sls, nn1, List.isEmpty_nil, List.isEmpty_cons, nx1, nx2, List.map_cons, List.map_nil, List.length_cons, List.length_nil, List.replicate_succ, List.replicate_zero, List.cons_append, List.nil_append, List.append_nil, List.set_cons_succ, List.set_cons_zero, List.getElem?_cons_zero, List.getElem?_cons_succ, Nat.reduceSub, Nat.reduceAdd, List.length_append, List.length_map, List.append_assoc, Nat.zero_add, if_true, if_false, Bool.false_eq_true, Bool.not_true, Bool.not_false, isNonB, wipeE, List.any_cons, List.any_nil, isT, Bool.or_false, Bool.or_true, Bool.false_or, Bool.true_or])
local macro_rules | `(tactic| walk_at "ex") => `(tactic| simp (disch := first | assumption | omega | ((try simp only [List.length_cons, List.length_nil, List.length_append, List.length_map, List.length_take, List.length_drop, List.length_reverse, List.length_set, List.length_replicate]) <;> omega) | fail) only [r_var, r_c, r_bin, r_bin1, r_bin2, r_bin1x, r_bin2x, r_un, r_un1, r_a0, r_a1, r_a2, r_a3, r_a2x, r_a3x, r_cb, r_cb1, r_cb1x, r_call, r_call1, r_call1x, r_mt, r_mts, r_mtf, r_mtr0, r_mtr1, r_mtr2, r_mtd0, r_mt2, r_test, r_test1, r_test2, r_testx, r_bl, r_bl1, r_blx, r_av, r_av1, r_avt, r_avf, r_ov, r_ov1, r_ovt, r_ovf, r_nv, r_nv1, r_nv2, r_at, r_att, r_atf, r_ot, r_ott, r_otf, r_nt, r_nt1, r_if, r_ift, r_iff, r_ifx, r_tup, r_tup1, r_tupx, r_lst, r_lst1, r_ch, r_ch1, r_ch2, r_ch3, r_ch4, r_isi, r_isi1, r_isi2, r_bd0, r_bd1, r_bd2, r_rev, r_rev1, r_sl, r_sl1, r_sl2, r_sl3, r_it, r_it1, r_itt, r_itf, r_itsc, r_its, r_itr0, r_en, r_en1, r_opi, r_ent, r_enf, r_zip, r_zip1, r_zip2, r_zft, r_ztt, r_rng, r_rng1, r_rng2, r_rng3, r_lc, r_lc1, r_lc2, r_bc1, r_bc2, r_some, r_dnil, r_attr, r_attr1, r_attr2, r_opd, r_meth, r_meth1, r_meth2, r_meth3, r_meth4, r_make, r_make1, r_make2, r_newd, rs_nil, rs_seq, rs_sq1, rs_sq2, rs_sq3, rs_sq4, rs_sq5, rs_ret, rs_ret1, rs_retx, rs_retn, rs_brk, rs_cont, rs_drop, rs_drop1, rs_dropx, rs_asg, rs_asg1, rs_asgx, rs_ope, rs_par, rs_par1, rs_par2, rs_par3, rs_par31, rs_par32, rs_par33, rs_if, rs_ift, rs_iff, rs_ifx, rs_sub, rs_sub1, rs_sub2, rs_sub3, rs_opm, rs_sls, rs_sls1, rs_sls2, rs_sls3, rs_sls4, rs_att, rs_att2, rs_att3, rs_tas0, rs_tas1, rs_tas2, rs_tas3, rs_seta, rs_seta1, rs_seta2, rs_for, rs_for1, rs_body, rs_bodyn, rs_run, rs_end1, rs_end2, rs_end3, r_bnm, r_btu, r_bd00, r_bd01, r_obs, r_trn, r_trb, r_tri, r_trt, r_trf, r_tyn, r_tyb, r_tyi, r_tys, r_tyt, r_tyf, r_tysc, r_dt, r_df, r_eqF, r_eqT, r_eqbF, r_eqbT, r_seF, r_seT, r_isF, r_isT, r_find, r_neg, r_max, r_min, rs_kl1, rs_kl2, rs_kl3, rs_kl4, rs_kl5, r_strix, r_at0, r_at1, r_at2, r_at3, r_at4, r_at5, r_at6, r_at7, r_at8, r_at9, r_at10, r_at11, r_at12, r_all, r_any, r_all_true, rs_try, rs_try1, rs_try2, rs_try3, rs_tra, rs_tra1, rs_tra2, rs_tra3, rs_nox, rs_del1, rs_del2, rs_del3, rs_del4, rs_raise, rs_raise1, rs_raise0, rs_raiseZ, r_xf, r_isx, r_kix, r_kix1, q_atI, q_nok, q_nbad, q_m0, q_m1, q_m2, q_m3, q_s0, q_s1, q_s2, q_s3, q_ss, q_mkT, q_mkF, q_mkM, q_addi, q_adds, q_addt, q_addf, q_subi, q_muli, q_divi, q_modi, q_lt, q_le, q_gt, q_ge, q_ixt, q_ixf, q_ixsc, q_ixrm, q_lens, q_lent, q_lenf, q_lensc, q_lenrm, q_inti, q_intb, q_ord, q_tupt, q_tupf, q_tuprm, q_lstt, q_lstf, q_appm, q_extm, q_slfF, q_slfM, q_sltT, q_sls, nn1, List.isEmpty_nil, List.isEmpty_cons, nx1, nx2, List.map_cons, List.map_nil, List.length_cons, List.length_nil, List.replicate_succ, List.replicate_zero, List.cons_append, List.nil_append, List.append_nil, List.set_cons_succ, List.set_cons_zero, List.getElem?_cons_zero, List.getElem?_cons_succ, Nat.reduceSub, Nat.reduceAdd, List.length_append, List.length_map, List.append_assoc, Nat.zero_add, if_true, if_false, Bool.false_eq_true, Bool.not_true, Bool.not_false, isNonB, wipeE, List.any_cons, List.any_nil, isT, Bool.or_false, Bool.or_true, Bool.false_or, Bool.true_or, *])
/-! words -/
def oS (bg : Bool) : List Nat := if bg then [98, 105, 103] else [108, 105, 116, 116, 108, 101]
def wb (bg : Bool) (v : Nat) : List Nat := if bg then [v / 16777216 % 256, v / 65536 % 256, v / 256 % 256, v % 256] else [v % 256, v / 256 % 256, v / 65536 % 256, v / 16777216 % 256]
theorem wb_len {bg : Bool} {v : Nat} : (wb bg v).length = 4 := by cases bg <;> rfl
theorem take4_le {L : List Nat} {a : Nat} {bg : Bool} {v : Nat} (h : (L.drop a).take 4 = wb bg v) : a + 4 ≤ L.length := by
  have := congrArg List.length h
  rw [wb_len, List.length_take, List.length_drop] at this
  omega
theorem eq_bb {m : Mem} : opEq false (.str [98, 105, 103]) (.str [98, 105, 103]) m = .ok (.bl true) m := q_eqb (c := true) (by kernel_rfl)
theorem eq_lb {m : Mem} : opEq false (.str [108, 105, 116, 116, 108, 101]) (.str [98, 105, 103]) m = .ok (.bl false) m := q_eqb (c := false) (by kernel_rfl)
theorem eq_bl {m : Mem} : opEq false (.str [98, 105, 103]) (.str [108, 105, 116, 116, 108, 101]) m = .ok (.bl false) m := q_eqb (c := false) (by kernel_rfl)
theorem eq_ll {m : Mem} : opEq false (.str [108, 105, 116, 116, 108, 101]) (.str [108, 105, 116, 116, 108, 101]) m = .ok (.bl true) m := q_eqb (c := true) (by kernel_rfl)
theorem word_ok {F F1 : Fm} {m : Mem} {L : List Nat} {a v : Nat} {bg : Bool} (h : (L.drop a).take 4 = wb bg v) (hv : v < 4294967296) (hl : L.length ≤ 1000) :
    popR m (runB 6 (sv_word_at F F1) [.tup (ic L), nI a, .str (oS bg)] m) = .ok (nI v) m := by
  have ha := take4_le h
  have hc : cutN L (some (a : Int)) (some ((a : Int) + 4)) = wb bg v := by
    rw [cutN_I (α := Nat) (by omega) (by omega), show ((a : Int) + 4).toNat - ((a : Int)).toNat = 4 by omega, Int.toNat_natCast, h]
  cases bg with
  | true =>
    unfold sv_word_at oS
    rw [if_pos rfl]
    (try walk_at "ev")
    rw [eq_bb]
    (try walk_at "ev")
    rw [cutD_ic, hc, show ic (wb true v) = [nI (v / 16777216 % 256), nI (v / 65536 % 256), nI (v / 256 % 256), nI (v % 256)] from rfl]
    walk_at "el"
    refine (q_pop0 rfl).trans ?_
    congr 2
    omega
  | false =>
    unfold sv_word_at oS
    rw [if_neg Bool.false_ne_true]
    (try walk_at "ev")
    rw [eq_lb]
    (try walk_at "ev")
    rw [cutD_ic, hc, show ∀ m : Mem, revD false (.tup (ic (wb false v))) m = mkT [nI (v / 16777216 % 256), nI (v / 65536 % 256), nI (v / 256 % 256), nI (v % 256)] m from fun _ => rfl, q_mkT (by show (4 : Nat) ≤ 16777216; decide)]
    (try walk_at "ev")
    (try walk_at "el")
    refine (q_pop0 rfl).trans ?_
    congr 2
    omega

def WordF (c : Fn) : Prop := ∀ (m : Mem) (L : List Nat) (a v : Nat) (bg : Bool), (L.drop a).take 4 = wb bg v → v < 4294967296 → L.length ≤ 1000 → c [.tup (ic L), nI a, .str (oS bg)] m = .ok (nI v) m
theorem cutN_0 {L : List Nat} : cutN L none (some 4) = L.take 4 := by
  unfold cutN
  rw [show (4 : Int) = ((4 : Nat) : Int) by rfl, HT.sIx_nat]
  show (L.drop 0).take (min 4 L.length - 0) = _
  rw [List.drop_zero, Nat.sub_zero]
  by_cases c : 4 ≤ L.length
  · rw [Nat.min_eq_left c]
  · rw [Nat.min_eq_right (by omega), List.take_of_length_le (Nat.le_refl _), List.take_of_length_le (by omega)]
def magic : D := .tup [.tup [.int 222, .int 18, .int 4, .int 149], .tup [.int 149, .int 4, .int 18, .int 222]]
theorem order_ok {F F1 : Fm} {m : Mem} {L : List Nat} {bg : Bool} (h : L.take 4 = wb bg 2500072158) (hl : L.length ≤ 1000) :
    popR m (runB 2 (sv_order_of F F1) [.tup (ic L), .str []] m) = .ok (.str (oS bg)) m := by
  have ha := take4_le (L := L) (a := 0) (by rw [List.drop_zero]; exact h)
  have h0 : L[0]? = (wb bg 2500072158)[0]? := by rw [← h, List.getElem?_take_of_lt (by decide)]
  unfold sv_order_of
  cases bg with
  | true =>
    (try walk_at "ev")
    rw [cutD_ic, cutN_0, h, show opIn true (.tup (ic (wb true 2500072158))) (.tup [.tup [.int 222, .int 18, .int 4, .int 149], .tup [.int 149, .int 4, .int 18, .int 222]]) m = .ok (.bl false) m from by kernel_rfl]
    (try walk_at "ev")
    rw [show (ic L)[0]? = some (.int 149) by show (L.map nI)[0]? = _; rw [List.getElem?_map, h0]; rfl]
    (try walk_at "ev")
    exact q_pop0 rfl
  | false =>
    (try walk_at "ev")
    rw [cutD_ic, cutN_0, h, show opIn true (.tup (ic (wb false 2500072158))) (.tup [.tup [.int 222, .int 18, .int 4, .int 149], .tup [.int 149, .int 4, .int 18, .int 222]]) m = .ok (.bl false) m from by kernel_rfl]
    (try walk_at "ev")
    rw [show (ic L)[0]? = some (.int 222) by show (L.map nI)[0]? = _; rw [List.getElem?_map, h0]; rfl]
    (try walk_at "ev")
    exact q_pop0 rfl
def OrdF (c : Fn) : Prop := ∀ (m : Mem) (L : List Nat) (bg : Bool), L.take 4 = wb bg 2500072158 → L.length ≤ 1000 → c [.tup (ic L), .str []] m = .ok (.str (oS bg)) m
def RowF (c : Fn) : Prop := ∀ (m : Mem) (L : List Nat) (a v w : Nat) (bg : Bool), (L.drop a).take 4 = wb bg v → (L.drop (a + 4)).take 4 = wb bg w → v < 4294967296 → w < 4294967296 → L.length ≤ 1000 → c [.tup (ic L), nI a, .str (oS bg)] m = .ok (.tup [nI v, nI w]) m
theorem row_ok {F F1 : Fm} (hw : WordF (F 0)) {m : Mem} {L : List Nat} {a v w : Nat} {bg : Bool} (h1 : (L.drop a).take 4 = wb bg v) (h2 : (L.drop (a + 4)).take 4 = wb bg w) (hv : v < 4294967296) (hw' : w < 4294967296) (hl : L.length ≤ 1000) :
    popR m (runB 3 (sv_row_of F F1) [.tup (ic L), nI a, .str (oS bg)] m) = .ok (.tup [nI v, nI w]) m := by
  have ha := take4_le h2
  unfold sv_row_of
  (try walk_at "ev")
  rw [hw m L a v bg h1 hv hl]
  (try walk_at "ev")
  rw [show ((a : Int) + 4) = ((a + 4 : Nat) : Int) by omega, hw m L (a + 4) w bg h2 hw' hl]
  (try walk_at "ev")
  exact q_pop0 rfl

/-! a file's source -/
structure Fi (L : List Nat) (bg : Bool) (many : Nat) (pl : Nat → Nat) (B : Nat → Nat → Nat × Nat) : Prop where
  len : L.length ≤ 400
  hd : L.take 4 = wb bg 2500072158
  ver : ∃ v, v ≤ 131071 ∧ (L.drop 4).take 4 = wb bg v
  mn : (L.drop 8).take 4 = wb bg many
  i0 : (L.drop 12).take 4 = wb bg (pl 0)
  i1 : (L.drop 16).take 4 = wb bg (pl 1)
  m8 : many < 8
  pi : ∀ i, i < 2 → pl i ≤ 400
  t1 : ∀ i k, i < 2 → k < many → (L.drop (pl i + 8 * k)).take 4 = wb bg (B i k).2
  t2 : ∀ i k, i < 2 → k < many → (L.drop (pl i + 8 * k + 4)).take 4 = wb bg (B i k).1
  tl : ∀ i k, i < 2 → k < many → (B i k).1 + (B i k).2 < L.length
def fsS (L : List Nat) (bg : Bool) (many : Nat) (pl : Nat → Nat) : List (Str × D) := [("data", .tup (ic L)), ("path", .str []), ("order", .str (oS bg)), ("many", nI many), ("ids", nI (pl 0)), ("texts", nI (pl 1))]
def fs3 (L : List Nat) (bg : Bool) : List (Str × D) := [("data", .tup (ic L)), ("path", .str []), ("order", .str (oS bg))]
theorem init_ok {F F1 : Fm} (hw : WordF (F 0)) (ho : OrdF (F 1)) {m : Mem} {L : List Nat} {bg : Bool} {many : Nat} {pl : Nat → Nat} {B : Nat → Nat → Nat × Nat} (f : Fi L bg many pl B) {d : D} (hd : Hv L d) :
    runB 5 (sv_Source_init F F1) [.ref m.length, d, .str []] (m ++ [.ins "Source" []]) = .ok .non (m ++ [.ins "Source" (fsS L bg many pl)]) := by
  have hl := f.len
  have p0 := f.pi 0 (by decide)
  have p1 := f.pi 1 (by decide)
  have m8 := f.m8
  have h20 := take4_le f.i1
  obtain ⟨v, hv, hver⟩ := f.ver
  unfold sv_Source_init
  (try walk_at "ev")
  rw [hv_tup hd (by omega)]
  (try walk_at "ev")
  rw [setA_at (fs := []) q_m0 rfl, q_s0]
  (try walk_at "ev")
  rw [setA_at q_m0 rfl, q_s0]
  (try walk_at "ev")
  rw [insOf_at q_m0]
  (try walk_at "ev")
  rw [show List.lookup ("data" : Str) (putFd ("path" : Str) (.str []) (putFd ("data" : Str) (.tup (ic L)) [])) = some (.tup (ic L)) from rfl]
  (try walk_at "ev")
  rw [ho _ L bg f.hd (by omega)]
  (try walk_at "ev")
  rw [setA_at q_m0 rfl, q_s0]
  (try walk_at "ev")
  rw [insOf_at q_m0]
  (try walk_at "ev")
  rw [show putFd ("order" : Str) (.str (oS bg)) (putFd ("path" : Str) (.str []) (putFd ("data" : Str) (.tup (ic L)) [])) = fs3 L bg from rfl]
  rw [show List.lookup ("data" : Str) (fs3 L bg) = some (.tup (ic L)) from rfl]
  (try walk_at "ev")
  generalize hLc : loopC _ _ _ _ _ = rc
  have e3 : rc = .ok ([v, many, pl 0, pl 1].map nI) (m ++ [.ins "Source" (fs3 L bg)]) := by
    rw [← hLc]
    have := lc_mapN (gd := gT) (body := bodyC [4] (.nm 4) dNil (dCall (F 0) [dAttr "data" (dVar 0), dVar 4, dAttr "order" (dVar 0)]) [some (.ref m.length), some d, some (.str []), none, none]) (L := [4, 8, 12, 16]) (m := m ++ [.ins "Source" (fs3 L bg)]) nI (fun x => nI (if x = 4 then v else if x = 8 then many else if x = 12 then pl 0 else pl 1)) rfl (fun x hx => ?_) (by decide)
    · exact this
    · rw [bodyC_nmE]
      (try walk_at "ev")
      rw [insOf_at q_m0]
      (try walk_at "ev")
      rw [show List.lookup ("data" : Str) (fs3 L bg) = some (.tup (ic L)) from rfl]
      (try walk_at "ev")
      rw [insOf_at q_m0]
      (try walk_at "ev")
      rw [show List.lookup ("order" : Str) (fs3 L bg) = some (.str (oS bg)) from rfl]
      (try walk_at "ev")
      rw [hw _ L x (if x = 4 then v else if x = 8 then many else if x = 12 then pl 0 else pl 1) bg ?_ ?_ (by omega)]
      · (try walk_at "ev")
      · simp only [List.mem_cons, List.not_mem_nil, or_false] at hx
        rcases hx with rfl | rfl | rfl | rfl
        · exact hver
        · exact f.mn
        · exact f.i0
        · exact f.i1
      · split
        · omega
        · split
          · omega
          · split <;> omega
  rw [e3]
  (try walk_at "ev")
  rw [setA_at q_m0 rfl, q_s0]
  (try walk_at "ev")
  rw [setA_at q_m0 rfl, q_s0]
  (try walk_at "ev")
  rw [setA_at q_m0 rfl, q_s0]
  (try walk_at "ev")
  rfl
def pc (L : List Nat) (z : Nat × Nat) : List Nat := (L.drop z.1).take z.2
def entD (L : List Nat) (B : Nat → Nat → Nat × Nat) (k : Nat) : D := .tup [.tup (ic (pc L (B 0 k))), .tup (ic (pc L (B 1 k)))]
theorem look_data {L : List Nat} {bg : Bool} {many : Nat} {pl : Nat → Nat} : List.lookup ("data" : Str) (fsS L bg many pl) = some (.tup (ic L)) := rfl
theorem look_order {L : List Nat} {bg : Bool} {many : Nat} {pl : Nat → Nat} : List.lookup ("order" : Str) (fsS L bg many pl) = some (.str (oS bg)) := rfl
theorem look_many {L : List Nat} {bg : Bool} {many : Nat} {pl : Nat → Nat} : List.lookup ("many" : Str) (fsS L bg many pl) = some (nI many) := rfl
theorem look_ids {L : List Nat} {bg : Bool} {many : Nat} {pl : Nat → Nat} : List.lookup ("ids" : Str) (fsS L bg many pl) = some (nI (pl 0)) := rfl
theorem look_texts {L : List Nat} {bg : Bool} {many : Nat} {pl : Nat → Nat} : List.lookup ("texts" : Str) (fsS L bg many pl) = some (nI (pl 1)) := rfl
theorem pl2 {a b : List Nat} : D.pl (.tup [.tup (ic a), .tup (ic b)]) = true := by
  show (D.pls (ic a) && (D.pls (ic b) && true)) = true
  rw [pls_ic, pls_ic]; rfl
theorem entry_ok {F F1 : Fm} (hr : RowF (F 2)) {m X : Mem} {L : List Nat} {bg : Bool} {many k : Nat} {pl : Nat → Nat} {B : Nat → Nat → Nat × Nat} (f : Fi L bg many pl B) (hk : k < many) :
    popR (m ++ .ins "Source" (fsS L bg many pl) :: X) (runB 6 (sv_Source_entry F F1) [.ref m.length, nI k] (m ++ .ins "Source" (fsS L bg many pl) :: X)) = .ok (entD L B k) (m ++ .ins "Source" (fsS L bg many pl) :: X) := by
  have hl := f.len
  have p0 := f.pi 0 (by decide)
  have p1 := f.pi 1 (by decide)
  have m8 := f.m8
  have b0 := f.tl 0 k (by decide) hk
  have b1 := f.tl 1 k (by decide) hk
  have r0 := fun M => hr M L (pl 0 + 8 * k) (B 0 k).2 (B 0 k).1 bg (f.t1 0 k (by decide) hk) (f.t2 0 k (by decide) hk) (by omega) (by omega) (by omega)
  have r1 := fun M => hr M L (pl 1 + 8 * k) (B 1 k).2 (B 1 k).1 bg (f.t1 1 k (by decide) hk) (f.t2 1 k (by decide) hk) (by omega) (by omega) (by omega)
  unfold sv_Source_entry
  (try walk_at "ev")
  rw [insOf_at q_m0]
  (try walk_at "ev")
  rw [look_data]
  (try walk_at "ev")
  rw [insOf_at q_m0]
  (try walk_at "ev")
  rw [look_ids]
  (try walk_at "ev")
  rw [insOf_at q_m0]
  (try walk_at "ev")
  rw [look_order]
  (try walk_at "ev")
  rw [show ((pl 0 : Nat) : Int) + 8 * (k : Nat) = ((pl 0 + 8 * k : Nat) : Int) by omega, r0]
  (try walk_at "ev")
  rw [insOf_at q_m0]
  (try walk_at "ev")
  rw [look_data]
  (try walk_at "ev")
  rw [insOf_at q_m0]
  (try walk_at "ev")
  rw [look_texts]
  (try walk_at "ev")
  rw [insOf_at q_m0]
  (try walk_at "ev")
  rw [look_order]
  (try walk_at "ev")
  rw [show ((pl 1 : Nat) : Int) + 8 * (k : Nat) = ((pl 1 + 8 * k : Nat) : Int) by omega, r1]
  (try walk_at "ev")
  rw [insOf_at q_m0]
  (try walk_at "ev")
  rw [look_data]
  (try walk_at "ev")
  rw [insOf_at q_m0]
  (try walk_at "ev")
  rw [look_data]
  (try walk_at "ev")
  rw [insOf_at q_m0]
  (try walk_at "ev")
  rw [look_data]
  (try walk_at "ev")
  rw [cutD_ic, cutN_I (α := Nat) (by omega) (by omega), show (((B 0 k).fst : Int) + ((B 0 k).snd : Int)).toNat - ((B 0 k).fst : Int).toNat = (B 0 k).snd by omega, Int.toNat_natCast, show ((L.drop (B 0 k).fst).take (B 0 k).snd) = pc L (B 0 k) from rfl]
  have z0 : (pc L (B 0 k)).length ≤ 400 := by unfold pc; rw [List.length_take, List.length_drop]; omega
  have z1 : (pc L (B 1 k)).length ≤ 400 := by unfold pc; rw [List.length_take, List.length_drop]; omega
  (try walk_at "ev")
  rw [insOf_at q_m0]
  (try walk_at "ev")
  rw [look_data]
  (try walk_at "ev")
  rw [cutD_ic, cutN_I (α := Nat) (by omega) (by omega), show (((B 1 k).fst : Int) + ((B 1 k).snd : Int)).toNat - ((B 1 k).fst : Int).toNat = (B 1 k).snd by omega, Int.toNat_natCast, show ((L.drop (B 1 k).fst).take (B 1 k).snd) = pc L (B 1 k) from rfl]
  (try walk_at "ev")
  exact q_pop0 pl2
def EntF (c : Fn) : Prop := ∀ (m X : Mem) (L : List Nat) (bg : Bool) (many k : Nat) (pl : Nat → Nat) (B : Nat → Nat → Nat × Nat), Fi L bg many pl B → k < many → c [.ref m.length, nI k] (m ++ .ins "Source" (fsS L bg many pl) :: X) = .ok (entD L B k) (m ++ .ins "Source" (fsS L bg many pl) :: X)
def IniF (c : Fn) : Prop := ∀ (m : Mem) (L : List Nat) (bg : Bool) (many : Nat) (pl : Nat → Nat) (B : Nat → Nat → Nat × Nat) (d : D), Fi L bg many pl B → Hv L d → c [.ref m.length, d, .str []] (m ++ [.ins "Source" []]) = .ok .non (m ++ [.ins "Source" (fsS L bg many pl)])
theorem pls_ent {L : List Nat} {B : Nat → Nat → Nat × Nat} : ∀ {l : List Nat}, D.pls (l.map (entD L B)) = true
  | [] => rfl
  | k :: l => by
    show (D.pl (entD L B k) && D.pls (l.map (entD L B))) = true
    rw [pls_ent (l := l), Bool.and_true]
    exact pl2
theorem read_ok {F F1 : Fm} (hi : IniF (F1 3)) (he : EntF (F 4)) {m : Mem} {L : List Nat} {bg : Bool} {many : Nat} {pl : Nat → Nat} {B : Nat → Nat → Nat × Nat} (f : Fi L bg many pl B) {d : D} (hd : Hv L d) :
    popK m (runB 4 (sv_read_mo F F1) [d] m) = .ok (.ref m.length) (m ++ [.lst ((List.range many).map (entD L B))]) := by
  have m8 := f.m8
  unfold sv_read_mo
  (try walk_at "ev")
  rw [hi m L bg many pl B d f hd]
  (try walk_at "ev")
  generalize hL : sWhile _ _ _ _ = r
  refine while_n hL (fun i : Nat => [some d, some (.ref m.length), some (.ref (m.length + 1)), some (nI i)]) (fun i => m ++ [.ins "Source" (fsS L bg many pl), .lst ((List.range i).map (entD L B))]) (fun i => i ≤ many) (fun i => decide (i < many)) (fun i => many - i) 0 rfl rfl (Nat.zero_le _) (Nat.lt_of_le_of_lt (show many - 0 ≤ 8 by omega) (by decide)) (fun i hi => ?_) (fun i hi hc => ?_) (fun i hr hi hc => ?_)
  · (try walk_at "ev")
    rw [insOf_at q_m0]
    (try walk_at "ev")
    rw [look_many]
    (try walk_at "ev")
    show R.ok (decide ((i : Int) < (many : Int))) _ = R.ok (decide (i < many)) _
    rw [decide_eq_decide.mpr (show (i : Int) < (many : Int) ↔ i < many by omega)]
  · have hc : i < many := of_decide_eq_true hc
    (try walk_at "ev")
    rw [insOf_at q_m0]
    (try walk_at "ev")
    rw [show List.lookup ("entry" : Str) (fsS L bg many pl) = none from rfl, show List.lookup ("Source" : Str) [("Source", F 4)] = some (F 4) from rfl]
    (try walk_at "ev")
    rw [he m _ L bg many i pl B f hc]
    (try walk_at "ev")
    rw [q_app q_m1 (by rw [List.length_map, List.length_range]; omega), q_s1]
    (try walk_at "ev")
    exact ⟨i + 1, rfl, by rw [List.range_succ, List.map_append]; rfl, hc, by omega⟩
  · have hc : decide (i < many) = false := hc
    have hc : many ≤ i := by have := of_decide_eq_false hc; omega
    have : i = many := by omega
    subst this
    rw [hr]
    (try walk_at "ev")
    exact q_popkn q_m1 (List.prefix_append _ _) (by omega) pls_ent
/-! what is kept of a result -/
theorem frz_r {M : Mem} {n i : Nat} {ds : List D} (h : (M : List O)[i]? = some (.lst ds)) (hn : n ≤ i) (hp : D.pls ds = true) : frzD M n (.ref i) = some (.fl ds) := by
  show frzRef _ _ 6 i = _
  unfold frzRef
  rw [if_neg (by omega), h]
  show (D.mapRs _ ds).map D.fl = _
  rw [mapRs_pl ds hp]; rfl
theorem q_popg {m l : Mem} {a : Nat} {o : O} {d d2 : D} (ha : a < m.length) (ho : o.pl = true) (h : frzD (setM m a o ++ l) m.length d = some d2) : popR m (.ok d (setM m a o ++ l)) = .ok d2 (setM m a o) := by
  dsimp only [popR, setM] at h ⊢
  rw [popM_set m l a o ha (frzO_pl ho), h]
theorem pop_srcg {m X : Mem} {l l' : List D} {n : Nat} (Y : Mem) {d d2 : D} (hl : SrcL n l') (hf : frzD (m ++ .lst l' :: (X ++ Y)) (m.length + 1 + X.length) d = some d2) : popR (m ++ .lst l :: X) (.ok d (m ++ .lst l' :: (X ++ Y))) = .ok d2 (m ++ .lst l' :: X) := by
  have h := q_popg (m := m ++ .lst l :: X) (l := Y) (a := m.length) (o := .lst l') (d := d) (d2 := d2) (by simp) (src_pl hl) (by rw [q_s0, List.append_assoc]; simpa [Nat.add_assoc, Nat.add_comm, Nat.add_left_comm] using hf)
  rw [q_s0, List.append_assoc] at h
  exact h
theorem erase_perm : ∀ {l : List Nat} {r : Nat} (h : r < l.length), (l[r] :: l.eraseIdx r).Perm l
  | x :: l, 0, _ => List.Perm.refl _
  | x :: l, r + 1, h => by
    have h' : r < l.length := by simpa using h
    show (l[r] :: x :: l.eraseIdx r).Perm _
    exact (List.Perm.swap x l[r] _).trans ((erase_perm h').cons x)
/-! the law's own functions -/
theorem rev_r {m : Mem} {a : Nat} {ds : List D} {mt : Bool} (h : (m : List O)[a]? = some (.lst ds)) : revD mt (.ref a) m = mkL mt ds.reverse m := by
  show (match lstOf m (.ref a) with | some ds => mkL mt ds.reverse m | none => .bad) = _
  have e : lstOf m (.ref a) = some ds := by dsimp only [lstOf]; rw [h]
  rw [e]
theorem lword_ok {F F1 : Fm} {m : Mem} {v : Nat} {bg : Bool} (hv : v < 4294967296) : popR m (runB 4 (sv__law_word F F1) [nI v, .str (oS bg)] m) = .ok (.fl (ic (wb bg v))) m := by
  have e0 : D.int ((v : Int) / 1 % 256) = nI (v % 256) := by congr 1; omega
  have e1 : D.int ((v : Int) / 256 % 256) = nI (v / 256 % 256) := by congr 1
  have e2 : D.int ((v : Int) / 65536 % 256) = nI (v / 65536 % 256) := by congr 1
  have e3 : D.int ((v : Int) / 16777216 % 256) = nI (v / 16777216 % 256) := by congr 1
  unfold sv__law_word
  cases bg with
  | true =>
    (try walk_at "ev")
    rw [show rngL 0 (Int.toNat 4) = [.int 0, .int 1, .int 2, .int 3] from rfl]
    walk_at "el"
    rw [show oS true = [98, 105, 103] from rfl, eq_bl]
    (try walk_at "ev")
    rw [rev_r q_m0, q_mkF (by show (4 : Nat) ≤ 16777216; decide), e0, e1, e2, e3]
    (try walk_at "ev")
    exact q_pop (pls_ic (wb true v))
  | false =>
    (try walk_at "ev")
    rw [show rngL 0 (Int.toNat 4) = [.int 0, .int 1, .int 2, .int 3] from rfl]
    walk_at "el"
    rw [show oS false = [108, 105, 116, 116, 108, 101] from rfl, eq_ll, e0, e1, e2, e3]
    (try walk_at "ev")
    exact q_popr (pls_ic (wb false v))
theorem py0s_ints : ∀ c : List Int, py0s (c.map D.int) = some (c.map PyData.int)
  | [] => by simp [py0s]
  | n :: c => by
    rw [List.map_cons, List.map_cons, py0s, py0s_ints c]
    simp [py0]
theorem eq_rl {m : Mem} {a : Nat} {L : List Nat} {ng : Bool} (h : (m : List O)[a]? = some (.lst (ic L))) : opEq ng (.ref a) (.fl []) m = .ok (.bl (if ng then !decide (L = []) else decide (L = []))) m := by
  refine q_eqb (c := decide (L = [])) ?_
  have e1 : pyOf m (.ref a) = some (.list ((L.map fun (n : Nat) => (n : Int)).map PyData.int)) := by
    rw [pyOf, h]
    dsimp only
    rw [show ic L = (L.map fun (n : Nat) => (n : Int)).map D.int from map_nI L, py0s_ints]
    rfl
  have e2 : pyOf m (.fl []) = some (.list (([] : List Int).map PyData.int)) := by simp [pyOf, pyOfs]
  unfold eqM
  rw [e1, e2]
  dsimp only
  rw [shaped_l, shaped_l]
  simp only [Bool.and_self, if_true, PyData.eqv, eqv_ints]
  cases L <;> simp
theorem popI {m : Mem} {a r : Nat} {ds : List D} {d : D} (h : (m : List O)[a]? = some (.lst ds)) (hr : ds[r]? = some d) (hl : ds.length ≤ 1000) : mPop (.ref a) [.int (r : Nat)] m = .ok d (setM m a (.lst (ds.eraseIdx r))) := by
  have hlt := (List.getElem?_eq_some_iff.mp hr).1
  show (match (m : List O)[a]? with | some (.lst ds) => _ | _ => _) = _
  rw [h]
  dsimp only
  rw [show seqIndex? (r : Int) ds.length = some r by rw [seqIndex_of (by omega) (by omega)]; rfl]
  dsimp only
  rw [hr]
  dsimp only
  rw [if_pos (by have : (1000 : Int) < 2 ^ 62 := by decide
                 exact decide_eq_true ⟨by omega, by omega⟩)]
theorem ic_erase {L : List Nat} {r : Nat} : (ic L).eraseIdx r = ic (L.eraseIdx r) := by
  unfold ic
  induction L generalizing r with
  | nil => rfl
  | cons x L ih => cases r with
    | zero => rfl
    | succ r => rw [List.map_cons, List.eraseIdx_cons_succ, List.eraseIdx_cons_succ, List.map_cons, ih]
structure Sh where
  a : List Nat
  f : List Nat
  l : List D
/-- things in a drawn order -/
theorem shuf_ok {F F1 : Fm} (hd : DrawF (F 7)) {m : Mem} {n : Nat} {l : List D} {o : O} {L : List Nat} (hl : SrcL n l) (hn : n < 2 ^ 38) (hL : L.length ≤ 100) :
    ∃ (P : List Nat) (l' : List D), popR (m ++ [.lst l, o]) (runB 4 (sv__law_shuffled F F1) [.ref m.length, .fl (ic L)] (m ++ [.lst l, o])) = .ok (.fl (ic P)) (m ++ [.lst l', o]) ∧ P.Perm L ∧ SrcL (n + L.length) l' := by
  unfold sv__law_shuffled
  (try walk_at "ev")
  generalize hW : sWhile _ _ _ _ = r
  refine while_n hW (fun q : Sh => [some (.ref m.length), some (.fl (ic L)), some (.ref (m.length + 2)), some (.ref (m.length + 3))]) (fun q => m ++ [.lst q.l, o, .lst (ic q.a), .lst (ic q.f)]) (fun q => SrcL (n + q.f.length) q.l ∧ (q.a ++ q.f).Perm L ∧ q.a.length + q.f.length = L.length) (fun q => !decide (q.a = [])) (fun q => q.a.length) ⟨L, [], l⟩ rfl rfl ⟨hl, by rw [List.append_nil], rfl⟩ (Nat.lt_of_le_of_lt hL (by decide)) (fun q hi => ?_) (fun q hi hc => ?_) (fun q hr hi hc => ?_)
  · (try walk_at "ev")
    rw [eq_rl q_m2]
    (try walk_at "ev")
  · obtain ⟨h1, h2, h3⟩ := hi
    have hne : q.a ≠ [] := by
      intro e
      have hc : (!decide (q.a = [])) = true := hc
      rw [e] at hc
      exact absurd hc (by decide)
    have h0 : 0 < q.a.length := List.length_pos_iff.mpr hne
    have hla : (ic q.a).length = q.a.length := List.length_map ..
    (try walk_at "ev")
    rw [r_mt1 (q_tyr q_m3)]
    (try walk_at "ev")
    rw [q_lenr q_m2]
    (try walk_at "ev")
    obtain ⟨r, l1, e1, hr, hl1⟩ := draw_at hd (m := m) [o, .lst (ic q.a), .lst (ic q.f)] (many := (q.a.length : Int)) h1 (by omega) (by omega) (Int.lt_of_le_of_lt (b := 100) (by omega) (by decide))
    rw [e1]
    have hr' : r < q.a.length := by omega
    (try walk_at "ev")
    rw [popI (d := nI (q.a[r]'hr')) q_m2 (by rw [List.getElem?_map, List.getElem?_eq_getElem hr']; rfl) (by omega), q_s2, ic_erase]
    (try walk_at "ev")
    rw [q_app q_m3 (by rw [List.length_map]; omega), q_s3]
    (try walk_at "ev")
    refine ⟨⟨q.a.eraseIdx r, q.f ++ [q.a[r]'hr'], l1⟩, by first | rfl | trivial, by rw [ic_app]; rfl, ⟨by rw [List.length_append]; exact hl1, ?_, ?_⟩, ?_⟩
    · refine List.Perm.trans ?_ h2
      rw [← List.append_assoc]
      refine List.Perm.trans List.perm_append_comm ?_
      show (q.a[r] :: (q.a.eraseIdx r ++ q.f)).Perm _
      exact (erase_perm hr').append_right q.f
    · simp only [List.length_append, List.length_eraseIdx, hr', if_true, List.length_cons, List.length_nil]; omega
    · simp only [List.length_eraseIdx, hr', if_true]; omega
  · obtain ⟨h1, h2, h3⟩ := hi
    have hc : (!decide (q.a = [])) = false := hc
    have ha : q.a = [] := by
      by_cases z : q.a = []
      · exact z
      · rw [decide_eq_false z] at hc; cases hc
    rw [ha] at h2 h3
    rw [hr, ha]
    (try walk_at "ev")
    have hp : popR (m ++ [.lst l, o]) (.ok (.ref (m.length + 3)) (m ++ [.lst q.l, o, .lst (ic []), .lst (ic q.f)])) = .ok (.fl (ic q.f)) (m ++ [.lst q.l, o]) := by
      exact pop_srcg (X := [o]) [.lst (ic []), .lst (ic q.f)] h1 (frz_r q_m3 (by show m.length + 1 + 1 ≤ _; omega) (pls_ic _))
    exact ⟨q.f, q.l, hp, h2, by rw [show q.f.length = L.length by simpa using h3] at h1; exact h1⟩
end K37
set_option Elab.async false
set_option linter.all false
set_option maxRecDepth 100000
set_option maxHeartbeats 4000000
namespace K37
open PySem PySem.Spec PyProof.Rows L2 Itp Pg
local macro_rules | `(tactic| walk_at "ev") => `(tactic| simp (disch := first | assumption | omega | ((try simp only [List.length_cons, List.length_nil, List.length_append, List.length_map, List.length_take, List.length_drop, List.length_reverse, List.length_set, List.length_replicate]) <;> omega) | fail) only [r_var, r_c, r_bin, r_bin1, r_bin2, r_bin1x, r_bin2x, r_un, r_un1, r_a0, r_a1, r_a2, r_a3, r_a2x, r_a3x, r_cb, r_cb1, r_cb1x, r_call, r_call1, r_call1x, r_mt, r_mts, r_mtf, r_mtr0, r_mtr1, r_mtr2, r_mtd0, r_mt2, r_test, r_test1, r_test2, r_testx, r_bl, r_bl1, r_blx, r_av, r_av1, r_avt, r_avf, r_ov, r_ov1, r_ovt, r_ovf, r_nv, r_nv1, r_nv2, r_at, r_att, r_atf, r_ot, r_ott, r_otf, r_nt, r_nt1, r_if, r_ift, r_iff, r_ifx, r_tup, r_tup1, r_tupx, r_lst, r_lst1, r_ch, r_ch1, r_ch2, r_ch3, r_ch4, r_isi, r_isi1, r_isi2, r_bd0, r_bd1, r_bd2, r_rev, r_rev1, r_sl, r_sl1, r_sl2, r_sl3, r_it, r_it1, r_itt, r_itf, r_itsc, r_its, r_itr0, r_en, r_en1, r_opi, r_ent, r_enf, r_zip, r_zip1, r_zip2, r_zft, r_ztt, r_rng, r_rng1, r_rng2, r_rng3, r_lc, r_lc1, r_lc2, r_bc1, r_bc2, r_some, r_dnil, r_attr, r_attr1, r_attr2, r_opd, r_meth, r_meth1, r_meth2, r_meth3, r_meth4, r_make, r_make1, r_make2, r_newd, rs_nil, rs_seq, rs_sq1, rs_sq2, rs_sq3, rs_sq4, rs_sq5, rs_ret, rs_ret1, rs_retx, rs_retn, rs_brk, rs_cont, rs_drop, rs_drop1, rs_dropx, rs_asg, rs_asg1, rs_asgx, rs_ope, rs_par, rs_par1, rs_par2, rs_par3, rs_par31, rs_par32, rs_par33, rs_if, rs_ift, rs_iff, rs_ifx, rs_sub, rs_sub1, rs_sub2, rs_sub3, rs_opm, rs_sls, rs_sls1, rs_sls2, rs_sls3, rs_sls4, rs_att, rs_att2, rs_att3, rs_tas0, rs_tas1, rs_tas2, rs_tas3, rs_seta, rs_seta1, rs_seta2, rs_for, rs_for1, rs_body, rs_bodyn, rs_run, rs_end1, rs_end2, rs_end3, r_bnm, r_btu, r_bd00, r_bd01, r_obs, r_trn, r_trb, r_tri, r_trt, r_trf, r_tyn, r_tyb, r_tyi, r_tys, r_tyt, r_tyf, r_tysc, r_dt, r_df, r_eqF, r_eqT, r_eqbF, r_eqbT, r_seF, r_seT, r_isF, r_isT, r_find, r_neg, r_max, r_min, rs_kl1, rs_kl2, rs_kl3, rs_kl4, rs_kl5, r_strix, r_at0, r_at1, r_at2, r_at3, r_at4, r_at5, r_at6, r_at7, r_at8, r_at9, r_at10, r_at11, r_at12, r_all, r_any, r_all_true, rs_try, rs_try1, rs_try2, rs_try3, rs_tra, rs_tra1, rs_tra2, rs_tra3, rs_nox, rs_del1, rs_del2, rs_del3, rs_del4, rs_raise, rs_raise1, rs_raise0, rs_raiseZ, r_xf, r_isx, r_kix, r_kix1, q_atI, q_nok, q_nbad, q_m0, q_m1, q_m2, q_m3, q_s0, q_s1, q_s2, q_s3, q_ss, q_mkT, q_mkF, q_mkM, q_addi, q_adds, q_addt, q_addf, q_subi, q_muli, q_divi, q_modi, q_lt, q_le, q_gt, q_ge, q_ixt, q_ixf, q_ixsc, q_ixrm, q_lens, q_lent, q_lenf, q_lensc, q_lenrm, q_inti, q_intb, q_ord, q_tupt, q_tupf, q_tuprm, q_lstt, q_lstf, q_appm, q_extm, q_slfF, q_slfM, q_sltT, q_sls, nn1, List.isEmpty_nil, List.isEmpty_cons, nx1, nx2, List.map_cons, List.map_nil, List.length_cons, List.length_nil, List.replicate_succ, List.replicate_zero, List.cons_append, List.nil_append, List.append_nil, List.set_cons_succ, List.set_cons_zero, List.getElem?_cons_zero, List.getElem?_cons_succ, Nat.reduceSub, Nat.reduceAdd, List.length_append, List.length_map, List.append_assoc, Nat.zero_add, if_true, if_false, Bool.false_eq_true, Bool.not_true, Bool.not_false, isNonB, wipeE, List.any_cons, List.any_nil, isT, Bool.or_false, Bool.or_true, Bool.false_or, Bool.true_or])
local macro_rules | `(tactic| walk_at "el") => `(tactic| simp (disch := first | assumption | omega | ((try simp only [List.length_cons, List.length_nil, List.length_append, List.length_map, List.length_take, List.length_drop, List.length_reverse, List.length_set, List.length_replicate]) <;> omega) | fail) only [rs_lf0, rs_lf1, r_var, r_c, r_bin, r_bin1, r_bin2, r_bin1x, r_bin2x, r_un, r_un1, r_a0, r_a1, r_a2, r_a3, r_a2x, r_a3x, r_cb, r_cb1, r_cb1x, r_call, r_call1, r_call1x, r_mt, r_mts, r_mtf, r_mtr0, r_mtr1, r_mtr2, r_mtd0, r_mt2, r_test, r_test1, r_test2, r_testx, r_bl, r_bl1, r_blx, r_av, r_av1, r_avt, r_avf, r_ov, r_ov1, r_ovt, r_ovf, r_nv, r_nv1, r_nv2, r_at, r_att, r_atf, r_ot, r_ott, r_otf, r_nt, r_nt1, r_if, r_ift, r_iff, r_ifx, r_tup, r_tup1, r_tupx, r_lst, r_lst1, r_ch, r_ch1, r_ch2, r_ch3, r_ch4, r_isi, r_isi1, r_isi2, r_bd0, r_bd1, r_bd2, r_rev, r_rev1, r_sl, r_sl1, r_sl2, r_sl3, r_it, r_it1, r_itt, r_itf, r_itsc, r_its, r_itr0, r_en, r_en1, r_opi, r_ent, r_enf, r_zip, r_zip1, r_zip2, r_zft, r_ztt, r_rng, r_rng1, r_rng2, r_rng3, r_lc, r_lc1, r_lc2, r_bc1, r_bc2, r_some, r_dnil, r_attr, r_attr1, r_attr2, r_opd, r_meth, r_meth1, r_meth2, r_meth3, r_meth4, r_make, r_make1, r_make2, r_newd, rs_nil, rs_seq, rs_sq1, rs_sq2, rs_sq3, rs_sq4, rs_sq5, rs_ret, rs_ret1, rs_retx, rs_retn, rs_brk, rs_cont, rs_drop, rs_drop1, rs_dropx, rs_asg, rs_asg1, rs_asgx, rs_ope, rs_par, rs_par1, rs_par2, rs_par3, rs_par31, rs_par32, rs_par33, rs_if, rs_ift, rs_iff, rs_ifx, rs_sub, rs_sub1, rs_sub2, rs_sub3, rs_opm, rs_sls, rs_sls1, rs_sls2, rs_sls3, rs_sls4, rs_att, rs_att2, rs_att3, rs_tas0, rs_tas1, rs_tas2, rs_tas3, rs_seta, rs_seta1, rs_seta2, rs_for, rs_for1, rs_body, rs_bodyn, rs_run, rs_end1, rs_end2, rs_end3, r_bnm, r_btu, r_bd00, r_bd01, r_obs, r_trn, r_trb, r_tri, r_trt, r_trf, r_tyn, r_tyb, r_tyi, r_tys, r_tyt, r_tyf, r_tysc, r_dt, r_df, r_eqF, r_eqT, r_eqbF, r_eqbT, r_seF, r_seT, r_isF, r_isT, r_find, r_neg, r_max, r_min, rs_kl1, rs_kl2, rs_kl3, rs_kl4, rs_kl5, r_strix, r_at0, r_at1, r_at2, r_at3, r_at4, r_at5, r_at6, r_at7, r_at8, r_at9, r_at10, r_at11, r_at12, r_all, r_any, r_all_true, rs_try, rs_try1, rs_try2, rs_try3, rs_tra, rs_tra1, rs_tra2, rs_tra3, rs_nox, rs_del1, rs_del2, rs_del3, rs_del4, rs_raise, rs_raise1, rs_raise0, rs_raiseZ, r_xf, r_isx, r_kix, r_kix1, q_atI, q_nok, q_nbad, q_m0, q_m1, q_m2, q_m3, q_s0, q_s1, q_s2, q_s3, q_ss, q_mkT, q_mkF, q_mkM, q_addi, q_adds, q_addt, q_addf, q_subi, q_muli, q_divi, q_modi, q_lt, q_le, q_gt, q_ge, q_ixt, q_ixf, q_ixsc, q_ixrm, q_lens, q_lent, q_lenf, q_lensc, q_lenrm, q_inti, q_intb, q_ord, q_tupt, q_tupf, q_tuprm, q_lstt, q_lstf, q_appm, q_extm, q_slfF, q_slfM, q_sltT, q_sls, nn1, List.isEmpty_nil, List.isEmpty_cons, nx1, nx2, List.map_cons, List.map_nil, List.length_cons, List.length_nil, List.replicate_succ, List.replicate_zero, List.cons_append, List.nil_append, List.append_nil, List.set_cons_succ, List.set_cons_zero, List.getElem?_cons_zero, List.getElem?_cons_succ, Nat.reduceSub, Nat.reduceAdd, List.length_append, List.length_map, List.append_assoc, Nat.zero_add, if_true, if_false, Bool.false_eq_true, Bool.not_true, Bool.not_false, isNonB, wipeE, List.any_cons, List.any_nil, isT, Bool.or_false, Bool.or_true, Bool.false_or, Bool.true_or])
local macro_rules | `(tactic| walk_at "ex") => `(tactic| simp (disch := first | assumption | omega | ((try simp only [List.length_cons, List.length_nil, List.length_append, List.length_map, List.length_take, List.length_drop, List.length_reverse, List.length_set, List.length_replicate]) <;> omega) | fail) only [r_var, r_c, r_bin, r_bin1, r_bin2, r_bin1x, r_bin2x, r_un, r_un1, r_a0, r_a1, r_a2, r_a3, r_a2x, r_a3x, r_cb, r_cb1, r_cb1x, r_call, r_call1, r_call1x, r_mt, r_mts, r_mtf, r_mtr0, r_mtr1, r_mtr2, r_mtd0, r_mt2, r_test, r_test1, r_test2, r_testx, r_bl, r_bl1, r_blx, r_av, r_av1, r_avt, r_avf, r_ov, r_ov1, r_ovt, r_ovf, r_nv, r_nv1, r_nv2, r_at, r_att, r_atf, r_ot, r_ott, r_otf, r_nt, r_nt1, r_if, r_ift, r_iff, r_ifx, r_tup, r_tup1, r_tupx, r_lst, r_lst1, r_ch, r_ch1, r_ch2, r_ch3, r_ch4, r_isi, r_isi1, r_isi2, r_bd0, r_bd1, r_bd2, r_rev, r_rev1, r_sl, r_sl1, r_sl2, r_sl3, r_it, r_it1, r_itt, r_itf, r_itsc, r_its, r_itr0, r_en, r_en1, r_opi, r_ent, r_enf, r_zip, r_zip1, r_zip2, r_zft, r_ztt, r_rng, r_rng1, r_rng2, r_rng3, r_lc, r_lc1, r_lc2, r_bc1, r_bc2, r_some, r_dnil, r_attr, r_attr1, r_attr2, r_opd, r_meth, r_meth1, r_meth2, r_meth3, r_meth4, r_make, r_make1, r_make2, r_newd, rs_nil, rs_seq, rs_sq1, rs_sq2, rs_sq3, rs_sq4, rs_sq5, rs_ret, rs_ret1, rs_retx, rs_retn, rs_brk, rs_cont, rs_drop, rs_drop1, rs_dropx, rs_asg, rs_asg1, rs_asgx, rs_ope, rs_par, rs_par1, rs_par2, rs_par3, rs_par31, rs_par32, rs_par33, rs_if, rs_ift, rs_iff, rs_ifx, rs_sub, rs_sub1, rs_sub2, rs_sub3, rs_opm, rs_sls, rs_sls1, rs_sls2, rs_sls3, rs_sls4, rs_att, rs_att2, rs_att3, rs_tas0, rs_tas1, rs_tas2, rs_tas3, rs_seta, rs_seta1, rs_seta2, rs_for, rs_for1, rs_body, rs_bodyn, rs_run, rs_end1, rs_end2, rs_end3, r_bnm, r_btu, r_bd00, r_bd01, r_obs, r_trn, r_trb, r_tri, r_trt, r_trf, r_tyn, r_tyb, r_tyi, r_tys, r_tyt, r_tyf, r_tysc, r_dt, r_df, r_eqF, r_eqT, r_eqbF, r_eqbT, r_seF, r_seT, r_isF, r_isT, r_find, r_neg, r_max, r_min, rs_kl1, rs_kl2, rs_kl3, rs_kl4, rs_kl5, r_strix, r_at0, r_at1, r_at2, r_at3, r_at4, r_at5, r_at6, r_at7, r_at8, r_at9, r_at10, r_at11, r_at12, r_all, r_any, r_all_true, rs_try, rs_try1, rs_try2, rs_try3, rs_tra, rs_tra1, rs_tra2, rs_tra3, rs_nox, rs_del1, rs_del2, rs_del3, rs_del4, rs_raise, rs_raise1, rs_raise0, rs_raiseZ, r_xf, r_isx, r_kix, r_kix1, q_atI, q_nok, q_nbad, q_m0, q_m1, q_m2, q_m3, q_s0, q_s1, q_s2, q_s3, q_ss, q_mkT, q_mkF, q_mkM, q_addi, q_adds, q_addt, q_addf, q_subi, q_muli, q_divi, q_modi, q_lt, q_le, q_gt, q_ge, q_ixt, q_ixf, q_ixsc, q_ixrm, q_lens, q_lent, q_lenf, q_lensc, q_lenrm, q_inti, q_intb, q_ord, q_tupt, q_tupf, q_tuprm, q_lstt, q_lstf, q_appm, q_extm, q_slfF, q_slfM, q_sltT, q_sls, nn1, List.isEmpty_nil, List.isEmpty_cons, nx1, nx2, List.map_cons, List.map_nil, List.length_cons, List.length_nil, List.replicate_succ, List.replicate_zero, List.cons_append, List.nil_append, List.append_nil, List.set_cons_succ, List.set_cons_zero, List.getElem?_cons_zero, List.getElem?_cons_succ, Nat.reduceSub, Nat.reduceAdd, List.length_append, List.length_map, List.append_assoc, Nat.zero_add, if_true, if_false, Bool.false_eq_true, Bool.not_true, Bool.not_false, isNonB, wipeE, List.any_cons, List.any_nil, isT, Bool.or_false, Bool.or_true, Bool.false_or, Bool.true_or, *])
def ShufF (c : Fn) : Prop := ∀ (m : Mem) (n : Nat) (l : List D) (o : O) (L : List Nat), SrcL n l → n < 2 ^ 38 → L.length ≤ 100 → ∃ (P : List Nat) (l' : List D), c [.ref m.length, .fl (ic L)] (m ++ [.lst l, o]) = .ok (.fl (ic P)) (m ++ [.lst l', o]) ∧ P.Perm L ∧ SrcL (n + L.length) l'
structure Bl (many P0 P1 size : Nat) : Prop where
  a0 : 28 ≤ P0
  a1 : 28 ≤ P1
  b0 : P0 + 8 * many ≤ size
  b1 : P1 + 8 * many ≤ size
  s : size ≤ 210
  d : P0 = P1 ∨ P0 + 8 * many ≤ P1 ∨ P1 + 8 * many ≤ P0
structure Bs where
  P : Nat → Nat
  t : Nat
  l : List D
  x : Option D
def szB (many c : Nat) (j : Nat) : Nat := if j = 2 then c else 8 * many
structure Bi (n many c : Nat) (p : List Nat) (i : Nat) (q : Bs) : Prop where
  s : SrcL (n + i) q.l
  t0 : 28 ≤ q.t
  t1 : q.t ≤ 28 + i * 59
  b : ∀ j ∈ p.take i, 28 ≤ q.P j ∧ q.P j + szB many c j ≤ q.t
  d : ∀ j ∈ p.take i, ∀ k ∈ p.take i, j ≠ k → q.P j + szB many c j ≤ q.P k ∨ q.P k + szB many c k ≤ q.P j
theorem frz_t2 {M : Mem} {n : Nat} {a b a' b' : D} (h1 : frzD M n a = some a') (h2 : frzD M n b = some b') : frzD M n (.tup [a, b]) = some (.tup [a', b']) := by
  unfold frzD at h1 h2 ⊢
  simp only [D.mapR, D.mapRs, h1, h2, Option.map_some]
theorem bi_step {n many c : Nat} {p : List Nat} {i : Nat} {q : Bs} {x r : Nat} {l' : List D} {y : Option D} (hi : Bi n many c p i q) (hx : p[i]? = some x) (hnd : p.Nodup) (hr : r < 4) (hc : c < 30) (hm : many < 8) (hl' : SrcL (n + i + 1) l') :
    Bi n many c p (i + 1) ⟨fun j => if j = x then q.t + r else q.P j, q.t + r + szB many c x, l', y⟩ := by
  have hz : szB many c x ≤ 56 := by unfold szB; split <;> omega
  have ht : p.take (i + 1) = p.take i ++ [x] := by rw [List.take_succ, hx]; rfl
  have hni : x ∉ p.take i := by
    have h1 : (p.take (i + 1)).Nodup := hnd.sublist (List.take_sublist _ _)
    rw [ht, List.nodup_append] at h1
    exact fun h => h1.2.2 x h x (List.mem_singleton_self x) rfl
  have t1 := hi.t1
  have t0 := hi.t0
  refine ⟨hl', by show 28 ≤ q.t + r + _; omega, by show q.t + r + _ ≤ 28 + (i + 1) * 59; omega, fun j hj => ?_, fun j hj k hk hjk => ?_⟩
  · rw [ht] at hj
    show 28 ≤ (if j = x then q.t + r else q.P j) ∧ (if j = x then q.t + r else q.P j) + szB many c j ≤ q.t + r + szB many c x
    rcases List.mem_append.mp hj with h | h
    · have hne : j ≠ x := fun e => hni (e ▸ h)
      rw [if_neg hne]
      have := hi.b j h
      exact ⟨this.1, by omega⟩
    · rw [List.mem_singleton.mp h, if_pos rfl]
      exact ⟨by omega, Nat.le_refl _⟩
  · rw [ht] at hj hk
    show (if j = x then q.t + r else q.P j) + szB many c j ≤ (if k = x then q.t + r else q.P k) ∨ (if k = x then q.t + r else q.P k) + szB many c k ≤ (if j = x then q.t + r else q.P j)
    rcases List.mem_append.mp hj with h | h
    · have hne : j ≠ x := fun e => hni (e ▸ h)
      rw [if_neg hne]
      rcases List.mem_append.mp hk with h' | h'
      · have hne' : k ≠ x := fun e => hni (e ▸ h')
        rw [if_neg hne']
        exact hi.d j h k h' hjk
      · rw [List.mem_singleton.mp h', if_pos rfl]
        have := hi.b j h
        left; omega
    · rw [List.mem_singleton.mp h, if_pos rfl]
      rcases List.mem_append.mp hk with h' | h'
      · have hne' : k ≠ x := fun e => hni (e ▸ h')
        rw [if_neg hne']
        have := hi.b k h'
        right; omega
      · exact absurd ((List.mem_singleton.mp h).trans (List.mem_singleton.mp h').symm) hjk
theorem blocks_ok {F F1 : Fm} (hd : DrawF (F 7)) (hs : ShufF (F 9)) {m : Mem} {n : Nat} {l : List D} {many : Nat} (hl : SrcL n l) (hn : n < 2 ^ 37) (hm : many < 8) :
    ∃ (P0 P1 P2 size : Nat) (l' : List D), popR (m ++ [.lst l]) (runB 6 (sv__law_blocks F F1) [.ref m.length, nI many] (m ++ [.lst l])) = .ok (.tup [.fl [nI P0, nI P1, nI P2], nI size]) (m ++ [.lst l']) ∧ Bl many P0 P1 size ∧ SrcL (n + 10) l' := by
  obtain ⟨c, l1, e1, hc, hl1⟩ := draw_at hd (m := m) [] (many := 30) hl (by omega) (by decide) (by decide)
  unfold sv__law_blocks
  (try walk_at "ev")
  rw [e1]
  (try walk_at "ev")
  obtain ⟨p, l2, e2, hp, hl2⟩ := hs m (n + 1) l1 (.lst [.int 0, .int 0, .int 0]) [0, 1, 2] hl1 (by omega) (by decide)
  rw [show (D.fl [.int 0, .int 1, .int 2]) = .fl (ic [0, 1, 2]) from rfl, e2]
  (try walk_at "ev")
  generalize hL : loopF gT (bodyF _ _) _ _ _ = r
  have hp3 : p.length = 3 := hp.length_eq
  have hnd : p.Nodup := hp.nodup_iff.mpr (by decide)
  have hm3 : ∀ x ∈ p, x < 3 := fun x hx => by
    have := hp.mem_iff.mp hx
    simp at this; omega
  refine for_nN hL (fun q : Bs => [some (.ref m.length), some (nI many), some (.fl [.int (8 * (many : Int)), .int (8 * (many : Int)), nI c]), some (.ref (m.length + 1)), some (nI q.t), q.x]) (fun q => m ++ [.lst q.l, .lst [nI (q.P 0), nI (q.P 1), nI (q.P 2)]]) (Bi (n + 4) many c p) ⟨fun _ => 0, 28, l2, none⟩ rfl rfl (fun _ _ _ => rfl)
    ⟨hl2, Nat.le_refl _, Nat.le_refl _, fun j hj => by simp at hj, fun j hj => by simp at hj⟩ (fun i q x hx hi => ?_) (fun q hr hi => ?_)
  · have hxm : x < 3 := hm3 x (List.mem_of_getElem? hx)
    have hi3 : i < 3 := by rw [← hp3]; exact (List.getElem?_eq_some_iff.mp hx).1
    have t1 := hi.t1
    obtain ⟨r5, l4, e5, hr5, hl4⟩ := draw_at hd (m := m) [.lst [nI (q.P 0), nI (q.P 1), nI (q.P 2)]] (many := 4) hi.s (by omega) (by decide) (by decide)
    have st := fun y => bi_step (y := y) hi hx hnd (show r5 < 4 by omega) (show c < 30 by omega) hm (show SrcL (n + 4 + i + 1) l4 from hl4)
    rcases (show x = 0 ∨ x = 1 ∨ x = 2 by omega) with rfl | rfl | rfl
    · (try walk_at "ev")
      rw [e5]
      (try walk_at "ev")
      rw [setIx_l (j := 0) q_m1 rfl, q_s1]
      (try walk_at "ev")
      exact ⟨_, rfl, rfl, st (some (nI 0))⟩
    · (try walk_at "ev")
      rw [e5]
      (try walk_at "ev")
      rw [setIx_l (j := 1) q_m1 rfl, q_s1]
      (try walk_at "ev")
      exact ⟨_, rfl, rfl, st (some (nI 1))⟩
    · (try walk_at "ev")
      rw [e5]
      (try walk_at "ev")
      rw [setIx_l (j := 2) q_m1 rfl, q_s1]
      (try walk_at "ev")
      exact ⟨_, rfl, rfl, st (some (nI 2))⟩
  · obtain ⟨x5, hx5⟩ : ∃ z, q.x = z := ⟨_, rfl⟩
    have hs' := hi.s
    have hpt : p.take p.length = p := List.take_length
    have m0 : 0 ∈ p := hp.mem_iff.mpr (by decide)
    have m1 : 1 ∈ p := hp.mem_iff.mpr (by decide)
    have b0 := hi.b 0 (by rw [hpt]; exact m0)
    have b1 := hi.b 1 (by rw [hpt]; exact m1)
    have d01 := hi.d 0 (by rw [hpt]; exact m0) 1 (by rw [hpt]; exact m1) (by decide)
    have t1 := hi.t1
    rw [hp3] at t1 hs'
    rw [show szB many c 0 = 8 * many from rfl] at b0 d01
    rw [show szB many c 1 = 8 * many from rfl] at b1 d01
    obtain ⟨r6, l6, e6, hr6, hl6⟩ := draw_at hd (m := m) [.lst [nI (q.P 0), nI (q.P 1), nI (q.P 2)]] (many := 5) hs' (by omega) (by decide) (by decide)
    rw [hr]
    (try walk_at "ev")
    rw [e6]
    (try walk_at "ev")
    by_cases z : r6 = 0
    · subst z
      (try walk_at "ev")
      rw [q_ixr q_m1, show L2.atI [nI (q.P 0), nI (q.P 1), nI (q.P 2)] 0 = some (nI (q.P 0)) from rfl]
      (try walk_at "ev")
      rw [setIx_l (j := 1) q_m1 rfl, q_s1]
      (try walk_at "ev")
      exact ⟨q.P 0, q.P 0, q.P 2, q.t, l6, pop_srcg (X := []) [.lst [nI (q.P 0), nI (q.P 0), nI (q.P 2)]] hl6 (frz_t2 (frz_r q_m1 (Nat.le_refl _) rfl) rfl), ⟨b0.1, b0.1, b0.2, b0.2, by omega, .inl rfl⟩, hl6.mono (by omega)⟩
    · (try walk_at "ev")
      exact ⟨q.P 0, q.P 1, q.P 2, q.t, l6, pop_srcg (X := []) [.lst [nI (q.P 0), nI (q.P 1), nI (q.P 2)]] hl6 (frz_t2 (frz_r q_m1 (Nat.le_refl _) rfl) rfl), ⟨b0.1, b1.1, b0.2, b1.2, by omega, .inr d01⟩, hl6.mono (by omega)⟩
/-! a place written -/
def spl (L : List Nat) (p : Nat) (B : List Nat) : List Nat := L.take p ++ B ++ L.drop (p + 4)
theorem spl_len {L B : List Nat} {p : Nat} (hB : B.length = 4) (h : p + 4 ≤ L.length) : (spl L p B).length = L.length := by
  unfold spl; simp only [List.length_append, List.length_take, List.length_drop, hB]; omega
theorem spl_get {L B : List Nat} {p : Nat} (hB : B.length = 4) (h : p + 4 ≤ L.length) (j : Nat) : (spl L p B)[j]? = if j < p then L[j]? else if j < p + 4 then B[j - p]? else L[j]? := by
  unfold spl
  have h1 : (L.take p).length = p := by rw [List.length_take]; omega
  by_cases c1 : j < p
  · rw [if_pos c1, List.append_assoc, List.getElem?_append_left (by omega), List.getElem?_take_of_lt c1]
  · rw [if_neg c1, List.append_assoc, List.getElem?_append_right (by omega), h1]
    by_cases c2 : j < p + 4
    · rw [if_pos c2, List.getElem?_append_left (by omega)]
    · rw [if_neg c2, List.getElem?_append_right (by omega), hB, List.getElem?_drop]
      congr 1; omega
theorem t4_get (L : List Nat) (q i : Nat) : ((L.drop q).take 4)[i]? = if i < 4 then L[q + i]? else none := by
  rw [List.getElem?_take]
  split
  · rw [List.getElem?_drop]
  · rfl
theorem spl_same {L B : List Nat} {p : Nat} (hB : B.length = 4) (h : p + 4 ≤ L.length) : ((spl L p B).drop p).take 4 = B := by
  apply List.ext_getElem?
  intro i
  rw [t4_get]
  by_cases c : i < 4
  · rw [if_pos c, spl_get hB h, if_neg (by omega), if_pos (by omega), show p + i - p = i by omega]
  · rw [if_neg c, List.getElem?_eq_none (by omega)]
theorem spl_other {L B : List Nat} {p q : Nat} (hB : B.length = 4) (h : p + 4 ≤ L.length) (hq : q + 4 ≤ p ∨ p + 4 ≤ q) : ((spl L p B).drop q).take 4 = (L.drop q).take 4 := by
  apply List.ext_getElem?
  intro i
  rw [t4_get, t4_get]
  by_cases c : i < 4
  · rw [if_pos c, if_pos c, spl_get hB h]
    rcases hq with hq | hq
    · rw [if_pos (by omega)]
    · rw [if_neg (by omega), if_neg (by omega)]
  · rw [if_neg c, if_neg c]
theorem setSl_ok {m : Mem} {a p : Nat} {L B : List Nat} (h : (m : List O)[a]? = some (.lst (ic L))) (hB : B.length = 4) (hp : p + 4 ≤ L.length) (hl : L.length ≤ 1000) :
    setSl (.ref a) (some (p : Int)) (some ((p : Int) + 4)) (.fl (ic B)) m = some (setM m a (.lst (ic (spl L p B)))) := by
  show (match (m : List O)[a]? with | some (.lst ds) => setSl0 a ds p ((p : Int) + 4) (ic B) m | _ => none) = _
  rw [h]
  dsimp only
  unfold setSl0
  rw [if_pos ⟨by omega, by omega, by rw [List.length_map]; omega, by rw [List.length_map, List.length_map, hB]; exact Nat.le_trans (show L.length + 4 ≤ 2000 by omega) (by decide)⟩]
  congr 3
  unfold spl ic
  rw [List.map_append, List.map_append, List.map_take, List.map_drop, show ((p : Int) + 4).toNat = p + 4 by omega, Int.toNat_natCast]
/-! the words of a file -/
abbrev pW (z : Nat × Nat) : D := .tup [nI z.1, nI z.2]
structure Wok (W : List (Nat × Nat)) (size : Nat) : Prop where
  b : ∀ z ∈ W, z.1 + 4 ≤ size ∧ z.2 < 4294967296
  d : ∀ z ∈ W, ∀ y ∈ W, z.1 = y.1 ∨ z.1 + 4 ≤ y.1 ∨ y.1 + 4 ≤ z.1
def Wrt (bg : Bool) (W : List (Nat × Nat)) (L : List Nat) : Prop := ∀ p v, W.reverse.lookup p = some v → (L.drop p).take 4 = wb bg v
theorem wrt_step {bg : Bool} {W : List (Nat × Nat)} {L : List Nat} {z : Nat × Nat} {size : Nat} (h : Wrt bg W L) (hL : L.length = size) (ok : Wok (W ++ [z]) size) : Wrt bg (W ++ [z]) (spl L z.1 (wb bg z.2)) := by
  intro p v e
  have hz := ok.b z (by simp)
  rw [List.reverse_append, List.reverse_singleton, List.singleton_append] at e
  by_cases c : p = z.1
  · subst c
    rw [List.lookup_cons_self] at e
    cases e
    exact spl_same wb_len (by omega)
  · rw [show List.lookup p (z :: W.reverse) = W.reverse.lookup p by
      obtain ⟨a, b⟩ := z
      rw [List.lookup_cons, show (p == a) = false from beq_eq_false_iff_ne.mpr c]] at e
    have hm : (p, v) ∈ W := List.mem_reverse.mp (mem_look e)
    have hd := ok.d (p, v) (List.mem_append_left _ hm) z (by simp)
    rw [spl_other wb_len (by omega) (by
      rcases hd with hd | hd | hd
      · exact absurd hd c
      · exact .inl hd
      · exact .inr hd)]
    exact h p v e
def LWordF (c : Fn) : Prop := ∀ (m : Mem) (v : Nat) (bg : Bool), v < 4294967296 → c [nI v, .str (oS bg)] m = .ok (.fl (ic (wb bg v))) m
structure Ws where
  L : List Nat
  x : Option D
  y : Option D
theorem wr_loop {c : Fn} (hw : LWordF c) {m Y : Mem} {l : List D} {bg : Bool} {size : Nat} {W : List (Nat × Nat)} {L : List Nat} (ok : Wok W size) (hL : L.length = size) (hs : size ≤ 300) {x0 x2 x3 x4 x6 x7 x8 x9 x10 x11 x12 x13 x14 x15 : Option D} :
    ∃ (L' : List Nat) (y13 y14 : Option D), loopF gT (bodyF (.tup [(.nm 13), (.nm 14)]) (sSlS (dCall c [(dVar 14), (dVar 1)]) (dVar 5) (some (dVar 13)) (some (dBin (opAdd false) (dVar 13) (dC (.int 4)))))) (W.map pW) [x0, some (.str (oS bg)), x2, x3, x4, some (.ref (m.length + 1)), x6, x7, x8, x9, x10, x11, x12, x13, x14, x15] (m ++ .lst l :: .lst (ic L) :: Y) = .ok .nx [x0, some (.str (oS bg)), x2, x3, x4, some (.ref (m.length + 1)), x6, x7, x8, x9, x10, x11, x12, y13, y14, x15] (m ++ .lst l :: .lst (ic L') :: Y) ∧ L'.length = size ∧ Wrt bg W L' := by
  generalize hr : loopF gT (bodyF _ _) _ _ _ = r
  refine for_nN hr (fun q : Ws => [x0, some (.str (oS bg)), x2, x3, x4, some (.ref (m.length + 1)), x6, x7, x8, x9, x10, x11, x12, q.x, q.y, x15]) (fun q => m ++ .lst l :: .lst (ic q.L) :: Y) (fun i q => q.L.length = size ∧ Wrt bg (W.take i) q.L) ⟨L, x13, x14⟩ rfl rfl (fun _ _ _ => rfl) ⟨hL, fun p v e => by cases e⟩ (fun i q z hz hi => ?_) (fun q hq hi => ?_)
  · obtain ⟨h1, h2⟩ := hi
    have hzm : z ∈ W := List.mem_of_getElem? hz
    have hb := ok.b z hzm
    have ht : W.take (i + 1) = W.take i ++ [z] := by rw [List.take_succ, hz]; rfl
    have ok' : Wok (W.take i ++ [z]) size := by
      rw [← ht]
      exact ⟨fun y hy => ok.b y (List.mem_of_mem_take hy), fun y hy w hw => ok.d y (List.mem_of_mem_take hy) w (List.mem_of_mem_take hw)⟩
    have st := wrt_step h2 h1 ok'
    rw [show pW z = .tup [nI z.1, nI z.2] from rfl]
    unfold bodyF
    rw [show bindD (.tup [.nm 13, .nm 14]) (.tup [nI z.1, nI z.2]) [x0, some (.str (oS bg)), x2, x3, x4, some (.ref (m.length + 1)), x6, x7, x8, x9, x10, x11, x12, q.x, q.y, x15] = some [x0, some (.str (oS bg)), x2, x3, x4, some (.ref (m.length + 1)), x6, x7, x8, x9, x10, x11, x12, some (nI z.1), some (nI z.2), x15] from rfl]
    dsimp only
    (try walk_at "ev")
    rw [hw _ z.2 bg hb.2]
    (try walk_at "ev")
    rw [setSl_ok q_m1 wb_len (by omega) (by omega), q_s1]
    (try walk_at "ev")
    exact ⟨⟨spl q.L z.1 (wb bg z.2), some (nI z.1), some (nI z.2)⟩, rfl, rfl, by rw [spl_len wb_len (by omega)]; exact h1, by rw [ht]; exact st⟩
  · rw [List.take_length] at hi
    exact ⟨q.L, q.x, q.y, hq, hi.1, hi.2⟩
/-! the tables -/
def tabW (T : Nat) (b : Nat → Nat × Nat) (n : Nat) : List (Nat × Nat) := (List.range n).flatMap fun k => [(T + 8 * k, (b k).2), (T + 8 * k + 4, (b k).1)]
theorem tabW_succ {T n : Nat} {b : Nat → Nat × Nat} : tabW T b (n + 1) = tabW T b n ++ [(T + 8 * n, (b n).2), (T + 8 * n + 4, (b n).1)] := by
  unfold tabW; rw [List.range_succ, List.flatMap_append]; rfl
theorem tabW_congr {T n : Nat} {b b' : Nat → Nat × Nat} (h : ∀ k, k < n → b k = b' k) : tabW T b n = tabW T b' n := by
  induction n with
  | zero => rfl
  | succ n ih => rw [tabW_succ, tabW_succ, ih fun k hk => h k (by omega), h n (by omega)]
theorem tabW_len {T n : Nat} {b : Nat → Nat × Nat} : (tabW T b n).length = 2 * n := by
  induction n with
  | zero => rfl
  | succ n ih => rw [tabW_succ, List.length_append, ih]; rfl
structure Is where
  b : Nat → Nat × Nat
  W : List (Nat × Nat)
  S : List (Nat × Nat)
  l : List D
  x : Option D
  y : Option D
  z : Option D
structure Ii (n T size : Nat) (W0 S0 : List (Nat × Nat)) (i : Nat) (q : Is) : Prop where
  s : SrcL (n + 2 * i) q.l
  w : q.W = W0 ++ tabW T q.b i
  sp : q.S = S0 ++ (List.range i).map q.b
  b : ∀ k, k < i → (q.b k).1 + (q.b k).2 < size
theorem tab_loop {c : Fn} (hd : DrawF c) {m : Mem} {n : Nat} {l : List D} {T size many : Nat} {W0 S0 : List (Nat × Nat)} {D0 : List D} (hl : SrcL n l) (hn : n < 2 ^ 38) (hm : many < 8) (hs : size ≤ 300) (h0 : 0 < size) (hW : W0.length ≤ 100) (hS : S0.length ≤ 100) (hT : T ≤ 300) {x1 x3 x6 x10 x11 x12 x13 x14 x15 : Option D} :
    ∃ (b : Nat → Nat × Nat) (l' : List D) (y10 y11 y12 : Option D), (∀ k, k < many → (b k).1 + (b k).2 < size) ∧ SrcL (n + 2 * many) l' ∧
      sFor (dRng [(dVar 2)]) (.nm 10) (sSeq (sAsg (.nm 11) (dCall c [(dVar 0), (dVar 4)]))
    (sSeq (sAsg (.nm 12) (dCall c [(dVar 0), (dCB bMin [(dC (.int 14)), (dBin opSub (dVar 4) (dVar 11))])]))
    (sSeq (sAsg (.nm 7) (dBin (opAdd false) (dVar 7) (dLst false [(dTup [(dBin (opAdd false) (dVar 9) (dBin (opMul false) (dC (.int 8)) (dVar 10))), (dVar 12)]), (dTup [(dBin (opAdd false) (dBin (opAdd false) (dVar 9) (dBin (opMul false) (dC (.int 8)) (dVar 10))) (dC (.int 4))), (dVar 11)])])))
    (sDrop (dMt "list" mAppend (dVar 8) [(dTup [(dVar 11), (dVar 12)])])))))
      [some (.ref m.length), x1, some (nI many), x3, some (nI size), some (.ref (m.length + 1)), x6, some (.fl (W0.map pW)), some (.ref (m.length + 2)), some (nI T), x10, x11, x12, x13, x14, x15] (m ++ [.lst l, .lst D0, .lst (S0.map pW)])
      = .ok .nx [some (.ref m.length), x1, some (nI many), x3, some (nI size), some (.ref (m.length + 1)), x6, some (.fl ((W0 ++ tabW T b many).map pW)), some (.ref (m.length + 2)), some (nI T), y10, y11, y12, x13, x14, x15] (m ++ [.lst l', .lst D0, .lst ((S0 ++ (List.range many).map b).map pW)]) := by
  (try walk_at "ev")
  rw [show ((many : Nat) : Int).toNat = many from Int.toNat_natCast many]
  generalize hr : loopF gT (bodyF _ _) _ _ _ = r
  refine for_nR hr (fun q : Is => [some (.ref m.length), x1, some (nI many), x3, some (nI size), some (.ref (m.length + 1)), x6, some (.fl (q.W.map pW)), some (.ref (m.length + 2)), some (nI T), q.x, q.y, q.z, x13, x14, x15]) (fun q => m ++ [.lst q.l, .lst D0, .lst (q.S.map pW)]) (Ii n T size W0 S0) ⟨fun _ => (0, 0), W0, S0, l, x10, x11, x12⟩ rfl rfl (fun _ _ _ => rfl) ⟨hl, by rw [show tabW T (fun _ => (0, 0)) 0 = [] from rfl, List.append_nil], by rw [show (List.range 0).map (fun _ => ((0, 0) : Nat × Nat)) = [] from rfl, List.append_nil], fun k hk => by omega⟩ (fun i q hi h => ?_) (fun q hq h => ?_)
  · obtain ⟨r1, l1, e1, hr1, hl1⟩ := draw_at hd (m := m) [.lst D0, .lst (q.S.map pW)] (many := (size : Int)) h.s (by omega) (by omega) (Int.lt_of_le_of_lt (b := 300) (by omega) (by decide))
    (try walk_at "ev")
    rw [e1]
    (try walk_at "ev")
    generalize hmn : (if (size : Int) - (r1 : Int) < 14 then (size : Int) - (r1 : Int) else 14) = mn
    have hmn2 : 0 < mn ∧ mn ≤ size - r1 ∧ mn ≤ 14 := by subst hmn; split <;> omega
    obtain ⟨r2, l2, e2, hr2, hl2⟩ := draw_at hd (m := m) [.lst D0, .lst (q.S.map pW)] (many := mn) hl1 (by omega) hmn2.1 (Int.lt_of_le_of_lt (b := 14) (by omega) (by decide))
    rw [e2]
    have hwl : q.W.length ≤ 130 := by rw [h.w, List.length_append, tabW_len]; omega
    have hsl : q.S.length ≤ 130 := by rw [h.sp, List.length_append, List.length_map, List.length_range]; omega
    have hwl2 : (q.W.map pW).length ≤ 130 := by rw [List.length_map]; exact hwl
    (try walk_at "ev")
    rw [q_app q_m2 (by rw [List.length_map]; omega), q_s2]
    (try walk_at "ev")
    refine ⟨⟨fun k => if k = i then (r1, r2) else q.b k, q.W ++ [(T + 8 * i, r2), (T + 8 * i + 4, r1)], q.S ++ [(r1, r2)], l2, some (nI i), some (nI r1), some (nI r2)⟩, ?_, ?_, ?_⟩
    · show _ = [some (.ref m.length), x1, some (nI many), x3, some (nI size), some (.ref (m.length + 1)), x6, some (.fl ((q.W ++ [(T + 8 * i, r2), (T + 8 * i + 4, r1)]).map pW)), some (.ref (m.length + 2)), some (nI T), some (nI i), some (nI r1), some (nI r2), x13, x14, x15]
      rw [List.map_append]
      rfl
    · show _ = m ++ [.lst l2, .lst D0, .lst ((q.S ++ [(r1, r2)]).map pW)]
      rw [List.map_append]
      rfl
    · refine ⟨hl2, ?_, ?_, fun k hk => ?_⟩
      · show q.W ++ _ = W0 ++ tabW T (fun k => if k = i then (r1, r2) else q.b k) (i + 1)
        rw [tabW_succ, h.w, if_pos rfl, List.append_assoc, tabW_congr (b' := fun k => if k = i then (r1, r2) else q.b k) fun k hk => (if_neg (by omega)).symm]
      · show q.S ++ _ = S0 ++ (List.range (i + 1)).map (fun k => if k = i then (r1, r2) else q.b k)
        rw [List.range_succ, List.map_append, h.sp, List.append_assoc]
        congr 2
        · exact List.map_congr_left fun k hk => (if_neg (by have := List.mem_range.mp hk; omega)).symm
        · rw [List.map_cons, if_pos rfl]; rfl
      · show (if k = i then (r1, r2) else q.b k).1 + (if k = i then (r1, r2) else q.b k).2 < size
        by_cases z : k = i
        · rw [if_pos z]; show r1 + r2 < size; omega
        · rw [if_neg z]; exact h.b k (by omega)
  · refine ⟨q.b, q.l, q.x, q.y, q.z, h.b, h.s, ?_⟩
    rw [hq, h.w, h.sp]
end K37
set_option Elab.async false
set_option linter.all false
set_option maxRecDepth 100000
set_option maxHeartbeats 4000000
namespace K37
open PySem PySem.Spec PyProof.Rows L2 Itp Pg
local macro_rules | `(tactic| walk_at "ev") => `(tactic| simp (disch := first | assumption | omega | ((try simp only [List.length_cons, List.length_nil, List.length_append, List.length_map, List.length_take, List.length_drop, List.length_reverse, List.length_set, List.length_replicate]) <;> omega) | fail) only [r_var, r_c, r_bin, r_bin1, r_bin2, r_bin1x, r_bin2x, r_un, r_un1, r_a0, r_a1, r_a2, r_a3, r_a2x, r_a3x, r_cb, r_cb1, r_cb1x, r_call, r_call1, r_call1x, r_mt, r_mts, r_mtf, r_mtr0, r_mtr1, r_mtr2, r_mtd0, r_mt2, r_test, r_test1, r_test2, r_testx, r_bl, r_bl1, r_blx, r_av, r_av1, r_avt, r_avf, r_ov, r_ov1, r_ovt, r_ovf, r_nv, r_nv1, r_nv2, r_at, r_att, r_atf, r_ot, r_ott, r_otf, r_nt, r_nt1, r_if, r_ift, r_iff, r_ifx, r_tup, r_tup1, r_tupx, r_lst, r_lst1, r_ch, r_ch1, r_ch2, r_ch3, r_ch4, r_isi, r_isi1, r_isi2, r_bd0, r_bd1, r_bd2, r_rev, r_rev1, r_sl, r_sl1, r_sl2, r_sl3, r_it, r_it1, r_itt, r_itf, r_itsc, r_its, r_itr0, r_en, r_en1, r_opi, r_ent, r_enf, r_zip, r_zip1, r_zip2, r_zft, r_ztt, r_rng, r_rng1, r_rng2, r_rng3, r_lc, r_lc1, r_lc2, r_bc1, r_bc2, r_some, r_dnil, r_attr, r_attr1, r_attr2, r_opd, r_meth, r_meth1, r_meth2, r_meth3, r_meth4, r_make, r_make1, r_make2, r_newd, rs_nil, rs_seq, rs_sq1, rs_sq2, rs_sq3, rs_sq4, rs_sq5, rs_ret, rs_ret1, rs_retx, rs_retn, rs_brk, rs_cont, rs_drop, rs_drop1, rs_dropx, rs_asg, rs_asg1, rs_asgx, rs_ope, rs_par, rs_par1, rs_par2, rs_par3, rs_par31, rs_par32, rs_par33, rs_if, rs_ift, rs_iff, rs_ifx, rs_sub, rs_sub1, rs_sub2, rs_sub3, rs_opm, rs_sls, rs_sls1, rs_sls2, rs_sls3, rs_sls4, rs_att, rs_att2, rs_att3, rs_tas0, rs_tas1, rs_tas2, rs_tas3, rs_seta, rs_seta1, rs_seta2, rs_for, rs_for1, rs_body, rs_bodyn, rs_run, rs_end1, rs_end2, rs_end3, r_bnm, r_btu, r_bd00, r_bd01, r_obs, r_trn, r_trb, r_tri, r_trt, r_trf, r_tyn, r_tyb, r_tyi, r_tys, r_tyt, r_tyf, r_tysc, r_dt, r_df, r_eqF, r_eqT, r_eqbF, r_eqbT, r_seF, r_seT, r_isF, r_isT, r_find, r_neg, r_max, r_min, rs_kl1, rs_kl2, rs_kl3, rs_kl4, rs_kl5, r_strix, r_at0, r_at1, r_at2, r_at3, r_at4, r_at5, r_at6, r_at7, r_at8, r_at9, r_at10, r_at11, r_at12, r_all, r_any, r_all_true, rs_try, rs_try1, rs_try2, rs_try3, rs_tra, rs_tra1, rs_tra2, rs_tra3, rs_nox, rs_del1, rs_del2, rs_del3, rs_del4, rs_raise, rs_raise1, rs_raise0, rs_raiseZ, r_xf, r_isx, r_kix, r_kix1, q_atI, q_nok, q_nbad, q_m0, q_m1, q_m2, q_m3, q_s0, q_s1, q_s2, q_s3, q_ss, q_mkT, q_mkF, q_mkM, q_addi, q_adds, q_addt, q_addf, q_subi, q_muli, q_divi, q_modi, q_lt, q_le, q_gt, q_ge, q_ixt, q_ixf, q_ixsc, q_ixrm, q_lens, q_lent, q_lenf, q_lensc, q_lenrm, q_inti, q_intb, q_ord, q_tupt, q_tupf, q_tuprm, q_lstt, q_lstf, q_appm, q_extm, q_slfF, q_slfM, q_sltT, q_sls, nn1, List.isEmpty_nil, List.isEmpty_cons, nx1, nx2, List.map_cons, List.map_nil, List.length_cons, List.length_nil, List.replicate_succ, List.replicate_zero, List.cons_append, List.nil_append, List.append_nil, List.set_cons_succ, List.set_cons_zero, List.getElem?_cons_zero, List.getElem?_cons_succ, Nat.reduceSub, Nat.reduceAdd, List.length_append, List.length_map, List.append_assoc, Nat.zero_add, if_true, if_false, Bool.false_eq_true, Bool.not_true, Bool.not_false, isNonB, wipeE, List.any_cons, List.any_nil, isT, Bool.or_false, Bool.or_true, Bool.false_or, Bool.true_or])
local macro_rules | `(tactic| walk_at "el") => `(tactic| simp (disch := first | assumption | omega | ((try simp only [List.length_cons, List.length_nil, List.length_append, List.length_map, List.length_take, List.length_drop, List.length_reverse, List.length_set, List.length_replicate]) <;> omega) | fail) only [rs_lf0, rs_lf1, r_var, r_c, r_bin, r_bin1, r_bin2, r_bin1x, r_bin2x, r_un, r_un1, r_a0, r_a1, r_a2, r_a3, r_a2x, r_a3x, r_cb, r_cb1, r_cb1x, r_call, r_call1, r_call1x, r_mt, r_mts, r_mtf, r_mtr0, r_mtr1, r_mtr2, r_mtd0, r_mt2, r_test, r_test1, r_test2, r_testx, r_bl, r_bl1, r_blx, r_av, r_av1, r_avt, r_avf, r_ov, r_ov1, r_ovt, r_ovf, r_nv, r_nv1, r_nv2, r_at, r_att, r_atf, r_ot, r_ott, r_otf, r_nt, r_nt1, r_if, r_ift, r_iff, r_ifx, r_tup, r_tup1, r_tupx, r_lst, r_lst1, r_ch, r_ch1, r_ch2, r_ch3, r_ch4, r_isi, r_isi1, r_isi2, r_bd0, r_bd1, r_bd2, r_rev, r_rev1, r_sl, r_sl1, r_sl2, r_sl3, r_it, r_it1, r_itt, r_itf, r_itsc, r_its, r_itr0, r_en, r_en1, r_opi, r_ent, r_enf, r_zip, r_zip1, r_zip2, r_zft, r_ztt, r_rng, r_rng1, r_rng2, r_rng3, r_lc, r_lc1, r_lc2, r_bc1, r_bc2, r_some, r_dnil, r_attr, r_attr1, r_attr2, r_opd, r_meth, r_meth1, r_meth2, r_meth3, r_meth4, r_make, r_make1, r_make2, r_newd, rs_nil, rs_seq, rs_sq1, rs_sq2, rs_sq3, rs_sq4, rs_sq5, rs_ret, rs_ret1, rs_retx, rs_retn, rs_brk, rs_cont, rs_drop, rs_drop1, rs_dropx, rs_asg, rs_asg1, rs_asgx, rs_ope, rs_par, rs_par1, rs_par2, rs_par3, rs_par31, rs_par32, rs_par33, rs_if, rs_ift, rs_iff, rs_ifx, rs_sub, rs_sub1, rs_sub2, rs_sub3, rs_opm, rs_sls, rs_sls1, rs_sls2, rs_sls3, rs_sls4, rs_att, rs_att2, rs_att3, rs_tas0, rs_tas1, rs_tas2, rs_tas3, rs_seta, rs_seta1, rs_seta2, rs_for, rs_for1, rs_body, rs_bodyn, rs_run, rs_end1, rs_end2, rs_end3, r_bnm, r_btu, r_bd00, r_bd01, r_obs, r_trn, r_trb, r_tri, r_trt, r_trf, r_tyn, r_tyb, r_tyi, r_tys, r_tyt, r_tyf, r_tysc, r_dt, r_df, r_eqF, r_eqT, r_eqbF, r_eqbT, r_seF, r_seT, r_isF, r_isT, r_find, r_neg, r_max, r_min, rs_kl1, rs_kl2, rs_kl3, rs_kl4, rs_kl5, r_strix, r_at0, r_at1, r_at2, r_at3, r_at4, r_at5, r_at6, r_at7, r_at8, r_at9, r_at10, r_at11, r_at12, r_all, r_any, r_all_true, rs_try, rs_try1, rs_try2, rs_try3, rs_tra, rs_tra1, rs_tra2, rs_tra3, rs_nox, rs_del1, rs_del2, rs_del3, rs_del4, rs_raise, rs_raise1, rs_raise0, rs_raiseZ, r_xf, r_isx, r_kix, r_kix1, q_atI, q_nok, q_nbad, q_m0, q_m1, q_m2, q_m3, q_s0, q_s1, q_s2, q_s3, q_ss, q_mkT, q_mkF, q_mkM, q_addi, q_adds, q_addt, q_addf, q_subi, q_muli, q_divi, q_modi, q_lt, q_le, q_gt, q_ge, q_ixt, q_ixf, q_ixsc, q_ixrm, q_lens, q_lent, q_lenf, q_lensc, q_lenrm, q_inti, q_intb, q_ord, q_tupt, q_tupf, q_tuprm, q_lstt, q_lstf, q_appm, q_extm, q_slfF, q_slfM, q_sltT, q_sls, nn1, List.isEmpty_nil, List.isEmpty_cons, nx1, nx2, List.map_cons, List.map_nil, List.length_cons, List.length_nil, List.replicate_succ, List.replicate_zero, List.cons_append, List.nil_append, List.append_nil, List.set_cons_succ, List.set_cons_zero, List.getElem?_cons_zero, List.getElem?_cons_succ, Nat.reduceSub, Nat.reduceAdd, List.length_append, List.length_map, List.append_assoc, Nat.zero_add, if_true, if_false, Bool.false_eq_true, Bool.not_true, Bool.not_false, isNonB, wipeE, List.any_cons, List.any_nil, isT, Bool.or_false, Bool.or_true, Bool.false_or, Bool.true_or])
local macro_rules | `(tactic| walk_at "ex") => `(tactic| simp (disch := first | assumption | omega | ((try simp only [List.length_cons, List.length_nil, List.length_append, List.length_map, List.length_take, List.length_drop, List.length_reverse, List.length_set, List.length_replicate]) <;> omega) | fail) only [r_var, r_c, r_bin, r_bin1, r_bin2, r_bin1x, r_bin2x, r_un, r_un1, r_a0, r_a1, r_a2, r_a3, r_a2x, r_a3x, r_cb, r_cb1, r_cb1x, r_call, r_call1, r_call1x, r_mt, r_mts, r_mtf, r_mtr0, r_mtr1, r_mtr2, r_mtd0, r_mt2, r_test, r_test1, r_test2, r_testx, r_bl, r_bl1, r_blx, r_av, r_av1, r_avt, r_avf, r_ov, r_ov1, r_ovt, r_ovf, r_nv, r_nv1, r_nv2, r_at, r_att, r_atf, r_ot, r_ott, r_otf, r_nt, r_nt1, r_if, r_ift, r_iff, r_ifx, r_tup, r_tup1, r_tupx, r_lst, r_lst1, r_ch, r_ch1, r_ch2, r_ch3, r_ch4, r_isi, r_isi1, r_isi2, r_bd0, r_bd1, r_bd2, r_rev, r_rev1, r_sl, r_sl1, r_sl2, r_sl3, r_it, r_it1, r_itt, r_itf, r_itsc, r_its, r_itr0, r_en, r_en1, r_opi, r_ent, r_enf, r_zip, r_zip1, r_zip2, r_zft, r_ztt, r_rng, r_rng1, r_rng2, r_rng3, r_lc, r_lc1, r_lc2, r_bc1, r_bc2, r_some, r_dnil, r_attr, r_attr1, r_attr2, r_opd, r_meth, r_meth1, r_meth2, r_meth3, r_meth4, r_make, r_make1, r_make2, r_newd, rs_nil, rs_seq, rs_sq1, rs_sq2, rs_sq3, rs_sq4, rs_sq5, rs_ret, rs_ret1, rs_retx, rs_retn, rs_brk, rs_cont, rs_drop, rs_drop1, rs_dropx, rs_asg, rs_asg1, rs_asgx, rs_ope, rs_par, rs_par1, rs_par2, rs_par3, rs_par31, rs_par32, rs_par33, rs_if, rs_ift, rs_iff, rs_ifx, rs_sub, rs_sub1, rs_sub2, rs_sub3, rs_opm, rs_sls, rs_sls1, rs_sls2, rs_sls3, rs_sls4, rs_att, rs_att2, rs_att3, rs_tas0, rs_tas1, rs_tas2, rs_tas3, rs_seta, rs_seta1, rs_seta2, rs_for, rs_for1, rs_body, rs_bodyn, rs_run, rs_end1, rs_end2, rs_end3, r_bnm, r_btu, r_bd00, r_bd01, r_obs, r_trn, r_trb, r_tri, r_trt, r_trf, r_tyn, r_tyb, r_tyi, r_tys, r_tyt, r_tyf, r_tysc, r_dt, r_df, r_eqF, r_eqT, r_eqbF, r_eqbT, r_seF, r_seT, r_isF, r_isT, r_find, r_neg, r_max, r_min, rs_kl1, rs_kl2, rs_kl3, rs_kl4, rs_kl5, r_strix, r_at0, r_at1, r_at2, r_at3, r_at4, r_at5, r_at6, r_at7, r_at8, r_at9, r_at10, r_at11, r_at12, r_all, r_any, r_all_true, rs_try, rs_try1, rs_try2, rs_try3, rs_tra, rs_tra1, rs_tra2, rs_tra3, rs_nox, rs_del1, rs_del2, rs_del3, rs_del4, rs_raise, rs_raise1, rs_raise0, rs_raiseZ, r_xf, r_isx, r_kix, r_kix1, q_atI, q_nok, q_nbad, q_m0, q_m1, q_m2, q_m3, q_s0, q_s1, q_s2, q_s3, q_ss, q_mkT, q_mkF, q_mkM, q_addi, q_adds, q_addt, q_addf, q_subi, q_muli, q_divi, q_modi, q_lt, q_le, q_gt, q_ge, q_ixt, q_ixf, q_ixsc, q_ixrm, q_lens, q_lent, q_lenf, q_lensc, q_lenrm, q_inti, q_intb, q_ord, q_tupt, q_tupf, q_tuprm, q_lstt, q_lstf, q_appm, q_extm, q_slfF, q_slfM, q_sltT, q_sls, nn1, List.isEmpty_nil, List.isEmpty_cons, nx1, nx2, List.map_cons, List.map_nil, List.length_cons, List.length_nil, List.replicate_succ, List.replicate_zero, List.cons_append, List.nil_append, List.append_nil, List.set_cons_succ, List.set_cons_zero, List.getElem?_cons_zero, List.getElem?_cons_succ, Nat.reduceSub, Nat.reduceAdd, List.length_append, List.length_map, List.append_assoc, Nat.zero_add, if_true, if_false, Bool.false_eq_true, Bool.not_true, Bool.not_false, isNonB, wipeE, List.any_cons, List.any_nil, isT, Bool.or_false, Bool.or_true, Bool.false_or, Bool.true_or, *])
/-! what is written last -/
theorem look_app {A B : List (Nat × Nat)} {p : Nat} : (A ++ B).reverse.lookup p = (B.reverse.lookup p).or (A.reverse.lookup p) := by
  rw [List.reverse_append, List.lookup_append]
theorem tab_out {T n p : Nat} {b : Nat → Nat × Nat} (h : p < T ∨ T + 8 * n ≤ p) : (tabW T b n).reverse.lookup p = none := by
  induction n with
  | zero => rfl
  | succ n ih =>
    rw [tabW_succ, look_app, ih (by omega)]
    show ((List.lookup p [(T + 8 * n + 4, (b n).1), (T + 8 * n, (b n).2)]).or none) = none
    rw [List.lookup_cons, show (p == T + 8 * n + 4) = false from beq_eq_false_iff_ne.mpr (by omega), List.lookup_cons, show (p == T + 8 * n) = false from beq_eq_false_iff_ne.mpr (by omega)]
    rfl
theorem tab_l1 {T n k : Nat} {b : Nat → Nat × Nat} (h : k < n) : (tabW T b n).reverse.lookup (T + 8 * k) = some (b k).2 := by
  induction n with
  | zero => omega
  | succ n ih =>
    rw [tabW_succ, look_app]
    show ((List.lookup (T + 8 * k) [(T + 8 * n + 4, (b n).1), (T + 8 * n, (b n).2)]).or _) = _
    rw [List.lookup_cons, show (T + 8 * k == T + 8 * n + 4) = false from beq_eq_false_iff_ne.mpr (by omega), List.lookup_cons]
    by_cases c : k = n
    · subst c
      rw [show (T + 8 * k == T + 8 * k) = true from beq_self_eq_true _]; rfl
    · rw [show (T + 8 * k == T + 8 * n) = false from beq_eq_false_iff_ne.mpr (by omega), ih (by omega)]; rfl
theorem tab_l2 {T n k : Nat} {b : Nat → Nat × Nat} (h : k < n) : (tabW T b n).reverse.lookup (T + 8 * k + 4) = some (b k).1 := by
  induction n with
  | zero => omega
  | succ n ih =>
    rw [tabW_succ, look_app]
    show ((List.lookup (T + 8 * k + 4) [(T + 8 * n + 4, (b n).1), (T + 8 * n, (b n).2)]).or _) = _
    rw [List.lookup_cons]
    by_cases c : k = n
    · subst c
      rw [show (T + 8 * k + 4 == T + 8 * k + 4) = true from beq_self_eq_true _]; rfl
    · rw [show (T + 8 * k + 4 == T + 8 * n + 4) = false from beq_eq_false_iff_ne.mpr (by omega), List.lookup_cons, show (T + 8 * k + 4 == T + 8 * n) = false from beq_eq_false_iff_ne.mpr (by omega), ih (by omega)]; rfl
theorem tab_mem {T n : Nat} {b : Nat → Nat × Nat} {z : Nat × Nat} (h : z ∈ tabW T b n) : ∃ j k, j < 2 * n ∧ k < n ∧ z.1 = T + 4 * j ∧ (z.2 = (b k).1 ∨ z.2 = (b k).2) := by
  induction n with
  | zero => cases h
  | succ n ih =>
    rw [tabW_succ] at h
    rcases List.mem_append.mp h with h | h
    · obtain ⟨j, k, h1, h2, h3, h4⟩ := ih h
      exact ⟨j, k, by omega, by omega, h3, h4⟩
    · simp only [List.mem_cons, List.not_mem_nil, or_false] at h
      rcases h with rfl | rfl
      · exact ⟨2 * n, n, by omega, by omega, by show T + 8 * n = _; omega, .inr rfl⟩
      · exact ⟨2 * n + 1, n, by omega, by omega, by show T + 8 * n + 4 = _; omega, .inl rfl⟩
def hdW (v many P0 P1 : Nat) : List (Nat × Nat) := [(0, 2500072158), (4, v), (8, many), (12, P0), (16, P1)]
def plF (P0 P1 : Nat) (i : Nat) : Nat := if i = 0 then P0 else P1
def BF (P0 P1 : Nat) (b0 b1 : Nat → Nat × Nat) (i : Nat) : Nat → Nat × Nat := if P0 = P1 then b1 else if i = 0 then b0 else b1
theorem hd_mem {v many P0 P1 : Nat} {z : Nat × Nat} (h : z ∈ hdW v many P0 P1) (hv : v ≤ 131071) (hm : many < 8) (h0 : P0 ≤ 300) (h1 : P1 ≤ 300) : (∃ j, j < 5 ∧ z.1 = 4 * j) ∧ z.2 < 4294967296 := by
  simp only [hdW, List.mem_cons, List.not_mem_nil, or_false] at h
  rcases h with rfl | rfl | rfl | rfl | rfl
  · exact ⟨⟨0, by omega, rfl⟩, by decide⟩
  · exact ⟨⟨1, by omega, rfl⟩, by show v < _; omega⟩
  · exact ⟨⟨2, by omega, rfl⟩, by show many < _; omega⟩
  · exact ⟨⟨3, by omega, rfl⟩, by show P0 < _; omega⟩
  · exact ⟨⟨4, by omega, rfl⟩, by show P1 < _; omega⟩
theorem wok {v many P0 P1 size : Nat} {b0 b1 : Nat → Nat × Nat} (hB : Bl many P0 P1 size) (hv : v ≤ 131071) (hm : many < 8) (g0 : ∀ k, k < many → (b0 k).1 + (b0 k).2 < size) (g1 : ∀ k, k < many → (b1 k).1 + (b1 k).2 < size) :
    Wok (hdW v many P0 P1 ++ tabW P0 b0 many ++ tabW P1 b1 many) size := by
  have a0 := hB.a0
  have a1 := hB.a1
  have c0 := hB.b0
  have c1 := hB.b1
  have s := hB.s
  have cl : ∀ z ∈ hdW v many P0 P1 ++ tabW P0 b0 many ++ tabW P1 b1 many, ((∃ j, j < 5 ∧ z.1 = 4 * j) ∨ (∃ j, j < 2 * many ∧ z.1 = P0 + 4 * j) ∨ (∃ j, j < 2 * many ∧ z.1 = P1 + 4 * j)) ∧ z.2 < 4294967296 := by
    intro z hz
    rcases List.mem_append.mp hz with hz | hz
    · rcases List.mem_append.mp hz with hz | hz
      · have := hd_mem hz hv hm (by omega) (by omega)
        exact ⟨.inl this.1, this.2⟩
      · obtain ⟨j, k, h1, h2, h3, h4⟩ := tab_mem hz
        have := g0 k h2
        exact ⟨.inr (.inl ⟨j, h1, h3⟩), by omega⟩
    · obtain ⟨j, k, h1, h2, h3, h4⟩ := tab_mem hz
      have := g1 k h2
      exact ⟨.inr (.inr ⟨j, h1, h3⟩), by omega⟩
  refine ⟨fun z hz => ?_, fun z hz y hy => ?_⟩
  · obtain ⟨h, h2⟩ := cl z hz
    refine ⟨?_, h2⟩
    rcases h with ⟨j, _, _⟩ | ⟨j, _, _⟩ | ⟨j, _, _⟩ <;> omega
  · have d := hB.d
    obtain ⟨h, _⟩ := cl z hz
    obtain ⟨h', _⟩ := cl y hy
    rcases h with ⟨j, _, _⟩ | ⟨j, _, _⟩ | ⟨j, _, _⟩ <;> rcases h' with ⟨j', _, _⟩ | ⟨j', _, _⟩ | ⟨j', _, _⟩ <;> omega
theorem fi_of {v many P0 P1 size : Nat} {bg : Bool} {b0 b1 : Nat → Nat × Nat} {L : List Nat} (hB : Bl many P0 P1 size) (hv : v ≤ 131071) (hm : many < 8) (g0 : ∀ k, k < many → (b0 k).1 + (b0 k).2 < size) (g1 : ∀ k, k < many → (b1 k).1 + (b1 k).2 < size)
    (hL : L.length = size) (hW : Wrt bg (hdW v many P0 P1 ++ tabW P0 b0 many ++ tabW P1 b1 many) L) : Fi L bg many (plF P0 P1) (BF P0 P1 b0 b1) := by
  have a0 := hB.a0
  have a1 := hB.a1
  have c0 := hB.b0
  have c1 := hB.b1
  have s := hB.s
  have hd : ∀ p x, p < 28 → (hdW v many P0 P1).reverse.lookup p = some x → (L.drop p).take 4 = wb bg x := fun p x hp e => by
    refine hW p x ?_
    rw [look_app, look_app, tab_out (by omega), tab_out (by omega)]
    exact e
  have t1 : ∀ k, k < many → (L.drop (P1 + 8 * k)).take 4 = wb bg (b1 k).2 := fun k hk => hW _ _ (by rw [look_app, tab_l1 hk]; rfl)
  have t1' : ∀ k, k < many → (L.drop (P1 + 8 * k + 4)).take 4 = wb bg (b1 k).1 := fun k hk => hW _ _ (by rw [look_app, tab_l2 hk]; rfl)
  have t0 : P0 ≠ P1 → ∀ k, k < many → (L.drop (P0 + 8 * k)).take 4 = wb bg (b0 k).2 := fun hne k hk => hW _ _ (by rw [look_app, tab_out (by have := hB.d; omega), look_app, tab_l1 hk]; rfl)
  have t0' : P0 ≠ P1 → ∀ k, k < many → (L.drop (P0 + 8 * k + 4)).take 4 = wb bg (b0 k).1 := fun hne k hk => hW _ _ (by rw [look_app, tab_out (by have := hB.d; omega), look_app, tab_l2 hk]; rfl)
  refine ⟨by omega, ?_, ⟨v, hv, hd 4 v (by omega) rfl⟩, hd 8 many (by omega) rfl, hd 12 P0 (by omega) rfl, hd 16 P1 (by omega) rfl, hm, fun i hi => ?_, fun i k hi hk => ?_, fun i k hi hk => ?_, fun i k hi hk => ?_⟩
  · have := hd 0 2500072158 (by omega) rfl
    rwa [List.drop_zero] at this
  · unfold plF; split <;> omega
  · unfold plF BF
    by_cases c : P0 = P1
    · subst c
      rw [if_pos rfl, ite_self]
      exact t1 k hk
    · rw [if_neg c]
      split
      · exact t0 c k hk
      · exact t1 k hk
  · unfold plF BF
    by_cases c : P0 = P1
    · subst c
      rw [if_pos rfl, ite_self]
      exact t1' k hk
    · rw [if_neg c]
      split
      · exact t0' c k hk
      · exact t1' k hk
  · unfold BF
    rw [hL]
    split
    · exact g1 k hk
    · split
      · exact g0 k hk
      · exact g1 k hk
end K37
set_option Elab.async false
set_option linter.all false
set_option maxRecDepth 100000
set_option maxHeartbeats 4000000
namespace K37
open PySem PySem.Spec PyProof.Rows L2 Itp Pg
local macro_rules | `(tactic| walk_at "ev") => `(tactic| simp (disch := first | assumption | omega | ((try simp only [List.length_cons, List.length_nil, List.length_append, List.length_map, List.length_take, List.length_drop, List.length_reverse, List.length_set, List.length_replicate]) <;> omega) | fail) only [r_var, r_c, r_bin, r_bin1, r_bin2, r_bin1x, r_bin2x, r_un, r_un1, r_a0, r_a1, r_a2, r_a3, r_a2x, r_a3x, r_cb, r_cb1, r_cb1x, r_call, r_call1, r_call1x, r_mt, r_mts, r_mtf, r_mtr0, r_mtr1, r_mtr2, r_mtd0, r_mt2, r_test, r_test1, r_test2, r_testx, r_bl, r_bl1, r_blx, r_av, r_av1, r_avt, r_avf, r_ov, r_ov1, r_ovt, r_ovf, r_nv, r_nv1, r_nv2, r_at, r_att, r_atf, r_ot, r_ott, r_otf, r_nt, r_nt1, r_if, r_ift, r_iff, r_ifx, r_tup, r_tup1, r_tupx, r_lst, r_lst1, r_ch, r_ch1, r_ch2, r_ch3, r_ch4, r_isi, r_isi1, r_isi2, r_bd0, r_bd1, r_bd2, r_rev, r_rev1, r_sl, r_sl1, r_sl2, r_sl3, r_it, r_it1, r_itt, r_itf, r_itsc, r_its, r_itr0, r_en, r_en1, r_opi, r_ent, r_enf, r_zip, r_zip1, r_zip2, r_zft, r_ztt, r_rng, r_rng1, r_rng2, r_rng3, r_lc, r_lc1, r_lc2, r_bc1, r_bc2, r_some, r_dnil, r_attr, r_attr1, r_attr2, r_opd, r_meth, r_meth1, r_meth2, r_meth3, r_meth4, r_make, r_make1, r_make2, r_newd, rs_nil, rs_seq, rs_sq1, rs_sq2, rs_sq3, rs_sq4, rs_sq5, rs_ret, rs_ret1, rs_retx, rs_retn, rs_brk, rs_cont, rs_drop, rs_drop1, rs_dropx, rs_asg, rs_asg1, rs_asgx, rs_ope, rs_par, rs_par1, rs_par2, rs_par3, rs_par31, rs_par32, rs_par33, rs_if, rs_ift, rs_iff, rs_ifx, rs_sub, rs_sub1, rs_sub2, rs_sub3, rs_opm, rs_sls, rs_sls1, rs_sls2, rs_sls3, rs_sls4, rs_att, rs_att2, rs_att3, rs_tas0, rs_tas1, rs_tas2, rs_tas3, rs_seta, rs_seta1, rs_seta2, rs_for, rs_for1, rs_body, rs_bodyn, rs_run, rs_end1, rs_end2, rs_end3, r_bnm, r_btu, r_bd00, r_bd01, r_obs, r_trn, r_trb, r_tri, r_trt, r_trf, r_tyn, r_tyb, r_tyi, r_tys, r_tyt, r_tyf, r_tysc, r_dt, r_df, r_eqF, r_eqT, r_eqbF, r_eqbT, r_seF, r_seT, r_isF, r_isT, r_find, r_neg, r_max, r_min, rs_kl1, rs_kl2, rs_kl3, rs_kl4, rs_kl5, r_strix, r_at0, r_at1, r_at2, r_at3, r_at4, r_at5, r_at6, r_at7, r_at8, r_at9, r_at10, r_at11, r_at12, r_all, r_any, r_all_true, rs_try, rs_try1, rs_try2, rs_try3, rs_tra, rs_tra1, rs_tra2, rs_tra3, rs_nox, rs_del1, rs_del2, rs_del3, rs_del4, rs_raise, rs_raise1, rs_raise0, rs_raiseZ, r_xf, r_isx, r_kix, r_kix1, q_atI, q_nok, q_nbad, q_m0, q_m1, q_m2, q_m3, q_s0, q_s1, q_s2, q_s3, q_ss, q_mkT, q_mkF, q_mkM, q_addi, q_adds, q_addt, q_addf, q_subi, q_muli, q_divi, q_modi, q_lt, q_le, q_gt, q_ge, q_ixt, q_ixf, q_ixsc, q_ixrm, q_lens, q_lent, q_lenf, q_lensc, q_lenrm, q_inti, q_intb, q_ord, q_tupt, q_tupf, q_tuprm, q_lstt, q_lstf, q_appm, q_extm, q_slfF, q_slfM, q_sltT, q_sls, nn1, List.isEmpty_nil, List.isEmpty_cons, nx1, nx2, List.map_cons, List.map_nil, List.length_cons, List.length_nil, List.replicate_succ, List.replicate_zero, List.cons_append, List.nil_append, List.append_nil, List.set_cons_succ, List.set_cons_zero, List.getElem?_cons_zero, List.getElem?_cons_succ, Nat.reduceSub, Nat.reduceAdd, List.length_append, List.length_map, List.append_assoc, Nat.zero_add, if_true, if_false, Bool.false_eq_true, Bool.not_true, Bool.not_false, isNonB, wipeE, List.any_cons, List.any_nil, isT, Bool.or_false, Bool.or_true, Bool.false_or, Bool.true_or])
local macro_rules | `(tactic| walk_at "el") => `(tactic| simp (disch := first | assumption | omega | ((try simp only [List.length_cons, List.length_nil, List.length_append, List.length_map, List.length_take, List.length_drop, List.length_reverse, List.length_set, List.length_replicate]) <;> omega) | fail) only [rs_lf0, rs_lf1, r_var, r_c, r_bin, r_bin1, r_bin2, r_bin1x, r_bin2x, r_un, r_un1, r_a0, r_a1, r_a2, r_a3, r_a2x, r_a3x, r_cb, r_cb1, r_cb1x, r_call, r_call1, r_call1x, r_mt, r_mts, r_mtf, r_mtr0, r_mtr1, r_mtr2, r_mtd0, r_mt2, r_test, r_test1, r_test2, r_testx, r_bl, r_bl1, r_blx, r_av, r_av1, r_avt, r_avf, r_ov, r_ov1, r_ovt, r_ovf, r_nv, r_nv1, r_nv2, r_at, r_att, r_atf, r_ot, r_ott, r_otf, r_nt, r_nt1, r_if, r_ift, r_iff, r_ifx, r_tup, r_tup1, r_tupx, r_lst, r_lst1, r_ch, r_ch1, r_ch2, r_ch3, r_ch4, r_isi, r_isi1, r_isi2, r_bd0, r_bd1, r_bd2, r_rev, r_rev1, r_sl, r_sl1, r_sl2, r_sl3, r_it, r_it1, r_itt, r_itf, r_itsc, r_its, r_itr0, r_en, r_en1, r_opi, r_ent, r_enf, r_zip, r_zip1, r_zip2, r_zft, r_ztt, r_rng, r_rng1, r_rng2, r_rng3, r_lc, r_lc1, r_lc2, r_bc1, r_bc2, r_some, r_dnil, r_attr, r_attr1, r_attr2, r_opd, r_meth, r_meth1, r_meth2, r_meth3, r_meth4, r_make, r_make1, r_make2, r_newd, rs_nil, rs_seq, rs_sq1, rs_sq2, rs_sq3, rs_sq4, rs_sq5, rs_ret, rs_ret1, rs_retx, rs_retn, rs_brk, rs_cont, rs_drop, rs_drop1, rs_dropx, rs_asg, rs_asg1, rs_asgx, rs_ope, rs_par, rs_par1, rs_par2, rs_par3, rs_par31, rs_par32, rs_par33, rs_if, rs_ift, rs_iff, rs_ifx, rs_sub, rs_sub1, rs_sub2, rs_sub3, rs_opm, rs_sls, rs_sls1, rs_sls2, rs_sls3, rs_sls4, rs_att, rs_att2, rs_att3, rs_tas0, rs_tas1, rs_tas2, rs_tas3, rs_seta, rs_seta1, rs_seta2, rs_for, rs_for1, rs_body, rs_bodyn, rs_run, rs_end1, rs_end2, rs_end3, r_bnm, r_btu, r_bd00, r_bd01, r_obs, r_trn, r_trb, r_tri, r_trt, r_trf, r_tyn, r_tyb, r_tyi, r_tys, r_tyt, r_tyf, r_tysc, r_dt, r_df, r_eqF, r_eqT, r_eqbF, r_eqbT, r_seF, r_seT, r_isF, r_isT, r_find, r_neg, r_max, r_min, rs_kl1, rs_kl2, rs_kl3, rs_kl4, rs_kl5, r_strix, r_at0, r_at1, r_at2, r_at3, r_at4, r_at5, r_at6, r_at7, r_at8, r_at9, r_at10, r_at11, r_at12, r_all, r_any, r_all_true, rs_try, rs_try1, rs_try2, rs_try3, rs_tra, rs_tra1, rs_tra2, rs_tra3, rs_nox, rs_del1, rs_del2, rs_del3, rs_del4, rs_raise, rs_raise1, rs_raise0, rs_raiseZ, r_xf, r_isx, r_kix, r_kix1, q_atI, q_nok, q_nbad, q_m0, q_m1, q_m2, q_m3, q_s0, q_s1, q_s2, q_s3, q_ss, q_mkT, q_mkF, q_mkM, q_addi, q_adds, q_addt, q_addf, q_subi, q_muli, q_divi, q_modi, q_lt, q_le, q_gt, q_ge, q_ixt, q_ixf, q_ixsc, q_ixrm, q_lens, q_lent, q_lenf, q_lensc, q_lenrm, q_inti, q_intb, q_ord, q_tupt, q_tupf, q_tuprm, q_lstt, q_lstf, q_appm, q_extm, q_slfF, q_slfM, q_sltT, q_sls, nn1, List.isEmpty_nil, List.isEmpty_cons, nx1, nx2, List.map_cons, List.map_nil, List.length_cons, List.length_nil, List.replicate_succ, List.replicate_zero, List.cons_append, List.nil_append, List.append_nil, List.set_cons_succ, List.set_cons_zero, List.getElem?_cons_zero, List.getElem?_cons_succ, Nat.reduceSub, Nat.reduceAdd, List.length_append, List.length_map, List.append_assoc, Nat.zero_add, if_true, if_false, Bool.false_eq_true, Bool.not_true, Bool.not_false, isNonB, wipeE, List.any_cons, List.any_nil, isT, Bool.or_false, Bool.or_true, Bool.false_or, Bool.true_or])
local macro_rules | `(tactic| walk_at "ex") => `(tactic| simp (disch := first | assumption | omega | ((try simp only [List.length_cons, List.length_nil, List.length_append, List.length_map, List.length_take, List.length_drop, List.length_reverse, List.length_set, List.length_replicate]) <;> omega) | fail) only [r_var, r_c, r_bin, r_bin1, r_bin2, r_bin1x, r_bin2x, r_un, r_un1, r_a0, r_a1, r_a2, r_a3, r_a2x, r_a3x, r_cb, r_cb1, r_cb1x, r_call, r_call1, r_call1x, r_mt, r_mts, r_mtf, r_mtr0, r_mtr1, r_mtr2, r_mtd0, r_mt2, r_test, r_test1, r_test2, r_testx, r_bl, r_bl1, r_blx, r_av, r_av1, r_avt, r_avf, r_ov, r_ov1, r_ovt, r_ovf, r_nv, r_nv1, r_nv2, r_at, r_att, r_atf, r_ot, r_ott, r_otf, r_nt, r_nt1, r_if, r_ift, r_iff, r_ifx, r_tup, r_tup1, r_tupx, r_lst, r_lst1, r_ch, r_ch1, r_ch2, r_ch3, r_ch4, r_isi, r_isi1, r_isi2, r_bd0, r_bd1, r_bd2, r_rev, r_rev1, r_sl, r_sl1, r_sl2, r_sl3, r_it, r_it1, r_itt, r_itf, r_itsc, r_its, r_itr0, r_en, r_en1, r_opi, r_ent, r_enf, r_zip, r_zip1, r_zip2, r_zft, r_ztt, r_rng, r_rng1, r_rng2, r_rng3, r_lc, r_lc1, r_lc2, r_bc1, r_bc2, r_some, r_dnil, r_attr, r_attr1, r_attr2, r_opd, r_meth, r_meth1, r_meth2, r_meth3, r_meth4, r_make, r_make1, r_make2, r_newd, rs_nil, rs_seq, rs_sq1, rs_sq2, rs_sq3, rs_sq4, rs_sq5, rs_ret, rs_ret1, rs_retx, rs_retn, rs_brk, rs_cont, rs_drop, rs_drop1, rs_dropx, rs_asg, rs_asg1, rs_asgx, rs_ope, rs_par, rs_par1, rs_par2, rs_par3, rs_par31, rs_par32, rs_par33, rs_if, rs_ift, rs_iff, rs_ifx, rs_sub, rs_sub1, rs_sub2, rs_sub3, rs_opm, rs_sls, rs_sls1, rs_sls2, rs_sls3, rs_sls4, rs_att, rs_att2, rs_att3, rs_tas0, rs_tas1, rs_tas2, rs_tas3, rs_seta, rs_seta1, rs_seta2, rs_for, rs_for1, rs_body, rs_bodyn, rs_run, rs_end1, rs_end2, rs_end3, r_bnm, r_btu, r_bd00, r_bd01, r_obs, r_trn, r_trb, r_tri, r_trt, r_trf, r_tyn, r_tyb, r_tyi, r_tys, r_tyt, r_tyf, r_tysc, r_dt, r_df, r_eqF, r_eqT, r_eqbF, r_eqbT, r_seF, r_seT, r_isF, r_isT, r_find, r_neg, r_max, r_min, rs_kl1, rs_kl2, rs_kl3, rs_kl4, rs_kl5, r_strix, r_at0, r_at1, r_at2, r_at3, r_at4, r_at5, r_at6, r_at7, r_at8, r_at9, r_at10, r_at11, r_at12, r_all, r_any, r_all_true, rs_try, rs_try1, rs_try2, rs_try3, rs_tra, rs_tra1, rs_tra2, rs_tra3, rs_nox, rs_del1, rs_del2, rs_del3, rs_del4, rs_raise, rs_raise1, rs_raise0, rs_raiseZ, r_xf, r_isx, r_kix, r_kix1, q_atI, q_nok, q_nbad, q_m0, q_m1, q_m2, q_m3, q_s0, q_s1, q_s2, q_s3, q_ss, q_mkT, q_mkF, q_mkM, q_addi, q_adds, q_addt, q_addf, q_subi, q_muli, q_divi, q_modi, q_lt, q_le, q_gt, q_ge, q_ixt, q_ixf, q_ixsc, q_ixrm, q_lens, q_lent, q_lenf, q_lensc, q_lenrm, q_inti, q_intb, q_ord, q_tupt, q_tupf, q_tuprm, q_lstt, q_lstf, q_appm, q_extm, q_slfF, q_slfM, q_sltT, q_sls, nn1, List.isEmpty_nil, List.isEmpty_cons, nx1, nx2, List.map_cons, List.map_nil, List.length_cons, List.length_nil, List.replicate_succ, List.replicate_zero, List.cons_append, List.nil_append, List.append_nil, List.set_cons_succ, List.set_cons_zero, List.getElem?_cons_zero, List.getElem?_cons_succ, Nat.reduceSub, Nat.reduceAdd, List.length_append, List.length_map, List.append_assoc, Nat.zero_add, if_true, if_false, Bool.false_eq_true, Bool.not_true, Bool.not_false, isNonB, wipeE, List.any_cons, List.any_nil, isT, Bool.or_false, Bool.or_true, Bool.false_or, Bool.true_or, *])
theorem pick7 {c : Fn} (hc : PickF c) {m X : Mem} {n : Nat} {l : List D} {ds : List Nat} (hl : SrcL n l) (hn : n < 2 ^ 40) (h0 : 0 < ds.length) (h1 : ds.length < 1000) :
    ∃ (x : Nat) (l' : List D), x ∈ ds ∧ c [.ref m.length, .fl (ic ds)] (m ++ .lst l :: X) = .ok (nI x) (m ++ .lst l' :: X) ∧ c [.ref m.length, .tup (ic ds)] (m ++ .lst l :: X) = .ok (nI x) (m ++ .lst l' :: X) ∧ SrcL (n + 1) l' := by
  obtain ⟨j, d, l', hd, e1, e2, hl'⟩ := hc (m ++ .lst l :: X) m.length n l (ic ds) q_m0 hl hn (by rw [List.length_map]; exact h0) (by rw [List.length_map]; exact Nat.lt_trans h1 (by decide))
  rw [List.getElem?_map] at hd
  obtain ⟨x, hx, rfl⟩ := Option.map_eq_some_iff.mp hd
  rw [q_s0] at e1 e2
  exact ⟨x, l', List.mem_of_getElem? hx, e1, e2, hl'⟩
abbrev dL (c : Fn) : EV := dCall c [(dVar 0), (dTup [(dC (.int 0)), (dC (.int 4)), (dC (.int 97)), (dC (.int 98)), (dC (.int 255)), (dC (.int 10)), (dC (.int 128))])]
theorem data_lc {c : Fn} (hc : PickF c) {m : Mem} {x1 x2 x3 x4 x5 x6 x7 x8 x9 x10 x11 x12 x13 x14 x15 : Option D} : ∀ (ds : List D) (acc : List Nat) (n : Nat) (l : List D), SrcL n l → n + ds.length < 2 ^ 39 → acc.length + ds.length ≤ 1000 → ∃ (c' : List Nat) (l' : List D),
    loopC gT (bodyC [10] (.nm 10) dNil (dL c) [some (.ref m.length), x1, x2, x3, x4, x5, x6, x7, x8, x9, x10, x11, x12, x13, x14, x15]) ds (ic acc) (m ++ [.lst l]) = .ok (ic (acc ++ c')) (m ++ [.lst l']) ∧ c'.length = ds.length ∧ SrcL (n + ds.length) l'
  | [], acc, n, l, h1, _, _ => ⟨[], l, by rw [List.append_nil]; exact loopC_nil rfl, rfl, h1⟩
  | v :: ds, acc, n, l, h1, h2, h3 => by
    simp only [List.length_cons] at h2 h3
    obtain ⟨r, l1, _, _, e1, hl1⟩ := pick7 hc (m := m) (X := []) (ds := [0, 4, 97, 98, 255, 10, 128]) h1 (by omega) (by decide) (by decide)
    have eb : bodyC [10] (.nm 10) dNil (dL c) [some (.ref m.length), x1, x2, x3, x4, x5, x6, x7, x8, x9, x10, x11, x12, x13, x14, x15] v (m ++ [.lst l]) = .ok (some (nI r)) (m ++ [.lst l1]) := by
      rw [bodyC_nmE]
      (try walk_at "ev")
      rw [show (D.tup [.int 0, .int 4, .int 97, .int 98, .int 255, .int 10, .int 128]) = .tup (ic [0, 4, 97, 98, 255, 10, 128]) from rfl, e1]
      (try walk_at "ev")
    obtain ⟨c', l', e2, q1, q3⟩ := data_lc hc (m := m) (x1 := x1) (x2 := x2) (x3 := x3) (x4 := x4) (x5 := x5) (x6 := x6) (x7 := x7) (x8 := x8) (x9 := x9) (x10 := x10) (x11 := x11) (x12 := x12) (x13 := x13) (x14 := x14) (x15 := x15) ds (acc ++ [r]) (n + 1) l1 hl1 (by omega) (by rw [List.length_append]; simp only [List.length_cons, List.length_nil]; omega)
    refine ⟨r :: c', l', ?_, by simp [q1], q3.mono (by simp only [List.length_cons]; omega)⟩
    rw [loopC_cons rfl, eb]
    dsimp only [R.bind]
    rw [if_pos (show (ic acc).length < SZ by rw [List.length_map]; exact Nat.lt_of_lt_of_le (show acc.length < 10001 by omega) (by decide))]
    rw [ic_app] at e2
    rw [show ic acc ++ [nI r] = ic acc ++ ic [r] from rfl, e2, List.append_assoc]
    rfl
def BlkF (c : Fn) : Prop := ∀ (m : Mem) (n : Nat) (l : List D) (many : Nat), SrcL n l → n < 2 ^ 37 → many < 8 → ∃ (P0 P1 P2 size : Nat) (l' : List D), c [.ref m.length, nI many] (m ++ [.lst l]) = .ok (.tup [.fl [nI P0, nI P1, nI P2], nI size]) (m ++ [.lst l']) ∧ Bl many P0 P1 size ∧ SrcL (n + 10) l'
theorem asg2 {i j : Nat} {env : Itp.Env} {x y : D} {m : Mem} : kAsg (.tup [.nm i, .nm j]) env (.ok (.tup [x, y]) m) = .ok .nx ((env.set i (some x)).set j (some y)) m := rfl
section
variable {F F1 : Fm} {m : Mem} {n : Nat} {l : List D}
/-! the statements of _law_any_file -/
def g1 (F : Fm) : SV := sAsg (.tup [(.nm 1), (.nm 2)]) (dTup [(dCall (F 8) [(dVar 0), (dLst false [(dC (.str [108, 105, 116, 116, 108, 101])), (dC (.str [98, 105, 103]))])]), (dCall (F 7) [(dVar 0), (dC (.int 8))])])
def g2 (F : Fm) : SV := sAsg (.tup [(.nm 3), (.nm 4)]) (dCall (F 13) [(dVar 0), (dVar 2)])
def g3 (F : Fm) : SV := sAsg (.nm 5) (dLc true [10] (dRng [(dVar 4)]) (.nm 10) dNil (dL (F 8)))
def g4 (F : Fm) : SV := sAsg (.nm 6) (dCall (F 8) [(dVar 0), (dLst false [(dC (.int 0)), (dC (.int 1)), (dC (.int 65535)), (dC (.int 65536)), (dC (.int 131071)), (dC (.int 70000))])])
def g5 : SV := sAsg (.nm 7) (dLst false [(dTup [(dC (.int 0)), (dC (.int 2500072158))]), (dTup [(dC (.int 4)), (dVar 6)]), (dTup [(dC (.int 8)), (dVar 2)]), (dTup [(dC (.int 12)), (dBin opIx (dVar 3) (dC (.int 0)))]), (dTup [(dC (.int 16)), (dBin opIx (dVar 3) (dC (.int 1)))])])
def g6 : SV := sAsg (.nm 8) (dLst true [])
def gT1 (c : Fn) : SV := sFor (dRng [(dVar 2)]) (.nm 10) (sSeq (sAsg (.nm 11) (dCall c [(dVar 0), (dVar 4)]))
    (sSeq (sAsg (.nm 12) (dCall c [(dVar 0), (dCB bMin [(dC (.int 14)), (dBin opSub (dVar 4) (dVar 11))])]))
    (sSeq (sAsg (.nm 7) (dBin (opAdd false) (dVar 7) (dLst false [(dTup [(dBin (opAdd false) (dVar 9) (dBin (opMul false) (dC (.int 8)) (dVar 10))), (dVar 12)]), (dTup [(dBin (opAdd false) (dBin (opAdd false) (dVar 9) (dBin (opMul false) (dC (.int 8)) (dVar 10))) (dC (.int 4))), (dVar 11)])])))
    (sDrop (dMt "list" mAppend (dVar 8) [(dTup [(dVar 11), (dVar 12)])])))))
def g7 (F : Fm) : SV := sFor (dIt (dSl false (dVar 3) none (some (dC (.int 2))))) (.nm 9) (gT1 (F 7))
def g8 (F : Fm) : SV := sFor (dIt (dVar 7)) (.tup [(.nm 13), (.nm 14)]) (sSlS (dCall (F 12) [(dVar 14), (dVar 1)]) (dVar 5) (some (dVar 13)) (some (dBin (opAdd false) (dVar 13) (dC (.int 4)))))
def g9 : SV := sIf (dBl (dBin (opEq false) (dBin opIx (dVar 3) (dC (.int 0))) (dBin opIx (dVar 3) (dC (.int 1))))) (sAsg (.nm 8) (dBin (opMul true) (dSl false (dVar 8) (some (dVar 2)) none) (dC (.int 2)))) sNil
def g10 : SV := sAsg (.nm 15) (dLc false [11, 12] (dIt (dVar 8)) (.tup [(.nm 11), (.nm 12)]) dNil (dCB bTuple [(dSl false (dVar 5) (some (dVar 11)) (some (dBin (opAdd false) (dVar 11) (dVar 12))))]))
def g11 : SV := sRet (dTup [(dCB bTuple [(dVar 5)]), (dLc false [10] (dRng [(dVar 2)]) (.nm 10) dNil (dTup [(dBin opIx (dVar 15) (dVar 10)), (dBin opIx (dVar 15) (dBin (opAdd false) (dVar 2) (dVar 10)))]))])
theorem any_seq : sv__law_any_file F F1 = sSeq (g1 F) (sSeq (g2 F) (sSeq (g3 F) (sSeq (g4 F) (sSeq g5 (sSeq g6 (sSeq (g7 F) (sSeq (g8 F) (sSeq g9 (sSeq g10 g11))))))))) := rfl
theorem g1_ok (hd : DrawF (F 7)) (hp : PickF (F 8)) (hl : SrcL n l) (hn : n < 2 ^ 36) : ∃ (bg : Bool) (many : Nat) (l' : List D),
    g1 F [some (.ref m.length), none, none, none, none, none, none, none, none, none, none, none, none, none, none, none] (m ++ [.lst l]) = .ok .nx [some (.ref m.length), some (.str (oS bg)), some (nI many), none, none, none, none, none, none, none, none, none, none, none, none, none] (m ++ [.lst l']) ∧ many < 8 ∧ SrcL (n + 2) l' := by
  obtain ⟨bg, l1, e1, hl1⟩ : ∃ (bg : Bool) (l1 : List D), F 8 [.ref m.length, .fl [.str [108, 105, 116, 116, 108, 101], .str [98, 105, 103]]] (m ++ [.lst l]) = .ok (.str (oS bg)) (m ++ [.lst l1]) ∧ SrcL (n + 1) l1 := by
    obtain ⟨j, d, l', hd', e1, _, hl'⟩ := hp (m ++ [.lst l]) m.length n l [.str [108, 105, 116, 116, 108, 101], .str [98, 105, 103]] q_m0 hl (by omega) (by show 0 < 2; omega) (by show 2 < 2 ^ 60; omega)
    rw [q_s0] at e1
    match j, hd' with
    | 0, hd' => cases hd'; exact ⟨false, l', e1, hl'⟩
    | 1, hd' => cases hd'; exact ⟨true, l', e1, hl'⟩
  obtain ⟨many, l2, e2, hm, hl2⟩ := draw_at hd (m := m) [] (many := 8) hl1 (by omega) (by decide) (by decide)
  refine ⟨bg, many, l2, ?_, by omega, hl2⟩
  unfold g1
  (try walk_at "ev")
  rw [e1]
  (try walk_at "ev")
  rw [e2]
  (try walk_at "ev")
theorem g2_ok (hb : BlkF (F 13)) {many : Nat} {x1 x3 x4 : Option D} (hl : SrcL n l) (hn : n < 2 ^ 37) (hm : many < 8) : ∃ (P0 P1 P2 size : Nat) (l' : List D),
    g2 F [some (.ref m.length), x1, some (nI many), x3, x4, none, none, none, none, none, none, none, none, none, none, none] (m ++ [.lst l]) = .ok .nx [some (.ref m.length), x1, some (nI many), some (.fl [nI P0, nI P1, nI P2]), some (nI size), none, none, none, none, none, none, none, none, none, none, none] (m ++ [.lst l']) ∧ Bl many P0 P1 size ∧ SrcL (n + 10) l' := by
  obtain ⟨P0, P1, P2, size, l3, e3, hB, hl3⟩ := hb m n l many hl hn hm
  refine ⟨P0, P1, P2, size, l3, ?_, hB, hl3⟩
  unfold g2
  (try walk_at "ev")
  rw [e3]
  rfl
theorem g3_ok (hp : PickF (F 8)) {size : Nat} {x1 x2 x3 : Option D} (hl : SrcL n l) (hn : n < 2 ^ 37) (hs : size ≤ 210) : ∃ (dat : List Nat) (l' : List D),
    g3 F [some (.ref m.length), x1, x2, x3, some (nI size), none, none, none, none, none, none, none, none, none, none, none] (m ++ [.lst l]) = .ok .nx [some (.ref m.length), x1, x2, x3, some (nI size), some (.ref (m.length + 1)), none, none, none, none, none, none, none, none, none, none] (m ++ [.lst l', .lst (ic dat)]) ∧ dat.length = size ∧ SrcL (n + size) l' := by
  obtain ⟨dat, l4, e4, hdl, hl4⟩ := data_lc hp (m := m) (x1 := x1) (x2 := x2) (x3 := x3) (x4 := some (nI size)) (x5 := none) (x6 := none) (x7 := none) (x8 := none) (x9 := none) (x10 := none) (x11 := none) (x12 := none) (x13 := none) (x14 := none) (x15 := none) (rngL 0 size) [] _ l hl (by rw [rngL_len]; omega) (by rw [rngL_len, List.length_nil]; omega)
  rw [rngL_len] at hdl hl4
  have hdl2 : (ic dat).length = size := by rw [List.length_map]; exact hdl
  refine ⟨dat, l4, ?_, hdl, hl4⟩
  unfold g3
  (try walk_at "ev")
  rw [show ((size : Nat) : Int).toNat = size from Int.toNat_natCast size]
  generalize hLc : loopC _ _ _ _ _ = rc
  rw [show rc = _ from hLc.symm.trans e4, List.nil_append]
  (try walk_at "ev")
theorem g4_ok (hp : PickF (F 8)) {Y : Mem} {x1 x2 x3 x4 x5 : Option D} (hl : SrcL n l) (hn : n < 2 ^ 37) : ∃ (v : Nat) (l' : List D),
    g4 F [some (.ref m.length), x1, x2, x3, x4, x5, none, none, none, none, none, none, none, none, none, none] (m ++ .lst l :: Y) = .ok .nx [some (.ref m.length), x1, x2, x3, x4, x5, some (nI v), none, none, none, none, none, none, none, none, none] (m ++ .lst l' :: Y) ∧ v ≤ 131071 ∧ SrcL (n + 1) l' := by
  obtain ⟨v, l5, hvm, e5, _, hl5⟩ := pick7 hp (m := m) (X := Y) (ds := [0, 1, 65535, 65536, 131071, 70000]) hl (by omega) (by decide) (by decide)
  refine ⟨v, l5, ?_, by simp only [List.mem_cons, List.not_mem_nil, or_false] at hvm; omega, hl5⟩
  unfold g4
  (try walk_at "ev")
  rw [show (D.fl [.int 0, .int 1, .int 65535, .int 65536, .int 131071, .int 70000]) = .fl (ic [0, 1, 65535, 65536, 131071, 70000]) from rfl, e5]
  rfl
theorem g5_ok {M : Mem} {v many P0 P1 P2 : Nat} {x0 x1 x4 x5 : Option D} :
    g5 [x0, x1, some (nI many), some (.fl [nI P0, nI P1, nI P2]), x4, x5, some (nI v), none, none, none, none, none, none, none, none, none] M = .ok .nx [x0, x1, some (nI many), some (.fl [nI P0, nI P1, nI P2]), x4, x5, some (nI v), some (.fl ((hdW v many P0 P1).map pW)), none, none, none, none, none, none, none, none] M := by
  unfold g5
  (try walk_at "ev")
  rfl
end
end K37
set_option Elab.async false
set_option linter.all false
set_option maxRecDepth 100000
set_option maxHeartbeats 4000000
namespace K37
open PySem PySem.Spec PyProof.Rows L2 Itp Pg
local macro_rules | `(tactic| walk_at "ev") => `(tactic| simp (disch := first | assumption | omega | ((try simp only [List.length_cons, List.length_nil, List.length_append, List.length_map, List.length_take, List.length_drop, List.length_reverse, List.length_set, List.length_replicate]) <;> omega) | fail) only [r_var, r_c, r_bin, r_bin1, r_bin2, r_bin1x, r_bin2x, r_un, r_un1, r_a0, r_a1, r_a2, r_a3, r_a2x, r_a3x, r_cb, r_cb1, r_cb1x, r_call, r_call1, r_call1x, r_mt, r_mts, r_mtf, r_mtr0, r_mtr1, r_mtr2, r_mtd0, r_mt2, r_test, r_test1, r_test2, r_testx, r_bl, r_bl1, r_blx, r_av, r_av1, r_avt, r_avf, r_ov, r_ov1, r_ovt, r_ovf, r_nv, r_nv1, r_nv2, r_at, r_att, r_atf, r_ot, r_ott, r_otf, r_nt, r_nt1, r_if, r_ift, r_iff, r_ifx, r_tup, r_tup1, r_tupx, r_lst, r_lst1, r_ch, r_ch1, r_ch2, r_ch3, r_ch4, r_isi, r_isi1, r_isi2, r_bd0, r_bd1, r_bd2, r_rev, r_rev1, r_sl, r_sl1, r_sl2, r_sl3, r_it, r_it1, r_itt, r_itf, r_itsc, r_its, r_itr0, r_en, r_en1, r_opi, r_ent, r_enf, r_zip, r_zip1, r_zip2, r_zft, r_ztt, r_rng, r_rng1, r_rng2, r_rng3, r_lc, r_lc1, r_lc2, r_bc1, r_bc2, r_some, r_dnil, r_attr, r_attr1, r_attr2, r_opd, r_meth, r_meth1, r_meth2, r_meth3, r_meth4, r_make, r_make1, r_make2, r_newd, rs_nil, rs_seq, rs_sq1, rs_sq2, rs_sq3, rs_sq4, rs_sq5, rs_ret, rs_ret1, rs_retx, rs_retn, rs_brk, rs_cont, rs_drop, rs_drop1, rs_dropx, rs_asg, rs_asg1, rs_asgx, rs_ope, rs_par, rs_par1, rs_par2, rs_par3, rs_par31, rs_par32, rs_par33, rs_if, rs_ift, rs_iff, rs_ifx, rs_sub, rs_sub1, rs_sub2, rs_sub3, rs_opm, rs_sls, rs_sls1, rs_sls2, rs_sls3, rs_sls4, rs_att, rs_att2, rs_att3, rs_tas0, rs_tas1, rs_tas2, rs_tas3, rs_seta, rs_seta1, rs_seta2, rs_for, rs_for1, rs_body, rs_bodyn, rs_run, rs_end1, rs_end2, rs_end3, r_bnm, r_btu, r_bd00, r_bd01, r_obs, r_trn, r_trb, r_tri, r_trt, r_trf, r_tyn, r_tyb, r_tyi, r_tys, r_tyt, r_tyf, r_tysc, r_dt, r_df, r_eqF, r_eqT, r_eqbF, r_eqbT, r_seF, r_seT, r_isF, r_isT, r_find, r_neg, r_max, r_min, rs_kl1, rs_kl2, rs_kl3, rs_kl4, rs_kl5, r_strix, r_at0, r_at1, r_at2, r_at3, r_at4, r_at5, r_at6, r_at7, r_at8, r_at9, r_at10, r_at11, r_at12, r_all, r_any, r_all_true, rs_try, rs_try1, rs_try2, rs_try3, rs_tra, rs_tra1, rs_tra2, rs_tra3, rs_nox, rs_del1, rs_del2, rs_del3, rs_del4, rs_raise, rs_raise1, rs_raise0, rs_raiseZ, r_xf, r_isx, r_kix, r_kix1, q_atI, q_nok, q_nbad, q_m0, q_m1, q_m2, q_m3, q_s0, q_s1, q_s2, q_s3, q_ss, q_mkT, q_mkF, q_mkM, q_addi, q_adds, q_addt, q_addf, q_subi, q_muli, q_divi, q_modi, q_lt, q_le, q_gt, q_ge, q_ixt, q_ixf, q_ixsc, q_ixrm, q_lens, q_lent, q_lenf, q_lensc, q_lenrm, q_inti, q_intb, q_ord, q_tupt, q_tupf, q_tuprm, q_lstt, q_lstf, q_appm, q_extm, q_slfF, q_slfM, q_sltT, q_sls, nn1, List.isEmpty_nil, List.isEmpty_cons, nx1, nx2, List.map_cons, List.map_nil, List.length_cons, List.length_nil, List.replicate_succ, List.replicate_zero, List.cons_append, List.nil_append, List.append_nil, List.set_cons_succ, List.set_cons_zero, List.getElem?_cons_zero, List.getElem?_cons_succ, Nat.reduceSub, Nat.reduceAdd, List.length_append, List.length_map, List.append_assoc, Nat.zero_add, if_true, if_false, Bool.false_eq_true, Bool.not_true, Bool.not_false, isNonB, wipeE, List.any_cons, List.any_nil, isT, Bool.or_false, Bool.or_true, Bool.false_or, Bool.true_or])
local macro_rules | `(tactic| walk_at "el") => `(tactic| simp (disch := first | assumption | omega | ((try simp only [List.length_cons, List.length_nil, List.length_append, List.length_map, List.length_take, List.length_drop, List.length_reverse, List.length_set, List.length_replicate]) <;> omega) | fail) only [rs_lf0, rs_lf1, r_var, r_c, r_bin, r_bin1, r_bin2, r_bin1x, r_bin2x, r_un, r_un1, r_a0, r_a1, r_a2, r_a3, r_a2x, r_a3x, r_cb, r_cb1, r_cb1x, r_call, r_call1, r_call1x, r_mt, r_mts, r_mtf, r_mtr0, r_mtr1, r_mtr2, r_mtd0, r_mt2, r_test, r_test1, r_test2, r_testx, r_bl, r_bl1, r_blx, r_av, r_av1, r_avt, r_avf, r_ov, r_ov1, r_ovt, r_ovf, r_nv, r_nv1, r_nv2, r_at, r_att, r_atf, r_ot, r_ott, r_otf, r_nt, r_nt1, r_if, r_ift, r_iff, r_ifx, r_tup, r_tup1, r_tupx, r_lst, r_lst1, r_ch, r_ch1, r_ch2, r_ch3, r_ch4, r_isi, r_isi1, r_isi2, r_bd0, r_bd1, r_bd2, r_rev, r_rev1, r_sl, r_sl1, r_sl2, r_sl3, r_it, r_it1, r_itt, r_itf, r_itsc, r_its, r_itr0, r_en, r_en1, r_opi, r_ent, r_enf, r_zip, r_zip1, r_zip2, r_zft, r_ztt, r_rng, r_rng1, r_rng2, r_rng3, r_lc, r_lc1, r_lc2, r_bc1, r_bc2, r_some, r_dnil, r_attr, r_attr1, r_attr2, r_opd, r_meth, r_meth1, r_meth2, r_meth3, r_meth4, r_make, r_make1, r_make2, r_newd, rs_nil, rs_seq, rs_sq1, rs_sq2, rs_sq3, rs_sq4, rs_sq5, rs_ret, rs_ret1, rs_retx, rs_retn, rs_brk, rs_cont, rs_drop, rs_drop1, rs_dropx, rs_asg, rs_asg1, rs_asgx, rs_ope, rs_par, rs_par1, rs_par2, rs_par3, rs_par31, rs_par32, rs_par33, rs_if, rs_ift, rs_iff, rs_ifx, rs_sub, rs_sub1, rs_sub2, rs_sub3, rs_opm, rs_sls, rs_sls1, rs_sls2, rs_sls3, rs_sls4, rs_att, rs_att2, rs_att3, rs_tas0, rs_tas1, rs_tas2, rs_tas3, rs_seta, rs_seta1, rs_seta2, rs_for, rs_for1, rs_body, rs_bodyn, rs_run, rs_end1, rs_end2, rs_end3, r_bnm, r_btu, r_bd00, r_bd01, r_obs, r_trn, r_trb, r_tri, r_trt, r_trf, r_tyn, r_tyb, r_tyi, r_tys, r_tyt, r_tyf, r_tysc, r_dt, r_df, r_eqF, r_eqT, r_eqbF, r_eqbT, r_seF, r_seT, r_isF, r_isT, r_find, r_neg, r_max, r_min, rs_kl1, rs_kl2, rs_kl3, rs_kl4, rs_kl5, r_strix, r_at0, r_at1, r_at2, r_at3, r_at4, r_at5, r_at6, r_at7, r_at8, r_at9, r_at10, r_at11, r_at12, r_all, r_any, r_all_true, rs_try, rs_try1, rs_try2, rs_try3, rs_tra, rs_tra1, rs_tra2, rs_tra3, rs_nox, rs_del1, rs_del2, rs_del3, rs_del4, rs_raise, rs_raise1, rs_raise0, rs_raiseZ, r_xf, r_isx, r_kix, r_kix1, q_atI, q_nok, q_nbad, q_m0, q_m1, q_m2, q_m3, q_s0, q_s1, q_s2, q_s3, q_ss, q_mkT, q_mkF, q_mkM, q_addi, q_adds, q_addt, q_addf, q_subi, q_muli, q_divi, q_modi, q_lt, q_le, q_gt, q_ge, q_ixt, q_ixf, q_ixsc, q_ixrm, q_lens, q_lent, q_lenf, q_lensc, q_lenrm, q_inti, q_intb, q_ord, q_tupt, q_tupf, q_tuprm, q_lstt, q_lstf, q_appm, q_extm, q_slfF, q_slfM, q_sltT, q_sls, nn1, List.isEmpty_nil, List.isEmpty_cons, nx1, nx2, List.map_cons, List.map_nil, List.length_cons, List.length_nil, List.replicate_succ, List.replicate_zero, List.cons_append, List.nil_append, List.append_nil, List.set_cons_succ, List.set_cons_zero, List.getElem?_cons_zero, List.getElem?_cons_succ, Nat.reduceSub, Nat.reduceAdd, List.length_append, List.length_map, List.append_assoc, Nat.zero_add, if_true, if_false, Bool.false_eq_true, Bool.not_true, Bool.not_false, isNonB, wipeE, List.any_cons, List.any_nil, isT, Bool.or_false, Bool.or_true, Bool.false_or, Bool.true_or])
local macro_rules | `(tactic| walk_at "ex") => `(tactic| simp (disch := first | assumption | omega | ((try simp only [List.length_cons, List.length_nil, List.length_append, List.length_map, List.length_take, List.length_drop, List.length_reverse, List.length_set, List.length_replicate]) <;> omega) | fail) only [r_var, r_c, r_bin, r_bin1, r_bin2, r_bin1x, r_bin2x, r_un, r_un1, r_a0, r_a1, r_a2, r_a3, r_a2x, r_a3x, r_cb, r_cb1, r_cb1x, r_call, r_call1, r_call1x, r_mt, r_mts, r_mtf, r_mtr0, r_mtr1, r_mtr2, r_mtd0, r_mt2, r_test, r_test1, r_test2, r_testx, r_bl, r_bl1, r_blx, r_av, r_av1, r_avt, r_avf, r_ov, r_ov1, r_ovt, r_ovf, r_nv, r_nv1, r_nv2, r_at, r_att, r_atf, r_ot, r_ott, r_otf, r_nt, r_nt1, r_if, r_ift, r_iff, r_ifx, r_tup, r_tup1, r_tupx, r_lst, r_lst1, r_ch, r_ch1, r_ch2, r_ch3, r_ch4, r_isi, r_isi1, r_isi2, r_bd0, r_bd1, r_bd2, r_rev, r_rev1, r_sl, r_sl1, r_sl2, r_sl3, r_it, r_it1, r_itt, r_itf, r_itsc, r_its, r_itr0, r_en, r_en1, r_opi, r_ent, r_enf, r_zip, r_zip1, r_zip2, r_zft, r_ztt, r_rng, r_rng1, r_rng2, r_rng3, r_lc, r_lc1, r_lc2, r_bc1, r_bc2, r_some, r_dnil, r_attr, r_attr1, r_attr2, r_opd, r_meth, r_meth1, r_meth2, r_meth3, r_meth4, r_make, r_make1, r_make2, r_newd, rs_nil, rs_seq, rs_sq1, rs_sq2, rs_sq3, rs_sq4, rs_sq5, rs_ret, rs_ret1, rs_retx, rs_retn, rs_brk, rs_cont, rs_drop, rs_drop1, rs_dropx, rs_asg, rs_asg1, rs_asgx, rs_ope, rs_par, rs_par1, rs_par2, rs_par3, rs_par31, rs_par32, rs_par33, rs_if, rs_ift, rs_iff, rs_ifx, rs_sub, rs_sub1, rs_sub2, rs_sub3, rs_opm, rs_sls, rs_sls1, rs_sls2, rs_sls3, rs_sls4, rs_att, rs_att2, rs_att3, rs_tas0, rs_tas1, rs_tas2, rs_tas3, rs_seta, rs_seta1, rs_seta2, rs_for, rs_for1, rs_body, rs_bodyn, rs_run, rs_end1, rs_end2, rs_end3, r_bnm, r_btu, r_bd00, r_bd01, r_obs, r_trn, r_trb, r_tri, r_trt, r_trf, r_tyn, r_tyb, r_tyi, r_tys, r_tyt, r_tyf, r_tysc, r_dt, r_df, r_eqF, r_eqT, r_eqbF, r_eqbT, r_seF, r_seT, r_isF, r_isT, r_find, r_neg, r_max, r_min, rs_kl1, rs_kl2, rs_kl3, rs_kl4, rs_kl5, r_strix, r_at0, r_at1, r_at2, r_at3, r_at4, r_at5, r_at6, r_at7, r_at8, r_at9, r_at10, r_at11, r_at12, r_all, r_any, r_all_true, rs_try, rs_try1, rs_try2, rs_try3, rs_tra, rs_tra1, rs_tra2, rs_tra3, rs_nox, rs_del1, rs_del2, rs_del3, rs_del4, rs_raise, rs_raise1, rs_raise0, rs_raiseZ, r_xf, r_isx, r_kix, r_kix1, q_atI, q_nok, q_nbad, q_m0, q_m1, q_m2, q_m3, q_s0, q_s1, q_s2, q_s3, q_ss, q_mkT, q_mkF, q_mkM, q_addi, q_adds, q_addt, q_addf, q_subi, q_muli, q_divi, q_modi, q_lt, q_le, q_gt, q_ge, q_ixt, q_ixf, q_ixsc, q_ixrm, q_lens, q_lent, q_lenf, q_lensc, q_lenrm, q_inti, q_intb, q_ord, q_tupt, q_tupf, q_tuprm, q_lstt, q_lstf, q_appm, q_extm, q_slfF, q_slfM, q_sltT, q_sls, nn1, List.isEmpty_nil, List.isEmpty_cons, nx1, nx2, List.map_cons, List.map_nil, List.length_cons, List.length_nil, List.replicate_succ, List.replicate_zero, List.cons_append, List.nil_append, List.append_nil, List.set_cons_succ, List.set_cons_zero, List.getElem?_cons_zero, List.getElem?_cons_succ, Nat.reduceSub, Nat.reduceAdd, List.length_append, List.length_map, List.append_assoc, Nat.zero_add, if_true, if_false, Bool.false_eq_true, Bool.not_true, Bool.not_false, isNonB, wipeE, List.any_cons, List.any_nil, isT, Bool.or_false, Bool.or_true, Bool.false_or, Bool.true_or, *])
section
variable {F F1 : Fm} {m : Mem} {n : Nat} {l : List D}
theorem g6_ok {o1 o2 : O} {x0 x1 x2 x3 x4 x5 x6 x7 : Option D} :
    g6 [x0, x1, x2, x3, x4, x5, x6, x7, none, none, none, none, none, none, none, none] (m ++ [o1, o2]) = .ok .nx [x0, x1, x2, x3, x4, x5, x6, x7, some (.ref (m.length + 2)), none, none, none, none, none, none, none] (m ++ [o1, o2, .lst []]) := by
  unfold g6
  (try walk_at "ev")
theorem g7_it {G : SV} {M : Mem} {P0 P1 P2 : Nat} {x0 x1 x2 x4 x5 x6 x7 x8 x9 x10 x11 x12 x13 x14 x15 : Option D} : sFor (dIt (dSl false (dVar 3) none (some (dC (.int 2))))) (.nm 9) G [x0, x1, x2, some (.fl [nI P0, nI P1, nI P2]), x4, x5, x6, x7, x8, x9, x10, x11, x12, x13, x14, x15] M = loopF gT (bodyF (.nm 9) G) [nI P0, nI P1] [x0, x1, x2, some (.fl [nI P0, nI P1, nI P2]), x4, x5, x6, x7, x8, x9, x10, x11, x12, x13, x14, x15] M := by
  (try walk_at "ev")
  rfl
theorem g7_ok (hd : DrawF (F 7)) {many P0 P1 P2 size : Nat} {W0 : List (Nat × Nat)} {D0 : List D} {x1 x6 : Option D} (hl : SrcL n l) (hn : n < 2 ^ 37) (hm : many < 8) (hB : Bl many P0 P1 size) (hW : W0.length ≤ 50) : ∃ (b0 b1 : Nat → Nat × Nat) (l' : List D) (y9 y10 y11 y12 : Option D),
    g7 F [some (.ref m.length), x1, some (nI many), some (.fl [nI P0, nI P1, nI P2]), some (nI size), some (.ref (m.length + 1)), x6, some (.fl (W0.map pW)), some (.ref (m.length + 2)), none, none, none, none, none, none, none] (m ++ [.lst l, .lst D0, .lst []])
    = .ok .nx [some (.ref m.length), x1, some (nI many), some (.fl [nI P0, nI P1, nI P2]), some (nI size), some (.ref (m.length + 1)), x6, some (.fl ((W0 ++ tabW P0 b0 many ++ tabW P1 b1 many).map pW)), some (.ref (m.length + 2)), y9, y10, y11, y12, none, none, none] (m ++ [.lst l', .lst D0, .lst (((List.range many).map b0 ++ (List.range many).map b1).map pW)]) ∧
    (∀ k, k < many → (b0 k).1 + (b0 k).2 < size) ∧ (∀ k, k < many → (b1 k).1 + (b1 k).2 < size) ∧ SrcL (n + 4 * many) l' := by
  have a0 := hB.a0
  have c0 := hB.b0
  have c1 := hB.b1
  have ss := hB.s
  obtain ⟨b0, l6, y10, y11, y12, g0, hl6, e6⟩ := tab_loop hd (m := m) (T := P0) (W0 := W0) (S0 := []) (D0 := D0) hl (by omega) hm (show size ≤ 300 by omega) (by omega) (by omega) (by decide) (by omega) (x1 := x1) (x3 := some (.fl [nI P0, nI P1, nI P2])) (x6 := x6) (x10 := none) (x11 := none) (x12 := none) (x13 := none) (x14 := none) (x15 := none)
  obtain ⟨b1, l7, z10, z11, z12, g1, hl7, e7⟩ := tab_loop hd (m := m) (T := P1) (W0 := W0 ++ tabW P0 b0 many) (S0 := [] ++ (List.range many).map b0) (D0 := D0) hl6 (by omega) hm (show size ≤ 300 by omega) (by omega) (by rw [List.length_append, tabW_len]; omega) (by rw [List.nil_append, List.length_map, List.length_range]; omega) (by omega) (x1 := x1) (x3 := some (.fl [nI P0, nI P1, nI P2])) (x6 := x6) (x10 := y10) (x11 := y11) (x12 := y12) (x13 := none) (x14 := none) (x15 := none)
  refine ⟨b0, b1, l7, some (nI P1), z10, z11, z12, ?_, g0, g1, hl7.mono (by omega)⟩
  rw [List.map_nil] at e6
  rw [List.nil_append] at e6 e7
  unfold g7
  have e6' : gT1 (F 7) _ _ = _ := e6
  have e7' : gT1 (F 7) _ _ = _ := e7
  clear e6 e7
  generalize gT1 (F 7) = G at e6' e7' ⊢
  rw [g7_it, rs_lf1, rs_bodyn]
  simp only [List.set_cons_succ, List.set_cons_zero]
  rw [e6', rs_kl1, rs_lf1, rs_bodyn]
  simp only [List.set_cons_succ, List.set_cons_zero]
  rw [e7', rs_kl1, rs_lf0]
theorem g8_ok (hw : LWordF (F 12)) {Y : Mem} {bg : Bool} {size : Nat} {W : List (Nat × Nat)} {L : List Nat} (ok : Wok W size) (hL : L.length = size) (hs : size ≤ 300) {x0 x2 x3 x4 x6 x8 x9 x10 x11 x12 x13 x14 x15 : Option D} :
    ∃ (L' : List Nat) (y13 y14 : Option D), g8 F [x0, some (.str (oS bg)), x2, x3, x4, some (.ref (m.length + 1)), x6, some (.fl (W.map pW)), x8, x9, x10, x11, x12, x13, x14, x15] (m ++ .lst l :: .lst (ic L) :: Y) = .ok .nx [x0, some (.str (oS bg)), x2, x3, x4, some (.ref (m.length + 1)), x6, some (.fl (W.map pW)), x8, x9, x10, x11, x12, y13, y14, x15] (m ++ .lst l :: .lst (ic L') :: Y) ∧ L'.length = size ∧ Wrt bg W L' := by
  obtain ⟨L', y13, y14, e, h⟩ := wr_loop hw (m := m) (Y := Y) (l := l) (bg := bg) (L := L) ok hL hs (x0 := x0) (x2 := x2) (x3 := x3) (x4 := x4) (x6 := x6) (x7 := some (.fl (W.map pW))) (x8 := x8) (x9 := x9) (x10 := x10) (x11 := x11) (x12 := x12) (x13 := x13) (x14 := x14) (x15 := x15)
  refine ⟨L', y13, y14, ?_, h⟩
  unfold g8
  (try walk_at "ev")
  exact e
def spB (P0 P1 many : Nat) (b0 b1 : Nat → Nat × Nat) : List (Nat × Nat) := (List.range many).map (BF P0 P1 b0 b1 0) ++ (List.range many).map (BF P0 P1 b0 b1 1)
theorem g9_ok {o1 : O} {L : List Nat} {many P0 P1 P2 : Nat} {b0 b1 : Nat → Nat × Nat} (hm : many < 8) {x0 x1 x4 x5 x6 x7 x9 x10 x11 x12 x13 x14 : Option D} : ∃ (a : Nat) (Y : Mem),
    g9 [x0, x1, some (nI many), some (.fl [nI P0, nI P1, nI P2]), x4, x5, x6, x7, some (.ref (m.length + 2)), x9, x10, x11, x12, x13, x14, none] (m ++ [o1, .lst (ic L), .lst (((List.range many).map b0 ++ (List.range many).map b1).map pW)])
    = .ok .nx [x0, x1, some (nI many), some (.fl [nI P0, nI P1, nI P2]), x4, x5, x6, x7, some (.ref a), x9, x10, x11, x12, x13, x14, none] (m ++ o1 :: .lst (ic L) :: Y) ∧ (m ++ o1 :: .lst (ic L) :: Y : List O)[a]? = some (.lst ((spB P0 P1 many b0 b1).map pW)) := by
  unfold g9
  by_cases c : P0 = P1
  · subst c
    (try walk_at "ev")
    have hr : ∀ b : Nat → Nat × Nat, ((List.range many).map b).length = many := fun b => by rw [List.length_map, List.length_range]
    rw [q_slr q_m2, q_mkF (Nat.le_trans (Nat.le_trans cutD_le' (by rw [List.length_map, List.length_append, hr, hr]; exact (show many + many ≤ 16 by omega))) (by decide))]
    have hc : Itp.cutD (((List.range many).map b0 ++ (List.range many).map b1).map pW) (some (many : Int)) none = ((List.range many).map b1).map pW := by
      unfold Itp.cutD
      rw [HT.sIx_nat, List.length_map, List.length_append, hr, hr, Nat.min_eq_left (by omega)]
      show List.take (many + many - many) _ = _
      rw [List.map_append, List.drop_left' (by rw [List.length_map, hr]), List.take_of_length_le (by rw [List.length_map, hr]; omega)]
    rw [hc]
    (try walk_at "ev")
    have hm2 : ∀ M : Mem, opMul true (.fl (((List.range many).map b1).map pW)) (.int 2) M = .ok (.ref M.length) (M ++ [.lst (((List.range many).map b1 ++ (List.range many).map b1).map pW)]) := fun M => by
      have hl : (((List.range many).map b1).map pW).length = many := by rw [List.length_map, hr]
      show (if decide (-(2 ^ 63) ≤ (2 : Int) ∧ (2 : Int) < 2 ^ 63 ∧ (((List.range many).map b1).map pW).length * (2 : Int).toNat ≤ SZ) then mkL true (repD (2 : Int).toNat (((List.range many).map b1).map pW)) M else .bad) = _
      rw [if_pos (decide_eq_true ⟨by decide, by decide, by rw [hl]; exact Nat.le_trans (show many * 2 ≤ 16 by omega) (by decide)⟩)]
      have hrep : repD (2 : Int).toNat (((List.range many).map b1).map pW) = ((List.range many).map b1 ++ (List.range many).map b1).map pW := by
        show (((List.range many).map b1).map pW) ++ ((((List.range many).map b1).map pW) ++ []) = _
        rw [List.append_nil, List.map_append]
      rw [hrep, q_mkM (Nat.le_trans (show _ ≤ 16 by rw [List.length_map, List.length_append, hr]; omega) (by decide))]
    rw [hm2]
    (try walk_at "ev")
    refine ⟨m.length + 3, [.lst (((List.range many).map b0 ++ (List.range many).map b1).map pW), .lst (((List.range many).map b1 ++ (List.range many).map b1).map pW)], ?_, ?_⟩
    · simp
    · rw [q_m3]
      unfold spB BF
      rw [if_pos rfl, if_pos rfl]
  · refine ⟨m.length + 2, [.lst (((List.range many).map b0 ++ (List.range many).map b1).map pW)], ?_, ?_⟩
    · (try walk_at "ev")
    · rw [q_m2]
      unfold spB BF
      rw [if_neg c, if_neg c]
      rfl
end
end K37
set_option Elab.async false
set_option linter.all false
set_option maxRecDepth 100000
set_option maxHeartbeats 4000000
namespace K37
open PySem PySem.Spec PyProof.Rows L2 Itp Pg
local macro_rules | `(tactic| walk_at "ev") => `(tactic| simp -implicitDefEqProofs (disch := first | assumption | omega | ((try simp only [List.length_cons, List.length_nil, List.length_append, List.length_map, List.length_take, List.length_drop, List.length_reverse, List.length_set, List.length_replicate]) <;> omega) | fail) only [r_var, r_c, r_bin, r_bin1, r_bin2, r_bin1x, r_bin2x, r_un, r_un1, r_a0, r_a1, r_a2, r_a3, r_a2x, r_a3x, r_cb, r_cb1, r_cb1x, r_call, r_call1, r_call1x, r_mt, r_mts, r_mtf, r_mtr0, r_mtr1, r_mtr2, r_mtd0, r_mt2, r_test, r_test1, r_test2, r_testx, r_bl, r_bl1, r_blx, r_av, r_av1, r_avt, r_avf, r_ov, r_ov1, r_ovt, r_ovf, r_nv, r_nv1, r_nv2, r_at, r_att, r_atf, r_ot, r_ott, r_otf, r_nt, r_nt1, r_if, r_ift, r_iff, r_ifx, r_tup, r_tup1, r_tupx, r_lst, r_lst1, r_ch, r_ch1, r_ch2, r_ch3, r_ch4, r_isi, r_isi1, r_isi2, r_bd0, r_bd1, r_bd2, r_rev, r_rev1, r_sl, r_sl1, r_sl2, r_sl3, r_it, r_it1, r_itt, r_itf, r_itsc, r_its, r_itr0, r_en, r_en1, r_opi, r_ent, r_enf, r_zip, r_zip1, r_zip2, r_zft, r_ztt, r_rng, r_rng1, r_rng2, r_rng3, r_lc, r_lc1, r_lc2, r_bc1, r_bc2, r_some, r_dnil, r_attr, r_attr1, r_attr2, r_opd, r_meth, r_meth1, r_meth2, r_meth3, r_meth4, r_make, r_make1, r_make2, r_newd, rs_nil, rs_seq, rs_sq1, rs_sq2, rs_sq3, rs_sq4, rs_sq5, rs_ret, rs_ret1, rs_retx, rs_retn, rs_brk, rs_cont, rs_drop, rs_drop1, rs_dropx, rs_asg, rs_asg1, rs_asgx, rs_ope, rs_par, rs_par1, rs_par2, rs_par3, rs_par31, rs_par32, rs_par33, rs_if, rs_ift, rs_iff, rs_ifx, rs_sub, rs_sub1, rs_sub2, rs_sub3, rs_opm, rs_sls, rs_sls1, rs_sls2, rs_sls3, rs_sls4, rs_att, rs_att2, rs_att3, rs_tas0, rs_tas1, rs_tas2, rs_tas3, rs_seta, rs_seta1, rs_seta2, rs_for, rs_for1, rs_body, rs_bodyn, rs_run, rs_end1, rs_end2, rs_end3, r_bnm, r_btu, r_bd00, r_bd01, r_obs, r_trn, r_trb, r_tri, r_trt, r_trf, r_tyn, r_tyb, r_tyi, r_tys, r_tyt, r_tyf, r_tysc, r_dt, r_df, r_eqF, r_eqT, r_eqbF, r_eqbT, r_seF, r_seT, r_isF, r_isT, r_find, r_neg, r_max, r_min, rs_kl1, rs_kl2, rs_kl3, rs_kl4, rs_kl5, r_strix, r_at0, r_at1, r_at2, r_at3, r_at4, r_at5, r_at6, r_at7, r_at8, r_at9, r_at10, r_at11, r_at12, r_all, r_any, r_all_true, rs_try, rs_try1, rs_try2, rs_try3, rs_tra, rs_tra1, rs_tra2, rs_tra3, rs_nox, rs_del1, rs_del2, rs_del3, rs_del4, rs_raise, rs_raise1, rs_raise0, rs_raiseZ, r_xf, r_isx, r_kix, r_kix1, q_atI, q_nok, q_nbad, q_m0, q_m1, q_m2, q_m3, q_s0, q_s1, q_s2, q_s3, q_ss, q_mkT, q_mkF, q_mkM, q_addi, q_adds, q_addt, q_addf, q_subi, q_muli, q_divi, q_modi, q_lt, q_le, q_gt, q_ge, q_ixt, q_ixf, q_ixsc, q_ixrm, q_lens, q_lent, q_lenf, q_lensc, q_lenrm, q_inti, q_intb, q_ord, q_tupt, q_tupf, q_tuprm, q_lstt, q_lstf, q_appm, q_extm, q_slfF, q_slfM, q_sltT, q_sls, nn1, List.isEmpty_nil, List.isEmpty_cons, nx1, nx2, List.map_cons, List.map_nil, List.length_cons, List.length_nil, List.replicate_succ, List.replicate_zero, List.cons_append, List.nil_append, List.append_nil, List.set_cons_succ, List.set_cons_zero, List.getElem?_cons_zero, List.getElem?_cons_succ, Nat.reduceSub, Nat.reduceAdd, List.length_append, List.length_map, List.append_assoc, Nat.zero_add, if_true, if_false, Bool.false_eq_true, Bool.not_true, Bool.not_false, isNonB, wipeE, List.any_cons, List.any_nil, isT, Bool.or_false, Bool.or_true, Bool.false_or, Bool.true_or])
local macro_rules | `(tactic| walk_at "el") => `(tactic| simp -implicitDefEqProofs (disch := first | assumption | omega | ((try simp only [List.length_cons, List.length_nil, List.length_append, List.length_map, List.length_take, List.length_drop, List.length_reverse, List.length_set, List.length_replicate]) <;> omega) | fail) only [rs_lf0, rs_lf1, r_var, r_c, r_bin, r_bin1, r_bin2, r_bin1x, r_bin2x, r_un, r_un1, r_a0, r_a1, r_a2, r_a3, r_a2x, r_a3x, r_cb, r_cb1, r_cb1x, r_call, r_call1, r_call1x, r_mt, r_mts, r_mtf, r_mtr0, r_mtr1, r_mtr2, r_mtd0, r_mt2, r_test, r_test1, r_test2, r_testx, r_bl, r_bl1, r_blx, r_av, r_av1, r_avt, r_avf, r_ov, r_ov1, r_ovt, r_ovf, r_nv, r_nv1, r_nv2, r_at, r_att, r_atf, r_ot, r_ott, r_otf, r_nt, r_nt1, r_if, r_ift, r_iff, r_ifx, r_tup, r_tup1, r_tupx, r_lst, r_lst1, r_ch, r_ch1, r_ch2, r_ch3, r_ch4, r_isi, r_isi1, r_isi2, r_bd0, r_bd1, r_bd2, r_rev, r_rev1, r_sl, r_sl1, r_sl2, r_sl3, r_it, r_it1, r_itt, r_itf, r_itsc, r_its, r_itr0, r_en, r_en1, r_opi, r_ent, r_enf, r_zip, r_zip1, r_zip2, r_zft, r_ztt, r_rng, r_rng1, r_rng2, r_rng3, r_lc, r_lc1, r_lc2, r_bc1, r_bc2, r_some, r_dnil, r_attr, r_attr1, r_attr2, r_opd, r_meth, r_meth1, r_meth2, r_meth3, r_meth4, r_make, r_make1, r_make2, r_newd, rs_nil, rs_seq, rs_sq1, rs_sq2, rs_sq3, rs_sq4, rs_sq5, rs_ret, rs_ret1, rs_retx, rs_retn, rs_brk, rs_cont, rs_drop, rs_drop1, rs_dropx, rs_asg, rs_asg1, rs_asgx, rs_ope, rs_par, rs_par1, rs_par2, rs_par3, rs_par31, rs_par32, rs_par33, rs_if, rs_ift, rs_iff, rs_ifx, rs_sub, rs_sub1, rs_sub2, rs_sub3, rs_opm, rs_sls, rs_sls1, rs_sls2, rs_sls3, rs_sls4, rs_att, rs_att2, rs_att3, rs_tas0, rs_tas1, rs_tas2, rs_tas3, rs_seta, rs_seta1, rs_seta2, rs_for, rs_for1, rs_body, rs_bodyn, rs_run, rs_end1, rs_end2, rs_end3, r_bnm, r_btu, r_bd00, r_bd01, r_obs, r_trn, r_trb, r_tri, r_trt, r_trf, r_tyn, r_tyb, r_tyi, r_tys, r_tyt, r_tyf, r_tysc, r_dt, r_df, r_eqF, r_eqT, r_eqbF, r_eqbT, r_seF, r_seT, r_isF, r_isT, r_find, r_neg, r_max, r_min, rs_kl1, rs_kl2, rs_kl3, rs_kl4, rs_kl5, r_strix, r_at0, r_at1, r_at2, r_at3, r_at4, r_at5, r_at6, r_at7, r_at8, r_at9, r_at10, r_at11, r_at12, r_all, r_any, r_all_true, rs_try, rs_try1, rs_try2, rs_try3, rs_tra, rs_tra1, rs_tra2, rs_tra3, rs_nox, rs_del1, rs_del2, rs_del3, rs_del4, rs_raise, rs_raise1, rs_raise0, rs_raiseZ, r_xf, r_isx, r_kix, r_kix1, q_atI, q_nok, q_nbad, q_m0, q_m1, q_m2, q_m3, q_s0, q_s1, q_s2, q_s3, q_ss, q_mkT, q_mkF, q_mkM, q_addi, q_adds, q_addt, q_addf, q_subi, q_muli, q_divi, q_modi, q_lt, q_le, q_gt, q_ge, q_ixt, q_ixf, q_ixsc, q_ixrm, q_lens, q_lent, q_lenf, q_lensc, q_lenrm, q_inti, q_intb, q_ord, q_tupt, q_tupf, q_tuprm, q_lstt, q_lstf, q_appm, q_extm, q_slfF, q_slfM, q_sltT, q_sls, nn1, List.isEmpty_nil, List.isEmpty_cons, nx1, nx2, List.map_cons, List.map_nil, List.length_cons, List.length_nil, List.replicate_succ, List.replicate_zero, List.cons_append, List.nil_append, List.append_nil, List.set_cons_succ, List.set_cons_zero, List.getElem?_cons_zero, List.getElem?_cons_succ, Nat.reduceSub, Nat.reduceAdd, List.length_append, List.length_map, List.append_assoc, Nat.zero_add, if_true, if_false, Bool.false_eq_true, Bool.not_true, Bool.not_false, isNonB, wipeE, List.any_cons, List.any_nil, isT, Bool.or_false, Bool.or_true, Bool.false_or, Bool.true_or])
local macro_rules | `(tactic| walk_at "ex") => `(tactic| simp -implicitDefEqProofs (disch := first | assumption | omega | ((try simp only [List.length_cons, List.length_nil, List.length_append, List.length_map, List.length_take, List.length_drop, List.length_reverse, List.length_set, List.length_replicate]) <;> omega) | fail) only [r_var, r_c, r_bin, r_bin1, r_bin2, r_bin1x, r_bin2x, r_un, r_un1, r_a0, r_a1, r_a2, r_a3, r_a2x, r_a3x, r_cb, r_cb1, r_cb1x, r_call, r_call1, r_call1x, r_mt, r_mts, r_mtf, r_mtr0, r_mtr1, r_mtr2, r_mtd0, r_mt2, r_test, r_test1, r_test2, r_testx, r_bl, r_bl1, r_blx, r_av, r_av1, r_avt, r_avf, r_ov, r_ov1, r_ovt, r_ovf, r_nv, r_nv1, r_nv2, r_at, r_att, r_atf, r_ot, r_ott, r_otf, r_nt, r_nt1, r_if, r_ift, r_iff, r_ifx, r_tup, r_tup1, r_tupx, r_lst, r_lst1, r_ch, r_ch1, r_ch2, r_ch3, r_ch4, r_isi, r_isi1, r_isi2, r_bd0, r_bd1, r_bd2, r_rev, r_rev1, r_sl, r_sl1, r_sl2, r_sl3, r_it, r_it1, r_itt, r_itf, r_itsc, r_its, r_itr0, r_en, r_en1, r_opi, r_ent, r_enf, r_zip, r_zip1, r_zip2, r_zft, r_ztt, r_rng, r_rng1, r_rng2, r_rng3, r_lc, r_lc1, r_lc2, r_bc1, r_bc2, r_some, r_dnil, r_attr, r_attr1, r_attr2, r_opd, r_meth, r_meth1, r_meth2, r_meth3, r_meth4, r_make, r_make1, r_make2, r_newd, rs_nil, rs_seq, rs_sq1, rs_sq2, rs_sq3, rs_sq4, rs_sq5, rs_ret, rs_ret1, rs_retx, rs_retn, rs_brk, rs_cont, rs_drop, rs_drop1, rs_dropx, rs_asg, rs_asg1, rs_asgx, rs_ope, rs_par, rs_par1, rs_par2, rs_par3, rs_par31, rs_par32, rs_par33, rs_if, rs_ift, rs_iff, rs_ifx, rs_sub, rs_sub1, rs_sub2, rs_sub3, rs_opm, rs_sls, rs_sls1, rs_sls2, rs_sls3, rs_sls4, rs_att, rs_att2, rs_att3, rs_tas0, rs_tas1, rs_tas2, rs_tas3, rs_seta, rs_seta1, rs_seta2, rs_for, rs_for1, rs_body, rs_bodyn, rs_run, rs_end1, rs_end2, rs_end3, r_bnm, r_btu, r_bd00, r_bd01, r_obs, r_trn, r_trb, r_tri, r_trt, r_trf, r_tyn, r_tyb, r_tyi, r_tys, r_tyt, r_tyf, r_tysc, r_dt, r_df, r_eqF, r_eqT, r_eqbF, r_eqbT, r_seF, r_seT, r_isF, r_isT, r_find, r_neg, r_max, r_min, rs_kl1, rs_kl2, rs_kl3, rs_kl4, rs_kl5, r_strix, r_at0, r_at1, r_at2, r_at3, r_at4, r_at5, r_at6, r_at7, r_at8, r_at9, r_at10, r_at11, r_at12, r_all, r_any, r_all_true, rs_try, rs_try1, rs_try2, rs_try3, rs_tra, rs_tra1, rs_tra2, rs_tra3, rs_nox, rs_del1, rs_del2, rs_del3, rs_del4, rs_raise, rs_raise1, rs_raise0, rs_raiseZ, r_xf, r_isx, r_kix, r_kix1, q_atI, q_nok, q_nbad, q_m0, q_m1, q_m2, q_m3, q_s0, q_s1, q_s2, q_s3, q_ss, q_mkT, q_mkF, q_mkM, q_addi, q_adds, q_addt, q_addf, q_subi, q_muli, q_divi, q_modi, q_lt, q_le, q_gt, q_ge, q_ixt, q_ixf, q_ixsc, q_ixrm, q_lens, q_lent, q_lenf, q_lensc, q_lenrm, q_inti, q_intb, q_ord, q_tupt, q_tupf, q_tuprm, q_lstt, q_lstf, q_appm, q_extm, q_slfF, q_slfM, q_sltT, q_sls, nn1, List.isEmpty_nil, List.isEmpty_cons, nx1, nx2, List.map_cons, List.map_nil, List.length_cons, List.length_nil, List.replicate_succ, List.replicate_zero, List.cons_append, List.nil_append, List.append_nil, List.set_cons_succ, List.set_cons_zero, List.getElem?_cons_zero, List.getElem?_cons_succ, Nat.reduceSub, Nat.reduceAdd, List.length_append, List.length_map, List.append_assoc, Nat.zero_add, if_true, if_false, Bool.false_eq_true, Bool.not_true, Bool.not_false, isNonB, wipeE, List.any_cons, List.any_nil, isT, Bool.or_false, Bool.or_true, Bool.false_or, Bool.true_or, *])
section
variable {F F1 : Fm} {m : Mem} {n : Nat} {l : List D}
abbrev cD (L : List Nat) (z : Nat × Nat) : D := .tup (ic (pc L z))
theorem g10_ok {o1 : O} {Y : Mem} {L : List Nat} {S : List (Nat × Nat)} {a : Nat} (hL : L.length ≤ 400) (hS : S.length ≤ 100) (ha : (m ++ o1 :: .lst (ic L) :: Y : List O)[a]? = some (.lst (S.map pW))) {x0 x1 x2 x3 x4 x6 x7 x9 x10 x11 x12 x13 x14 : Option D} :
    ∃ y11 y12, g10 [x0, x1, x2, x3, x4, some (.ref (m.length + 1)), x6, x7, some (.ref a), x9, x10, x11, x12, x13, x14, none] (m ++ o1 :: .lst (ic L) :: Y)
    = .ok .nx [x0, x1, x2, x3, x4, some (.ref (m.length + 1)), x6, x7, some (.ref a), x9, x10, y11, y12, x13, x14, some (.fl (S.map (cD L)))] (m ++ o1 :: .lst (ic L) :: Y) := by
  have hlc : ∀ x11 x12, loopC (gL a (S.map pW)) (bodyC [11, 12] (.tup [(.nm 11), (.nm 12)]) dNil (dCB bTuple [(dSl false (dVar 5) (some (dVar 11)) (some (dBin (opAdd false) (dVar 11) (dVar 12))))]) [x0, x1, x2, x3, x4, some (.ref (m.length + 1)), x6, x7, some (.ref a), x9, x10, x11, x12, x13, x14, none]) (S.map pW) [] (m ++ o1 :: .lst (ic L) :: Y) = .ok (S.map (cD L)) (m ++ o1 :: .lst (ic L) :: Y) := fun x11 x12 => by
    refine lc_mapN pW (cD L) (gL_ok ha) (fun z _ => ?_) (Nat.le_trans hS (by decide))
    rw [r_bc (e1 := [x0, x1, x2, x3, x4, some (.ref (m.length + 1)), x6, x7, some (.ref a), x9, x10, some (nI z.1), some (nI z.2), x13, x14, none]) rfl]
    have hz : (pc L z).length ≤ 400 := by unfold pc; rw [List.length_take, List.length_drop]; omega
    have hcut : Itp.cutD (ic L) (some (z.1 : Int)) (some ((z.1 : Int) + (z.2 : Int))) = ic (pc L z) := by
      rw [cutD_ic, cutN_I (α := Nat) (by omega) (by omega), show ((z.1 : Int) + (z.2 : Int)).toNat - (z.1 : Int).toNat = z.2 by omega, Int.toNat_natCast]
      rfl
    (try walk_at "ev")
    rw [q_slr q_m1, hcut, q_mkF (Nat.le_trans (show (ic (pc L z)).length ≤ 400 by rw [List.length_map]; exact hz) (by decide))]
    (try walk_at "ev")
  refine ⟨x11, x12, ?_⟩
  unfold g10
  (try walk_at "ev")
  rw [r_itr ha]
  (try walk_at "ev")
  rw [hlc]
  (try walk_at "ev")
theorem g11_ok {o1 : O} {Y : Mem} {L : List Nat} {many : Nat} {B : Nat → Nat → Nat × Nat} (hL : L.length ≤ 400) (hm : many < 8) {x0 x1 x3 x4 x6 x7 x8 x9 x10 x11 x12 x13 x14 : Option D} :
    g11 [x0, x1, some (nI many), x3, x4, some (.ref (m.length + 1)), x6, x7, x8, x9, x10, x11, x12, x13, x14, some (.fl (((List.range many).map (B 0) ++ (List.range many).map (B 1)).map (cD L)))] (m ++ o1 :: .lst (ic L) :: Y)
    = .ok (.ret (.tup [.tup (ic L), .fl ((List.range many).map (entD L B))])) [x0, x1, some (nI many), x3, x4, some (.ref (m.length + 1)), x6, x7, x8, x9, x10, x11, x12, x13, x14, some (.fl (((List.range many).map (B 0) ++ (List.range many).map (B 1)).map (cD L)))] (m ++ o1 :: .lst (ic L) :: Y) := by
  have hr : ∀ b : Nat → Nat × Nat, ((List.range many).map b).length = many := fun b => by rw [List.length_map, List.length_range]
  have hlc : loopC gT (bodyC [10] (.nm 10) dNil (dTup [(dBin opIx (dVar 15) (dVar 10)), (dBin opIx (dVar 15) (dBin (opAdd false) (dVar 2) (dVar 10)))]) [x0, x1, some (nI many), x3, x4, some (.ref (m.length + 1)), x6, x7, x8, x9, x10, x11, x12, x13, x14, some (.fl (((List.range many).map (B 0) ++ (List.range many).map (B 1)).map (cD L)))]) (rngL 0 many) [] (m ++ o1 :: .lst (ic L) :: Y) = .ok ((List.range many).map (entD L B)) (m ++ o1 :: .lst (ic L) :: Y) := by
    refine lc_mapN (fun (i : Nat) => .int ((0 : Int) + (i : Int))) (entD L B) rfl (fun k hk => ?_) (by rw [List.length_range]; exact Nat.le_trans (show many ≤ 8 by omega) (by decide))
    have hk : k < many := List.mem_range.mp hk
    have e0 : ((((List.range many).map (B 0) ++ (List.range many).map (B 1)).map (cD L)) : List D)[k]? = some (cD L (B 0 k)) := by
      rw [List.getElem?_map, List.getElem?_append_left (by rw [hr]; exact hk), List.getElem?_map, List.getElem?_range hk]; rfl
    have e1 : ((((List.range many).map (B 0) ++ (List.range many).map (B 1)).map (cD L)) : List D)[many + k]? = some (cD L (B 1 k)) := by
      rw [List.getElem?_map, List.getElem?_append_right (by rw [hr]; omega), hr, show many + k - many = k by omega, List.getElem?_map, List.getElem?_range hk]; rfl
    generalize ((List.range many).map (B 0) ++ (List.range many).map (B 1)).map (cD L) = C at e0 e1
    rw [bodyC_nmE, show (0 : Int) + (k : Int) = (k : Int) by omega]
    (try walk_at "ev")
    rw [e0]
    (try walk_at "ev")
    rw [show (many : Int) + (k : Int) = ((many + k : Nat) : Int) by omega, q_atI, e1]
    (try walk_at "ev")
    rfl
  unfold g11
  (try walk_at "ev")
  rw [q_tupr (ds := ic L) q_m1, q_mkT (by rw [List.length_map]; exact Nat.le_trans hL (by decide))]
  (try walk_at "ev")
  rw [show ((many : Nat) : Int).toNat = many from Int.toNat_natCast many]
  rw [hlc]
  have hx : ((List.range many).map (entD L B)).length = many := by rw [List.length_map, List.length_range]
  (try walk_at "ev")
end
end K37
set_option Elab.async false
set_option linter.all false
set_option maxRecDepth 100000
set_option maxHeartbeats 4000000
namespace K37
open PySem PySem.Spec PyProof.Rows L2 Itp Pg
local macro_rules | `(tactic| walk_at "ev") => `(tactic| simp -implicitDefEqProofs (disch := first | assumption | omega | ((try simp only [List.length_cons, List.length_nil, List.length_append, List.length_map, List.length_take, List.length_drop, List.length_reverse, List.length_set, List.length_replicate]) <;> omega) | fail) only [r_var, r_c, r_bin, r_bin1, r_bin2, r_bin1x, r_bin2x, r_un, r_un1, r_a0, r_a1, r_a2, r_a3, r_a2x, r_a3x, r_cb, r_cb1, r_cb1x, r_call, r_call1, r_call1x, r_mt, r_mts, r_mtf, r_mtr0, r_mtr1, r_mtr2, r_mtd0, r_mt2, r_test, r_test1, r_test2, r_testx, r_bl, r_bl1, r_blx, r_av, r_av1, r_avt, r_avf, r_ov, r_ov1, r_ovt, r_ovf, r_nv, r_nv1, r_nv2, r_at, r_att, r_atf, r_ot, r_ott, r_otf, r_nt, r_nt1, r_if, r_ift, r_iff, r_ifx, r_tup, r_tup1, r_tupx, r_lst, r_lst1, r_ch, r_ch1, r_ch2, r_ch3, r_ch4, r_isi, r_isi1, r_isi2, r_bd0, r_bd1, r_bd2, r_rev, r_rev1, r_sl, r_sl1, r_sl2, r_sl3, r_it, r_it1, r_itt, r_itf, r_itsc, r_its, r_itr0, r_en, r_en1, r_opi, r_ent, r_enf, r_zip, r_zip1, r_zip2, r_zft, r_ztt, r_rng, r_rng1, r_rng2, r_rng3, r_lc, r_lc1, r_lc2, r_bc1, r_bc2, r_some, r_dnil, r_attr, r_attr1, r_attr2, r_opd, r_meth, r_meth1, r_meth2, r_meth3, r_meth4, r_make, r_make1, r_make2, r_newd, rs_nil, rs_seq, rs_sq1, rs_sq2, rs_sq3, rs_sq4, rs_sq5, rs_ret, rs_ret1, rs_retx, rs_retn, rs_brk, rs_cont, rs_drop, rs_drop1, rs_dropx, rs_asg, rs_asg1, rs_asgx, rs_ope, rs_par, rs_par1, rs_par2, rs_par3, rs_par31, rs_par32, rs_par33, rs_if, rs_ift, rs_iff, rs_ifx, rs_sub, rs_sub1, rs_sub2, rs_sub3, rs_opm, rs_sls, rs_sls1, rs_sls2, rs_sls3, rs_sls4, rs_att, rs_att2, rs_att3, rs_tas0, rs_tas1, rs_tas2, rs_tas3, rs_seta, rs_seta1, rs_seta2, rs_for, rs_for1, rs_body, rs_bodyn, rs_run, rs_end1, rs_end2, rs_end3, r_bnm, r_btu, r_bd00, r_bd01, r_obs, r_trn, r_trb, r_tri, r_trt, r_trf, r_tyn, r_tyb, r_tyi, r_tys, r_tyt, r_tyf, r_tysc, r_dt, r_df, r_eqF, r_eqT, r_eqbF, r_eqbT, r_seF, r_seT, r_isF, r_isT, r_find, r_neg, r_max, r_min, rs_kl1, rs_kl2, rs_kl3, rs_kl4, rs_kl5, r_strix, r_at0, r_at1, r_at2, r_at3, r_at4, r_at5, r_at6, r_at7, r_at8, r_at9, r_at10, r_at11, r_at12, r_all, r_any, r_all_true, rs_try, rs_try1, rs_try2, rs_try3, rs_tra, rs_tra1, rs_tra2, rs_tra3, rs_nox, rs_del1, rs_del2, rs_del3, rs_del4, rs_raise, rs_raise1, rs_raise0, rs_raiseZ, r_xf, r_isx, r_kix, r_kix1, q_atI, q_nok, q_nbad, q_m0, q_m1, q_m2, q_m3, q_s0, q_s1, q_s2, q_s3, q_ss, q_mkT, q_mkF, q_mkM, q_addi, q_adds, q_addt, q_addf, q_subi, q_muli, q_divi, q_modi, q_lt, q_le, q_gt, q_ge, q_ixt, q_ixf, q_ixsc, q_ixrm, q_lens, q_lent, q_lenf, q_lensc, q_lenrm, q_inti, q_intb, q_ord, q_tupt, q_tupf, q_tuprm, q_lstt, q_lstf, q_appm, q_extm, q_slfF, q_slfM, q_sltT, q_sls, nn1, List.isEmpty_nil, List.isEmpty_cons, nx1, nx2, List.map_cons, List.map_nil, List.length_cons, List.length_nil, List.replicate_succ, List.replicate_zero, List.cons_append, List.nil_append, List.append_nil, List.set_cons_succ, List.set_cons_zero, List.getElem?_cons_zero, List.getElem?_cons_succ, Nat.reduceSub, Nat.reduceAdd, List.length_append, List.length_map, List.append_assoc, Nat.zero_add, if_true, if_false, Bool.false_eq_true, Bool.not_true, Bool.not_false, isNonB, wipeE, List.any_cons, List.any_nil, isT, Bool.or_false, Bool.or_true, Bool.false_or, Bool.true_or])
local macro_rules | `(tactic| walk_at "el") => `(tactic| simp -implicitDefEqProofs (disch := first | assumption | omega | ((try simp only [List.length_cons, List.length_nil, List.length_append, List.length_map, List.length_take, List.length_drop, List.length_reverse, List.length_set, List.length_replicate]) <;> omega) | fail) only [rs_lf0, rs_lf1, r_var, r_c, r_bin, r_bin1, r_bin2, r_bin1x, r_bin2x, r_un, r_un1, r_a0, r_a1, r_a2, r_a3, r_a2x, r_a3x, r_cb, r_cb1, r_cb1x, r_call, r_call1, r_call1x, r_mt, r_mts, r_mtf, r_mtr0, r_mtr1, r_mtr2, r_mtd0, r_mt2, r_test, r_test1, r_test2, r_testx, r_bl, r_bl1, r_blx, r_av, r_av1, r_avt, r_avf, r_ov, r_ov1, r_ovt, r_ovf, r_nv, r_nv1, r_nv2, r_at, r_att, r_atf, r_ot, r_ott, r_otf, r_nt, r_nt1, r_if, r_ift, r_iff, r_ifx, r_tup, r_tup1, r_tupx, r_lst, r_lst1, r_ch, r_ch1, r_ch2, r_ch3, r_ch4, r_isi, r_isi1, r_isi2, r_bd0, r_bd1, r_bd2, r_rev, r_rev1, r_sl, r_sl1, r_sl2, r_sl3, r_it, r_it1, r_itt, r_itf, r_itsc, r_its, r_itr0, r_en, r_en1, r_opi, r_ent, r_enf, r_zip, r_zip1, r_zip2, r_zft, r_ztt, r_rng, r_rng1, r_rng2, r_rng3, r_lc, r_lc1, r_lc2, r_bc1, r_bc2, r_some, r_dnil, r_attr, r_attr1, r_attr2, r_opd, r_meth, r_meth1, r_meth2, r_meth3, r_meth4, r_make, r_make1, r_make2, r_newd, rs_nil, rs_seq, rs_sq1, rs_sq2, rs_sq3, rs_sq4, rs_sq5, rs_ret, rs_ret1, rs_retx, rs_retn, rs_brk, rs_cont, rs_drop, rs_drop1, rs_dropx, rs_asg, rs_asg1, rs_asgx, rs_ope, rs_par, rs_par1, rs_par2, rs_par3, rs_par31, rs_par32, rs_par33, rs_if, rs_ift, rs_iff, rs_ifx, rs_sub, rs_sub1, rs_sub2, rs_sub3, rs_opm, rs_sls, rs_sls1, rs_sls2, rs_sls3, rs_sls4, rs_att, rs_att2, rs_att3, rs_tas0, rs_tas1, rs_tas2, rs_tas3, rs_seta, rs_seta1, rs_seta2, rs_for, rs_for1, rs_body, rs_bodyn, rs_run, rs_end1, rs_end2, rs_end3, r_bnm, r_btu, r_bd00, r_bd01, r_obs, r_trn, r_trb, r_tri, r_trt, r_trf, r_tyn, r_tyb, r_tyi, r_tys, r_tyt, r_tyf, r_tysc, r_dt, r_df, r_eqF, r_eqT, r_eqbF, r_eqbT, r_seF, r_seT, r_isF, r_isT, r_find, r_neg, r_max, r_min, rs_kl1, rs_kl2, rs_kl3, rs_kl4, rs_kl5, r_strix, r_at0, r_at1, r_at2, r_at3, r_at4, r_at5, r_at6, r_at7, r_at8, r_at9, r_at10, r_at11, r_at12, r_all, r_any, r_all_true, rs_try, rs_try1, rs_try2, rs_try3, rs_tra, rs_tra1, rs_tra2, rs_tra3, rs_nox, rs_del1, rs_del2, rs_del3, rs_del4, rs_raise, rs_raise1, rs_raise0, rs_raiseZ, r_xf, r_isx, r_kix, r_kix1, q_atI, q_nok, q_nbad, q_m0, q_m1, q_m2, q_m3, q_s0, q_s1, q_s2, q_s3, q_ss, q_mkT, q_mkF, q_mkM, q_addi, q_adds, q_addt, q_addf, q_subi, q_muli, q_divi, q_modi, q_lt, q_le, q_gt, q_ge, q_ixt, q_ixf, q_ixsc, q_ixrm, q_lens, q_lent, q_lenf, q_lensc, q_lenrm, q_inti, q_intb, q_ord, q_tupt, q_tupf, q_tuprm, q_lstt, q_lstf, q_appm, q_extm, q_slfF, q_slfM, q_sltT, q_sls, nn1, List.isEmpty_nil, List.isEmpty_cons, nx1, nx2, List.map_cons, List.map_nil, List.length_cons, List.length_nil, List.replicate_succ, List.replicate_zero, List.cons_append, List.nil_append, List.append_nil, List.set_cons_succ, List.set_cons_zero, List.getElem?_cons_zero, List.getElem?_cons_succ, Nat.reduceSub, Nat.reduceAdd, List.length_append, List.length_map, List.append_assoc, Nat.zero_add, if_true, if_false, Bool.false_eq_true, Bool.not_true, Bool.not_false, isNonB, wipeE, List.any_cons, List.any_nil, isT, Bool.or_false, Bool.or_true, Bool.false_or, Bool.true_or])
local macro_rules | `(tactic| walk_at "ex") => `(tactic| simp -implicitDefEqProofs (disch := first | assumption | omega | ((try simp only [List.length_cons, List.length_nil, List.length_append, List.length_map, List.length_take, List.length_drop, List.length_reverse, List.length_set, List.length_replicate]) <;> omega) | fail) only [r_var, r_c, r_bin, r_bin1, r_bin2, r_bin1x, r_bin2x, r_un, r_un1, r_a0, r_a1, r_a2, r_a3, r_a2x, r_a3x, r_cb, r_cb1, r_cb1x, r_call, r_call1, r_call1x, r_mt, r_mts, r_mtf, r_mtr0, r_mtr1, r_mtr2, r_mtd0, r_mt2, r_test, r_test1, r_test2, r_testx, r_bl, r_bl1, r_blx, r_av, r_av1, r_avt, r_avf, r_ov, r_ov1, r_ovt, r_ovf, r_nv, r_nv1, r_nv2, r_at, r_att, r_atf, r_ot, r_ott, r_otf, r_nt, r_nt1, r_if, r_ift, r_iff, r_ifx, r_tup, r_tup1, r_tupx, r_lst, r_lst1, r_ch, r_ch1, r_ch2, r_ch3, r_ch4, r_isi, r_isi1, r_isi2, r_bd0, r_bd1, r_bd2, r_rev, r_rev1, r_sl, r_sl1, r_sl2, r_sl3, r_it, r_it1, r_itt, r_itf, r_itsc, r_its, r_itr0, r_en, r_en1, r_opi, r_ent, r_enf, r_zip, r_zip1, r_zip2, r_zft, r_ztt, r_rng, r_rng1, r_rng2, r_rng3, r_lc, r_lc1, r_lc2, r_bc1, r_bc2, r_some, r_dnil, r_attr, r_attr1, r_attr2, r_opd, r_meth, r_meth1, r_meth2, r_meth3, r_meth4, r_make, r_make1, r_make2, r_newd, rs_nil, rs_seq, rs_sq1, rs_sq2, rs_sq3, rs_sq4, rs_sq5, rs_ret, rs_ret1, rs_retx, rs_retn, rs_brk, rs_cont, rs_drop, rs_drop1, rs_dropx, rs_asg, rs_asg1, rs_asgx, rs_ope, rs_par, rs_par1, rs_par2, rs_par3, rs_par31, rs_par32, rs_par33, rs_if, rs_ift, rs_iff, rs_ifx, rs_sub, rs_sub1, rs_sub2, rs_sub3, rs_opm, rs_sls, rs_sls1, rs_sls2, rs_sls3, rs_sls4, rs_att, rs_att2, rs_att3, rs_tas0, rs_tas1, rs_tas2, rs_tas3, rs_seta, rs_seta1, rs_seta2, rs_for, rs_for1, rs_body, rs_bodyn, rs_run, rs_end1, rs_end2, rs_end3, r_bnm, r_btu, r_bd00, r_bd01, r_obs, r_trn, r_trb, r_tri, r_trt, r_trf, r_tyn, r_tyb, r_tyi, r_tys, r_tyt, r_tyf, r_tysc, r_dt, r_df, r_eqF, r_eqT, r_eqbF, r_eqbT, r_seF, r_seT, r_isF, r_isT, r_find, r_neg, r_max, r_min, rs_kl1, rs_kl2, rs_kl3, rs_kl4, rs_kl5, r_strix, r_at0, r_at1, r_at2, r_at3, r_at4, r_at5, r_at6, r_at7, r_at8, r_at9, r_at10, r_at11, r_at12, r_all, r_any, r_all_true, rs_try, rs_try1, rs_try2, rs_try3, rs_tra, rs_tra1, rs_tra2, rs_tra3, rs_nox, rs_del1, rs_del2, rs_del3, rs_del4, rs_raise, rs_raise1, rs_raise0, rs_raiseZ, r_xf, r_isx, r_kix, r_kix1, q_atI, q_nok, q_nbad, q_m0, q_m1, q_m2, q_m3, q_s0, q_s1, q_s2, q_s3, q_ss, q_mkT, q_mkF, q_mkM, q_addi, q_adds, q_addt, q_addf, q_subi, q_muli, q_divi, q_modi, q_lt, q_le, q_gt, q_ge, q_ixt, q_ixf, q_ixsc, q_ixrm, q_lens, q_lent, q_lenf, q_lensc, q_lenrm, q_inti, q_intb, q_ord, q_tupt, q_tupf, q_tuprm, q_lstt, q_lstf, q_appm, q_extm, q_slfF, q_slfM, q_sltT, q_sls, nn1, List.isEmpty_nil, List.isEmpty_cons, nx1, nx2, List.map_cons, List.map_nil, List.length_cons, List.length_nil, List.replicate_succ, List.replicate_zero, List.cons_append, List.nil_append, List.append_nil, List.set_cons_succ, List.set_cons_zero, List.getElem?_cons_zero, List.getElem?_cons_succ, Nat.reduceSub, Nat.reduceAdd, List.length_append, List.length_map, List.append_assoc, Nat.zero_add, if_true, if_false, Bool.false_eq_true, Bool.not_true, Bool.not_false, isNonB, wipeE, List.any_cons, List.any_nil, isT, Bool.or_false, Bool.or_true, Bool.false_or, Bool.true_or, *])
section
variable {F F1 : Fm} {m : Mem} {n : Nat} {l : List D}
theorem any_ok (hd : DrawF (F 7)) (hp : PickF (F 8)) (hb : BlkF (F 13)) (hw : LWordF (F 12)) (hl : SrcL n l) (hn : n < 2 ^ 36) :
    ∃ (L : List Nat) (bg : Bool) (many : Nat) (pl : Nat → Nat) (B : Nat → Nat → Nat × Nat) (l' : List D), popR (m ++ [.lst l]) (runB 16 (sv__law_any_file F F1) [.ref m.length] (m ++ [.lst l])) = .ok (.tup [.tup (ic L), .fl ((List.range many).map (entD L B))]) (m ++ [.lst l']) ∧ Fi L bg many pl B ∧ SrcL (n + 1000) l' := by
  obtain ⟨bg, many, l1, h1, hm, hl1⟩ := g1_ok (m := m) hd hp hl hn
  obtain ⟨P0, P1, P2, size, l2, h2, hB, hl2⟩ := g2_ok (F := F) (m := m) hb (x1 := some (.str (oS bg))) (x3 := none) (x4 := none) hl1 (by omega) hm
  have a0 := hB.a0
  have a1 := hB.a1
  have c0 := hB.b0
  have c1 := hB.b1
  have ss := hB.s
  obtain ⟨dat, l3, h3, hdl, hl3⟩ := g3_ok (F := F) (m := m) hp (x1 := some (.str (oS bg))) (x2 := some (nI many)) (x3 := some (.fl [nI P0, nI P1, nI P2])) hl2 (by omega) ss
  obtain ⟨v, l4, h4, hv, hl4⟩ := g4_ok (F := F) (m := m) hp (Y := [.lst (ic dat)]) (x1 := some (.str (oS bg))) (x2 := some (nI many)) (x3 := some (.fl [nI P0, nI P1, nI P2])) (x4 := some (nI size)) (x5 := some (.ref (m.length + 1))) hl3 (by omega)
  obtain ⟨b0, b1, l7, y9, y10, y11, y12, h7, q0, q1, hl7⟩ := g7_ok (m := m) hd (W0 := hdW v many P0 P1) (D0 := ic dat) (x1 := some (.str (oS bg))) (x6 := some (nI v)) hl4 (by omega) hm hB (show (5 : Nat) ≤ 50 by decide)
  have ok := wok hB hv hm q0 q1
  obtain ⟨L, y13, y14, h8, hL, hW⟩ := g8_ok (F := F) (m := m) (l := l7) hw (bg := bg) (Y := [.lst (((List.range many).map b0 ++ (List.range many).map b1).map pW)]) ok hdl (show size ≤ 300 by omega) (x0 := some (.ref m.length)) (x2 := some (nI many)) (x3 := some (.fl [nI P0, nI P1, nI P2])) (x4 := some (nI size)) (x6 := some (nI v)) (x8 := some (.ref (m.length + 2))) (x9 := y9) (x10 := y10) (x11 := y11) (x12 := y12) (x13 := none) (x14 := none) (x15 := none)
  have fi := fi_of hB hv hm q0 q1 hL hW
  generalize hW0 : (hdW v many P0 P1 ++ tabW P0 b0 many ++ tabW P1 b1 many).map pW = W at h7 h8
  obtain ⟨a, Y, h9, ha⟩ := g9_ok (m := m) (o1 := .lst l7) (L := L) (P0 := P0) (P1 := P1) (P2 := P2) (b0 := b0) (b1 := b1) hm (x0 := some (.ref m.length)) (x1 := some (.str (oS bg))) (x4 := some (nI size)) (x5 := some (.ref (m.length + 1))) (x6 := some (nI v)) (x7 := some (.fl W)) (x9 := y9) (x10 := y10) (x11 := y11) (x12 := y12) (x13 := y13) (x14 := y14)
  obtain ⟨z11, z12, h10⟩ := g10_ok (m := m) (o1 := .lst l7) (Y := Y) (L := L) (S := spB P0 P1 many b0 b1) (a := a) (by omega) (by unfold spB; rw [List.length_append, List.length_map, List.length_map, List.length_range]; omega) ha (x0 := some (.ref m.length)) (x1 := some (.str (oS bg))) (x2 := some (nI many)) (x3 := some (.fl [nI P0, nI P1, nI P2])) (x4 := some (nI size)) (x6 := some (nI v)) (x7 := some (.fl W)) (x9 := y9) (x10 := y10) (x11 := y11) (x12 := y12) (x13 := y13) (x14 := y14)
  have h11 := g11_ok (m := m) (o1 := .lst l7) (Y := Y) (L := L) (many := many) (B := BF P0 P1 b0 b1) (by omega) hm (x0 := some (.ref m.length)) (x1 := some (.str (oS bg))) (x3 := some (.fl [nI P0, nI P1, nI P2])) (x4 := some (nI size)) (x6 := some (nI v)) (x7 := some (.fl W)) (x8 := some (.ref a)) (x9 := y9) (x10 := y10) (x11 := z11) (x12 := z12) (x13 := y13) (x14 := y14)
  have e : sv__law_any_file F F1 [some (.ref m.length), none, none, none, none, none, none, none, none, none, none, none, none, none, none, none] (m ++ [.lst l]) = .ok (.ret (.tup [.tup (ic L), .fl ((List.range many).map (entD L (BF P0 P1 b0 b1)))])) [some (.ref m.length), some (.str (oS bg)), some (nI many), some (.fl [nI P0, nI P1, nI P2]), some (nI size), some (.ref (m.length + 1)), some (nI v), some (.fl W), some (.ref a), y9, y10, z11, z12, y13, y14, some (.fl (((List.range many).map (BF P0 P1 b0 b1 0) ++ (List.range many).map (BF P0 P1 b0 b1 1)).map (cD L)))] (m ++ .lst l7 :: .lst (ic L) :: Y) := by
    rw [any_seq, rs_seq, h1, rs_sq1, rs_seq, h2, rs_sq1, rs_seq, h3, rs_sq1, rs_seq, h4, rs_sq1, rs_seq, g5_ok, rs_sq1, rs_seq, g6_ok, rs_sq1, rs_seq, h7, rs_sq1, rs_seq, h8, rs_sq1, rs_seq, h9, rs_sq1, rs_seq, h10, rs_sq1]
    exact h11
  refine ⟨L, bg, many, plF P0 P1, BF P0 P1 b0 b1, l7, ?_, fi, hl7.mono (by omega)⟩
  show popR _ (kEnd (sv__law_any_file F F1 [some (.ref m.length), none, none, none, none, none, none, none, none, none, none, none, none, none, none, none] (m ++ [.lst l]))) = _
  rw [e]
  refine pop_src (.lst (ic L) :: Y) hl7 ?_
  show (D.pl (.tup (ic L)) && (D.pl (.fl _) && true)) = true
  rw [show D.pl (.tup (ic L)) = true from pls_ic L, show D.pl (.fl ((List.range many).map (entD L (BF P0 P1 b0 b1)))) = true from pls_ent]
  rfl
end
end K37
set_option Elab.async false
set_option linter.all false
set_option maxRecDepth 100000
set_option maxHeartbeats 4000000
namespace K37
open PySem PySem.Spec PyProof.Rows L2 Itp Pg
local macro_rules | `(tactic| walk_at "ev") => `(tactic| simp -implicitDefEqProofs (disch := first | assumption | omega | ((try simp only [List.length_cons, List.length_nil, List.length_append, List.length_map, List.length_take, List.length_drop, List.length_reverse, List.length_set, List.length_replicate]) <;> omega) | fail) only [r_var, r_c, r_bin, r_bin1, r_bin2, r_bin1x, r_bin2x, r_un, r_un1, r_a0, r_a1, r_a2, r_a3, r_a2x, r_a3x, r_cb, r_cb1, r_cb1x, r_call, r_call1, r_call1x, r_mt, r_mts, r_mtf, r_mtr0, r_mtr1, r_mtr2, r_mtd0, r_mt2, r_test, r_test1, r_test2, r_testx, r_bl, r_bl1, r_blx, r_av, r_av1, r_avt, r_avf, r_ov, r_ov1, r_ovt, r_ovf, r_nv, r_nv1, r_nv2, r_at, r_att, r_atf, r_ot, r_ott, r_otf, r_nt, r_nt1, r_if, r_ift, r_iff, r_ifx, r_tup, r_tup1, r_tupx, r_lst, r_lst1, r_ch, r_ch1, r_ch2, r_ch3, r_ch4, r_isi, r_isi1, r_isi2, r_bd0, r_bd1, r_bd2, r_rev, r_rev1, r_sl, r_sl1, r_sl2, r_sl3, r_it, r_it1, r_itt, r_itf, r_itsc, r_its, r_itr0, r_en, r_en1, r_opi, r_ent, r_enf, r_zip, r_zip1, r_zip2, r_zft, r_ztt, r_rng, r_rng1, r_rng2, r_rng3, r_lc, r_lc1, r_lc2, r_bc1, r_bc2, r_some, r_dnil, r_attr, r_attr1, r_attr2, r_opd, r_meth, r_meth1, r_meth2, r_meth3, r_meth4, r_make, r_make1, r_make2, r_newd, rs_nil, rs_seq, rs_sq1, rs_sq2, rs_sq3, rs_sq4, rs_sq5, rs_ret, rs_ret1, rs_retx, rs_retn, rs_brk, rs_cont, rs_drop, rs_drop1, rs_dropx, rs_asg, rs_asg1, rs_asgx, rs_ope, rs_par, rs_par1, rs_par2, rs_par3, rs_par31, rs_par32, rs_par33, rs_if, rs_ift, rs_iff, rs_ifx, rs_sub, rs_sub1, rs_sub2, rs_sub3, rs_opm, rs_sls, rs_sls1, rs_sls2, rs_sls3, rs_sls4, rs_att, rs_att2, rs_att3, rs_tas0, rs_tas1, rs_tas2, rs_tas3, rs_seta, rs_seta1, rs_seta2, rs_for, rs_for1, rs_body, rs_bodyn, rs_run, rs_end1, rs_end2, rs_end3, r_bnm, r_btu, r_bd00, r_bd01, r_obs, r_trn, r_trb, r_tri, r_trt, r_trf, r_tyn, r_tyb, r_tyi, r_tys, r_tyt, r_tyf, r_tysc, r_dt, r_df, r_eqF, r_eqT, r_eqbF, r_eqbT, r_seF, r_seT, r_isF, r_isT, r_find, r_neg, r_max, r_min, rs_kl1, rs_kl2, rs_kl3, rs_kl4, rs_kl5, r_strix, r_at0, r_at1, r_at2, r_at3, r_at4, r_at5, r_at6, r_at7, r_at8, r_at9, r_at10, r_at11, r_at12, r_all, r_any, r_all_true, rs_try, rs_try1, rs_try2, rs_try3, rs_tra, rs_tra1, rs_tra2, rs_tra3, rs_nox, rs_del1, rs_del2, rs_del3, rs_del4, rs_raise, rs_raise1, rs_raise0, rs_raiseZ, r_xf, r_isx, r_kix, r_kix1, q_atI, q_nok, q_nbad, q_m0, q_m1, q_m2, q_m3, q_s0, q_s1, q_s2, q_s3, q_ss, q_mkT, q_mkF, q_mkM, q_addi, q_adds, q_addt, q_addf, q_subi, q_muli, q_divi, q_modi, q_lt, q_le, q_gt, q_ge, q_ixt, q_ixf, q_ixsc, q_ixrm, q_lens, q_lent, q_lenf, q_lensc, q_lenrm, q_inti, q_intb, q_ord, q_tupt, q_tupf, q_tuprm, q_lstt, q_lstf, q_appm, q_extm, q_slfF, q_slfM, q_sltT, q_sls, nn1, List.isEmpty_nil, List.isEmpty_cons, nx1, nx2, List.map_cons, List.map_nil, List.length_cons, List.length_nil, List.replicate_succ, List.replicate_zero, List.cons_append, List.nil_append, List.append_nil, List.set_cons_succ, List.set_cons_zero, List.getElem?_cons_zero, List.getElem?_cons_succ, Nat.reduceSub, Nat.reduceAdd, List.length_append, List.length_map, List.append_assoc, Nat.zero_add, if_true, if_false, Bool.false_eq_true, Bool.not_true, Bool.not_false, isNonB, wipeE, List.any_cons, List.any_nil, isT, Bool.or_false, Bool.or_true, Bool.false_or, Bool.true_or])
local macro_rules | `(tactic| walk_at "el") => `(tactic| simp -implicitDefEqProofs (disch := first | assumption | omega | ((try simp only [List.length_cons, List.length_nil, List.length_append, List.length_map, List.length_take, List.length_drop, List.length_reverse, List.length_set, List.length_replicate]) <;> omega) | fail) only [rs_lf0, rs_lf1, r_var, r_c, r_bin, r_bin1, r_bin2, r_bin1x, r_bin2x, r_un, r_un1, r_a0, r_a1, r_a2, r_a3, r_a2x, r_a3x, r_cb, r_cb1, r_cb1x, r_call, r_call1, r_call1x, r_mt, r_mts, r_mtf, r_mtr0, r_mtr1, r_mtr2, r_mtd0, r_mt2, r_test, r_test1, r_test2, r_testx, r_bl, r_bl1, r_blx, r_av, r_av1, r_avt, r_avf, r_ov, r_ov1, r_ovt, r_ovf, r_nv, r_nv1, r_nv2, r_at, r_att, r_atf, r_ot, r_ott, r_otf, r_nt, r_nt1, r_if, r_ift, r_iff, r_ifx, r_tup, r_tup1, r_tupx, r_lst, r_lst1, r_ch, r_ch1, r_ch2, r_ch3, r_ch4, r_isi, r_isi1, r_isi2, r_bd0, r_bd1, r_bd2, r_rev, r_rev1, r_sl, r_sl1, r_sl2, r_sl3, r_it, r_it1, r_itt, r_itf, r_itsc, r_its, r_itr0, r_en, r_en1, r_opi, r_ent, r_enf, r_zip, r_zip1, r_zip2, r_zft, r_ztt, r_rng, r_rng1, r_rng2, r_rng3, r_lc, r_lc1, r_lc2, r_bc1, r_bc2, r_some, r_dnil, r_attr, r_attr1, r_attr2, r_opd, r_meth, r_meth1, r_meth2, r_meth3, r_meth4, r_make, r_make1, r_make2, r_newd, rs_nil, rs_seq, rs_sq1, rs_sq2, rs_sq3, rs_sq4, rs_sq5, rs_ret, rs_ret1, rs_retx, rs_retn, rs_brk, rs_cont, rs_drop, rs_drop1, rs_dropx, rs_asg, rs_asg1, rs_asgx, rs_ope, rs_par, rs_par1, rs_par2, rs_par3, rs_par31, rs_par32, rs_par33, rs_if, rs_ift, rs_iff, rs_ifx, rs_sub, rs_sub1, rs_sub2, rs_sub3, rs_opm, rs_sls, rs_sls1, rs_sls2, rs_sls3, rs_sls4, rs_att, rs_att2, rs_att3, rs_tas0, rs_tas1, rs_tas2, rs_tas3, rs_seta, rs_seta1, rs_seta2, rs_for, rs_for1, rs_body, rs_bodyn, rs_run, rs_end1, rs_end2, rs_end3, r_bnm, r_btu, r_bd00, r_bd01, r_obs, r_trn, r_trb, r_tri, r_trt, r_trf, r_tyn, r_tyb, r_tyi, r_tys, r_tyt, r_tyf, r_tysc, r_dt, r_df, r_eqF, r_eqT, r_eqbF, r_eqbT, r_seF, r_seT, r_isF, r_isT, r_find, r_neg, r_max, r_min, rs_kl1, rs_kl2, rs_kl3, rs_kl4, rs_kl5, r_strix, r_at0, r_at1, r_at2, r_at3, r_at4, r_at5, r_at6, r_at7, r_at8, r_at9, r_at10, r_at11, r_at12, r_all, r_any, r_all_true, rs_try, rs_try1, rs_try2, rs_try3, rs_tra, rs_tra1, rs_tra2, rs_tra3, rs_nox, rs_del1, rs_del2, rs_del3, rs_del4, rs_raise, rs_raise1, rs_raise0, rs_raiseZ, r_xf, r_isx, r_kix, r_kix1, q_atI, q_nok, q_nbad, q_m0, q_m1, q_m2, q_m3, q_s0, q_s1, q_s2, q_s3, q_ss, q_mkT, q_mkF, q_mkM, q_addi, q_adds, q_addt, q_addf, q_subi, q_muli, q_divi, q_modi, q_lt, q_le, q_gt, q_ge, q_ixt, q_ixf, q_ixsc, q_ixrm, q_lens, q_lent, q_lenf, q_lensc, q_lenrm, q_inti, q_intb, q_ord, q_tupt, q_tupf, q_tuprm, q_lstt, q_lstf, q_appm, q_extm, q_slfF, q_slfM, q_sltT, q_sls, nn1, List.isEmpty_nil, List.isEmpty_cons, nx1, nx2, List.map_cons, List.map_nil, List.length_cons, List.length_nil, List.replicate_succ, List.replicate_zero, List.cons_append, List.nil_append, List.append_nil, List.set_cons_succ, List.set_cons_zero, List.getElem?_cons_zero, List.getElem?_cons_succ, Nat.reduceSub, Nat.reduceAdd, List.length_append, List.length_map, List.append_assoc, Nat.zero_add, if_true, if_false, Bool.false_eq_true, Bool.not_true, Bool.not_false, isNonB, wipeE, List.any_cons, List.any_nil, isT, Bool.or_false, Bool.or_true, Bool.false_or, Bool.true_or])
local macro_rules | `(tactic| walk_at "ex") => `(tactic| simp -implicitDefEqProofs (disch := first | assumption | omega | ((try simp only [List.length_cons, List.length_nil, List.length_append, List.length_map, List.length_take, List.length_drop, List.length_reverse, List.length_set, List.length_replicate]) <;> omega) | fail) only [r_var, r_c, r_bin, r_bin1, r_bin2, r_bin1x, r_bin2x, r_un, r_un1, r_a0, r_a1, r_a2, r_a3, r_a2x, r_a3x, r_cb, r_cb1, r_cb1x, r_call, r_call1, r_call1x, r_mt, r_mts, r_mtf, r_mtr0, r_mtr1, r_mtr2, r_mtd0, r_mt2, r_test, r_test1, r_test2, r_testx, r_bl, r_bl1, r_blx, r_av, r_av1, r_avt, r_avf, r_ov, r_ov1, r_ovt, r_ovf, r_nv, r_nv1, r_nv2, r_at, r_att, r_atf, r_ot, r_ott, r_otf, r_nt, r_nt1, r_if, r_ift, r_iff, r_ifx, r_tup, r_tup1, r_tupx, r_lst, r_lst1, r_ch, r_ch1, r_ch2, r_ch3, r_ch4, r_isi, r_isi1, r_isi2, r_bd0, r_bd1, r_bd2, r_rev, r_rev1, r_sl, r_sl1, r_sl2, r_sl3, r_it, r_it1, r_itt, r_itf, r_itsc, r_its, r_itr0, r_en, r_en1, r_opi, r_ent, r_enf, r_zip, r_zip1, r_zip2, r_zft, r_ztt, r_rng, r_rng1, r_rng2, r_rng3, r_lc, r_lc1, r_lc2, r_bc1, r_bc2, r_some, r_dnil, r_attr, r_attr1, r_attr2, r_opd, r_meth, r_meth1, r_meth2, r_meth3, r_meth4, r_make, r_make1, r_make2, r_newd, rs_nil, rs_seq, rs_sq1, rs_sq2, rs_sq3, rs_sq4, rs_sq5, rs_ret, rs_ret1, rs_retx, rs_retn, rs_brk, rs_cont, rs_drop, rs_drop1, rs_dropx, rs_asg, rs_asg1, rs_asgx, rs_ope, rs_par, rs_par1, rs_par2, rs_par3, rs_par31, rs_par32, rs_par33, rs_if, rs_ift, rs_iff, rs_ifx, rs_sub, rs_sub1, rs_sub2, rs_sub3, rs_opm, rs_sls, rs_sls1, rs_sls2, rs_sls3, rs_sls4, rs_att, rs_att2, rs_att3, rs_tas0, rs_tas1, rs_tas2, rs_tas3, rs_seta, rs_seta1, rs_seta2, rs_for, rs_for1, rs_body, rs_bodyn, rs_run, rs_end1, rs_end2, rs_end3, r_bnm, r_btu, r_bd00, r_bd01, r_obs, r_trn, r_trb, r_tri, r_trt, r_trf, r_tyn, r_tyb, r_tyi, r_tys, r_tyt, r_tyf, r_tysc, r_dt, r_df, r_eqF, r_eqT, r_eqbF, r_eqbT, r_seF, r_seT, r_isF, r_isT, r_find, r_neg, r_max, r_min, rs_kl1, rs_kl2, rs_kl3, rs_kl4, rs_kl5, r_strix, r_at0, r_at1, r_at2, r_at3, r_at4, r_at5, r_at6, r_at7, r_at8, r_at9, r_at10, r_at11, r_at12, r_all, r_any, r_all_true, rs_try, rs_try1, rs_try2, rs_try3, rs_tra, rs_tra1, rs_tra2, rs_tra3, rs_nox, rs_del1, rs_del2, rs_del3, rs_del4, rs_raise, rs_raise1, rs_raise0, rs_raiseZ, r_xf, r_isx, r_kix, r_kix1, q_atI, q_nok, q_nbad, q_m0, q_m1, q_m2, q_m3, q_s0, q_s1, q_s2, q_s3, q_ss, q_mkT, q_mkF, q_mkM, q_addi, q_adds, q_addt, q_addf, q_subi, q_muli, q_divi, q_modi, q_lt, q_le, q_gt, q_ge, q_ixt, q_ixf, q_ixsc, q_ixrm, q_lens, q_lent, q_lenf, q_lensc, q_lenrm, q_inti, q_intb, q_ord, q_tupt, q_tupf, q_tuprm, q_lstt, q_lstf, q_appm, q_extm, q_slfF, q_slfM, q_sltT, q_sls, nn1, List.isEmpty_nil, List.isEmpty_cons, nx1, nx2, List.map_cons, List.map_nil, List.length_cons, List.length_nil, List.replicate_succ, List.replicate_zero, List.cons_append, List.nil_append, List.append_nil, List.set_cons_succ, List.set_cons_zero, List.getElem?_cons_zero, List.getElem?_cons_succ, Nat.reduceSub, Nat.reduceAdd, List.length_append, List.length_map, List.append_assoc, Nat.zero_add, if_true, if_false, Bool.false_eq_true, Bool.not_true, Bool.not_false, isNonB, wipeE, List.any_cons, List.any_nil, isT, Bool.or_false, Bool.or_true, Bool.false_or, Bool.true_or, *])
theorem f6 {k : Nat} : SourceF (callN prog (k + 1) 6) := fun ns t m h => by rw [e__law_source]; exact source_of ns t m h
theorem f7 {k : Nat} : DrawF (callN prog (k + 1) 7) := fun m a n l many h1 h2 h3 h4 h5 => by rw [e__law_draw]; exact draw_of m a n l many h1 h2 h3 h4 h5
theorem f8 {k : Nat} : PickF (callN prog (k + 2) 8) := fun m a n l ds h1 h2 h3 h4 h5 => by
  rw [e__law_pick]
  exact pick_of f7 m a n l ds h1 h2 h3 h4 h5
theorem f11 (m : Mem) (n : Nat) (x y : D) (h : Same m n x y) : callN prog n 11 [x, y] m = .ok (.bl true) m := same_true (d := df__law_same) rfl rfl (fun _ _ => rfl) rfl h
theorem f0 {k : Nat} : WordF (callN prog (k + 1) 0) := fun m L a v bg h1 h2 h3 => by rw [e_word_at]; exact word_ok h1 h2 h3
theorem f1 {k : Nat} : OrdF (callN prog (k + 1) 1) := fun m L bg h1 h2 => by rw [e_order_of]; exact order_ok h1 h2
theorem f2 {k : Nat} : RowF (callN prog (k + 2) 2) := fun m L a v w bg h1 h2 h3 h4 h5 => by rw [e_row_of]; exact row_ok f0 h1 h2 h3 h4 h5
theorem f3 {k : Nat} : IniF (callN prog (k + 2) 3) := fun m L bg many pl B d f hd => by rw [e_Source_init]; exact init_ok f0 f1 f hd
theorem f4 {k : Nat} : EntF (callN prog (k + 3) 4) := fun m X L bg many j pl B f hk => by rw [e_Source_entry]; exact entry_ok f2 f hk
theorem f9 {k : Nat} : ShufF (callN prog (k + 2) 9) := fun m n l o L h1 h2 h3 => by rw [e__law_shuffled]; exact shuf_ok f7 h1 h2 h3
theorem f12 {k : Nat} : LWordF (callN prog (k + 1) 12) := fun m v bg h => by rw [e__law_word]; exact lword_ok h
theorem f13 {k : Nat} : BlkF (callN prog (k + 3) 13) := fun m n l many h1 h2 h3 => by rw [e__law_blocks]; exact blocks_ok f7 f9 h1 h2 h3
theorem f5 {k : Nat} {m : Mem} {L : List Nat} {bg : Bool} {many : Nat} {pl : Nat → Nat} {B : Nat → Nat → Nat × Nat} (f : Fi L bg many pl B) {d : D} (hd : Hv L d) : callN prog (k + 4) 5 [d] m = .ok (.ref m.length) (m ++ [.lst ((List.range many).map (entD L B))]) := by rw [e_read_mo]; exact read_ok f3 f4 f hd
theorem handedT {cd : Fn} (hd : DrawF cd) {m : Mem} {n : Nat} {l : List D} {c : List Nat} (hl : SrcL n l) (hn : n < 2 ^ 38) (hc : c.length ≤ 1000) :
    ∃ (d : D) (l' : List D), popR (m ++ [.lst l]) (runB 2 (Pg.sv__law_handed cd) [.ref m.length, .tup (ic c)] (m ++ [.lst l])) = .ok d (m ++ [.lst l']) ∧ Hv c d ∧ SrcL (n + 1) l' := by
  obtain ⟨r, l1, e1, hr, hl1⟩ := draw_at hd (m := m) [] (many := 2) hl (by omega) (by decide) (by decide)
  unfold Pg.sv__law_handed
  (try walk_at "ev")
  rw [e1]
  rcases (show r = 0 ∨ r = 1 by omega) with rfl | rfl
  · (try walk_at "ev")
    exact ⟨_, l1, pop_src [] hl1 (pls_ic c), .t, hl1⟩
  · (try walk_at "ev")
    exact ⟨_, l1, pop_src [] hl1 (pls_ic c), .f, hl1⟩
structure Lw where
  M : Mem
  a : Option D
  b : Option D
  c : Option D
  d : Option D
  e : Option D
  f : Option D
  g : Option D
theorem law_true (ns : List Int) (hns : ns.length ≤ 63) : ∃ m, callN prog 100 15 [.sc (ns.map .int)] [] = .ok (.bl true) m := by
  rw [show (100 : Nat) = 99 + 1 from rfl, e_law]
  unfold sv_law
  (try walk_at "ev")
  generalize hN : (if (if (ns.length : Int) < 15 then (ns.length : Int) else 15) > 5 then if (ns.length : Int) < 15 then (ns.length : Int) else 15 else 5) = N
  have hN2 : N ≤ 15 := by subst hN; repeat' split
                          all_goals omega
  generalize hL : loopF gT (bodyF _ _) _ _ _ = r
  refine for_nR hL (fun q : Lw => [some (.sc (ns.map .int)), q.a, q.b, q.c, q.d, q.e, q.f, q.g]) (fun q => q.M) (fun _ _ => True) ⟨[], none, none, none, none, none, none, none⟩ rfl rfl (fun _ _ _ => rfl) trivial (fun t q ht _ => ?_) (fun q hr _ => ?_)
  · have ht2 : t < 40 := by omega
    (try walk_at "ev")
    obtain ⟨l0, e1, hl0⟩ := f6 (k := 98) ns t q.M (by omega)
    rw [e1]
    (try walk_at "ev")
    obtain ⟨L, bg, many, pl, B, l1, e2, f, hl1⟩ := any_ok (F := callN prog 98) (F1 := callN prog 97) (m := q.M) (f7 (k := 97)) (f8 (k := 96)) (f13 (k := 95)) (f12 (k := 97)) hl0 (by omega)
    have hlen := f.len
    have hm8 := f.m8
    rw [e__law_any_file, e2, asg2]
    simp only [List.set_cons_succ, List.set_cons_zero]
    rw [rs_sq1]
    (try walk_at "ev")
    obtain ⟨d, l2, e3, hd, hl2⟩ := handedT (f7 (k := 97)) (m := q.M) (c := L) hl1 (by omega) (by omega)
    rw [e__law_handed, e3]
    (try walk_at "ev")
    generalize hL2 : loopF gT (bodyF _ _) _ _ _ = r2
    refine for_nR hL2 (fun z : Lw => [some (.sc (ns.map .int)), some (.int t), some (.ref q.M.length), some (.tup (ic L)), some (.fl ((List.range many).map (entD L B))), some d, z.f, z.g]) (fun z => z.M) (fun _ _ => True) ⟨q.M ++ [.lst l2], none, none, none, none, none, q.f, q.g⟩ rfl rfl (fun _ _ _ => rfl) trivial (fun j z hj _ => ?_) (fun z hz _ => ?_)
    · (try walk_at "ev")
      rw [f5 (k := 95) f hd]
      (try walk_at "ev")
      have hsame : Same (z.M ++ [.lst ((List.range many).map (entD L B))]) 99 (.ref z.M.length) (.fl ((List.range many).map (entD L B))) := by
        refine Same.mono (n := 4) (.lst (xs := (List.range many).map (entD L B)) (ys := (List.range many).map (entD L B)) ?_ rfl rfl ?_ ?_) (by decide)
        · exact lst_ref q_m0
        · rw [List.length_map, List.length_range]; exact Nat.le_trans (show many ≤ 8 by omega) (by decide)
        · intro i x y h1 h2
          rw [h1] at h2; cases h2
          rw [List.getElem?_map] at h1
          obtain ⟨k, hk, rfl⟩ := Option.map_eq_some_iff.mp h1
          have z1 : ∀ w, (pc L w).length ≤ 400 := fun w => by unfold pc; rw [List.length_take, List.length_drop]; omega
          unfold entD
          refine .tup rfl (show (2 : Nat) ≤ SZ by decide) fun i x y h1 h2 => ?_
          rw [h1] at h2; cases h2
          match i, h1 with
          | 0, h1 => cases h1; exact Same_tupM (fun x _ => .int _) (Nat.le_trans (z1 _) (by decide))
          | 1, h1 => cases h1; exact Same_tupM (fun x _ => .int _) (Nat.le_trans (z1 _) (by decide))
      rw [f11 _ 99 _ _ hsame]
      (try walk_at "ev")
      rw [hv_tup hd (by omega)]
      (try walk_at "ev")
      have heq : ∀ M : Mem, opEq true (.tup (ic L)) (.tup (ic L)) M = .ok (.bl false) M := fun M => by
        have h := q_eqb (ng := true) (m := M) (eqM_tp (m := M) (a := L.map fun (n : Nat) => (n : Int)) (b := L.map fun (n : Nat) => (n : Int)))
        rw [← map_nI] at h
        rw [show (D.tup (ic L)) = .tup (L.map fun (n : Nat) => D.int (n : Int)) from rfl, h]
        simp
      rw [heq]
      (try walk_at "ev")
      rw [show mClear (.ref z.M.length) [] (z.M ++ [.lst ((List.range many).map (entD L B))]) = .ok .non (z.M ++ [.lst []]) by
        show (match ((z.M ++ [.lst ((List.range many).map (entD L B))] : Mem) : List O)[z.M.length]? with | some (.lst ds) => _ | _ => _) = _
        rw [q_m0]
        show R.ok D.non (setM _ _ _) = _
        rw [q_s0]]
      (try walk_at "ev")
      exact ⟨⟨z.M ++ [.lst []], none, none, none, none, none, some (.int j), some (.ref z.M.length)⟩, rfl, rfl, trivial⟩
    · rw [hz]
      exact ⟨⟨z.M, some (.int t), some (.ref q.M.length), some (.tup (ic L)), some (.fl ((List.range many).map (entD L B))), some d, z.f, z.g⟩, rfl, rfl, trivial⟩
  · rw [hr]
    (try walk_at "ev")
    exact ⟨_, rfl⟩
end K37
set_option Elab.async false
set_option linter.all false
set_option maxRecDepth 100000
set_option maxHeartbeats 4000000
namespace K37
open PySem PySem.Spec PyProof.Rows L2 Itp
abbrev RR : PySem.W.OpenRow := PySem.W.OpenLaw.row PySem.Challenge.rw_messageshelf_k37_pairs_of_any_file
abbrev hk : PySem.W.Hook := Itp.hookI 5 (faOf prog md) (fnOfP prog md) md.tab (allB md)
def ob (s : PySem.W.SharedT) : AlI := Itp.obsIG 5 (faOf prog md) (fnOfP prog md) md.tab (allB md) (HandSHeadRun.getT s)
theorem ob_eq (s : PySem.W.SharedT) : ob s = hk.obs s.abs := Itp.obsIG_eq (HandSHeadRun.getT_eq s)
abbrev lo : List PySem.Str := ["ShelfError", "ShortFile", "FileError", "word_at", "order_of", "row_of", "Source", "read_mo", "_law_source", "_law_draw", "_law_pick", "_law_shuffled", "_law_handed", "_law_same", "_law_word", "_law_blocks", "_law_any_file", "__name__"]
theorem run (w : World) : HandSHeadRun.RunEq RR (PySem.W.view RR.prog [21]) hk ob 4000 lo w := by
  intro os
  kernel_rfl
end K37
open PySem PySem.W PySem.Calls PyProof.Rows
set_option maxRecDepth 100000 in
set_option maxHeartbeats 8000000 in
theorem PySem.Challenge.cw_messageshelf_k37_pairs_of_any_file_holds : PySem.Challenge.rw_messageshelf_k37_pairs_of_any_file.Holds := by
  w_on; o_law
  refine HandSHeadRun.head_any (r := OpenLaw.row PySem.Challenge.rw_messageshelf_k37_pairs_of_any_file) (q := view (OpenLaw.row PySem.Challenge.rw_messageshelf_k37_pairs_of_any_file).prog [21]) (H := K37.hk) (ob := K37.ob) (M := 4000) (loose := K37.lo) (d := HandSHeadRun.topDef (OpenLaw.row PySem.Challenge.rw_messageshelf_k37_pairs_of_any_file).prog 21) (kwd := []) K37.ob_eq
    (by kernel_rfl) (fun s => by kernel_rfl) K37.run (by kernel_rfl) (by kernel_rfl) (by kernel_rfl) (by rfl) (by first | assumption | decide +kernel) (by decide +kernel) ⟨rfl, rfl, rfl, rfl, rfl, by decide +kernel⟩ ?hw ?hc
  case hw => w_witness2
  case hc =>
    refine L2.walk_ofE (l := PySem.Challenge.rw_messageshelf_k37_pairs_of_any_file) (n := 63) (k := 102) (x := "_law_script") (CX := Itp.CXw (PySem.Challenge.rw_messageshelf_k37_pairs_of_any_file).prog) rfl (by decide) (by kernel_rfl) ⟨rfl, by decide, by decide⟩ ?F Itp.CXw_no
    intro w mg f h Y G hmg0
    obtain ⟨K, KX, c, ht, hc⟩ := Y
    have hmg : mg ("law" : PySem.Str) = some (.ref f) := by
      have e : (HandSHeadRun.topDef (OpenLaw.row PySem.Challenge.rw_messageshelf_k37_pairs_of_any_file).prog 21).name = ("law" : PySem.Str) := by kernel_rfl
      rw [← e]
      exact hmg0
    exact Itp.law_facts (w := w) K37.pr (i := 15) (d := K37.df_law) rfl rfl rfl rfl rfl KX G hmg (show He.SaysD (Itp.faOf K37.prog K37.md) (Itp.fnOfP K37.prog K37.md) K from c) ht hc K37.law_true
