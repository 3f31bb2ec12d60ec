import PyProof.Rows.All
import Wide.All
import OpenK.AllK
import Wide.FinOn
import PySem.Challenge.RW_np0042_01
open PySem PySem.W PySem.Calls PyProof.Rows
set_option Elab.async false
set_option maxRecDepth 100000
set_option linter.unusedVariables false
set_option maxHeartbeats 8000000
set_option compiler.extract_closed false
namespace Mine
/-! abstract values, keys, objects -/
inductive AV where
  | none
  | bool (b : Bool)
  | int (i : Int)
  | str (s : Str)
  | ref (a : Addr)
  | other (v : Value)
  deriving DecidableEq
def ab : Value → AV
  | .none => .none
  | .bool b => .bool b
  | .int i _ => .int i
  | .str s _ => .str s
  | .ref a => .ref a
  | v => .other v

theorem ab_none {v : Value} (h : ab v = .none) : v = .none := by cases v <;> first | rfl | cases h
theorem ab_bool {v : Value} {b : Bool} (h : ab v = .bool b) : v = .bool b := by cases v <;> first | (cases h; rfl) | cases h
theorem ab_int {v : Value} {i : Int} (h : ab v = .int i) : ∃ t, v = .int i t := by cases v <;> first | (cases h; exact ⟨_, rfl⟩) | cases h
theorem ab_str {v : Value} {x : Str} (h : ab v = .str x) : ∃ t, v = .str x t := by cases v <;> first | (cases h; exact ⟨_, rfl⟩) | cases h
theorem ab_ref {v : Value} {a : Addr} (h : ab v = .ref a) : v = .ref a := by cases v <;> first | (cases h; rfl) | cases h

inductive Key where
  | i (n : Int)
  | s (t : Str)
  deriving DecidableEq
def Key.av : Key → AV
  | .i n => .int n
  | .s t => .str t
theorem Key.av_inj {a b : Key} (h : a.av = b.av) : a = b := by cases a <;> cases b <;> cases h <;> rfl

def kIs : Key → Value → Bool
  | .i n, v => Value.isInt n v
  | .s t, v => Value.isStrOf t v
theorem kIs_av {k : Key} {v : Value} (h : kIs k v = true) : ab v = k.av := by
  cases k with
  | i n => obtain ⟨t, rfl⟩ := Value.isInt_shape h; rfl
  | s x => obtain ⟨t, rfl⟩ := Value.isStrOf_shape h; rfl
theorem kIs_of {k : Key} {v : Value} (h : ab v = k.av) : kIs k v = true := by
  cases k with
  | i n => obtain ⟨t, rfl⟩ := ab_int h; simp [kIs, Value.isInt]
  | s x => obtain ⟨t, rfl⟩ := ab_str h; simp [kIs, Value.isStrOf]
def kHash (w : World) : Key → Int
  | .i n => hashInt n
  | .s t => hashStr w t

section
variable {prog : Program} {w : World} {A : Around} {E : Value → Shared → Prop} {s : Shared}
theorem eqBool_int_str {a : Int} {t u : Tok} {b : Str} {Q : Bool → Shared → Prop} (h : Q false s) : wpAny (model prog w) A (eqBool (.int a t) (.str b u)) Q E s := by
  unfold eqBool
  refine wpAny_holding ?_
  rw [if_neg (by simp)]
  exact wpAny_bind (EqMixed.eq_int_str (wpAny_truthy_bool h))
theorem eqBool_str_int {a : Int} {t u : Tok} {b : Str} {Q : Bool → Shared → Prop} (h : Q false s) : wpAny (model prog w) A (eqBool (.str b u) (.int a t)) Q E s := by
  unfold eqBool
  refine wpAny_holding ?_
  rw [if_neg (by simp)]
  exact wpAny_bind (EqMixed.eq_str_int (wpAny_truthy_bool h))
end

def kk (prog : Program) (w : World) : KeyKind prog w Key where
  is := kIs
  hash := kHash w
  inj := fun v a b ha hb => Key.av_inj ((kIs_av ha).symm.trans (kIs_av hb))
  byValue := fun k v h => by
    cases k with
    | i n => obtain ⟨t, rfl⟩ := Value.isInt_shape h; rfl
    | s x => obtain ⟨t, rfl⟩ := Value.isStrOf_shape h; rfl
  pyHash := @fun A E s k v Q hv h => by
    cases k with
    | i n => obtain ⟨t, rfl⟩ := Value.isInt_shape hv; exact wpAny_pyHash_int h
    | s x => obtain ⟨t, rfl⟩ := Value.isStrOf_shape hv; exact wpAny_pyHash_str h
  eqBool := @fun A E s a b u v Q hu hv h => by
    cases a with
    | i n =>
      obtain ⟨t, rfl⟩ := Value.isInt_shape hu
      cases b with
      | i m =>
        obtain ⟨t', rfl⟩ := Value.isInt_shape hv
        refine wpAny_eqBool_int ?_
        have e : (n == m) = decide (Key.i n = Key.i m) := by by_cases e : n = m <;> simp [e]
        rw [e]; exact h
      | s y => obtain ⟨t', rfl⟩ := Value.isStrOf_shape hv; exact eqBool_int_str (by simpa using h)
    | s x =>
      obtain ⟨t, rfl⟩ := Value.isStrOf_shape hu
      cases b with
      | i m => obtain ⟨t', rfl⟩ := Value.isInt_shape hv; exact eqBool_str_int (by simpa using h)
      | s y => obtain ⟨t', rfl⟩ := Value.isStrOf_shape hv; exact wpAny_eqBool_str (by simpa using h)
  «strs» := fun k x t v h => by
    cases k with
    | i n => simp [kIs, Value.isInt] at h
    | s y =>
      obtain ⟨u, hu⟩ := Value.isStrOf_shape (x := y) (v := .str x t) h
      injection hu with hx
      subst hx
      cases v <;> rfl

abbrev Tag := Nat × Option Key
inductive AObj where
  | list (vs : List AV)
  | tup (vs : List AV)
  | dict (g : Tag) (kvs : List (Key × AV)) (ep : Nat)
  | inst (g : Tag) (d : Addr)
  | flds (g : Tag) (fs : List (Str × AV))
  | raw (o : Obj)
abbrev AHeap := Addr → Option AObj
abbrev Rho := List (Str × AV)

/-! the world of a law's call -/
structure Wd where
  prog : Program
  w : World
  base : Heap
  mg : Str → Option Value
  mb : Str → Option Value
  K : Frag
  C : Addr
  s0 : Shared
  X : K.In base
  lim : base.NoLimit
  g : base.Ns mainGlobals mg
  b : base.Ns builtinsNs mb
  bi : ∀ x : Str, x ≠ "__name__" → mb x = bootBuiltins x
  sys : ∃ o, base.get? sysModules = some o

def Fields : List DictEntry → List (Str × AV) → Prop
  | [], [] => True
  | e :: es, (x, v) :: fs => (∃ t, e.key = .str x t) ∧ ab e.val = v ∧ Fields es fs
  | _, _ => False

inductive OR (W : Wd) (a : Addr) (h : Heap) : AObj → Prop where
  | list (ws : List Value) (m : Nat) : h.get? a = some ⟨.type "list", none, .seq ws.toArray m, #[]⟩ → OR W a h (.list (ws.map ab))
  | tup (ws : List Value) (m : Nat) : h.get? a = some ⟨.type "tuple", none, .seq ws.toArray m, #[]⟩ → OR W a h (.tup (ws.map ab))
  | dict (g : Tag) (ks : List (Key × Value)) (ep : Nat) : h.DictAt (kk W.prog W.w) a ks ep → OR W a h (.dict g (ks.map (fun p => (p.1, ab p.2))) ep)
  | inst (g : Tag) (d : Addr) : h.get? a = some (instObj W.C d) → OR W a h (.inst g d)
  | flds (g : Tag) (es : List DictEntry) (n : Nat) (fs : List (Str × AV)) : h.get? a = some (dictOf es n) → Fields es fs → OR W a h (.flds g fs)
  | raw (o : Obj) : h.get? a = some o → OR W a h (.raw o)

theorem OR.ex {W : Wd} {o : AObj} {a : Addr} {h : Heap} (x : OR W a h o) : ∃ co, h.get? a = some co := by
  cases x with
  | list ws m x => exact ⟨_, x⟩
  | tup ws m x => exact ⟨_, x⟩
  | dict g ks ep x => obtain ⟨o, es, ho, _⟩ := x; exact ⟨o, ho⟩
  | inst g d x => exact ⟨_, x⟩
  | flds g es n fs x _ => exact ⟨_, x⟩
  | raw o x => exact ⟨_, x⟩
theorem OR.move {W : Wd} {o : AObj} {a : Addr} {h h' : Heap} (x : OR W a h o) (k : ∀ co, h.get? a = some co → h'.get? a = some co) : OR W a h' o := by
  cases x with
  | list ws m x => exact .list ws m (k _ x)
  | tup ws m x => exact .tup ws m (k _ x)
  | dict g ks ep x => obtain ⟨o, es, ho, r⟩ := x; exact .dict g ks ep ⟨o, es, k _ ho, r⟩
  | inst g d x => exact .inst g d (k _ x)
  | flds g es n fs x r => exact .flds g es n fs (k _ x) r
  | raw o x => exact .raw o (k _ x)

/-- the heap's part of the state -/
structure SH (W : Wd) (F : Addr → Option Obj) (σ : AHeap) (s : Shared) : Prop where
  fr : ∀ a o, F a = some o → s.heap.get? a = some o ∧ σ a = none
  base : ∀ a o, W.base.get? a = some o → F a = some o
  hp : ∀ a o, σ a = some o → OR W a s.heap o
  same : ∃ h t, s = { W.s0 with heap := h, toks := t }

structure Vars (env : Env) (h : Heap) (ρ : Rho) : Prop where
  kind : env.scope.kind = .function
  ns : ∃ m, h.Ns env.locals m ∧ ∀ x v, (x, v) ∈ ρ → (env.kindOf x = some .local ∧ ∃ v', m x = some v' ∧ ab v' = v) ∨
    (env.kindOf x = some .cell ∧ ∃ c v', env.cells.lookup x = some c ∧ h.IsCell c (some v') ∧ ab v' = v)
  cells : ∀ x c, env.cells.lookup x = some c → ∃ v, h.IsCell c v
  apart : ∀ x y c, env.cells.lookup x = some c → env.cells.lookup y = some c → x = y
  offL : ∀ x c, env.cells.lookup x = some c → c ≠ env.locals

def Own (env : Env) (a : Addr) : Prop := a = env.locals ∨ (env.locals < a ∧ ∃ x, env.cells.lookup x = some a)

structure St (W : Wd) (F : Addr → Option Obj) (env : Env) (ρ : Rho) (σ : AHeap) (s : Shared) : Prop where
  sh : SH W F σ s
  vs : Vars env s.heap ρ
  frO : ∀ a, Own env a → F a = none
  offL : σ env.locals = none
  offC : ∀ x c, env.cells.lookup x = some c → σ c = none

def Room (n : Nat) (A : Around) : Prop := A.handled = none ∧ A.depth + n < recursionLimit ∧ A.units + 10 * n < cLine

inductive Po (W : Wd) (F : Addr → Option Obj) (env : Env) (P : Rho → AHeap → Prop) (s' : Shared) : Prop
  | mk (ρ' : Rho) (σ' : AHeap) (q : P ρ' σ') (S : St W F env ρ' σ' s') : Po W F env P s'
inductive PoS (W : Wd) (F : Addr → Option Obj) (Q : AV → AHeap → Prop) (r : Result) (s' : Shared) : Prop
  | mk (v : Value) (σ' : AHeap) (e : r = .ok (.ret v)) (q : Q (ab v) σ') (S : SH W F σ' s') : PoS W F Q r s'
/-- a tree's triple -/
def T (W : Wd) (n : Nat) (env : Env) {α β : Type} (f : α → β) (t : Sem α) (Q : β → Rho → AHeap → Prop) (ρ : Rho) (σ : AHeap) : Prop :=
  ∀ F A s, Room n A → St W F env ρ σ s → wpAny (model W.prog W.w) A t (fun a s' => Po W F env (Q (f a)) s') (fun _ _ => False) s

/-- a def's contract -/
def Spec (W : Wd) (n : Nat) (fa : Addr) (args : List AV) (σ : AHeap) (Q : AV → AHeap → Prop) : Prop :=
  ∀ F A s (vs : List Value), vs.map ab = args → Room n A → SH W F σ s →
    codeAny (model W.prog W.w) A (.call (.ref fa) ⟨vs, []⟩) (fun r s' => PoS W F Q r s') s

section
variable {W : Wd} {n : Nat} {env : Env} {α β γ δ : Type} {f : α → β} {g : γ → δ} {ρ : Rho} {σ : AHeap}

theorem T.mono {t : Sem α} {Q Q' : β → Rho → AHeap → Prop} (h : T W n env f t Q ρ σ) (k : ∀ b ρ σ, Q b ρ σ → Q' b ρ σ) : T W n env f t Q' ρ σ :=
  fun F A s r S => wpAny_mono (h F A s r S) (fun _ _ ⟨ρ', σ', q, S'⟩ => ⟨ρ', σ', k _ _ _ q, S'⟩) fun _ _ e => e
theorem T.pure {a : α} {Q : β → Rho → AHeap → Prop} (h : Q (f a) ρ σ) : T W n env f (pure a) Q ρ σ :=
  fun _ _ _ _ S => wpAny_pure ⟨ρ, σ, h, S⟩
/-- what the abstraction forgets is asked for all concrete values -/
theorem T.bind {m : Sem α} {k : α → Sem γ} {Q : δ → Rho → AHeap → Prop} (h : T W n env f m (fun b ρ' σ' => ∀ a, f a = b → T W n env g (k a) Q ρ' σ') ρ σ) : T W n env g (m >>= k) Q ρ σ :=
  fun F A s r S => wpAny_bind (wpAny_mono (h F A s r S) (fun a s' ⟨ρ', σ', q, S'⟩ => q a rfl F A s' r S') fun _ _ e => e)
theorem Room.mono {m : Nat} {A : Around} (r : Room n A) (h : m ≤ n) : Room m A := ⟨r.1, by have := r.2.1; omega, by have := r.2.2; omega⟩
theorem T.lift {m : Nat} {t : Sem α} {Q : β → Rho → AHeap → Prop} (h : T W m env f t Q ρ σ) (hm : m ≤ n) : T W n env f t Q ρ σ :=
  fun F A s r S => h F A s (r.mono hm) S
theorem Spec.lift {m : Nat} {fa : Addr} {args : List AV} {Q : AV → AHeap → Prop} (h : Spec W m fa args σ Q) (hm : m ≤ n) : Spec W n fa args σ Q :=
  fun F A s vs e r S => h F A s vs e (r.mono hm) S
theorem Spec.mono {fa : Addr} {args : List AV} {Q Q' : AV → AHeap → Prop} (h : Spec W n fa args σ Q) (k : ∀ v σ, Q v σ → Q' v σ) : Spec W n fa args σ Q' :=
  fun F A s vs e r S => codeAny_mono (h F A s vs e r S) fun _ _ ⟨v, σ', e, q, S'⟩ => ⟨v, σ', e, k _ _ q, S'⟩

/-! moving the state -/
theorem SH.keepB {F : Addr → Option Obj} {s : Shared} (S : SH W F σ s) : ∀ b o, W.base.get? b = some o → s.heap.get? b = some o := fun b o e => (S.fr b o (S.base b o e)).1
theorem SH.move {F : Addr → Option Obj} {s : Shared} {h' : Heap} {tk : Nat} {σ' : AHeap} (S : SH W F σ s) (hk : ∀ a o, s.heap.get? a = some o → σ a = none → h'.get? a = some o)
    (hp : ∀ a o, σ' a = some o → OR W a h' o) (hd : ∀ a, σ a = none → s.heap.get? a ≠ none → σ' a = none) : SH W F σ' { s with heap := h', toks := tk } := by
  refine ⟨fun a o e => ?_, S.base, hp, ?_⟩
  · have := S.fr a o e
    exact ⟨hk a o this.1 this.2, hd a this.2 (by rw [this.1]; simp)⟩
  · obtain ⟨h, t, rfl⟩ := S.same; exact ⟨h', tk, rfl⟩
theorem Vars.move {h h' : Heap} (V : Vars env h ρ) (hl : ∀ o, h.get? env.locals = some o → h'.get? env.locals = some o) (hc : ∀ x c, env.cells.lookup x = some c → ∀ o, h.get? c = some o → h'.get? c = some o) : Vars env h' ρ := by
  obtain ⟨m, ⟨o, es, ep, ho, r⟩, hv⟩ := V.ns
  refine ⟨V.kind, ⟨m, ⟨o, es, ep, hl _ ho, r⟩, fun x v hx => ?_⟩, fun x c e => ?_, V.apart, V.offL⟩
  · rcases hv x v hx with q | ⟨q, c, v', e, ⟨o, ho, hd⟩, e'⟩
    · exact .inl q
    · exact .inr ⟨q, c, v', e, ⟨o, hc x c e o ho, hd⟩, e'⟩
  · obtain ⟨v, o, ho, hd⟩ := V.cells x c e
    exact ⟨v, o, hc x c e o ho, hd⟩
theorem Vars.locSome {h : Heap} (V : Vars env h ρ) : h.get? env.locals ≠ none := by
  obtain ⟨m, ⟨o, es, ep, ho, r⟩, hv⟩ := V.ns; rw [ho]; simp
theorem Vars.cellSome {h : Heap} (V : Vars env h ρ) {x : Str} {c : Addr} (e : env.cells.lookup x = some c) : h.get? c ≠ none := by
  obtain ⟨v, o, ho, hd⟩ := V.cells x c e; rw [ho]; simp
theorem St.move {F : Addr → Option Obj} {s : Shared} {h' : Heap} {tk : Nat} {σ' : AHeap} (S : St W F env ρ σ s) (hk : ∀ a o, s.heap.get? a = some o → σ a = none → h'.get? a = some o)
    (hp : ∀ a o, σ' a = some o → OR W a h' o) (hd : ∀ a, σ a = none → s.heap.get? a ≠ none → σ' a = none) : St W F env ρ σ' { s with heap := h', toks := tk } :=
  ⟨S.sh.move hk hp hd, S.vs.move (fun o e => hk _ o e S.offL) (fun x c e o ho => hk c o ho (S.offC x c e)), S.frO, hd _ S.offL S.vs.locSome, fun x c e => hd c (S.offC x c e) (S.vs.cellSome e)⟩
theorem St.tok {F : Addr → Option Obj} {s : Shared} (S : St W F env ρ σ s) (tk : Nat) : St W F env ρ σ { s with toks := tk } :=
  S.move (fun _ _ e _ => e) S.sh.hp fun _ e _ => e
/-- a new object that no abstract object tells of -/
theorem St.push {F : Addr → Option Obj} {s : Shared} (S : St W F env ρ σ s) (o : Obj) (tk : Nat) : St W F env ρ σ { s with heap := s.heap.push o, toks := tk } :=
  S.move (fun _ _ e _ => Heap.get?_push_of_some _ e) (fun a oa e => (S.sh.hp a oa e).move fun _ => Heap.get?_push_of_some _) fun _ e _ => e

def AHeap.set (σ : AHeap) (a : Addr) (o : AObj) : AHeap := fun b => if b = a then some o else σ b
def Le (σ σ' : AHeap) : Prop := ∀ a o, σ a = some o → σ' a = some o
def Chg (r : Addr) (o : AObj) (σ σ' : AHeap) : Prop := σ' r = some o ∧ ∀ a o', a ≠ r → σ a = some o' → σ' a = some o'
theorem Le.rfl : Le σ σ := fun _ _ e => e
theorem Le.trans {σ1 σ2 : AHeap} (a : Le σ σ1) (b : Le σ1 σ2) : Le σ σ2 := fun x o e => b x o (a x o e)
theorem get?_size (h : Heap) : h.get? h.objs.size = none := by
  cases e : h.get? h.objs.size with
  | none => rfl
  | some o => exact absurd (Heap.lt_size e) (Nat.lt_irrefl _)
theorem St.none_size {F : Addr → Option Obj} {s : Shared} (S : SH W F σ s) : σ s.heap.objs.size = none := by
  cases e : σ s.heap.objs.size with
  | none => rfl
  | some o => obtain ⟨co, h⟩ := (S.hp _ _ e).ex; rw [get?_size] at h; cases h
/-- a new abstract object -/
theorem St.alloc {F : Addr → Option Obj} {s : Shared} (S : St W F env ρ σ s) (o : Obj) (ao : AObj) (tk : Nat) (hf : o.isFreed = false) (ho : ∀ h : Heap, h.get? s.heap.objs.size = some o → OR W s.heap.objs.size h ao) :
    St W F env ρ (σ.set s.heap.objs.size ao) { s with heap := s.heap.push o, toks := tk } :=
  S.move (fun _ _ e _ => Heap.get?_push_of_some _ e) (fun a oa e => by
    unfold AHeap.set at e
    split at e
    · rename_i q; subst q; cases e; exact ho _ (Heap.get?_push_size _ hf)
    · exact (S.sh.hp a oa e).move fun _ => Heap.get?_push_of_some _) fun a e h => by
    unfold AHeap.set
    rw [if_neg (fun q => h (by rw [q, get?_size])), e]
theorem Le.set {a : Addr} {o : AObj} (h : σ a = none) : Le σ (σ.set a o) := fun b ob e => by
  unfold AHeap.set; rw [if_neg (fun q => by rw [q, h] at e; cases e)]; exact e
theorem set_same {a : Addr} {o : AObj} : (σ.set a o) a = some o := by unfold AHeap.set; rw [if_pos _root_.rfl]
/-- an abstract object is changed -/
theorem St.upd {F : Addr → Option Obj} {s : Shared} {h' : Heap} (S : St W F env ρ σ s) {a : Addr} {o ao : AObj} (tk : Nat) (ha : σ a = some o) (hs : Heap.SameBut a s.heap h') (ho : OR W a h' ao) :
    St W F env ρ (σ.set a ao) { s with heap := h', toks := tk } :=
  S.move (fun b ob e q => (hs.2 b (fun c => by rw [c, ha] at q; cases q)).trans e) (fun b ob e => by
    unfold AHeap.set at e
    split at e
    · rename_i q; subst q; cases e; exact ho
    · rename_i q; exact (S.sh.hp b ob e).move fun co h => (hs.2 b q).trans h) fun b e _ => by
    unfold AHeap.set
    rw [if_neg (fun q => by rw [q, ha] at e; cases e), e]
theorem Chg.set {a : Addr} {o : AObj} : Chg a o σ (σ.set a o) := ⟨set_same, fun b ob q e => by unfold AHeap.set; rw [if_neg q]; exact e⟩
end

section
variable {W : Wd} {n : Nat} {env : Env} {ρ : Rho} {σ : AHeap}

/-! how a library's rule is lifted: the goal's post at a value -/
theorem T.of {α β : Type} {f : α → β} {t : Sem α} {Q : β → Rho → AHeap → Prop}
    (h : ∀ F A s, Room n A → St W F env ρ σ s → wpAny (model W.prog W.w) A t (fun a s' => Po W F env (Q (f a)) s') (fun _ _ => False) s) : T W n env f t Q ρ σ := h

/-! constants -/
theorem T_none {k pos} {Q : AV → Rho → AHeap → Prop} (h : Q .none ρ σ) : T W n env ab (eval (.Constant .none k pos) env) Q ρ σ :=
  fun _ _ _ _ S => wpAny_Constant_none ⟨ρ, σ, h, S⟩
theorem T_bool {b k pos} {Q : AV → Rho → AHeap → Prop} (h : Q (.bool b) ρ σ) : T W n env ab (eval (.Constant (.bool b) k pos) env) Q ρ σ :=
  fun _ _ _ _ S => wpAny_Constant_bool ⟨ρ, σ, h, S⟩
theorem T_int {i k pos} {Q : AV → Rho → AHeap → Prop} (h : Q (.int i) ρ σ) : T W n env ab (eval (.Constant (.int i) k pos) env) Q ρ σ :=
  fun _ _ _ _ S => wpAny_Constant_int ⟨ρ, σ, h, S.tok _⟩
theorem T_str {x k pos} {Q : AV → Rho → AHeap → Prop} (h : Q (.str x) ρ σ) : T W n env ab (eval (.Constant (.str x) k pos) env) Q ρ σ :=
  fun _ _ _ _ S => wpAny_Constant_str ⟨ρ, σ, h, S.tok _⟩

/-! names -/
theorem T_load {x : Str} {v : AV} {Q : AV → Rho → AHeap → Prop} (hx : (x, v) ∈ ρ) (h : Q v ρ σ) : T W n env ab (loadName env x) Q ρ σ := fun F A s r S => by
  obtain ⟨m, hm, hv⟩ := S.vs.ns
  rcases hv x v hx with ⟨k, v', e, rfl⟩ | ⟨k, c, v', e, hc, rfl⟩
  · exact wpAny_loadName_local S.vs.kind k hm e ⟨ρ, σ, h, S⟩
  · exact wpAny_loadName_cell S.vs.kind k e hc ⟨ρ, σ, h, S⟩
theorem T_Name {x : Str} {pos} {v : AV} {Q : AV → Rho → AHeap → Prop} (hx : (x, v) ∈ ρ) (h : Q v ρ σ) (hd : (x == ("__debug__" : Str)) = false) : T W n env ab (eval (.Name x pos) env) Q ρ σ :=
  fun F A s r S => wpAny_Name (T_load hx h F A s r S) hd
theorem T_Global {x : Str} {pos} {v : Value} {Q : AV → Rho → AHeap → Prop} (e : W.mg x = some v) (hg : env.globals = mainGlobals) (hx : env.kindOf x = some .globalImplicit) (hd : (x == ("__debug__" : Str)) = false) (h : ∀ v', v' = v → Q (ab v') ρ σ) :
    T W n env ab (eval (.Name x pos) env) Q ρ σ := fun F A s r S =>
  Name_function_global S.vs.kind hx (loadGlobal_global (hg ▸ W.g.keeps S.sh.keepB) e ⟨ρ, σ, h _ rfl, S⟩) hd
theorem T_Builtin {x : Str} {pos} {v : Value} {Q : AV → Rho → AHeap → Prop} (e : W.mg x = none) (hb : bootBuiltins x = some v) (hn : x ≠ ("__name__" : Str)) (hg : env.globals = mainGlobals) (hbi : env.builtins = builtinsNs)
    (hx : env.kindOf x = some .globalImplicit) (hd : (x == ("__debug__" : Str)) = false) (h : Q (ab v) ρ σ) :
    T W n env ab (eval (.Name x pos) env) Q ρ σ := fun F A s r S =>
  Name_function_global S.vs.kind hx (loadGlobal_builtin (hg ▸ W.g.keeps S.sh.keepB) e (hbi ▸ W.b.keeps S.sh.keepB) ((W.bi _ hn).trans hb) ⟨ρ, σ, h, S⟩) hd

/-! arithmetic on ints -/
theorem T_BinOp {l op r pos} {Q : AV → Rho → AHeap → Prop}
    (h : T W n env ab (eval l env) (fun a => T W n env ab (eval r env) (fun b ρ σ => ∀ va vb, ab va = a → ab vb = b → T W n env ab (binaryOp op va vb) Q ρ σ)) ρ σ) :
    T W n env ab (eval (.BinOp l op r pos) env) Q ρ σ := fun F A s rm S =>
  wpAny_BinOp (wpAny_mono (h F A s rm S) (fun va s₁ ⟨ρ₁, σ₁, q, S₁⟩ => wpAny_mono (q F A s₁ rm S₁) (fun vb s₂ ⟨ρ₂, σ₂, q, S₂⟩ => q va vb rfl rfl F A s₂ rm S₂) fun _ _ e => e) fun _ _ e => e)
theorem B_add {i j : Int} {Q : AV → Rho → AHeap → Prop} (h : Q (.int (i + j)) ρ σ) : ∀ va vb, ab va = .int i → ab vb = .int j → T W n env ab (binaryOp .Add va vb) Q ρ σ := fun va vb ha hb F A s r S => by
  obtain ⟨t, rfl⟩ := ab_int ha; obtain ⟨u, rfl⟩ := ab_int hb
  exact add_int ⟨ρ, σ, h, S.tok _⟩
theorem B_sub {i j : Int} {Q : AV → Rho → AHeap → Prop} (h : Q (.int (i - j)) ρ σ) : ∀ va vb, ab va = .int i → ab vb = .int j → T W n env ab (binaryOp .Sub va vb) Q ρ σ := fun va vb ha hb F A s r S => by
  obtain ⟨t, rfl⟩ := ab_int ha; obtain ⟨u, rfl⟩ := ab_int hb
  exact sub_int ⟨ρ, σ, h, S.tok _⟩
theorem B_mul {i j : Int} {Q : AV → Rho → AHeap → Prop} (hm : PySem.IntMulOk i j) (h : Q (.int (i * j)) ρ σ) : ∀ va vb, ab va = .int i → ab vb = .int j → T W n env ab (binaryOp .Mult va vb) Q ρ σ := fun va vb ha hb F A s r S => by
  obtain ⟨t, rfl⟩ := ab_int ha; obtain ⟨u, rfl⟩ := ab_int hb
  exact mul_int ⟨ρ, σ, h, S.tok _⟩ hm
theorem B_mod {i j : Int} {Q : AV → Rho → AHeap → Prop} (hj : j ≠ 0) (h : Q (.int (i.fmod j)) ρ σ) : ∀ va vb, ab va = .int i → ab vb = .int j → T W n env ab (binaryOp .Mod va vb) Q ρ σ := fun va vb ha hb F A s r S => by
  obtain ⟨t, rfl⟩ := ab_int ha; obtain ⟨u, rfl⟩ := ab_int hb
  exact mod_int hj ⟨ρ, σ, h, S.tok _⟩
theorem B_floordiv {i j : Int} {Q : AV → Rho → AHeap → Prop} (hj : j ≠ 0) (hp : Builtin.divisionGoesByPylong i j = false) (h : Q (.int (i.fdiv j)) ρ σ) : ∀ va vb, ab va = .int i → ab vb = .int j → T W n env ab (binaryOp .FloorDiv va vb) Q ρ σ := fun va vb ha hb F A s r S => by
  obtain ⟨t, rfl⟩ := ab_int ha; obtain ⟨u, rfl⟩ := ab_int hb
  exact floordiv_int hj ⟨ρ, σ, h, S.tok _⟩ (.inl hp)
theorem B_and {i j : Int} {Q : AV → Rho → AHeap → Prop} (h : Q (.int (Builtin.bitAnd i j)) ρ σ) : ∀ va vb, ab va = .int i → ab vb = .int j → T W n env ab (binaryOp .BitAnd va vb) Q ρ σ := fun va vb ha hb F A s r S => by
  obtain ⟨t, rfl⟩ := ab_int ha; obtain ⟨u, rfl⟩ := ab_int hb
  exact and_int ⟨ρ, σ, h, S.tok _⟩

/-! comparisons -/
theorem T_Compare {l op r pos} {Q : AV → Rho → AHeap → Prop} (hm : behindInMarks op r = false)
    (h : T W n env ab (eval l env) (fun a => T W n env ab (eval r env) (fun b ρ σ => ∀ va vb, ab va = a → ab vb = b → T W n env ab (compareOp op va vb) Q ρ σ)) ρ σ) :
    T W n env ab (eval (.Compare l [op] [r] pos) env) Q ρ σ := fun F A s rm S =>
  wpAny_Compare1 (wpAny_mono (h F A s rm S) (fun va s₁ ⟨ρ₁, σ₁, q, S₁⟩ => wpAny_mono (q F A s₁ rm S₁) (fun vb s₂ ⟨ρ₂, σ₂, q, S₂⟩ => q va vb rfl rfl F A s₂ rm S₂) fun _ _ e => e) fun _ _ e => e) hm
theorem T_isCompare {l op r pos whole} {Q : Bool → Rho → AHeap → Prop} (hm : behindInMarks op r = false)
    (h : T W n env ab (eval l env) (fun a => T W n env ab (eval r env) (fun b ρ σ => ∀ va vb, ab va = a → ab vb = b → T W n env ab (compareOp op va vb) (fun c ρ σ => ∃ b, c = .bool b ∧ Q b ρ σ) ρ σ)) ρ σ) :
    T W n env id (isTrue (.Compare l [op] [r] pos) env whole) Q ρ σ := fun F A s rm S =>
  wpAny_isTrue_Compare1 (wpAny_mono (h F A s rm S) (fun va s₁ ⟨ρ₁, σ₁, q, S₁⟩ => wpAny_mono (q F A s₁ rm S₁) (fun vb s₂ ⟨ρ₂, σ₂, q, S₂⟩ => wpAny_mono (q va vb rfl rfl F A s₂ rm S₂) (fun vc s₃ ⟨ρ₃, σ₃, ⟨b, e, q⟩, S₃⟩ => by
    obtain rfl := ab_bool e
    exact wpAny_truthy_bool ⟨ρ₃, σ₃, q, S₃⟩) fun _ _ e => e) fun _ _ e => e) fun _ _ e => e) hm

theorem C_eq_int {i j : Int} {Q : AV → Rho → AHeap → Prop} (h : Q (.bool (i == j)) ρ σ) : ∀ va vb, ab va = .int i → ab vb = .int j → T W n env ab (compareOp .Eq va vb) Q ρ σ := fun va vb ha hb F A s r S => by
  obtain ⟨t, rfl⟩ := ab_int ha; obtain ⟨u, rfl⟩ := ab_int hb
  exact eq_int ⟨ρ, σ, h, S⟩
theorem C_ne_int {i j : Int} {Q : AV → Rho → AHeap → Prop} (h : Q (.bool (i != j)) ρ σ) : ∀ va vb, ab va = .int i → ab vb = .int j → T W n env ab (compareOp .NotEq va vb) Q ρ σ := fun va vb ha hb F A s r S => by
  obtain ⟨t, rfl⟩ := ab_int ha; obtain ⟨u, rfl⟩ := ab_int hb
  exact ne_int ⟨ρ, σ, h, S⟩
theorem C_gt_int {i j : Int} {Q : AV → Rho → AHeap → Prop} (h : Q (.bool (decide (j < i))) ρ σ) : ∀ va vb, ab va = .int i → ab vb = .int j → T W n env ab (compareOp .Gt va vb) Q ρ σ := fun va vb ha hb F A s r S => by
  obtain ⟨t, rfl⟩ := ab_int ha; obtain ⟨u, rfl⟩ := ab_int hb
  exact gt_int ⟨ρ, σ, h, S⟩
theorem C_is_none {a : AV} {Q : AV → Rho → AHeap → Prop} (h : Q (.bool (a == .none)) ρ σ) : ∀ va vb, ab va = a → ab vb = .none → T W n env ab (compareOp .Is va vb) Q ρ σ := fun va vb ha hb F A s r S => by
  obtain rfl := ab_none hb
  subst ha
  refine is_none ⟨ρ, σ, ?_, S⟩
  show Q (.bool (va == .none)) ρ σ
  rw [show (va == Value.none) = (ab va == AV.none) by cases va <;> rfl]; exact h
theorem C_isNot_none {a : AV} {Q : AV → Rho → AHeap → Prop} (h : Q (.bool (!(a == .none))) ρ σ) : ∀ va vb, ab va = a → ab vb = .none → T W n env ab (compareOp .IsNot va vb) Q ρ σ := fun va vb ha hb F A s r S => by
  obtain rfl := ab_none hb
  subst ha
  refine isNot_none ⟨ρ, σ, ?_, S⟩
  show Q (.bool (!(va == .none))) ρ σ
  rw [show (va == Value.none) = (ab va == AV.none) by cases va <;> rfl]; exact h

/-! truth, and | or | not, conditional expressions -/
theorem T_isNot {x : Expr} {pos whole} {Q : Bool → Rho → AHeap → Prop} (h : T W n env id (isTrue x env (eval x env)) (fun b => Q (!b)) ρ σ) : T W n env id (isTrue (.UnaryOp .Not x pos) env whole) Q ρ σ :=
  fun F A s r S => wpAny_isTrue_Not (h F A s r S)
theorem T_isBoolOp {op values pos whole} {Q : Bool → Rho → AHeap → Prop} (h : T W n env id (allTrue op values env) Q ρ σ) : T W n env id (isTrue (.BoolOp op values pos) env whole) Q ρ σ :=
  fun F A s r S => wpAny_isTrue_BoolOp (h F A s r S)
theorem T_and_nil {Q : Bool → Rho → AHeap → Prop} (h : Q true ρ σ) : T W n env id (allTrue .And [] env) Q ρ σ := fun F A s r S => wpAny_allTrue_And_nil ⟨ρ, σ, h, S⟩
theorem T_or_nil {Q : Bool → Rho → AHeap → Prop} (h : Q false ρ σ) : T W n env id (allTrue .Or [] env) Q ρ σ := fun F A s r S => wpAny_allTrue_Or_nil ⟨ρ, σ, h, S⟩
theorem T_and_cons {x : Expr} {rest} {Q : Bool → Rho → AHeap → Prop}
    (h : T W n env id (isTrue x env (eval x env)) (fun b ρ σ => (b = true → T W n env id (allTrue .And rest env) Q ρ σ) ∧ (b = false → Q false ρ σ)) ρ σ) : T W n env id (allTrue .And (x :: rest) env) Q ρ σ :=
  fun F A s r S => wpAny_allTrue_And_cons (wpAny_mono (h F A s r S) (fun b s₁ ⟨ρ₁, σ₁, q, S₁⟩ => by
    cases b
    · exact ⟨ρ₁, σ₁, q.2 rfl, S₁⟩
    · exact q.1 rfl F A s₁ r S₁) fun _ _ e => e)
theorem T_or_cons {x : Expr} {rest} {Q : Bool → Rho → AHeap → Prop}
    (h : T W n env id (isTrue x env (eval x env)) (fun b ρ σ => (b = true → Q true ρ σ) ∧ (b = false → T W n env id (allTrue .Or rest env) Q ρ σ)) ρ σ) : T W n env id (allTrue .Or (x :: rest) env) Q ρ σ :=
  fun F A s r S => wpAny_allTrue_Or_cons (wpAny_mono (h F A s r S) (fun b s₁ ⟨ρ₁, σ₁, q, S₁⟩ => by
    cases b
    · exact q.2 rfl F A s₁ r S₁
    · exact ⟨ρ₁, σ₁, q.1 rfl, S₁⟩) fun _ _ e => e)
theorem T_isValue {e : Expr} {whole : Sem Value} {Q : Bool → Rho → AHeap → Prop} (he : isTrue e env whole = (do let v ← whole; standAt e.pos; holding [v] (truthy v)))
    (h : T W n env ab whole (fun c ρ σ => ∃ b, c = .bool b ∧ Q b ρ σ) ρ σ) : T W n env id (isTrue e env whole) Q ρ σ :=
  fun F A s r S => wpAny_isTrue_value (wpAny_mono (h F A s r S) (fun v s₁ ⟨ρ₁, σ₁, ⟨b, e, q⟩, S₁⟩ => by
    obtain rfl := ab_bool e
    exact wpAny_truthy_bool ⟨ρ₁, σ₁, q, S₁⟩) fun _ _ e => e) he
theorem T_And2 {x y : Expr} {pos} {Q : AV → Rho → AHeap → Prop}
    (h : T W n env ab (eval x env) (fun c ρ σ => ∃ b, c = .bool b ∧ (b = true → T W n env ab (eval y env) Q ρ σ) ∧ (b = false → Q (.bool false) ρ σ)) ρ σ) : T W n env ab (eval (.BoolOp .And [x, y] pos) env) Q ρ σ :=
  fun F A s r S => wpAny_And2 (wpAny_mono (h F A s r S) (fun v s₁ ⟨ρ₁, σ₁, qq, S₁⟩ => by
    obtain ⟨b, e, q1, q2⟩ := qq
    obtain rfl := ab_bool e
    refine wpAny_truthy_bool ?_
    cases b
    · exact ⟨ρ₁, σ₁, q2 rfl, S₁⟩
    · exact q1 rfl F A s₁ r S₁) fun _ _ e => e)
theorem T_IfExp {test body orelse pos} {Q : AV → Rho → AHeap → Prop}
    (h : T W n env id (isTrue test env (eval test env)) (fun b ρ σ => (b = true → T W n env ab (eval body env) Q ρ σ) ∧ (b = false → T W n env ab (eval orelse env) Q ρ σ)) ρ σ) :
    T W n env ab (eval (.IfExp test body orelse pos) env) Q ρ σ :=
  fun F A s r S => wpAny_IfExp (wpAny_mono (h F A s r S) (fun b s₁ ⟨ρ₁, σ₁, q, S₁⟩ => by
    cases b
    · exact q.2 rfl F A s₁ r S₁
    · exact q.1 rfl F A s₁ r S₁) fun _ _ e => e)

/-! statements -/
inductive AFlow where
  | next | brk | cont
  | ret (v : AV)
def abf : Flow → AFlow
  | .next => .next
  | .brk => .brk
  | .cont => .cont
  | .ret v => .ret (ab v)
abbrev TS (W : Wd) (n : Nat) (env : Env) (t : Sem Flow) (Q : AFlow → Rho → AHeap → Prop) (ρ : Rho) (σ : AHeap) : Prop := T W n env abf t Q ρ σ

theorem S_nil {Q : AFlow → Rho → AHeap → Prop} (h : Q .next ρ σ) : TS W n env (execs [] env) Q ρ σ := fun _ _ _ _ S => wpAny_execs_nil ⟨ρ, σ, h, S⟩
theorem S_cons {st rest} {Q : AFlow → Rho → AHeap → Prop} (h : TS W n env (exec st env) (fun f ρ σ => match f with | .next => TS W n env (execs rest env) Q ρ σ | f => Q f ρ σ) ρ σ) : TS W n env (execs (st :: rest) env) Q ρ σ :=
  fun F A s r S => wpAny_execs_cons (wpAny_mono (h F A s r S) (fun f s₁ ⟨ρ₁, σ₁, q, S₁⟩ => by
    cases f with
    | next => exact q F A s₁ r S₁
    | brk => exact ⟨ρ₁, σ₁, q, S₁⟩
    | cont => exact ⟨ρ₁, σ₁, q, S₁⟩
    | ret v => exact ⟨ρ₁, σ₁, q, S₁⟩) fun _ _ e => e)
theorem S_If {test body orelse pos} {Q : AFlow → Rho → AHeap → Prop}
    (h : T W n env id (isTrue test env (eval test env)) (fun b ρ σ => (b = true → TS W n env (execs body env) Q ρ σ) ∧ (b = false → TS W n env (execs orelse env) Q ρ σ)) ρ σ) :
    TS W n env (exec (.If test body orelse pos) env) Q ρ σ :=
  fun F A s r S => wpAny_If (wpAny_mono (h F A s r S) (fun b s₁ ⟨ρ₁, σ₁, q, S₁⟩ => by
    cases b
    · exact q.2 rfl F A s₁ r S₁
    · exact q.1 rfl F A s₁ r S₁) fun _ _ e => e)
theorem S_Return {e pos} {Q : AFlow → Rho → AHeap → Prop} (h : T W n env ab (eval e env) (fun v => Q (.ret v)) ρ σ) : TS W n env (exec (.Return (some e) pos) env) Q ρ σ :=
  fun F A s r S => wpAny_Return_some (h F A s r S)
theorem S_Return0 {pos} {Q : AFlow → Rho → AHeap → Prop} (h : Q (.ret .none) ρ σ) : TS W n env (exec (.Return none pos) env) Q ρ σ :=
  fun F A s r S => wpAny_Return_none ⟨ρ, σ, h, S⟩
theorem S_Continue {pos} {Q : AFlow → Rho → AHeap → Prop} (h : Q .cont ρ σ) : TS W n env (exec (.Continue pos) env) Q ρ σ := fun F A s r S => wpAny_Continue ⟨ρ, σ, h, S⟩
theorem S_Break {pos} {Q : AFlow → Rho → AHeap → Prop} (h : Q .brk ρ σ) : TS W n env (exec (.Break pos) env) Q ρ σ := fun F A s r S => wpAny_Break ⟨ρ, σ, h, S⟩
theorem T.weak {α β : Type} {f : α → β} {t : Sem α} {Q : β → Rho → AHeap → Prop} {ρ₀ : Rho} (hw : ∀ p ∈ ρ₀, p ∈ ρ) (h : T W n env f t Q ρ₀ σ) : T W n env f t Q ρ σ := fun F A s r S =>
  h F A s r ⟨S.sh, ⟨S.vs.kind, by obtain ⟨m, hm, hv⟩ := S.vs.ns; exact ⟨m, hm, fun x v hx => hv x v (hw _ hx)⟩, S.vs.cells, S.vs.apart, S.vs.offL⟩, S.frO, S.offL, S.offC⟩

/-! stores -/
inductive Up (x : Str) (v : AV) : Rho → Rho → Prop where
  | nil : Up x v [] [(x, v)]
  | drop {u ρ ρ'} : Up x v ρ ρ' → Up x v ((x, u) :: ρ) ρ'
  | keep {y u ρ ρ'} : y ≠ x → Up x v ρ ρ' → Up x v ((y, u) :: ρ) ((y, u) :: ρ')
theorem Up.of {x : Str} {v : AV} {ρ ρ' : Rho} (h : Up x v ρ ρ') : ∀ y u, (y, u) ∈ ρ' → (y = x ∧ u = v) ∨ (y ≠ x ∧ (y, u) ∈ ρ) := by
  induction h with
  | nil => intro y u hy; cases hy with | head => exact .inl ⟨rfl, rfl⟩ | tail _ h => cases h
  | drop _ ih => intro y u hy; rcases ih y u hy with h | h; exact .inl h; exact .inr ⟨h.1, .tail _ h.2⟩
  | keep hne _ ih =>
    intro y u hy
    cases hy with
    | head => exact .inr ⟨hne, .head _⟩
    | tail _ hy => rcases ih y u hy with h | h; exact .inl h; exact .inr ⟨h.1, .tail _ h.2⟩
def Sto (env : Env) (x : Str) : Prop := env.kindOf x = some .local ∨ (env.kindOf x = some .cell ∧ ∃ c, env.cells.lookup x = some c ∧ env.locals < c)

theorem T_store {x : Str} {v : Value} {ρ' : Rho} {Q : Unit → Rho → AHeap → Prop} (hs : Sto env x) (hu : Up x (ab v) ρ ρ') (h : Q () ρ' σ) : T W n env id (storeName env x v) Q ρ σ := fun F A s r S => by
  obtain ⟨m, hm, hv⟩ := S.vs.ns
  rcases hs with k | ⟨k, c, hc, hlt⟩
  · refine wpAny_storeName_local k hm (fun h' hn hsb => ⟨ρ', σ, h, ?_⟩) (by rw [S.vs.kind]; rfl)
    have hL : F env.locals = none := S.frO _ (.inl rfl)
    refine ⟨⟨fun a o e => ?_, S.sh.base, fun a o e => (S.sh.hp a o e).move fun co h => (hsb.2 a (fun q => ?_)).trans h, ?_⟩, ⟨S.vs.kind, ⟨_, hn, fun y u hy => ?_⟩, fun y c' e => ?_, S.vs.apart, S.vs.offL⟩, S.frO, S.offL, S.offC⟩
    · have := S.sh.fr a o e
      exact ⟨(hsb.2 a (fun q => by rw [q, hL] at e; cases e)).trans this.1, this.2⟩
    · rw [q, S.offL] at e; cases e
    · obtain ⟨hh, t, rfl⟩ := S.sh.same; exact ⟨h', _, rfl⟩
    · rcases hu.of y u hy with ⟨rfl, rfl⟩ | ⟨hne, hm'⟩
      · exact .inl ⟨k, v, by simp, rfl⟩
      · rcases hv y u hm' with ⟨k', v', e, e'⟩ | ⟨k', c', v', e, hc', e'⟩
        · exact .inl ⟨k', v', by simp [hne, e], e'⟩
        · exact .inr ⟨k', c', v', e, hc'.sameBut hsb (S.vs.offL _ _ e), e'⟩
    · obtain ⟨v', hv'⟩ := S.vs.cells y c' e; exact ⟨v', hv'.sameBut hsb (S.vs.offL _ _ e)⟩
  · obtain ⟨v₀, hv₀⟩ := S.vs.cells x c hc
    refine wpAny_storeName_cell S.vs.kind k hc hv₀ (fun h' hn hsb => ⟨ρ', σ, h, ?_⟩)
    have hL : F c = none := S.frO _ (.inr ⟨hlt, x, hc⟩)
    have hne' : c ≠ env.locals := S.vs.offL _ _ hc
    refine ⟨⟨fun a o e => ?_, S.sh.base, fun a o e => (S.sh.hp a o e).move fun co h => (hsb.2 a (fun q => ?_)).trans h, ?_⟩, ⟨S.vs.kind, ⟨m, hm.sameBut hsb hne'.symm, fun y u hy => ?_⟩, fun y c' e => ?_, S.vs.apart, S.vs.offL⟩, S.frO, S.offL, S.offC⟩
    · have := S.sh.fr a o e
      exact ⟨(hsb.2 a (fun q => by rw [q, hL] at e; cases e)).trans this.1, this.2⟩
    · rw [q, S.offC _ _ hc] at e; cases e
    · obtain ⟨hh, t, rfl⟩ := S.sh.same; exact ⟨h', _, rfl⟩
    · rcases hu.of y u hy with ⟨rfl, rfl⟩ | ⟨hne, hm'⟩
      · exact .inr ⟨k, c, v, hc, hn, rfl⟩
      · rcases hv y u hm' with ⟨k', v', e, e'⟩ | ⟨k', c', v', e, hc', e'⟩
        · exact .inl ⟨k', v', e, e'⟩
        · exact .inr ⟨k', c', v', e, hc'.sameBut hsb (fun q => hne (S.vs.apart y x c (q ▸ e) hc)), e'⟩
    · by_cases q : c' = c
      · subst q; exact ⟨_, hn⟩
      · obtain ⟨v', hv'⟩ := S.vs.cells y c' e; exact ⟨v', hv'.sameBut hsb q⟩
theorem S_AssignName {x pos' value pos} {Q : AFlow → Rho → AHeap → Prop} (hs : swapsWith value (some (.Name x pos')) pos.line env = pure false) (hx : Sto env x)
    (h : T W n env ab (eval value env) (fun v ρ σ => ∃ ρ', Up x v ρ ρ' ∧ Q .next ρ' σ) ρ σ) : TS W n env (exec (.Assign [.Name x pos'] value pos) env) Q ρ σ :=
  fun F A s r S => wpAny_Assign_Name (wpAny_mono (h F A s r S) (fun v s₁ ⟨ρ₁, σ₁, ⟨ρ', u, q⟩, S₁⟩ => T_store (Q := fun _ => Q .next) hx u q F A s₁ r S₁) fun _ _ e => e) hs
end

section
variable {W : Wd} {n : Nat} {env : Env} {ρ : Rho} {σ : AHeap}

/-! arguments, displays -/
abbrev TArgs (W : Wd) (n : Nat) (env : Env) (pos : Pos) (es : List Expr) (Q : List AV → Rho → AHeap → Prop) (ρ : Rho) (σ : AHeap) : Prop := T W n env (List.map ab) (spliced (backTo pos (starEach es env))) Q ρ σ
theorem A_nil {pos} {Q : List AV → Rho → AHeap → Prop} (h : Q [] ρ σ) : TArgs W n env pos [] Q ρ σ := fun F A s r S => spliced_none ⟨ρ, σ, h, S⟩
theorem A_cons {pos} {e : Expr} {rest : List Expr} {Q : List AV → Rho → AHeap → Prop} (he : starEach (e :: rest) env = (false, eval e env) :: starEach rest env)
    (h : T W n env ab (eval e env) (fun v => TArgs W n env pos rest (fun vs => Q (v :: vs))) ρ σ) : TArgs W n env pos (e :: rest) Q ρ σ := fun F A s r S =>
  spliced_more (wpAny_mono (h F A s r S) (fun v s₁ ⟨ρ₁, σ₁, q, S₁⟩ => wpAny_mono (q F A s₁ r S₁) (fun vs s₂ ⟨ρ₂, σ₂, q, S₂⟩ => ⟨ρ₂, σ₂, q, S₂⟩) fun _ _ e => e) fun _ _ e => e) he

/-- what a new object's maker has to show -/
def New (σ : AHeap) (o : AObj) (Q : AV → AHeap → Prop) : Prop := ∀ a σ', σ a = none → Le σ σ' → σ' a = some o → Q (.ref a) σ'
theorem line1000 {n : Nat} (h : n ≤ 1000) : n ≤ sizeLine := by rw [sizeLine_eq]; omega

theorem T_Tuple {elts k pos} {Q : AV → Rho → AHeap → Prop} (h : TArgs W n env pos elts (fun vs ρ σ => vs.length ≤ 1000 ∧ New σ (.tup vs) (fun v σ' => Q v ρ σ')) ρ σ) : T W n env ab (eval (.Tuple elts k pos) env) Q ρ σ := fun F A s r S =>
  wpAny_Tuple (wpAny_mono (h F A s r S) (fun vs s₁ ⟨ρ₁, σ₁, ⟨q1, q⟩, S₁⟩ => ⟨line1000 (by simpa using q1), ρ₁, _, q _ _ (St.none_size S₁.sh) (Le.set (St.none_size S₁.sh)) set_same,
    S₁.alloc _ _ _ rfl fun h e => .tup vs 0 e⟩) fun _ _ e => e)
theorem T_List {elts pos} {Q : AV → Rho → AHeap → Prop} (h : TArgs W n env pos elts (fun vs ρ σ => vs.length ≤ 1000 ∧ New σ (.list vs) (fun v σ' => Q v ρ σ')) ρ σ) : T W n env ab (eval (.List elts pos) env) Q ρ σ := fun F A s r S =>
  wpAny_List (wpAny_mono (h F A s r S) (fun vs s₁ ⟨ρ₁, σ₁, ⟨q1, q⟩, S₁⟩ => ⟨line1000 (by simpa using q1), ρ₁, _, q _ _ (St.none_size S₁.sh) (Le.set (St.none_size S₁.sh)) set_same,
    S₁.alloc _ _ _ rfl fun h e => .list vs 0 e⟩) fun _ _ e => e)
theorem dictAt_new (h : Heap) {a : Addr} (e : h.get? a = some { cls := .type "dict", data := .dict #[] }) : h.DictAt (kk W.prog W.w) a [] 0 :=
  ⟨_, #[], e, ⟨rfl, rfl, rfl⟩, rfl, fun _ he => by simp at he, Pairs.nil, List.nodup_nil⟩
theorem T_Dict0 {pos} {Q : AV → Rho → AHeap → Prop} (g : Tag) (h : New σ (.dict g [] 0) (fun v σ' => Q v ρ σ')) : T W n env ab (eval (.Dict [] [] pos) env) Q ρ σ := fun F A s r S =>
  wpAny_Dict_empty ⟨ρ, _, h _ _ (St.none_size S.sh) (Le.set (St.none_size S.sh)) set_same, S.alloc _ _ _ rfl fun h e => .dict g [] 0 (dictAt_new h e)⟩

/-! reading items -/
theorem T_Subscript {value slice pos} {Q : AV → Rho → AHeap → Prop}
    (h : T W n env ab (eval value env) (fun o => T W n env ab (eval slice env) (fun i ρ σ => ∀ vo vi, ab vo = o → ab vi = i → T W n env ab (subscriptTail value slice vo vi) Q ρ σ)) ρ σ) :
    T W n env ab (eval (.Subscript value slice pos) env) Q ρ σ := fun F A s r S =>
  Subscript_ (wpAny_mono (h F A s r S) (fun va s₁ ⟨ρ₁, σ₁, q, S₁⟩ => wpAny_mono (q F A s₁ r S₁) (fun vb s₂ ⟨ρ₂, σ₂, q, S₂⟩ => q va vb rfl rfl F A s₂ r S₂) fun _ _ e => e) fun _ _ e => e)

theorem OR.listX {a : Addr} {h : Heap} {vs : List AV} (x : OR W a h (.list vs)) : ∃ (ws : List Value) (m : Nat), h.get? a = some ⟨.type "list", none, .seq ws.toArray m, #[]⟩ ∧ ws.map ab = vs := by cases x with | list ws m y => exact ⟨ws, m, y, rfl⟩
theorem OR.tupX {a : Addr} {h : Heap} {vs : List AV} (x : OR W a h (.tup vs)) : ∃ (ws : List Value) (m : Nat), h.get? a = some ⟨.type "tuple", none, .seq ws.toArray m, #[]⟩ ∧ ws.map ab = vs := by cases x with | tup ws m y => exact ⟨ws, m, y, rfl⟩
theorem OR.listE {a : Addr} {h : Heap} {vs : List AV} (x : OR W a h (.list vs)) : ∃ ws : List Value, h.IsList a ws.toArray ∧ ws.map ab = vs := by obtain ⟨ws, m, y, e⟩ := x.listX; exact ⟨ws, ⟨_, y, rfl, _, rfl⟩, e⟩
theorem OR.tupE {a : Addr} {h : Heap} {vs : List AV} (x : OR W a h (.tup vs)) : ∃ ws : List Value, h.IsTuple a ws.toArray ∧ ws.map ab = vs := by obtain ⟨ws, m, y, e⟩ := x.tupX; exact ⟨ws, ⟨_, y, rfl, _, rfl⟩, e⟩
theorem OR.dictE {a : Addr} {h : Heap} {g : Tag} {kvs : List (Key × AV)} {ep : Nat} (x : OR W a h (.dict g kvs ep)) : ∃ ks : List (Key × Value), h.DictAt (kk W.prog W.w) a ks ep ∧ ks.map (fun p => (p.1, ab p.2)) = kvs := by
  cases x with | dict g ks ep y => exact ⟨ks, y, rfl⟩
theorem map_get {α β : Type} {f : α → β} {l : List α} {i : Nat} {b : β} (h : (l.map f)[i]? = some b) : ∃ a, l[i]? = some a ∧ f a = b := by
  rw [List.getElem?_map] at h
  exact Option.map_eq_some_iff.mp h

theorem I_list {value slice : Expr} {a : Addr} {k : Int} {vs : List AV} {v : AV} {Q : AV → Rho → AHeap → Prop} (hs : ∀ o i, subscripted slice false o i = operate [o, i] (getItem o i))
    (hl : σ a = some (.list vs)) (h0 : 0 ≤ k) (hk : k < 2 ^ 62) (hv : vs[k.toNat]? = some v) (h : Q v ρ σ) : ∀ vo vi, ab vo = .ref a → ab vi = .int k → T W n env ab (subscriptTail value slice vo vi) Q ρ σ := fun vo vi ho hi F A s r S => by
  obtain rfl := ab_ref ho; obtain ⟨t, rfl⟩ := ab_int hi
  obtain ⟨ws, hw, rfl⟩ := (S.sh.hp _ _ hl).listE
  obtain ⟨x, hx, rfl⟩ := map_get hv
  exact tail_any hw.typeIs slot_list_getitem.lookup (wpAny_getItem_list hw h0 (by omega) (by simpa using hx) ⟨ρ, σ, h, S⟩) (hs _ _)
theorem I_tup {value slice : Expr} {a : Addr} {k : Int} {j : Nat} {vs : List AV} {v : AV} {Q : AV → Rho → AHeap → Prop} (hs : ∀ o i, subscripted slice false o i = operate [o, i] (getItem o i))
    (hl : σ a = some (.tup vs)) (hlo : -(2 ^ 62) ≤ k) (hk : k < 2 ^ 62) (hj : seqIndex? k vs.length = some j) (hv : vs[j]? = some v) (h : Q v ρ σ) : ∀ vo vi, ab vo = .ref a → ab vi = .int k → T W n env ab (subscriptTail value slice vo vi) Q ρ σ := fun vo vi ho hi F A s r S => by
  obtain rfl := ab_ref ho; obtain ⟨t, rfl⟩ := ab_int hi
  obtain ⟨ws, hw, rfl⟩ := (S.sh.hp _ _ hl).tupE
  obtain ⟨x, hx, rfl⟩ := map_get hv
  have hw' : IsTup s.heap a ws.toArray := hw
  exact tail_any hw'.typeIs slot_tuple_getitem.lookup (getItem_tuple hw' (by omega) (by omega) (by simpa using hj) (by simpa using hx) ⟨ρ, σ, h, S⟩) (hs _ _)

/-! dicts by key -/
def dget (kvs : List (Key × AV)) (k : Key) : Option AV := (kvs.find? fun p => p.1 = k).map (·.2)
theorem valueAt_map {ks : List (Key × Value)} {k : Key} : (valueAt ks k).map ab = dget (ks.map fun p => (p.1, ab p.2)) k := by
  induction ks with
  | nil => rfl
  | cons p r ih =>
    unfold valueAt dget at ih ⊢
    simp only [List.map_cons, List.find?_cons]
    by_cases e : p.1 = k
    · simp [e]
    · simp only [e, decide_false]; exact ih
theorem I_dict {value slice : Expr} {d : Addr} {g : Tag} {k : Key} {kvs : List (Key × AV)} {ep : Nat} {v : AV} {Q : AV → Rho → AHeap → Prop} (hs : ∀ o i, subscripted slice false o i = operate [o, i] (getItem o i))
    (hl : σ d = some (.dict g kvs ep)) (hv : dget kvs k = some v) (h : Q v ρ σ) : ∀ vo vi, ab vo = .ref d → ab vi = k.av → T W n env ab (subscriptTail value slice vo vi) Q ρ σ := fun vo vi ho hi F A s r S => by
  obtain rfl := ab_ref ho
  obtain ⟨ks, hw, rfl⟩ := (S.sh.hp _ _ hl).dictE
  rw [← valueAt_map] at hv
  obtain ⟨x, hx, rfl⟩ := Option.map_eq_some_iff.mp hv
  exact tail_any hw.dictOf.typeIs slot_dict_getitem.lookup (wpAny_getItem_of (kIs_of hi) hw.dictOf.mapOf hx ⟨ρ, σ, h, S.tok _⟩) (hs _ _)

theorem not_base {F : Addr → Option Obj} {s : Shared} (S : SH W F σ s) {d : Addr} {o : AObj} (hd : σ d = some o) : W.base.get? d = none := by
  cases e : W.base.get? d with
  | none => rfl
  | some ob => have := (S.fr d ob (S.base d ob e)).2; rw [hd] at this; cases this
theorem not_sys {F : Addr → Option Obj} {s : Shared} (S : SH W F σ s) {d : Addr} {o : AObj} (hd : σ d = some o) : (d == sysModules) = false := by
  rw [beq_eq_false_iff_ne]
  rintro rfl
  obtain ⟨ob, e⟩ := W.sys
  rw [not_base S hd] at e; cases e
theorem C_in_dict {d : Addr} {g : Tag} {k : Key} {kvs : List (Key × AV)} {ep : Nat} {Q : AV → Rho → AHeap → Prop}
    (hl : σ d = some (.dict g kvs ep)) (h : Q (.bool (dget kvs k).isSome) ρ σ) : ∀ va vb, ab va = k.av → ab vb = .ref d → T W n env ab (compareOp .In va vb) Q ρ σ := fun va vb ha hb F A s r S => by
  obtain rfl := ab_ref hb
  obtain ⟨ks, hw, rfl⟩ := (S.sh.hp _ _ hl).dictE
  rw [← valueAt_map, Option.isSome_map] at h
  exact wpAny_in_of (kIs_of ha) (not_sys S.sh hl) hw.dictOf.mapOf ⟨ρ, σ, h, S.tok _⟩
end

section
variable {W : Wd} {n : Nat} {env : Env} {ρ : Rho} {σ : AHeap}

/-! what a call may lean on: all objects that no abstract object tells of -/
def Rest (σ : AHeap) (h : Heap) : Addr → Option Obj := fun a => match σ a with | none => h.get? a | some _ => none
theorem rest_none {h : Heap} {a : Addr} (e : σ a = none) : Rest σ h a = h.get? a := by unfold Rest; rw [e]
theorem rest_of {h : Heap} {a : Addr} {o : Obj} (e : Rest σ h a = some o) : h.get? a = some o ∧ σ a = none := by
  unfold Rest at e
  split at e
  · rename_i q; exact ⟨e, q⟩
  · cases e
theorem SH.rest {F : Addr → Option Obj} {s : Shared} (S : SH W F σ s) : SH W (Rest σ s.heap) σ s :=
  ⟨fun a o e => rest_of e, fun a o e => by have := S.fr a o (S.base a o e); rw [rest_none this.2]; exact this.1, S.hp, S.same⟩
/-- back from a call -/
theorem St.back {F : Addr → Option Obj} {s s' : Shared} {σ' : AHeap} (S : St W F env ρ σ s) (S' : SH W (Rest σ s.heap) σ' s') : St W F env ρ σ' s' := by
  have k : ∀ a o, s.heap.get? a = some o → σ a = none → s'.heap.get? a = some o ∧ σ' a = none := fun a o e q => S'.fr a o (by rw [rest_none q]; exact e)
  refine ⟨⟨fun a o e => ?_, S.sh.base, S'.hp, S'.same⟩, S.vs.move (fun o e => (k _ o e S.offL).1) (fun x c e o ho => (k c o ho (S.offC x c e)).1), S.frO, ?_, fun x c e => ?_⟩
  · have := S.sh.fr a o e; exact k a o this.1 this.2
  · cases e : s.heap.get? env.locals with
    | none => exact absurd e S.vs.locSome
    | some o => exact (k _ o e S.offL).2
  · cases e' : s.heap.get? c with
    | none => exact absurd e' (S.vs.cellSome e)
    | some o => exact (k _ o e' (S.offC x c e)).2

/-! calls -/
theorem call_spec {m : Nat} {fa : Addr} {vs : List Value} {Q : AV → Rho → AHeap → Prop} (hm : m ≤ n) (h : Spec W m fa (vs.map ab) σ (fun v σ' => Q v ρ σ')) : T W n env ab (PySem.call (.ref fa) vs) Q ρ σ := fun F A s r S =>
  wpAny_call (codeAny_mono (h _ A s vs rfl (r.mono hm) S.sh.rest) fun r s' ⟨v, σ', e, q, S'⟩ => by subst e; exact ⟨ρ, σ', q, S.back S'⟩)
/-- the arguments of a call, and what is asked of their values -/
def CA (W : Wd) (n : Nat) (env : Env) (pos : Pos) (es : List Expr) (Q : List AV → Rho → AHeap → Prop) (ρ : Rho) (σ : AHeap) : Prop := match es with
  | [] => Q [] ρ σ
  | e :: rest => starEach (e :: rest) env = (false, eval e env) :: starEach rest env ∧ (backTo pos (starEach rest env)).any (·.1) = false ∧ TArgs W n env pos (e :: rest) Q ρ σ
theorem ca_nil {pos} {Q : List AV → Rho → AHeap → Prop} (h : Q [] ρ σ) : CA W n env pos [] Q ρ σ := h
theorem ca_cons {pos} {e : Expr} {rest : List Expr} {Q : List AV → Rho → AHeap → Prop} (he : starEach (e :: rest) env = (false, eval e env) :: starEach rest env) (hp : (backTo pos (starEach rest env)).any (·.1) = false)
    (h : T W n env ab (eval e env) (fun v => TArgs W n env pos rest (fun vs => Q (v :: vs))) ρ σ) : CA W n env pos (e :: rest) Q ρ σ := ⟨he, hp, A_cons he h⟩

theorem callWith_ref {pos : Pos} {fa : Addr} {first : List Value} {args : List Expr} {Q : AV → Rho → AHeap → Prop} (hk : keepIn W.K (.ref fa) = true)
    (h : CA W n env pos args (fun vs ρ σ => ∀ ws : List Value, ws.map ab = vs → T W n env ab (PySem.call (.ref fa) (first ++ ws)) Q ρ σ) ρ σ) : T W n env ab (callWith pos (.ref fa) first (backTo pos (starEach args env)) []) Q ρ σ := fun F A s r S => by
  cases args with
  | nil => exact callWith_K0 (W.X.keeps S.sh.keepB) hk (h [] rfl F A s r S)
  | cons e rest =>
    obtain ⟨he, hp, h⟩ := h
    exact callWith_K (h₀ := W.base) W.X hk (wpAny_mono (h F A s r S) (fun ws s₁ ⟨ρ₁, σ₁, q, S₁⟩ => ⟨W.X.keeps S₁.sh.keepB, q ws rfl F A s₁ r S₁⟩) fun _ _ e => e) he hp
theorem callWith_bi {pos : Pos} {id : String} {first : List Value} {args : List Expr} {Q : AV → Rho → AHeap → Prop}
    (h : CA W n env pos args (fun vs ρ σ => ∀ ws : List Value, ws.map ab = vs → T W n env ab (PySem.call (.builtin id) (first ++ ws)) Q ρ σ) ρ σ) : T W n env ab (callWith pos (.builtin id) first (backTo pos (starEach args env)) []) Q ρ σ := fun F A s r S => by
  cases args with
  | nil => exact callWith_builtin rfl (evalArgs_nil3 (h [] rfl F A s r S))
  | cons e rest =>
    obtain ⟨he, hp, h⟩ := h
    have hplain : (backTo pos (starEach (e :: rest) env)).any (·.1) = false := by rw [he]; show (false || (backTo pos (starEach rest env)).any (·.1)) = false; rw [hp]; rfl
    refine callWith_builtin hplain ?_
    rw [he]
    refine evalArgs_plain ?_
    have h' := h F A s r S
    rw [he] at h'
    exact wpAny_mono h' (fun ws s₁ ⟨ρ₁, σ₁, q, S₁⟩ => q ws rfl F A s₁ r S₁) fun _ _ e => e
theorem callWith_ty {pos : Pos} {T₀ : String} {args : List Expr} {Q : AV → Rho → AHeap → Prop} {e : Expr} (hargs : args = [e]) (he : starEach [e] env = (false, eval e env) :: starEach [] env)
    (h : T W n env ab (eval e env) (fun v ρ σ => ∀ w : Value, ab w = v → T W n env ab (PySem.call (.type T₀) [w]) Q ρ σ) ρ σ) : T W n env ab (callWith pos (.type T₀) [] (backTo pos (starEach args env)) []) Q ρ σ := fun F A s r S => by
  subst hargs
  refine callWith_type1 (e := e) (rest := []) (he := he) ?_
  exact spliced_more (wpAny_mono (h F A s r S) (fun w s₁ ⟨ρ₁, σ₁, q, S₁⟩ => spliced_none (q w rfl F A s₁ r S₁)) fun _ _ e => e) he

/-- a call by a name -/
theorem T_CallName {x : Str} {np pos : Pos} {args : List Expr} {Q : AV → Rho → AHeap → Prop}
    (h : T W n env ab (eval (.Name x np) env) (fun f ρ σ => ∀ vf, ab vf = f → T W n env ab (callWith pos vf [] (backTo pos (starEach args env)) []) Q ρ σ) ρ σ) :
    T W n env ab (eval (.Call (.Name x np) args [] pos) env) Q ρ σ := fun F A s r S =>
  wpAny_Call_ofName (wpAny_mono (h F A s r S) (fun vf s₁ ⟨ρ₁, σ₁, q, S₁⟩ => q vf rfl F A s₁ r S₁) fun _ _ e => e)
structure FnAt (W : Wd) (x : Str) (fa : Addr) : Prop where
  glob : W.mg x = some (.ref fa)
  keep : keepIn W.K (.ref fa) = true
  dbg : (x == ("__debug__" : Str)) = false
/-- a def's call by its name -/
theorem T_CallFn {m : Nat} {x : Str} {fa : Addr} {np pos : Pos} {args : List Expr} {Q : AV → Rho → AHeap → Prop} (hf : FnAt W x fa) (hm : m ≤ n) (hg : env.globals = mainGlobals) (hx : env.kindOf x = some .globalImplicit)
    (h : CA W n env pos args (fun vs ρ σ => Spec W m fa vs σ (fun v σ' => Q v ρ σ')) ρ σ) : T W n env ab (eval (.Call (.Name x np) args [] pos) env) Q ρ σ := by
  refine T_CallName (T_Global hf.glob hg hx hf.dbg fun v' e' vf hvf => ?_)
  subst e'
  obtain rfl := ab_ref hvf
  refine callWith_ref hf.keep ?_
  have conv : ∀ vs ρ σ, Spec W m fa vs σ (fun v σ' => Q v ρ σ') → ∀ ws : List Value, ws.map ab = vs → T W n env ab (PySem.call (.ref fa) ([] ++ ws)) Q ρ σ := fun vs ρ σ q ws e => call_spec hm (by rw [List.nil_append, e]; exact q)
  cases args with
  | nil => exact conv _ _ _ h
  | cons e rest => exact ⟨h.1, h.2.1, h.2.2.mono conv⟩

/-! instances of the text's class -/
def fget (fs : List (Str × AV)) (x : Str) : Option AV := (fs.find? fun p => p.1 = x).map (·.2)
def fput : List (Str × AV) → Str → AV → List (Str × AV)
  | [], x, v => [(x, v)]
  | (y, u) :: r, x, v => if y = x then (y, v) :: r else (y, u) :: fput r x v
theorem Fields.get {x : Str} : ∀ {es : List DictEntry} {fs : List (Str × AV)}, Fields es fs → ∃ r, getL x es = some r ∧ r.map ab = fget fs x := by
  intro es fs h
  have nk : ∀ {es fs}, Fields es fs → es.any (·.refKey) = false := by
    intro es
    induction es with
    | nil => intro fs _; rfl
    | cons e es ih =>
      intro fs h
      cases fs with
      | nil => exact h.elim
      | cons p fs =>
        obtain ⟨⟨t, ht⟩, _, hr⟩ := h
        rw [List.any_cons, ih hr]
        unfold DictEntry.refKey; rw [ht]; rfl
  have fd : ∀ {es fs}, Fields es fs → (es.find? (·.key.isStr x)).map (fun e => ab e.val) = fget fs x := by
    intro es
    induction es with
    | nil => intro fs h; cases fs with | nil => rfl | cons p fs => exact h.elim
    | cons e es ih =>
      intro fs h
      cases fs with
      | nil => exact h.elim
      | cons p fs =>
        obtain ⟨y, u⟩ := p
        obtain ⟨⟨t, ht⟩, hv, hr⟩ := h
        unfold fget
        rw [List.find?_cons, List.find?_cons]
        have e1 : e.key.isStr x = decide (y = x) := by rw [ht]; show (y == x) = _; by_cases q : y = x <;> simp [q]
        rw [e1]
        by_cases q : y = x
        · simp [q, hv]
        · simp only [q, decide_false]; exact ih hr
  unfold getL
  have f := fd h
  cases q : es.find? (·.key.isStr x) with
  | some e => rw [q] at f; exact ⟨_, rfl, f⟩
  | none => rw [q] at f; rw [nk h]; exact ⟨none, rfl, f⟩
theorem Fields.put {x : Str} {hsh : Int} {t : Tok} {v : Value} : ∀ {es : List DictEntry} {fs : List (Str × AV)}, Fields es fs → Fields (putL x hsh (.str x t) v es) (fput fs x (ab v))
  | [], [], _ => ⟨⟨t, rfl⟩, rfl, trivial⟩
  | [], _ :: _, h => h.elim
  | _ :: _, [], h => h.elim
  | e :: es, (y, u) :: fs, h => by
    obtain ⟨⟨t', ht⟩, hv, hr⟩ := h
    unfold putL fput
    have e1 : e.key.isStr x = decide (y = x) := by rw [ht]; show (y == x) = _; by_cases q : y = x <;> simp [q]
    rw [e1]
    by_cases q : y = x
    · subst q; simp only [decide_true, if_true]; exact ⟨⟨t', ht⟩, rfl, hr⟩
    · simp only [q, decide_false, if_false, Bool.false_eq_true]; exact ⟨⟨t', ht⟩, hv, Fields.put hr⟩
theorem Fields.len : ∀ {es : List DictEntry} {fs : List (Str × AV)}, Fields es fs → es.length = fs.length
  | [], [], _ => rfl
  | [], _ :: _, h => h.elim
  | _ :: _, [], h => h.elim
  | e :: es, (y, u) :: fs, h => by obtain ⟨_, _, hr⟩ := h; simp [Fields.len hr]

/-- x's attribute is the object's own -/
structure OwnAttr (W : Wd) (x : Str) : Prop where
  get : plainGet W.K W.C x = true
  has : hasDictIn W.K W.C = true
  find : findIn W.K (.ref W.C) x = some none
  over : plainOver W.K W.C = true
  set : findIn W.K (.ref W.C) "__setattr__" = some (some (.builtin "object.__setattr__"))

theorem inst_at {F : Addr → Option Obj} {s : Shared} (S : SH W F σ s) {x d : Addr} {g g' : Tag} {fs : List (Str × AV)} (hx : σ x = some (.inst g d)) (hd : σ d = some (.flds g' fs)) :
    ∃ es n, Fields es fs ∧ s.heap.get? d = some (dictOf es n) ∧ s.heap.get? x = some (instObj W.C d) ∧ InstAt s.heap x (instObj W.C d) W.C (some (dictOf es n)) := by
  have a := S.hp _ _ hx
  have b := S.hp _ _ hd
  cases a with
  | inst g d a =>
    cases b with
    | flds g' es n fs b f => exact ⟨es, n, f, b, a, ⟨a, rfl, rfl, b⟩⟩

theorem handed_of {v : Value} (h : ∀ i, v ≠ .builtin i) : handedIn v = true := by cases v <;> first | rfl | exact absurd rfl (h _)
inductive AttrAsk (attr : Str) (Q : AV → Rho → AHeap → Prop) (o : AV) (ρ : Rho) (σ : AHeap) : Prop
  | mk (x : Addr) (g : Tag) (d : Addr) (g' : Tag) (fs : List (Str × AV)) (v : AV) (e : o = .ref x) (hx : σ x = some (.inst g d)) (hd : σ d = some (.flds g' fs)) (hf : fget fs attr = some v) (hno : ∀ u, v ≠ .other u) (q : Q v ρ σ) : AttrAsk attr Q o ρ σ
theorem T_Attr {value attr pos} {Q : AV → Rho → AHeap → Prop} (ho : OwnAttr W attr)
    (he : eval (.Attribute value attr pos) env = (do
      let o ← eval value env
      standAt pos.atName
      let r ← holding [o] (getAttr o attr true)
      letTemporaryGo value o r
      pure r))
    (h : T W n env ab (eval value env) (AttrAsk attr Q) ρ σ) :
    T W n env ab (eval (.Attribute value attr pos) env) Q ρ σ := fun F A s r S =>
  Attribute_any_ (wpAny_mono (h F A s r S) (fun vo s₁ ⟨ρ₁, σ₁, qq, S₁⟩ => by
    obtain ⟨x, g, d, g', fs, v, e, hx, hd, hf, hno, q⟩ := qq
    obtain rfl := ab_ref e
    obtain ⟨es, k, hfs, hdo, hxo, I⟩ := inst_at S₁.sh hx hd
    obtain ⟨rr, hr, hm⟩ := hfs.get (x := attr)
    rw [hf] at hm
    obtain ⟨u, rfl, hu⟩ := Option.map_eq_some_iff.mp hm
    refine get_value (W.X.keeps S₁.sh.keepB) I (plainGet_of ho.get).1 (findObj_own ho.has ho.find rfl hr) (handed_of fun i q => hno (.builtin i) (by rw [← hu, q]; rfl)) ?_
    exact ⟨ρ₁, σ₁, by rw [hu]; exact q, S₁.tok _⟩) fun _ _ e => e) he
end

section
variable {W : Wd} {n : Nat} {env : Env} {ρ : Rho} {σ : AHeap}

/-! storing an attribute of an object's own -/
theorem set_raw {x dx C : Addr} {K : Frag} {prog : Program} {w : World} {A : Around} {E : Value → Shared → Prop} {s : Shared} {es : List DictEntry} {k : Nat} {name : Str} {v : Value} {Q : Unit → Shared → Prop} (X : K.In s.heap)
    (hx : s.heap.get? x = some (instObj C dx)) (hdx : s.heap.get? dx = some (dictOf es k)) (hs : findIn K (.ref C) "__setattr__" = some (some (.builtin "object.__setattr__")))
    (hp : plainOver K C = true) (ht : takerIn K C name = some none) (hhas : hasDictIn K C = true) (hk : es.any (·.refKey) = false) (hz : es.length < 1000)
    (h : Q () { s with heap := s.heap.update dx (Obj.putName name (PyData.keyHash w.params name) (.str name (s.toks + 1)) v), toks := s.toks + 2 }) : wpAny (model prog w) A (setAttr (.ref x) name v) Q E s := by
  obtain ⟨hh, g0, d0, tk, os⟩ := s
  have I : InstAt hh x (instObj C dx) C (some (dictOf es k)) := ⟨hx, rfl, rfl, hdx⟩
  refine set_plain X I hs (osa_open (s := ⟨hh, g0, d0, tk + 1, os⟩) X I hp ht fun b => ?_)
  obtain ⟨cd, hc, hd'⟩ := any_some hhas
  refine wpAny_bind (wpAny_pure (wpAny_bind (wpAny_bind (wpAny_loadPart (s := ⟨hh, g0, d0, tk + 1, os⟩) hx (wpAny_bind ((looks_clsIn X hc).at ?_))))))
  rw [hd']
  refine wpAny_pure (a := some dx) (wpAny_bind (wpAny_pure (wpAny_bind ?_)))
  unfold nsSet
  refine wpAny_bind (wpAny_bind (wpAny_askSetting (wpAny_pure (wpAny_bind (wpAny_mkText (wpAny_bind (wpAny_loadPart (s := ⟨hh, g0, d0, tk + 1 + 1, os⟩) hdx ?_)))))))
  dsimp only
  have c : (!es.toArray.any (·.key.isStr name) && es.toArray.any (·.refKey)) = false := by
    rw [List.any_toArray, List.any_toArray, hk, Bool.and_false]
  rw [aRefKeyMayBeTheName_at, c]
  refine wpAny_updatePart (s := ⟨hh, g0, d0, tk + 1 + 1, os⟩) hdx ?_
  have D' : (hh.update dx (Obj.putName name (PyData.keyHash w.params name) (.str name (tk + 1)) v)).get? dx = some (dictOf (putL name (PyData.keyHash w.params name) (.str name (tk + 1)) v es) (putN name es k)) := by
    have := Heap.get?_update_self (h := hh) (Obj.putName name (PyData.keyHash w.params name) (.str name (tk + 1)) v) hdx (by rw [putName_dict]; rfl)
    rw [putName_dict] at this; exact this
  have hlen : (putL name (PyData.keyHash w.params name) (.str name (tk + 1)) v es).length ≤ es.length + 1 := by
    clear D' c hk hdx I h hz
    induction es with
    | nil => simp [putL]
    | cons e r ih => unfold putL; split <;> simp_all
  refine wpAny_bind (wpAny_lookBehind (s := ⟨_, g0, d0, tk + 1 + 1, os⟩) D' (by
    show Data.pastItsLine (.dict _ _) = none
    exact pastItsLine_dict (by rw [List.size_toArray, sizeLine_eq]; omega)) ?_)
  exact wpAny_pure h

theorem Fields.noRef : ∀ {es : List DictEntry} {fs : List (Str × AV)}, Fields es fs → es.any (·.refKey) = false
  | [], [], _ => rfl
  | [], _ :: _, h => h.elim
  | _ :: _, [], h => h.elim
  | e :: es, (y, u) :: fs, h => by
    obtain ⟨⟨t, ht⟩, _, hr⟩ := h
    rw [List.any_cons, Fields.noRef hr]
    unfold DictEntry.refKey; rw [ht]; rfl
theorem own_taker {x : Str} (ho : OwnAttr W x) : takerIn W.K W.C x = some none := by unfold takerIn; rw [ho.find]; rfl

inductive SetAAsk (attr : Str) (Q : AFlow → Rho → AHeap → Prop) (v ov : AV) (ρ : Rho) (σ : AHeap) : Prop
  | mk (x : Addr) (g : Tag) (d : Addr) (g' : Tag) (fs : List (Str × AV)) (e : ov = .ref x) (hx : σ x = some (.inst g d)) (hd : σ d = some (.flds g' fs)) (hz : fs.length < 900)
      (q : ∀ σ', Chg d (.flds g' (fput fs attr v)) σ σ' → Q .next ρ σ') : SetAAsk attr Q v ov ρ σ
theorem S_AssignAttr {o : Expr} {attr : Str} {apos pos value} {Q : AFlow → Rho → AHeap → Prop} (ho : OwnAttr W attr)
    (hs : swapsWithSole [.Attribute o attr apos] value pos.line env = pure false) (hw : swappedStores [.Attribute o attr apos] value env = pure none)
    (he : (assignEach [.Attribute o attr apos] env).map (·.2) = [assign (.Attribute o attr apos) env])
    (h : T W n env ab (eval value env) (fun v => T W n env ab (eval o env) (SetAAsk attr Q v)) ρ σ) : TS W n env (exec (.Assign [.Attribute o attr apos] value pos) env) Q ρ σ := fun F A s r S => by
  refine wpAny_Assign_stores (wpAny_mono (h F A s r S) (fun v s₁ ⟨ρ₁, σ₁, q, S₁⟩ => ?_) fun _ _ e => e) hs hw
  rw [he]
  show wpAny _ A (assign (.Attribute o attr apos) env v) _ _ s₁
  show wpAny _ A (do let ov ← holding [v] (eval o env); standAt apos.atName; holding [v, ov] (setAttr ov attr v); release [v, ov] []) _ _ s₁
  refine wpAny_bind (wpAny_holding (wpAny_mono (q F A s₁ r S₁) (fun vo s₂ ⟨ρ₂, σ₂, ⟨x, g, d, g', fs, e, hx, hd, hl, q⟩, S₂⟩ => ?_) fun _ _ e => e))
  obtain rfl := ab_ref e
  obtain ⟨es, k, hfs, hdo, hxo, I⟩ := inst_at S₂.sh hx hd
  refine wpAny_bind (wpAny_standAt (wpAny_bind (wpAny_holding (set_raw (W.X.keeps S₂.sh.keepB) hxo hdo ho.set ho.over (own_taker ho) ho.has hfs.noRef (by rw [hfs.len]; omega) ?_))))
  refine wpAny_release ⟨ρ₂, _, q _ Chg.set, S₂.upd _ hd (Heap.SameBut.update ..) (.flds g' (putL attr (PyData.keyHash W.w.params attr) (.str attr (s₂.toks + 1)) v es) (putN attr es k) _ ?_ hfs.put)⟩
  have := Heap.get?_update_self (h := s₂.heap) (Obj.putName attr (PyData.keyHash W.w.params attr) (.str attr (s₂.toks + 1)) v) hdo (by rw [putName_dict]; rfl)
  rw [putName_dict] at this; exact this

/-! making an object of a class -/
structure ClsAt (W : Wd) (x : Str) (fI : Addr) : Prop where
  glob : W.mg x = some (.ref W.C)
  keep : keepIn W.K (.ref W.C) = true
  dbg : (x == ("__debug__" : Str)) = false
  makes : makesIn W.K W.C = true
  init : findIn W.K (.ref W.C) "__init__" = some (some (.ref fI))
  fn : typeIn W.K (.ref fI) = some (.type "function")
theorem room_make {A : Around} {C : Addr} {rest : List Value} {kw : List (Str × Value)} (r : Room (n + 1) A) : Room n (A.under (.builtin "type.__call__" ⟨.ref C :: rest, kw⟩)) := by
  obtain ⟨a, b, c⟩ := r
  refine ⟨a, ?_, ?_⟩
  · show A.depth + 1 + n < _; omega
  · show A.units + 1 + 10 * n < _; omega
theorem call_new {m : Nat} {x : Str} {fI : Addr} {vs : List Value} {Q : AV → Rho → AHeap → Prop} (g g' : Tag) (hc : ClsAt W x fI) (hm : m + 1 ≤ n)
    (h : ∀ x d σ', σ x = none → σ d = none → x ≠ d → Le σ σ' → σ' x = some (.inst g d) → σ' d = some (.flds g' []) → Spec W m fI (.ref x :: vs.map ab) σ' (fun v σ'' => v = .none ∧ Q (.ref x) ρ σ'')) :
    T W n env ab (PySem.call (.ref W.C) vs) Q ρ σ := fun F A s r S => by
  obtain ⟨hh, gs, dr, tk, os⟩ := s
  have X := W.X.keeps S.sh.keepB
  have X' : W.K.In hh := X
  refine wpAny_call (make_core (makes_of X' hc.makes) (looks_findIn X' hc.init) (fun self => bind_fn X' self hc.fn) (.inl rfl) ?_)
  have nd : σ hh.objs.size = none := St.none_size S.sh
  have S1 := S.alloc emptyDict (.flds g' []) tk rfl fun h e => .flds g' [] 0 [] e trivial
  have S2 := S1.alloc (instObj W.C hh.objs.size) (.inst g hh.objs.size) tk rfl fun h e => .inst g _ e
  have nx : (σ.set hh.objs.size (.flds g' [])) (hh.push emptyDict).objs.size = none := St.none_size S1.sh
  have esz : (hh.push emptyDict).objs.size = hh.objs.size + 1 := Heap.size_push ..
  simp only [esz] at S2 nx
  have ne : hh.objs.size + 1 ≠ hh.objs.size := by omega
  have nx0 : σ (hh.objs.size + 1) = none := by
    unfold AHeap.set at nx; rw [if_neg ne] at nx; exact nx
  have le : Le σ ((σ.set hh.objs.size (.flds g' [])).set (hh.objs.size + 1) (.inst g hh.objs.size)) := (Le.set nd).trans (Le.set nx)
  have dd : ((σ.set hh.objs.size (.flds g' [])).set (hh.objs.size + 1) (.inst g hh.objs.size)) hh.objs.size = some (.flds g' []) := Le.set nx _ _ set_same
  have sp := h (hh.objs.size + 1) hh.objs.size _ nx0 nd ne le set_same dd
  refine codeAny_mono (sp _ _ _ (.ref (hh.objs.size + 1) :: vs) rfl (room_make (r.mono hm)) S2.sh.rest) fun rr s' ⟨v, σ', e, ⟨e', q⟩, S'⟩ => ?_
  subst e
  exact ⟨ab_none e', ρ, σ', q, ⟨(S2.back S').sh, (S2.back S').vs, S.frO, (S2.back S').offL, (S2.back S').offC⟩⟩
theorem T_New {m : Nat} {x : Str} {fI : Addr} {np pos : Pos} {args : List Expr} {Q : AV → Rho → AHeap → Prop} (g g' : Tag) (hc : ClsAt W x fI) (hm : m + 1 ≤ n) (hg : env.globals = mainGlobals) (hx : env.kindOf x = some .globalImplicit)
    (h : CA W n env pos args (fun vs ρ σ => ∀ x d σ', σ x = none → σ d = none → x ≠ d → Le σ σ' → σ' x = some (.inst g d) → σ' d = some (.flds g' []) → Spec W m fI (.ref x :: vs) σ' (fun v σ'' => v = .none ∧ Q (.ref x) ρ σ'')) ρ σ) :
    T W n env ab (eval (.Call (.Name x np) args [] pos) env) Q ρ σ := by
  refine T_CallName (T_Global hc.glob hg hx hc.dbg fun v' e' vf hvf => ?_)
  subst e'
  obtain rfl := ab_ref hvf
  refine callWith_ref hc.keep ?_
  cases args with
  | nil => exact fun ws e => call_new g g' hc hm (by rw [List.nil_append, e]; exact h)
  | cons e rest => exact ⟨h.1, h.2.1, h.2.2.mono fun vs ρ σ q ws e => call_new g g' hc hm (by rw [List.nil_append, e]; exact q)⟩

/-! methods -/
abbrev isMeth (env : Env) (o : Expr) (name : Str) (apos pos : Pos) (args : List Expr) (pl : Sem Bool) : Prop := eval (.Call (.Attribute o name apos) args [] pos) env = (do
      let ov ← eval o env
      standAt apos.atName
      let (f, first) ← holding [ov] (getMethod ov name pl)
      callWith pos f first (backTo pos (starEach args env)) (backToKw pos (keywordEach [] env)))
structure MethAt (W : Wd) (x : Str) (fa : Addr) : Prop where
  get : plainGet W.K W.C x = true
  find : findIn W.K (.ref W.C) x = some (some (.ref fa))
  fn : isFn W.K (.ref fa) = true
  keep : keepIn W.K (.ref fa) = true
inductive MethAsk (W : Wd) (n m : Nat) (env : Env) (name : Str) (fa : Addr) (pos : Pos) (args : List Expr) (Q : AV → Rho → AHeap → Prop) (ov : AV) (ρ : Rho) (σ : AHeap) : Prop
  | mk (x : Addr) (g : Tag) (d : Addr) (g' : Tag) (fs : List (Str × AV)) (e : ov = .ref x) (hx : σ x = some (.inst g d)) (hd : σ d = some (.flds g' fs)) (hn : fget fs name = none)
      (q : CA W n env pos args (fun vs ρ σ => Spec W m fa (.ref x :: vs) σ (fun v σ' => Q v ρ σ')) ρ σ) : MethAsk W n m env name fa pos args Q ov ρ σ
theorem T_Meth {m : Nat} {o : Expr} {name : Str} {apos pos : Pos} {args : List Expr} {pl : Sem Bool} {fa : Addr} {Q : AV → Rho → AHeap → Prop} (hf : MethAt W name fa) (hm : m ≤ n) (he : isMeth env o name apos pos args pl)
    (h : T W n env ab (eval o env) (MethAsk W n m env name fa pos args Q) ρ σ) : T W n env ab (eval (.Call (.Attribute o name apos) args [] pos) env) Q ρ σ := fun F A s r S =>
  methodCall_KW (wpAny_mono (h F A s r S) (fun vo s₁ ⟨ρ₁, σ₁, qq, S₁⟩ => by
    obtain ⟨x, g, d, g', fs, e, hx, hd, hn, q⟩ := qq
    obtain rfl := ab_ref e
    obtain ⟨es, k, hfs, hdo, hxo, I⟩ := inst_at S₁.sh hx hd
    obtain ⟨rr, hr, hmm⟩ := hfs.get (x := name)
    rw [hn] at hmm
    obtain rfl : rr = none := by cases rr with | none => rfl | some _ => cases hmm
    refine method_fn (W.X.keeps S₁.sh.keepB) I (plainGet_of hf.get).1 (plainGet_of hf.get).2 hf.find (beq_iff_eq.mp hf.fn) (by show (lookIn name (dictOf es k)).map _ = _; rw [lookIn_dict, hr]; rfl) ?_
    have conv : ∀ vs ρ σ, Spec W m fa (.ref x :: vs) σ (fun v σ' => Q v ρ σ') → ∀ ws : List Value, ws.map ab = vs → T W n env ab (PySem.call (.ref fa) ([.ref x] ++ ws)) Q ρ σ := fun vs ρ σ q ws e => call_spec hm (by show Spec W m fa (.ref x :: ws.map ab) σ _; rw [e]; exact q)
    refine callWith_ref hf.keep ?_ F A s₁ r S₁
    cases args with
    | nil => exact conv _ _ _ q
    | cons e rest => exact ⟨q.1, q.2.1, q.2.2.mono conv⟩) fun _ _ e => e) he

/-- a method of a built-in type's -/
inductive MethBAsk (W : Wd) (n : Nat) (env : Env) (T₀ id : String) (pos : Pos) (args : List Expr) (Q : AV → Rho → AHeap → Prop) (ov : AV) (ρ : Rho) (σ : AHeap) : Prop
  | mk (a : Addr) (ao : AObj) (e : ov = .ref a) (ha : σ a = some ao) (hc : ∀ h : Heap, OR W a h ao → ∃ co, h.get? a = some co ∧ co.cls = .type T₀ ∧ co.dict = none)
      (q : CA W n env pos args (fun vs ρ σ => ∀ ws : List Value, ws.map ab = vs → T W n env ab (PySem.call (.builtin id) (.ref a :: ws)) Q ρ σ) ρ σ) : MethBAsk W n env T₀ id pos args Q ov ρ σ
theorem T_MethB {T₀ id : String} {o : Expr} {name : Str} {apos pos : Pos} {args : List Expr} {pl : Sem Bool} {Q : AV → Rho → AHeap → Prop} (he : isMeth env o name apos pos args pl) (pa : PlainAttrs T₀) (slot : Slot T₀ name id)
    (hty : typeOf (.builtin id) = pure (.type "method_descriptor"))
    (h : T W n env ab (eval o env) (MethBAsk W n env T₀ id pos args Q) ρ σ) : T W n env ab (eval (.Call (.Attribute o name apos) args [] pos) env) Q ρ σ := fun F A s r S =>
  methodCall_KW (wpAny_mono (h F A s r S) (fun vo s₁ ⟨ρ₁, σ₁, qq, S₁⟩ => by
    obtain ⟨a, ao, e, ha, hc, q⟩ := qq
    obtain rfl := ab_ref e
    obtain ⟨co, h1, h2, h3⟩ := hc _ (S₁.sh.hp _ _ ha)
    exact getMethod_builtin ⟨co, h1, h2⟩ pa slot hty (fun b eb => by cases eb; exact ⟨co, h1, h3⟩) (callWith_bi q F A s₁ r S₁)) fun _ _ e => e) he
theorem ty_list {a : Addr} {vs : List AV} (h : Heap) (x : OR W a h (.list vs)) : ∃ co, h.get? a = some co ∧ co.cls = .type "list" ∧ co.dict = none := by obtain ⟨ws, m, y, _⟩ := x.listX; exact ⟨_, y, rfl, rfl⟩
theorem ty_dict {a : Addr} {g : Tag} {kvs : List (Key × AV)} {ep : Nat} (h : Heap) (x : OR W a h (.dict g kvs ep)) : ∃ co, h.get? a = some co ∧ co.cls = .type "dict" ∧ co.dict = none := by
  obtain ⟨ks, ⟨o, es, ho, hc, _⟩, _⟩ := x.dictE; exact ⟨o, ho, hc.1, hc.2.1⟩

theorem upd_list {F : Addr → Option Obj} {s : Shared} (S : St W F env ρ σ s) {a : Addr} {vs vs' : List AV} (f : Array Value → Array Value) {ws : List Value} {m : Nat} (hl : σ a = some (.list vs))
    (hw : s.heap.get? a = some ⟨.type "list", none, .seq ws.toArray m, #[]⟩) (e : (f ws.toArray).toList.map ab = vs') (tk : Nat) : St W F env ρ (σ.set a (.list vs')) { s with heap := s.heap.update a (Obj.mapSeq f), toks := tk } := by
  refine S.upd tk hl (Heap.SameBut.update ..) ?_
  have := IsL.update (h := s.heap) (l := a) (n := m) hw f
  subst e
  exact .list _ _ (by rw [Array.toArray_toList]; exact this)
theorem map_one {ws : List Value} {v : AV} (e : ws.map ab = [v]) : ∃ x, ws = [x] ∧ ab x = v := by
  obtain ⟨x, r, rfl, h, hr⟩ := List.map_eq_cons_iff.mp e
  obtain rfl := List.map_eq_nil_iff.mp hr
  exact ⟨x, rfl, h⟩
theorem map_two {ws : List Value} {v u : AV} (e : ws.map ab = [v, u]) : ∃ x y, ws = [x, y] ∧ ab x = v ∧ ab y = u := by
  obtain ⟨x, r, rfl, h, hr⟩ := List.map_eq_cons_iff.mp e
  obtain ⟨y, rfl, h'⟩ := map_one hr
  exact ⟨x, y, rfl, h, h'⟩
theorem L_append {a : Addr} {vs : List AV} {v : AV} {Q : AV → Rho → AHeap → Prop} (hl : σ a = some (.list vs)) (hz : vs.length ≤ 1000) (h : ∀ σ', Chg a (.list (vs ++ [v])) σ σ' → Q .none ρ σ') :
    ∀ ws : List Value, ws.map ab = [v] → T W n env ab (PySem.call (.builtin "list.append") (.ref a :: ws)) Q ρ σ := fun ws e Φ A s r S => by
  obtain ⟨x, rfl, e'⟩ := map_one e
  subst e'
  obtain ⟨us, m, hu, rfl⟩ := (S.sh.hp _ _ hl).listX
  refine call_meets F.slot_list_append ⟨_, hu, rfl⟩ F.entry_list_append (F.args_list_append_2 _ _) (list_append a _ m x (line1000 (by simpa using hz))) ⟨hu, ρ, _, h _ Chg.set, ?_⟩
  exact upd_list S (fun x_1 => x_1.push x) hl hu (by simp) _
theorem L_pop {a : Addr} {vs : List AV} {v : AV} {Q : AV → Rho → AHeap → Prop} (hl : σ a = some (.list (vs ++ [v]))) (hz : vs.length < 1000) (h : ∀ σ', Chg a (.list vs) σ σ' → Q v ρ σ') :
    ∀ ws : List Value, ws.map ab = [] → T W n env ab (PySem.call (.builtin "list.pop") (.ref a :: ws)) Q ρ σ := fun ws e Φ A s r S => by
  obtain rfl : ws = [] := List.map_eq_nil_iff.mp e
  obtain ⟨us, m, hu, eu⟩ := (S.sh.hp _ _ hl).listX
  obtain ⟨us, x, rfl⟩ : ∃ us' x, us = us' ++ [x] := by
    refine ⟨us.dropLast, us.getLast (by rintro rfl; simp at eu), (List.dropLast_concat_getLast _).symm⟩
  rw [List.map_append, List.map_cons, List.map_nil] at eu
  obtain ⟨rfl, e2⟩ := List.append_inj' eu rfl
  cases e2
  have hz' : (us ++ [x]).toArray.size ≤ sizeLine := line1000 (by simp at hz ⊢; omega)
  have hk : (us ++ [x]).toArray.size - 1 = us.length := by simp
  refine call_meets F.slot_list_pop ⟨_, hu, rfl⟩ F.entry_list_pop (F.args_list_pop_1 _) (MeetsSeq.list_pop_last a _ m x (by rw [hk]; simp) hz') ⟨hu, ρ, _, h _ Chg.set, ?_⟩
  refine upd_list S (fun xs => xs.eraseIdxIfInBounds ((us ++ [x]).toArray.size - 1)) hl hu ?_ _
  show ((us ++ [x]).toArray.eraseIdxIfInBounds ((us ++ [x]).toArray.size - 1)).toList.map ab = _
  rw [hk, kl_erase, List.append_nil]
theorem L_extend {a b : Addr} {vs us : List AV} {Q : AV → Rho → AHeap → Prop} (hl : σ a = some (.list vs)) (hb : σ b = some (.list us)) (hz : vs.length ≤ 1000) (hz' : us.length ≤ 1000) (h : ∀ σ', Chg a (.list (vs ++ us)) σ σ' → Q .none ρ σ') :
    ∀ ws : List Value, ws.map ab = [.ref b] → T W n env ab (PySem.call (.builtin "list.extend") (.ref a :: ws)) Q ρ σ := fun ws e Φ A s r S => by
  obtain ⟨x, rfl, e'⟩ := map_one e
  obtain rfl : x = .ref b := ab_ref e'
  obtain ⟨xs, m, hu, rfl⟩ := (S.sh.hp _ _ hl).listX
  obtain ⟨ys, m', hu', rfl⟩ := (S.sh.hp _ _ hb).listX
  simp only [List.length_map] at hz hz'
  refine call_meets F.slot_list_extend ⟨_, hu, rfl⟩ F.entry_list_extend (F.args_list_extend_2 _ _) (AutoSeq1.list_extend_list_list_0 a _ m b _ m' ?_ (line1000 (by simpa using hz)) ?_) ⟨hu, hu', ρ, _, h _ Chg.set, ?_⟩
  · simp only [List.size_toArray]
    have : Builtin.List.listTooLong (xs.length + ys.length) = false := by unfold Builtin.List.listTooLong; rw [sizeLine_eq]; simp; omega
    rw [this, Bool.and_false]; exact Bool.false_ne_true
  · simp only [List.size_toArray]; rw [sizeLine_eq]; omega
  · exact upd_list S (fun z => z ++ ys.toArray) hl hu (by simp) _

/-- dict.get with a default -/
theorem L_get {d : Addr} {g : Tag} {kvs : List (Key × AV)} {ep : Nat} {k : Key} {v : AV} {Q : AV → Rho → AHeap → Prop} (hd : σ d = some (.dict g kvs ep)) (h : Q ((dget kvs k).getD v) ρ σ) :
    ∀ ws : List Value, ws.map ab = [k.av, v] → T W n env ab (PySem.call (.builtin "dict.get") (.ref d :: ws)) Q ρ σ := fun ws e Φ A s r S => by
  obtain ⟨x, y, rfl, ex, rfl⟩ := map_two e
  obtain ⟨ks, hw, rfl⟩ := (S.sh.hp _ _ hd).dictE
  have e : ab ((valueAt ks k).getD y) = (dget (ks.map fun p => (p.1, ab p.2)) k).getD (ab y) := by rw [← valueAt_map]; cases valueAt ks k <;> rfl
  refine call_meetsIn F.slot_dict_get hw.dictOf.typeIs F.entry_dict_get (F.args_dict_get_3 _ _ _) (meets_dict_get_default (kk W.prog W.w) d (kIs_of ex) (not_sys S.sh hd) y) ⟨_, hw.dictOf.mapOf, ρ, σ, by rw [e]; exact h, S.tok _⟩
end

section
variable {W : Wd} {n : Nat} {env : Env} {ρ : Rho} {σ : AHeap}

/-! built-in functions and types by their names -/
theorem T_CallBi {x : Str} {id : String} {np pos : Pos} {args : List Expr} {Q : AV → Rho → AHeap → Prop} (e : W.mg x = none) (hb : bootBuiltins x = some (.builtin id)) (hn : x ≠ ("__name__" : Str)) (hg : env.globals = mainGlobals) (hbi : env.builtins = builtinsNs)
    (hx : env.kindOf x = some .globalImplicit) (hd : (x == ("__debug__" : Str)) = false)
    (h : CA W n env pos args (fun vs ρ σ => ∀ ws : List Value, ws.map ab = vs → T W n env ab (PySem.call (.builtin id) ws) Q ρ σ) ρ σ) : T W n env ab (eval (.Call (.Name x np) args [] pos) env) Q ρ σ := by
  refine T_CallName (T_Builtin e hb hn hg hbi hx hd fun vf hvf => ?_)
  have : vf = .builtin id := by
    cases vf <;> first | (simp only [ab] at hvf; cases hvf; rfl) | cases hvf
  subst this
  exact callWith_bi (first := []) (by simpa using h)
theorem callWith_tyN {pos : Pos} {T₀ : String} {e : Expr} {rest : List Expr} {Q : AV → Rho → AHeap → Prop} (he : starEach (e :: rest) env = (false, eval e env) :: starEach rest env) (hp : (backTo pos (starEach rest env)).any (·.1) = false)
    (h : TArgs W n env pos (e :: rest) (fun vs ρ σ => ∀ ws : List Value, ws.map ab = vs → T W n env ab (PySem.call (.type T₀) ws) Q ρ σ) ρ σ) : T W n env ab (callWith pos (.type T₀) [] (backTo pos (starEach (e :: rest) env)) []) Q ρ σ := fun F A s r S =>
  PyProof.Rows.callWith_type1 (wpAny_mono (h F A s r S) (fun ws s₁ ⟨ρ₁, σ₁, q, S₁⟩ => q ws rfl F A s₁ r S₁) fun _ _ e => e) he hp
theorem T_CallTy {x : Str} {T₀ : String} {np pos : Pos} {e : Expr} {rest : List Expr} {Q : AV → Rho → AHeap → Prop} (e' : W.mg x = none) (hb : bootBuiltins x = some (.type T₀)) (hn : x ≠ ("__name__" : Str)) (hg : env.globals = mainGlobals) (hbi : env.builtins = builtinsNs)
    (hx : env.kindOf x = some .globalImplicit) (hd : (x == ("__debug__" : Str)) = false)
    (h : CA W n env pos (e :: rest) (fun vs ρ σ => ∀ ws : List Value, ws.map ab = vs → T W n env ab (PySem.call (.type T₀) ws) Q ρ σ) ρ σ) : T W n env ab (eval (.Call (.Name x np) (e :: rest) [] pos) env) Q ρ σ := by
  refine T_CallName (T_Builtin e' hb hn hg hbi hx hd fun vf hvf => ?_)
  have : vf = .type T₀ := by
    cases vf <;> first | (simp only [ab] at hvf; cases hvf; rfl) | cases hvf
  subst this
  exact callWith_tyN h.1 h.2.1 h.2.2

/-! isinstance -/
structure ClsK (W : Wd) : Prop where
  hg : plainGet W.K W.C (Str.ofString "__class__") = true
  hd : hasDictIn W.K W.C = true
  ha : findIn W.K (.ref W.C) (Str.ofString "__class__") = some (some (.builtin "object.__class__"))
  hs : specialIn W.K (.builtin "object.__class__") (Str.ofString "__get__") = some (some (.builtin "getset_descriptor.__get__"))
  ht : takesIn W.K (.builtin "object.__class__") = some true
  hm : mroIn W.K W.C (.type "object") = some true
def tyOf (W : Wd) (σ : AHeap) : AV → Option Value
  | .none => some (.type "NoneType")
  | .bool _ => some (.type "bool")
  | .int _ => some (.type "int")
  | .str _ => some (.type "str")
  | .other _ => none
  | .ref a => match σ a with
    | some (.list _) => some (.type "list")
    | some (.tup _) => some (.type "tuple")
    | some (.dict ..) => some (.type "dict")
    | some (.inst g d) => (match σ d with | some (.flds ..) => some (.ref W.C) | _ => none)
    | _ => none
theorem L_isinst {v c : AV} {t cv : Value} {b : Bool} {Q : AV → Rho → AHeap → Prop} (ck : ClsK W) (hc : ∀ w, ab w = c → w = cv) (ht : tyOf W σ v = some t) (ho : kitOne W.K t cv = some b) (h : Q (.bool b) ρ σ) :
    ∀ ws : List Value, ws.map ab = [v, c] → T W n env ab (PySem.call (.builtin "isinstance") ws) Q ρ σ := fun ws e Φ A s r S => by
  obtain ⟨x, y, rfl, ex, ey⟩ := map_two e
  obtain rfl := hc _ ey
  have X := W.X.keeps S.sh.keepB
  have fin : ∀ tk, (fun a s' => Po W Φ env (Q (ab a)) s') (Value.bool b) { s with toks := tk } := fun tk => ⟨ρ, σ, h, S.tok _⟩
  cases v with
  | none => obtain rfl := ab_none ex; cases ht; exact kia_one kitx_none X trivial ho (by simp) fin
  | bool b' => obtain rfl := ab_bool ex; cases ht; exact kia_one kitx_bool X trivial ho (by simp) fin
  | int i => obtain ⟨u, rfl⟩ := ab_int ex; cases ht; exact kia_one kitx_int X trivial ho (by simp) fin
  | str z => obtain ⟨u, rfl⟩ := ab_str ex; cases ht; exact kia_one kitx_str X trivial ho (by simp) fin
  | other _ => cases ht
  | ref a =>
    obtain rfl := ab_ref ex
    simp only [tyOf] at ht
    split at ht
    · rename_i vs q; cases ht; obtain ⟨co, h1, h2, _⟩ := ty_list s.heap (S.sh.hp _ _ q); exact kia_one kitx_list X ⟨co, h1, h2⟩ ho (by simp) fin
    · rename_i vs q; cases ht; obtain ⟨us, m, hu, _⟩ := (S.sh.hp _ _ q).tupX; exact kia_one kitx_tuple X ⟨_, hu, rfl⟩ ho (by simp) fin
    · rename_i g kvs ep q; cases ht; obtain ⟨co, h1, h2, _⟩ := ty_dict s.heap (S.sh.hp _ _ q); exact kia_one kitx_dict X ⟨co, h1, h2⟩ ho (by simp) fin
    · rename_i g d q
      split at ht
      · rename_i g' fs q'
        cases ht
        obtain ⟨es, k, hfs, hdo, hxo, I⟩ := inst_at S.sh q q'
        exact kia_one (kitx_own ck.hg ck.hd ck.ha ck.hs ck.ht ck.hm) X I ho (by simp) fin
      · cases ht
    · cases ht
theorem other_type {T₀ : String} : ∀ w, ab w = ab (.type T₀) → w = .type T₀ := fun w e => by
  cases w <;> first | (simp only [ab] at e; cases e; rfl) | cases e
theorem ref_only {a : Addr} : ∀ w, ab w = .ref a → w = .ref a := fun w e => ab_ref e

/-! len -/
theorem L_len_list {a : Addr} {vs : List AV} {Q : AV → Rho → AHeap → Prop} (hl : σ a = some (.list vs)) (hz : vs.length ≤ 100000) (h : Q (.int vs.length) ρ σ) :
    ∀ ws : List Value, ws.map ab = [.ref a] → T W n env ab (PySem.call (.builtin "len") ws) Q ρ σ := fun ws e Φ A s r S => by
  obtain ⟨x, rfl, ex⟩ := map_one e
  obtain rfl := ab_ref ex
  obtain ⟨us, hu, rfl⟩ := (S.sh.hp _ _ hl).listE
  rw [List.length_map] at hz
  refine call_len_list hu (by rw [List.size_toArray]; omega) ⟨ρ, σ, ?_, S.tok _⟩
  show Q (.int us.toArray.size) ρ σ
  rw [List.size_toArray]; simpa using h
theorem L_len_tup {a : Addr} {vs : List AV} {Q : AV → Rho → AHeap → Prop} (hl : σ a = some (.tup vs)) (hz : vs.length ≤ 100000) (h : Q (.int vs.length) ρ σ) :
    ∀ ws : List Value, ws.map ab = [.ref a] → T W n env ab (PySem.call (.builtin "len") ws) Q ρ σ := fun ws e Φ A s r S => by
  obtain ⟨x, rfl, ex⟩ := map_one e
  obtain rfl := ab_ref ex
  obtain ⟨us, hu, rfl⟩ := (S.sh.hp _ _ hl).tupE
  rw [List.length_map] at hz
  have hu' : IsTup s.heap a us.toArray := hu
  refine len_tuple hu' (by rw [List.size_toArray]; omega) ⟨ρ, σ, ?_, S.tok _⟩
  show Q (.int us.toArray.size) ρ σ
  rw [List.size_toArray]; simpa using h

/-! equality of plain values -/
def Plain : AV → Prop
  | .none => True
  | .int _ => True
  | .str _ => True
  | _ => False
theorem C_eq {a b : AV} {Q : AV → Rho → AHeap → Prop} (pa : Plain a) (pb : Plain b) (h : Q (.bool (decide (a = b))) ρ σ) : ∀ va vb, ab va = a → ab vb = b → T W n env ab (compareOp .Eq va vb) Q ρ σ := fun va vb ha hb Φ A s r S => by
  have fin : ∀ c, c = decide (a = b) → (fun a s' => Po W Φ env (Q (ab a)) s') (Value.bool c) s := fun c e => ⟨ρ, σ, e ▸ h, S⟩
  cases a <;> try exact pa.elim
  all_goals (cases b <;> try exact pb.elim)
  · obtain rfl := ab_none ha; obtain rfl := ab_none hb; exact EqNone.eq_none_none (fin _ (by simp))
  · obtain rfl := ab_none ha; obtain ⟨u, rfl⟩ := ab_int hb; exact EqNone.eq_none_int (fin _ (by simp))
  · obtain rfl := ab_none ha; obtain ⟨u, rfl⟩ := ab_str hb; exact EqNone.eq_none_str (fin _ (by simp))
  · obtain ⟨u, rfl⟩ := ab_int ha; obtain rfl := ab_none hb; exact EqNone.eq_int_none (fin _ (by simp))
  · rename_i i j; obtain ⟨u, rfl⟩ := ab_int ha; obtain ⟨u', rfl⟩ := ab_int hb; exact eq_int (fin _ (by by_cases e : i = j <;> simp [e]))
  · obtain ⟨u, rfl⟩ := ab_int ha; obtain ⟨u', rfl⟩ := ab_str hb; exact EqMixed.eq_int_str (fin _ (by simp))
  · obtain ⟨u, rfl⟩ := ab_str ha; obtain rfl := ab_none hb; exact EqNone.eq_str_none (fin _ (by simp))
  · obtain ⟨u, rfl⟩ := ab_str ha; obtain ⟨u', rfl⟩ := ab_int hb; exact EqMixed.eq_str_int (fin _ (by simp))
  · rename_i i j; obtain ⟨u, rfl⟩ := ab_str ha; obtain ⟨u', rfl⟩ := ab_str hb; exact PyProof.Rows.eq_str (fin _ (by by_cases e : i = j <;> simp [e]))
theorem C_ne {a b : AV} {Q : AV → Rho → AHeap → Prop} (pa : Plain a) (pb : Plain b) (h : Q (.bool (!decide (a = b))) ρ σ) : ∀ va vb, ab va = a → ab vb = b → T W n env ab (compareOp .NotEq va vb) Q ρ σ := fun va vb ha hb Φ A s r S => by
  have fin : ∀ c, c = (!decide (a = b)) → (fun a s' => Po W Φ env (Q (ab a)) s') (Value.bool c) s := fun c e => ⟨ρ, σ, e ▸ h, S⟩
  cases a <;> try exact pa.elim
  all_goals (cases b <;> try exact pb.elim)
  · obtain rfl := ab_none ha; obtain rfl := ab_none hb; exact EqNone.ne_none_none (fin _ (by simp))
  · obtain rfl := ab_none ha; obtain ⟨u, rfl⟩ := ab_int hb; exact EqNone.ne_none_int (fin _ (by simp))
  · obtain rfl := ab_none ha; obtain ⟨u, rfl⟩ := ab_str hb; exact EqNone.ne_none_str (fin _ (by simp))
  · obtain ⟨u, rfl⟩ := ab_int ha; obtain rfl := ab_none hb; exact EqNone.ne_int_none (fin _ (by simp))
  · rename_i i j; obtain ⟨u, rfl⟩ := ab_int ha; obtain ⟨u', rfl⟩ := ab_int hb; exact ne_int (fin _ (by by_cases e : i = j <;> simp [e]))
  · obtain ⟨u, rfl⟩ := ab_int ha; obtain ⟨u', rfl⟩ := ab_str hb; exact EqMixed.ne_int_str (fin _ (by simp))
  · obtain ⟨u, rfl⟩ := ab_str ha; obtain rfl := ab_none hb; exact EqNone.ne_str_none (fin _ (by simp))
  · obtain ⟨u, rfl⟩ := ab_str ha; obtain ⟨u', rfl⟩ := ab_int hb; exact EqMixed.ne_str_int (fin _ (by simp))
  · rename_i i j; obtain ⟨u, rfl⟩ := ab_str ha; obtain ⟨u', rfl⟩ := ab_str hb; exact PyProof.Rows.ne_str (fin _ (by by_cases e : i = j <;> simp [e]))

/-! against an empty list or tuple -/
theorem room_units {m : Nat} {A : Around} (r : Room m A) : A.units < cLine := by have := r.2.2; omega
theorem C_eq_list0 {a b : Addr} {vs : List AV} {Q : AV → Rho → AHeap → Prop} (ha : σ a = some (.list vs)) (hb : σ b = some (.list [])) (h : Q (.bool vs.isEmpty) ρ σ) : ∀ va vb, ab va = .ref a → ab vb = .ref b → T W n env ab (compareOp .Eq va vb) Q ρ σ := fun va vb ea eb Φ A s r S => by
  obtain rfl := ab_ref ea; obtain rfl := ab_ref eb
  obtain ⟨us, hu, rfl⟩ := (S.sh.hp _ _ ha).listE
  obtain ⟨us', hu', e⟩ := (S.sh.hp _ _ hb).listE
  obtain rfl : us' = [] := List.map_eq_nil_iff.mp e
  cases us with
  | nil => exact SeqAt.eq_listAt hu hu' rfl (room_units r) (fun j h1 => by simp at h1) ⟨ρ, σ, h, S⟩ (e := fun _ => true)
  | cons u us => exact SeqAt.eq_list_lengthsAt hu hu' (by simp) (room_units r) ⟨ρ, σ, h, S⟩
theorem C_ne_list0 {a b : Addr} {vs : List AV} {Q : AV → Rho → AHeap → Prop} (ha : σ a = some (.list vs)) (hb : σ b = some (.list [])) (h : Q (.bool (!vs.isEmpty)) ρ σ) : ∀ va vb, ab va = .ref a → ab vb = .ref b → T W n env ab (compareOp .NotEq va vb) Q ρ σ := fun va vb ea eb Φ A s r S => by
  obtain rfl := ab_ref ea; obtain rfl := ab_ref eb
  obtain ⟨us, hu, rfl⟩ := (S.sh.hp _ _ ha).listE
  obtain ⟨us', hu', e⟩ := (S.sh.hp _ _ hb).listE
  obtain rfl : us' = [] := List.map_eq_nil_iff.mp e
  cases us with
  | nil => exact SeqAt.RcNeAt.lists hu hu' rfl (room_units r) (fun j h1 => by simp at h1) W.prog W.w _ _ ⟨ρ, σ, h, S⟩ (e := fun _ => true)
  | cons u us => exact SeqAt.RcNeAt.lists_lengths hu hu' (by simp) (room_units r) W.prog W.w _ _ ⟨ρ, σ, h, S⟩
theorem C_eq_tup0 {a b : Addr} {vs : List AV} {Q : AV → Rho → AHeap → Prop} (ha : σ a = some (.tup vs)) (hb : σ b = some (.tup [])) (h : Q (.bool vs.isEmpty) ρ σ) : ∀ va vb, ab va = .ref a → ab vb = .ref b → T W n env ab (compareOp .Eq va vb) Q ρ σ := fun va vb ea eb Φ A s r S => by
  obtain rfl := ab_ref ea; obtain rfl := ab_ref eb
  obtain ⟨us, hu, rfl⟩ := (S.sh.hp _ _ ha).tupE
  obtain ⟨us', hu', e⟩ := (S.sh.hp _ _ hb).tupE
  obtain rfl : us' = [] := List.map_eq_nil_iff.mp e
  refine SeqAt.eq_tupleAt hu hu' (room_units r) (fun j h1 h2 => by simp at h2) ⟨ρ, σ, ?_, S⟩ (e := fun _ => true)
  cases us with
  | nil => exact h
  | cons u us => exact h
theorem C_ne_tup0 {a b : Addr} {vs : List AV} {Q : AV → Rho → AHeap → Prop} (ha : σ a = some (.tup vs)) (hb : σ b = some (.tup [])) (h : Q (.bool (!vs.isEmpty)) ρ σ) : ∀ va vb, ab va = .ref a → ab vb = .ref b → T W n env ab (compareOp .NotEq va vb) Q ρ σ := fun va vb ea eb Φ A s r S => by
  obtain rfl := ab_ref ea; obtain rfl := ab_ref eb
  obtain ⟨us, hu, rfl⟩ := (S.sh.hp _ _ ha).tupE
  obtain ⟨us', hu', e⟩ := (S.sh.hp _ _ hb).tupE
  obtain rfl : us' = [] := List.map_eq_nil_iff.mp e
  refine SeqAt.RcNeAt.tuples hu hu' (room_units r) (fun j h1 h2 => by simp at h2) W.prog W.w _ _ ⟨ρ, σ, ?_, S⟩ (e := fun _ => true)
  cases us with
  | nil => exact h
  | cons u us => exact h
/-- lists of texts -/
theorem C_eq_strs {a b : Addr} {xs ys : List Str} {Q : AV → Rho → AHeap → Prop} (ha : σ a = some (.list (xs.map .str))) (hb : σ b = some (.list (ys.map .str))) (h : Q (.bool (decide (xs = ys))) ρ σ) :
    ∀ va vb, ab va = .ref a → ab vb = .ref b → T W n env ab (compareOp .Eq va vb) Q ρ σ := fun va vb ea eb Φ A s r S => by
  obtain rfl := ab_ref ea; obtain rfl := ab_ref eb
  obtain ⟨us, hu, e⟩ := (S.sh.hp _ _ ha).listE
  obtain ⟨us', hu', e'⟩ := (S.sh.hp _ _ hb).listE
  have l1 : us.length = xs.length := by have := congrArg List.length e; simpa using this
  have l2 : us'.length = ys.length := by have := congrArg List.length e'; simpa using this
  by_cases hl : xs.length = ys.length
  · have q : ∀ j (h1 : j < us.toArray.size) (h2 : j < us'.toArray.size), SeqAt.EqAt A.in1 s us.toArray[j] us'.toArray[j] ((fun j => decide (xs[j]? = ys[j]?)) j) := fun j h1 h2 => by
      simp only [List.size_toArray] at h1 h2
      have x1 : ab us[j] = .str (xs[j]'(by omega)) := by
        have := congrArg (fun l => l[j]?) e; simp only [List.getElem?_map] at this; rw [List.getElem?_eq_getElem (by omega), List.getElem?_eq_getElem (by omega)] at this; simpa using this
      have x2 : ab us'[j] = .str (ys[j]'(by omega)) := by
        have := congrArg (fun l => l[j]?) e'; simp only [List.getElem?_map] at this; rw [List.getElem?_eq_getElem (by omega), List.getElem?_eq_getElem (by omega)] at this; simpa using this
      obtain ⟨t1, y1⟩ := ab_str x1
      obtain ⟨t2, y2⟩ := ab_str x2
      simp only [List.getElem_toArray, y1, y2]
      intro prog w E Q' hq
      refine wpAny_eqBool_str ?_
      rw [List.getElem?_eq_getElem (by omega), List.getElem?_eq_getElem (by omega)] at hq
      have e0 : decide (some (xs[j]'(by omega)) = some (ys[j]'(by omega))) = (xs[j]'(by omega) == ys[j]'(by omega)) := by rw [Bool.eq_iff_iff]; simp
      rw [e0] at hq; exact hq
    refine SeqAt.eq_listAt hu hu' (by simp; omega) (room_units r) q ⟨ρ, σ, ?_, S⟩
    have : ((List.range us.toArray.size).all fun j => decide (xs[j]? = ys[j]?)) = decide (xs = ys) := by
      rw [Bool.eq_iff_iff]
      simp only [List.all_eq_true, List.mem_range, decide_eq_true_eq, List.size_toArray]
      constructor
      · intro hh
        refine List.ext_getElem? fun j => ?_
        by_cases hj : j < us.length
        · exact hh j hj
        · rw [List.getElem?_eq_none (by omega), List.getElem?_eq_none (by omega)]
      · rintro rfl j _; rfl
    rw [this]; exact h
  · refine SeqAt.eq_list_lengthsAt hu hu' (by simp; omega) (room_units r) ⟨ρ, σ, ?_, S⟩
    have : decide (xs = ys) = false := decide_eq_false fun e => hl (by rw [e])
    rw [this] at h; exact h

/-! identity -/
theorem same_ref {x y : Addr} {Φ : Addr → Option Obj} {A : Around} {s : Shared} {R : Bool → Shared → Prop} {g : Tag} {d : Addr} {oy : AObj} (S : SH W Φ σ s) (hx : σ x = some (.inst g d)) (hy : σ y = some oy) (h : R (decide (x = y)) s) :
    wpAny (model W.prog W.w) A (isSame (.ref x) (.ref y)) R (fun _ _ => False) s := by
  by_cases e : x = y
  · subst e; exact wpAny_isSame_ref_self (by simpa using h)
  · have a := S.hp _ _ hx
    cases a with
    | inst g d a =>
      obtain ⟨co, hc⟩ := (S.hp _ _ hy).ex
      exact wpAny_isSame_ref_other e a hc (by simp) (by simpa [e] using h)
theorem C_is_ref {x y : Addr} {g : Tag} {d : Addr} {oy : AObj} {Q : AV → Rho → AHeap → Prop} (hx : σ x = some (.inst g d)) (hy : σ y = some oy) (h : Q (.bool (decide (x = y))) ρ σ) : ∀ va vb, ab va = .ref x → ab vb = .ref y → T W n env ab (compareOp .Is va vb) Q ρ σ := fun va vb ea eb Φ A s r S => by
  obtain rfl := ab_ref ea; obtain rfl := ab_ref eb
  show wpAny _ A (isSame (.ref x) (.ref y) >>= fun b => Pure.pure (Value.bool b)) _ _ s
  exact wpAny_bind (same_ref S.sh hx hy (wpAny_pure ⟨ρ, σ, h, S⟩))
theorem C_isNot_ref {x y : Addr} {g : Tag} {d : Addr} {oy : AObj} {Q : AV → Rho → AHeap → Prop} (hx : σ x = some (.inst g d)) (hy : σ y = some oy) (h : Q (.bool (!decide (x = y))) ρ σ) : ∀ va vb, ab va = .ref x → ab vb = .ref y → T W n env ab (compareOp .IsNot va vb) Q ρ σ := fun va vb ea eb Φ A s r S => by
  obtain rfl := ab_ref ea; obtain rfl := ab_ref eb
  show wpAny _ A (isSame (.ref x) (.ref y) >>= fun b => Pure.pure (Value.bool (!b))) _ _ s
  exact wpAny_bind (same_ref S.sh hx hy (wpAny_pure ⟨ρ, σ, h, S⟩))
end

section
variable {W : Wd} {n : Nat} {env : Env} {ρ : Rho} {σ : AHeap}

theorem St.ext {F : Addr → Option Obj} {s : Shared} {h' : Heap} (S : St W F env ρ σ s) (tk : Nat) (hk : ∀ b o, s.heap.get? b = some o → h'.get? b = some o) : St W F env ρ σ { s with heap := h', toks := tk } :=
  S.move (fun a o e _ => hk a o e) (fun a oa e => (S.sh.hp a oa e).move fun co h => hk a co h) fun _ e _ => e
theorem St.none_of {F : Addr → Option Obj} {s : Shared} (S : SH W F σ s) {a : Addr} (h : s.heap.get? a = none) : σ a = none := by
  cases e : σ a with
  | none => rfl
  | some o => obtain ⟨co, h'⟩ := (S.hp _ _ e).ex; rw [h] at h'; cases h'
theorem St.fresh {F : Addr → Option Obj} {s : Shared} {h' : Heap} (S : St W F env ρ σ s) {a : Addr} {ao : AObj} (tk : Nat) (hk : ∀ b o, s.heap.get? b = some o → h'.get? b = some o) (ha : s.heap.get? a = none) (ho : OR W a h' ao) :
    St W F env ρ (σ.set a ao) { s with heap := h', toks := tk } :=
  S.move (fun a o e _ => hk a o e) (fun b oa e => by
    unfold AHeap.set at e
    split at e
    · rename_i q; subst q; cases e; exact ho
    · exact (S.sh.hp b oa e).move fun co h => hk b co h) fun b e h => by
    unfold AHeap.set
    rw [if_neg (fun q => h (by rw [q, ha])), e]
theorem new_at {F : Addr → Option Obj} {s : Shared} {h' : Heap} (S : St W F env ρ σ s) {a : Addr} {ao : AObj} {tk : Nat} {Q : AV → Rho → AHeap → Prop} (hk : ∀ b o, s.heap.get? b = some o → h'.get? b = some o) (ha : s.heap.get? a = none) (ho : OR W a h' ao)
    (q : New σ ao (fun v σ' => Q v ρ σ')) : Po W F env (Q (ab (.ref a))) { s with heap := h', toks := tk } :=
  have hn := St.none_of S.sh ha
  ⟨ρ, _, q a _ hn (Le.set hn) set_same, S.fresh tk hk ha ho⟩
theorem size_none {h : Heap} : h.get? h.objs.size = none := get?_size h

/-! tuple(list), list(list), list(tuple), list(dict), dict(dict) -/
theorem L_tuple_list {a : Addr} {vs : List AV} {Q : AV → Rho → AHeap → Prop} (hl : σ a = some (.list vs)) (hz : vs.length ≤ 1000) (h : New σ (.tup vs) (fun v σ' => Q v ρ σ')) :
    ∀ ws : List Value, ws.map ab = [.ref a] → T W n env ab (PySem.call (.type "tuple") ws) Q ρ σ := fun ws e Φ A s r S => by
  obtain ⟨x, rfl, ex⟩ := map_one e
  obtain rfl := ab_ref ex
  obtain ⟨us, hu, rfl⟩ := (S.sh.hp _ _ hl).listE
  refine call_tuple_list hu (fun h' hk => ?_) (line1000 (by simpa using hz))
  have hn : s.heap.get? h'.objs.size = none := by
    cases e : s.heap.get? h'.objs.size with
    | none => rfl
    | some o => have := hk _ o e; rw [size_none] at this; cases this
  exact new_at S (fun b o e => Heap.get?_push_of_some _ (hk b o e)) hn (.tup us 0 (Heap.get?_push_size _ rfl)) h
theorem L_list_list {a : Addr} {vs : List AV} {Q : AV → Rho → AHeap → Prop} (hl : σ a = some (.list vs)) (hz : vs.length ≤ 1000) (h : New σ (.list vs) (fun v σ' => Q v ρ σ')) :
    ∀ ws : List Value, ws.map ab = [.ref a] → T W n env ab (PySem.call (.type "list") ws) Q ρ σ := fun ws e Φ A s r S => by
  obtain ⟨x, rfl, ex⟩ := map_one e
  obtain rfl := ab_ref ex
  obtain ⟨us, m, hu, rfl⟩ := (S.sh.hp _ _ hl).listX
  exact call_list_seq a (.inl rfl) hu rfl rfl (fun h' c' hk hn => new_at S hk size_none (.list us c' hn) h) (line1000 (by simpa using hz))
theorem keys_of {ks : List (Key × Value)} {vs : List Value} (hl : vs.length = ks.length) (hv : ∀ (j : Nat) v, vs[j]? = some v → ∃ k x, ks[j]? = some (k, x) ∧ (kk W.prog W.w).is k v = true) : vs.map ab = ks.map (fun p => p.1.av) := by
  refine List.ext_getElem? fun j => ?_
  rw [List.getElem?_map, List.getElem?_map]
  cases e : vs[j]? with
  | none =>
    rw [List.getElem?_eq_none_iff] at e
    rw [List.getElem?_eq_none (by omega)]; rfl
  | some v =>
    obtain ⟨k, x, hk, hi⟩ := hv j v e
    rw [hk]; simp only [Option.map_some]; rw [kIs_av hi]
theorem L_list_dict {d : Addr} {g : Tag} {kvs : List (Key × AV)} {ep : Nat} {Q : AV → Rho → AHeap → Prop} (hd : σ d = some (.dict g kvs ep)) (hz : kvs.length ≤ 1000) (h : New σ (.list (kvs.map (fun p => p.1.av))) (fun v σ' => Q v ρ σ')) :
    ∀ ws : List Value, ws.map ab = [.ref d] → T W n env ab (PySem.call (.type "list") ws) Q ρ σ := fun ws e Φ A s r S => by
  obtain ⟨x, rfl, ex⟩ := map_one e
  obtain rfl := ab_ref ex
  obtain ⟨ks, hw, rfl⟩ := (S.sh.hp _ _ hd).dictE
  rw [List.length_map] at hz
  refine kdl_call (kdl_dict (knd := kk W.prog W.w) (not_sys S.sh hd)) r.1 hw (line1000 hz) fun h' tk acc' c' hk hn hacc => ?_
  refine new_at S hk size_none ?_ h
  have e : acc'.toList.map ab = ks.map (fun p => p.1.av) := keys_of (W := W) (by rw [Array.length_toList]; exact hacc.1) fun j v e => hacc.2 j v (by rw [← Array.getElem?_toList]; exact e)
  rw [List.map_map, show ((fun p : Key × AV => p.1.av) ∘ fun p : Key × Value => (p.1, ab p.2)) = fun p => p.1.av from rfl, ← e]
  exact .list _ c' (by rw [Array.toArray_toList]; exact hn)
theorem L_dict_dict {d : Addr} {g : Tag} {kvs : List (Key × AV)} {ep : Nat} {Q : AV → Rho → AHeap → Prop} (g' : Tag) (hd : σ d = some (.dict g kvs ep)) (hz : kvs.length ≤ 1000) (h : ∀ ep', New σ (.dict g' kvs ep') (fun v σ' => Q v ρ σ')) :
    ∀ ws : List Value, ws.map ab = [.ref d] → T W n env ab (PySem.call (.type "dict") ws) Q ρ σ := fun ws e Φ A s r S => by
  obtain ⟨x, rfl, ex⟩ := map_one e
  obtain rfl := ab_ref ex
  obtain ⟨ks, hw, rfl⟩ := (S.sh.hp _ _ hd).dictE
  rw [List.length_map] at hz
  refine kt_call_dict (not_sys S.sh hd) hw.dictOf (line1000 hz) fun h' hd' hs => ?_
  obtain ⟨ep', hat⟩ := hd'.dictAt
  refine new_at S (fun b o e => hs.extBut b o (Nat.ne_of_lt (Heap.lt_size e)) (Heap.get?_push_of_some _ e)) size_none (.dict g' ks ep' hat) (h ep')

/-! list + list, list * int -/
theorem B_add_list {a b : Addr} {vs us : List AV} {Q : AV → Rho → AHeap → Prop} (ha : σ a = some (.list vs)) (hb : σ b = some (.list us)) (hz : vs.length ≤ 1000) (hz' : us.length ≤ 1000) (h : New σ (.list (vs ++ us)) (fun v σ' => Q v ρ σ')) :
    ∀ va vb, ab va = .ref a → ab vb = .ref b → T W n env ab (binaryOp .Add va vb) Q ρ σ := fun va vb ea eb Φ A s r S => by
  obtain rfl := ab_ref ea; obtain rfl := ab_ref eb
  obtain ⟨xs, m, hx, rfl⟩ := (S.sh.hp _ _ ha).listX
  obtain ⟨ys, m', hy, rfl⟩ := (S.sh.hp _ _ hb).listX
  simp only [List.length_map] at hz hz'
  refine P.add_list hx hy ?_ (by simp only [List.size_toArray]; rw [sizeLine_eq]; omega)
  rw [← List.map_append] at h
  exact new_at S (fun b o e => Heap.get?_push_of_some _ e) size_none (.list (xs ++ ys) 0 (by rw [← List.append_toArray]; exact Heap.get?_push_size _ rfl)) h
theorem mul_list0 {A : Around} {E : Value → Shared → Prop} {s : Shared} {l : Addr} {items : Array Value} {k : Nat} {x : Int} {u : Tok} {Q : Value → Shared → Prop}
    (hl : s.heap.get? l = some { cls := .type "list", dict := none, data := .seq items k, slots := #[] })
    (hlo : -(2 ^ 63 : Int) ≤ x) (hhi : x < 2 ^ 63) (hsz : items.size * x.toNat ≤ 2 ^ 24)
    (h : Q (.ref s.heap.objs.size) { s with heap := s.heap.push { cls := .type "list", data := .seq (List.foldl (fun x1 x2 => x1 ++ x2) #[] (List.replicate (if items.isEmpty = true then 0 else x.toNat) items)) } }) :
    wpAny (model W.prog W.w) A (binaryOp .Mult (.ref l) (.int x u)) Q E s :=
  wpAny_binaryOp_repeat_ref (T := "list") (U := "int") (by decide) ⟨_, hl, rfl⟩ (fun s' => typeIs_int s' x u) noFill_list_mul PySem.F.fills_int_mul PySem.F.slot_int_rmul repeat_list PySem.F.slot_int_index.lookup
    (call_meets PySem.F.slot_int_rmul (typeIs_int s x u) PySem.F.entry_int_rmul (PySem.F.args_int_rmul_2 _ _) (int___rmul___int_list x u l items k)
      ⟨hl, rfl, ⟨_, hl, rfl⟩, call_meets PySem.F.slot_list_mul ⟨_, hl, rfl⟩ PySem.F.entry_list_mul (PySem.F.args_list_mul_2 _ _)
        (AutoListH.list___mul___list_int_3 l items k x u (by simp [Builtin.List.listFitsIndex]; omega) (by omega) (by simp [Builtin.List.listTooLong, sizeLine]; omega))
        ⟨hl, h⟩⟩)
theorem B_mul_list {a : Addr} {vs : List AV} {k : Nat} {Q : AV → Rho → AHeap → Prop} (ha : σ a = some (.list vs)) (hk : k ≤ 100) (hz : vs.length ≤ 1000) (hne : vs ≠ []) (h : New σ (.list (List.replicate k vs).flatten) (fun v σ' => Q v ρ σ')) :
    ∀ va vb, ab va = .ref a → ab vb = .int k → T W n env ab (binaryOp .Mult va vb) Q ρ σ := fun va vb ea eb Φ A s r S => by
  obtain rfl := ab_ref ea; obtain ⟨u, rfl⟩ := ab_int eb
  obtain ⟨xs, m, hx, rfl⟩ := (S.sh.hp _ _ ha).listX
  simp only [List.length_map] at hz
  have hb : xs.length * k ≤ 1000 * 100 := Nat.mul_le_mul hz hk
  have hb' : xs.toArray.size * (k : Int).toNat ≤ 2 ^ 24 := by rw [List.size_toArray, Int.toNat_natCast]; exact Nat.le_trans hb (by decide)
  refine mul_list0 hx (by omega) (by omega) hb' ?_
  have e0 : xs.toArray.isEmpty = false := by
    cases xs with
    | nil => exact absurd rfl hne
    | cons x r => rfl
  have e : List.foldl (fun x1 x2 => x1 ++ x2) #[] (List.replicate (if xs.toArray.isEmpty = true then 0 else ((k : Int)).toNat) xs.toArray) = (List.replicate k xs).flatten.toArray := by
    rw [e0, if_neg Bool.false_ne_true, Int.toNat_natCast]
    have gen : ∀ (k : Nat) (acc : Array Value), List.foldl (fun x1 x2 => x1 ++ x2) acc (List.replicate k xs.toArray) = (acc.toList ++ (List.replicate k xs).flatten).toArray := by
      intro k
      induction k with
      | zero => intro acc; simp
      | succ k ih => intro acc; rw [List.replicate_succ, List.foldl_cons, ih]; simp [List.replicate_succ]
    rw [gen]; simp
  rw [e]
  have e2 : (List.replicate k (xs.map ab)).flatten = (List.replicate k xs).flatten.map ab := by
    rw [List.map_flatten, List.map_replicate]
  rw [e2] at h
  exact new_at S (fun b o e => Heap.get?_push_of_some _ e) size_none (.list _ 0 (Heap.get?_push_size _ rfl)) h

/-! writing an item of a dict -/
def kput : List (Key × AV) → Key → AV → List (Key × AV)
  | [], k, v => [(k, v)]
  | (j, u) :: r, k, v => if j = k then (j, v) :: r else (j, u) :: kput r k v
def kdel (kvs : List (Key × AV)) (k : Key) : List (Key × AV) := kvs.filter fun p => decide (p.1 ≠ k)
theorem kput_stored {ks : List (Key × Value)} (hn : (ks.map (·.1)).Nodup) {k : Key} {v : Value} : (stored ks k v).map (fun p => (p.1, ab p.2)) = kput (ks.map fun p => (p.1, ab p.2)) k (ab v) := by
  induction ks with
  | nil => rfl
  | cons p r ih =>
    rw [List.map_cons, List.nodup_cons] at hn
    have ih := ih hn.2
    unfold stored at ih ⊢
    rw [List.any_cons]
    by_cases e : p.1 = k
    · subst e
      simp only [decide_true, Bool.true_or, if_true, List.map_cons, kput]
      rw [map_store_of_not_mem r _ v hn.1]
    · simp only [e, decide_false, Bool.false_or, List.map_cons, kput, if_false] at ih ⊢
      rw [← ih]
      split <;> simp
theorem kdel_without {ks : List (Key × Value)} {k : Key} : (without ks k).map (fun p => (p.1, ab p.2)) = kdel (ks.map fun p => (p.1, ab p.2)) k := by
  unfold without kdel; rw [List.filter_map]; rfl
theorem DictAt.nodup {h : Heap} {d : Addr} {ks : List (Key × Value)} {ep : Nat} (x : h.DictAt (kk W.prog W.w) d ks ep) : (ks.map (·.1)).Nodup := by obtain ⟨_, _, _, _, _, _, _, hn⟩ := x; exact hn

theorem setItem_at {A : Around} {E : Value → Shared → Prop} {s : Shared} {d : Addr} {ks : List (Key × Value)} {ep : Nat} {k : Key} {key v : Value} {Q : Unit → Shared → Prop} (hkey : kIs k key = true) (hm : s.heap.DictAt (kk W.prog W.w) d ks ep)
    (hQ : ∀ h' ep', h'.DictAt (kk W.prog W.w) d (stored ks k v) ep' → ((valueAt ks k).isSome = true → ep' = ep) → Heap.SameBut d s.heap h' → Q () { s with heap := h', toks := s.toks + 1 }) (hsz : ks.length ≤ sizeLine) :
    wpAny (model W.prog W.w) A (setItem (.ref d) key v) Q E s := by
  have hof := hm.dictOf
  obtain ⟨o, es, ho, hc, hd, hk, hp, hn⟩ := hm
  have hes : es.size ≤ sizeLine := by
    have e1 := hp.length; have e2 : es.toList.length = es.size := by simp
    omega
  unfold setItem
  try with_reducible refine wpAny_holding ?_
  refine wpAny_bind (wpAny_sequenceKey hof.typeIs (by decide) ?_)
  refine wpAny_bind (wpAny_callSpecial?_slot (name := Str.ofString "__setitem__") hof.typeIs slot_dict_setitem
    (wpAny_call_entry slot_dict_setitem hof.typeIs entry_dict_setitem ?_ (args_dict_setitem _ _ _)))
  show wpAny _ _ (Builtin.Dict.notOrdered "__setitem__" ⟨[.ref d, key, v], []⟩ >>= _) _ _ s
  refine wpAny_bind (wpAny_notOrdered_dict hof.typeIs ?_)
  show wpAny _ _ (dictSet d key v >>= _) _ _ s
  suffices hh : ∀ {E}, wpAny (model W.prog W.w) A.in1 (dictSet d key v) Q E s from wpAny_bind (wpAny_mono hh (fun _ s' q => wpAny_pure ⟨.none, rfl, wpAny_pure q⟩) fun _ _ e => e)
  intro E
  unfold dictSet
  try with_reducible refine wpAny_holding ?_
  refine wpAny_bind ((kk W.prog W.w).pyHash hkey ?_)
  unfold dictSetHashed
  try with_reducible refine wpAny_holding ?_
  refine wpAny_bind (wpAny_dictFind_of (s := { s with toks := s.toks + 1 }) (knd := kk W.prog W.w) hkey ho hd hk ?_)
  have hidx : (es.findIdx? fun e => (kk W.prog W.w).is k e.key) = ks.findIdx? fun kv => decide (kv.1 = k) := by
    rw [← hp.findIdx k]; obtain ⟨l⟩ := es; simp
  cases hi : es.findIdx? fun e => (kk W.prog W.w).is k e.key with
  | some i =>
    refine wpAny_bind (wpAny_rule (wpAny_bind (wpAny_updateDict (s := { s with toks := s.toks + 1 }) ho hd (wpAny_point (hQ _ ep ⟨_, _, Heap.get?_update_self _ ho (Obj.isFreed_of_dict (Obj.data_mapDict hd _)),
      hc.mapDict _, Obj.data_mapDict hd _, hk.modify _ _, ?_, ?_⟩ (fun _ => rfl) (Heap.SameBut.update ..))))))
    · rw [stored, if_pos (any_of_findIdx_some (hidx ▸ hi))]
      have hl : (es.toList.findIdx? fun e => (kk W.prog W.w).is k e.key) = some i := by rw [← hi]; obtain ⟨l⟩ := es; simp
      have := hp.modify hn hl v
      obtain ⟨l⟩ := es
      simpa using this
    · rw [stored, if_pos (any_of_findIdx_some (hidx ▸ hi)), keys_map_store]; exact hn
  | none =>
    have hnot : k ∉ ks.map (·.1) := not_mem_of_findIdx_none (hidx ▸ hi)
    have hany : ¬ (ks.any fun kv => decide (kv.1 = k)) = true := by
      rw [List.any_eq_true]; rintro ⟨kv, hkv, he⟩
      exact hnot (List.mem_map.mpr ⟨kv, hkv, of_decide_eq_true he⟩)
    have hno : (valueAt ks k).isSome = true → False := fun q => by
      unfold valueAt at q
      rw [Option.isSome_map, List.find?_isSome] at q
      obtain ⟨p, hp', he⟩ := q
      exact hnot (List.mem_map.mpr ⟨p, hp', of_decide_eq_true he⟩)
    refine wpAny_bind (wpAny_rule (wpAny_updateDictKeys (hz := hes) (s := { s with toks := s.toks + 1 }) ho hd (hQ _ (ep + 1) ⟨_, _, Heap.get?_update_self _ ho (Obj.isFreed_of_dict (Obj.data_mapDictKeys hd _)),
      hc.mapDictKeys _, Obj.data_mapDictKeys hd _, hk.push hkey _, ?_, ?_⟩ (fun q => (hno q).elim) (Heap.SameBut.update ..))))
    · rw [stored, if_neg hany]
      have := hp.append hkey ((kk W.prog W.w).hash k) v
      obtain ⟨l⟩ := es
      simpa using this
    · rw [stored, if_neg hany, List.map_append, List.nodup_append]
      refine ⟨hn, by simp, ?_⟩
      intro a ha b hb
      simp only [List.map_cons, List.map_nil, List.mem_singleton] at hb
      subst hb
      exact fun e => hnot (e ▸ ha)
theorem T_setItem_dict {d : Addr} {g : Tag} {kvs : List (Key × AV)} {ep : Nat} {k : Key} {ov iv v : Value} {Q : Unit → Rho → AHeap → Prop} (ho : ab ov = .ref d) (hi : ab iv = k.av) (hd : σ d = some (.dict g kvs ep)) (hz : kvs.length ≤ 1000)
    (h : ∀ σ' ep', ((dget kvs k).isSome = true → ep' = ep) → Chg d (.dict g (kput kvs k (ab v)) ep') σ σ' → Q () ρ σ') : T W n env id (setItem ov iv v) Q ρ σ := fun Φ A s r S => by
  obtain rfl := ab_ref ho
  obtain ⟨ks, hw, rfl⟩ := (S.sh.hp _ _ hd).dictE
  rw [List.length_map] at hz
  refine setItem_at (kIs_of hi) hw (fun h' ep' hat he hs => ⟨ρ, _, h _ ep' (fun q => he ?_) Chg.set, S.upd _ hd hs ?_⟩) (line1000 hz)
  · rw [← valueAt_map, Option.isSome_map] at q; exact q
  · rw [← kput_stored (DictAt.nodup (W := W) hw)]; exact .dict g _ ep' hat

/-! writing an item of a list -/
theorem setItem_list0 {A : Around} {E : Value → Shared → Prop} {s : Shared} {l : Addr} {items : Array Value} {ne : Nat} {k : Int} {t : Tok} {v : Value} {Q : Unit → Shared → Prop} (ho : s.heap.get? l = some ⟨.type "list", none, .seq items ne, #[]⟩)
    (h0 : 0 ≤ k) (hfit : k < 2 ^ 63) (hn : k < items.size)
    (hQ : Q () { s with heap := s.heap.update l (Obj.mapSeq (·.setIfInBounds k.toNat v)) }) :
    wpAny (model W.prog W.w) A (setItem (.ref l) (.int k t) v) Q E s := by
  have hl : s.heap.IsList l items := ⟨_, ho, rfl, ne, rfl⟩
  unfold setItem
  try with_reducible refine wpAny_holding ?_
  first | refine wpAny_bind (wpAny_pure ?_) | skip
  refine wpAny_bind (wpAny_sequenceKey hl.typeIs (by decide) ?_)
  refine wpAny_bind (wpAny_callSpecial?_slot (name := Str.ofString "__setitem__") hl.typeIs slot_list_setitem
    (wpAny_call_entry slot_list_setitem hl.typeIs entry_list_setitem ?_ (args_list_setitem _ _ _)))
  show wpAny _ _ (Builtin.List.listSubscript? (.int k t) >>= _) _ _ s
  refine wpAny_bind (wpAny_listSubscript_int (fitsIndex_of h0 hfit) ?_)
  clear hfit
  obtain ⟨j, rfl⟩ := Int.eq_ofNat_of_zero_le h0
  have hj : j < items.size := by omega
  have hx' : items[j]? = some items[j] := Array.getElem?_eq_getElem hj
  show wpAny _ _ ((seqItemAt l j >>= fun r => pure (r.map (j, ·))) >>= _) _ _ s
  refine wpAny_bind (wpAny_bind (wpAny_seqItemAt ho rfl (wpAny_pure ?_)))
  rw [hx']
  show wpAny _ _ (setSeqItemAt l j v >>= _) _ _ s
  refine wpAny_bind (wpAny_setSeqItemAt ho rfl ?_)
  first
    | exact wpAny_bind (wpAny_pure (wpAny_pure ⟨.none, rfl, wpAny_pure hQ⟩))
    | exact wpAny_pure ⟨.none, rfl, wpAny_pure hQ⟩
theorem T_setItem_list {a : Addr} {vs : List AV} {i : Nat} {ov iv v : Value} {Q : Unit → Rho → AHeap → Prop} (ho : ab ov = .ref a) (hi : ab iv = .int i) (hl : σ a = some (.list vs)) (hz : vs.length ≤ 1000) (hb : i < vs.length)
    (h : ∀ σ', Chg a (.list (vs.set i (ab v))) σ σ' → Q () ρ σ') : T W n env id (setItem ov iv v) Q ρ σ := fun Φ A s r S => by
  obtain rfl := ab_ref ho; obtain ⟨t, rfl⟩ := ab_int hi
  obtain ⟨us, m, hu, rfl⟩ := (S.sh.hp _ _ hl).listX
  rw [List.length_map] at hz hb
  refine setItem_list0 hu (by omega) (by omega) (by simp; omega) ⟨ρ, _, h _ Chg.set, ?_⟩
  rw [Int.toNat_natCast]
  exact upd_list S (fun x => x.setIfInBounds i v) hl hu (by simp [List.map_set]) _
end

section
variable {W : Wd} {n : Nat} {env : Env} {ρ : Rho} {σ : AHeap}

/-! entering a def -/
theorem SH.weak {F F' : Addr → Option Obj} {s : Shared} (S : SH W F' σ s) (h : ∀ a o, F a = some o → F' a = some o) (hb : ∀ a o, W.base.get? a = some o → F a = some o) : SH W F σ s :=
  ⟨fun a o e => S.fr a o (h a o e), hb, S.hp, S.same⟩
def retOf : AFlow → AV
  | .ret v => v
  | _ => .none
structure Fn (W : Wd) (fa : Addr) (fd : FuncData) (body : List Stmt) : Prop where
  look : ∃ oc od osl, W.K.lookup fa = some ⟨oc, od, .func fd, osl⟩
  code : W.base.CodeRec fd.code fd.qualname
  clo : fd.closure = []
  co : fd.scope.isCoroutine = false
  gen : fd.scope.isGenerator = false
  kind : fd.scope.kind = .function
  body : fd.body = .stmts body
def Binds (W : Wd) (fd : FuncData) (args : List AV) (ρ₀ : Rho) : Prop := ∀ vs : List Value, vs.map ab = args → ∃ bs : List (Str × Value), bs.map (fun p => (p.1, ab p.2)) = ρ₀ ∧
  ∀ s : Shared, (∀ b o, W.base.get? b = some o → s.heap.get? b = some o) → BindsTo s fd ⟨vs, []⟩ bs
theorem bindL_get {k : Str → Option NameKind} : ∀ {bs : List (Str × Value)} {m : Str → Option Value} {x : Str} {v : Value}, (bs.map (·.1)).Nodup → (x, v) ∈ bs → k x = some .local → bindL k bs m x = some v := by
  have keep : ∀ {bs : List (Str × Value)} {m : Str → Option Value} {x : Str}, x ∉ bs.map (·.1) → bindL k bs m x = m x := by
    intro bs
    induction bs with
    | nil => intro m x _; rfl
    | cons p r ih =>
      intro m x hx
      obtain ⟨y, u⟩ := p
      simp only [List.map_cons, List.mem_cons, not_or] at hx
      rw [bindL, ih hx.2]
      split
      · show (if _ = _ then _ else _) = _
        rw [if_neg hx.1]
      · rfl
  intro bs
  induction bs with
  | nil => intro m x v _ h; cases h
  | cons p r ih =>
    intro m x v hn h hk
    obtain ⟨y, u⟩ := p
    rw [List.map_cons, List.nodup_cons] at hn
    rw [bindL]
    cases h with
    | head => rw [keep hn.1, if_pos hk, if_pos rfl]
    | tail _ h => exact ih hn.2 h hk
theorem bindC_get {k : Str → Option NameKind} : ∀ {bs : List (Str × Value)} {m : Str → Option Value} {x : Str} {v : Value}, (bs.map (·.1)).Nodup → (x, v) ∈ bs → k x ≠ some .local → bindC k bs m x = some v := by
  have keep : ∀ {bs : List (Str × Value)} {m : Str → Option Value} {x : Str}, x ∉ bs.map (·.1) → bindC k bs m x = m x := by
    intro bs
    induction bs with
    | nil => intro m x _; rfl
    | cons p r ih =>
      intro m x hx
      obtain ⟨y, u⟩ := p
      simp only [List.map_cons, List.mem_cons, not_or] at hx
      rw [bindC, ih hx.2]
      split
      · rfl
      · show (if _ = _ then _ else _) = _
        rw [if_neg hx.1]
  intro bs
  induction bs with
  | nil => intro m x v _ h; cases h
  | cons p r ih =>
    intro m x v hn h hk
    obtain ⟨y, u⟩ := p
    rw [List.map_cons, List.nodup_cons] at hn
    rw [bindC]
    cases h with
    | head => rw [keep hn.1, if_neg hk, if_pos rfl]
    | tail _ h => exact ih hn.2 h hk
theorem room_deeper {A : Around} {e : Env} (r : Room (n + 1) A) : Room n (A.deeper e) := by
  obtain ⟨a, b, c⟩ := r
  refine ⟨a, ?_, ?_⟩
  · show A.depth + 1 + n < _; omega
  · show A.units + 3 + 10 * n < _; omega
theorem enter {fa : Addr} {fd : FuncData} {body : List Stmt} {args : List AV} {ρ₀ : Rho} {Q : AV → AHeap → Prop} (hf : Fn W fa fd body) (hb : Binds W fd args ρ₀) (hn : (ρ₀.map (·.1)).Nodup)
    (hk : ∀ L, ∀ x ∈ ρ₀.map (·.1), fd.scope.names.lookup x = some .local ∨ (fd.scope.names.lookup x = some .cell ∧ ((cellsFrom (L + 1) fd.scope.names []).lookup x).isSome = true))
    (h : ∀ L, TS W n (callEnvC fd L fa) (execs body (callEnvC fd L fa)) (fun fl _ σ' => Q (retOf fl) σ') ρ₀ σ) : Spec W (n + 1) fa args σ Q := fun Φ A s vs e r S => by
  obtain ⟨bs, hbs, hto⟩ := hb vs e
  obtain ⟨oc, od, osl, hl⟩ := hf.look
  have ho := (W.X.keeps S.keepB) _ _ hl
  have hnames : bs.map (·.1) = ρ₀.map (·.1) := by rw [← hbs, List.map_map]; rfl
  refine codeAny_call_function (by have := r.2.1; omega) ho rfl hf.co hf.gen hf.body (hf.code.keeps S.keepB) (hto s S.keepB _ _ _ _ ?_)
  rw [hf.clo]
  refine wpAny_newFunctionEnv_cells hf.kind (fun x hx => hk _ x.1 (hnames ▸ List.mem_map_of_mem hx)) fun env he s' X => ?_
  subst he
  refine ⟨(W.lim.keeps S.keepB).keeps X.toInCall.keep, codeAny_func ?_⟩
  have LL : (callEnvC fd s.heap.objs.size fa).locals = s.heap.objs.size := rfl
  obtain ⟨h', tk, e'⟩ := X.toInCall.same
  have none_ge : ∀ a, s.heap.objs.size ≤ a → s.heap.get? a = none := fun a ha => by
    cases q : s.heap.get? a with
    | none => rfl
    | some o => exact absurd (Heap.lt_size q) (Nat.not_lt.mpr ha)
  have σn : ∀ a, s.heap.objs.size ≤ a → σ a = none := fun a ha => St.none_of S (none_ge a ha)
  have ge_cell : ∀ x c, (callEnvC fd s.heap.objs.size fa).cells.lookup x = some c → s.heap.objs.size < c := fun x c hc => X.above x c (mem_of_lookup hc)
  have S' : SH W (Rest σ s.heap) σ s' := by
    refine ⟨fun a o q => ?_, fun a o q => ?_, fun a o q => (S.hp a o q).move fun co hc => X.toInCall.keep _ _ hc, ?_⟩
    · have := rest_of q; exact ⟨X.toInCall.keep _ _ this.1, this.2⟩
    · exact S.rest.base a o q
    · obtain ⟨h0, t0, q⟩ := S.same
      rw [q] at e'
      exact ⟨h', tk, e'⟩
  have V : Vars (callEnvC fd s.heap.objs.size fa) s'.heap ρ₀ := by
    refine ⟨hf.kind, ⟨_, X.toInCall.ns, fun x v hx => ?_⟩, fun x c hc => ⟨_, X.cell x c hc⟩, fun x y c hx hy => name_of_addr X.apart (mem_of_lookup hx) (mem_of_lookup hy), fun x c hc q => Nat.lt_irrefl _ (q ▸ ge_cell x c hc)⟩
    rw [← hbs] at hx
    obtain ⟨⟨y, v'⟩, hm, hy⟩ := List.mem_map.mp hx
    cases hy
    rcases hk s.heap.objs.size y (hnames ▸ List.mem_map_of_mem (f := (·.1)) hm) with q | ⟨q, q'⟩
    · exact .inl ⟨q, v', bindL_get (hnames ▸ hn) hm q, rfl⟩
    · obtain ⟨c, hc⟩ := Option.isSome_iff_exists.mp q'
      refine .inr ⟨q, c, v', hc, ?_, rfl⟩
      have hne : (callEnvC fd s.heap.objs.size fa).kindOf y ≠ some .local := by
        show fd.scope.names.lookup y ≠ _; rw [q]; decide
      rw [← bindC_get (m := fun _ => none) (hnames ▸ hn) hm hne]
      exact X.cell y c hc
  have St' : St W (Rest σ s.heap) (callEnvC fd s.heap.objs.size fa) ρ₀ σ s' := by
    refine ⟨S', V, fun a ha => ?_, σn _ (Nat.le_refl _), fun x c hc => σn _ (Nat.le_of_lt (ge_cell x c hc))⟩
    have ge : s.heap.objs.size ≤ a := by
      rcases ha with rfl | ⟨hlt, _⟩
      · exact Nat.le_refl _
      · exact Nat.le_of_lt hlt
    rw [rest_none (σn a ge)]; exact none_ge a ge
  refine wpAny_mono (h s.heap.objs.size _ _ s' (room_deeper r) St') (fun fl s'' ⟨ρ', σ', q, S''⟩ => ?_) fun _ _ e => e.elim
  refine ⟨_, σ', rfl, ?_, S''.sh.weak (fun a o q => by have := S.fr a o q; rw [rest_none this.2]; exact this.1) S.base⟩
  cases fl <;> exact q

/-! moving, but for an iterator's own objects -/
theorem St.moveW {F : Addr → Option Obj} {s : Shared} {h' : Heap} {tk : Nat} {σ' : AHeap} {wr : List Addr} (S : St W F env ρ σ s) (hw : ∀ b ∈ wr, F b = none ∧ b ≠ env.locals ∧ ∀ x, env.cells.lookup x ≠ some b)
    (hk : ∀ a o, a ∉ wr → s.heap.get? a = some o → σ a = none → h'.get? a = some o)
    (hp : ∀ a o, σ' a = some o → OR W a h' o) (hd : ∀ a, a ∉ wr → σ a = none → s.heap.get? a ≠ none → σ' a = none) : St W F env ρ σ' { s with heap := h', toks := tk } := by
  have nl : env.locals ∉ wr := fun q => (hw _ q).2.1 rfl
  have nc : ∀ x c, env.cells.lookup x = some c → c ∉ wr := fun x c e q => (hw _ q).2.2 x e
  refine ⟨⟨fun a o e => ?_, S.sh.base, hp, ?_⟩, S.vs.move (fun o e => hk _ o nl e S.offL) (fun x c e o ho => hk c o (nc x c e) ho (S.offC x c e)), S.frO, hd _ nl S.offL S.vs.locSome, fun x c e => hd c (nc x c e) (S.offC x c e) (S.vs.cellSome e)⟩
  · have := S.sh.fr a o e
    have na : a ∉ wr := fun q => by rw [(hw a q).1] at e; cases e
    exact ⟨hk a o na this.1 this.2, hd a na this.2 (by rw [this.1]; simp)⟩
  · obtain ⟨h, t, rfl⟩ := S.sh.same; exact ⟨h', tk, rfl⟩

/-! iterators -/
structure It (W : Wd) (I : Addr) (wr : List Addr) (cnt : Nat) (ItemP : Nat → AV → AHeap → AHeap → Prop) (src : AHeap → Prop) (target : Expr) (Is : Nat → Heap → Prop) : Prop where
  keep : ∀ i h h', Is i h → (∀ b ∈ wr, ∀ o, h.get? b = some o → h'.get? b = some o) → Is i h'
  item : ∀ i A s Φ (σ : AHeap) (E : Value → Shared → Prop) (Q : Option Value → Shared → Prop), A.handled = none → SH W Φ σ s → src σ → (∀ b ∈ wr, σ b = none) → i < cnt → Is i s.heap →
    (∀ v s₁, (∀ (E : Value → Shared → Prop) (Q₂ : Unit → Shared → Prop), (∀ h' tk σ', Le σ σ' → ItemP i (ab v) σ σ' → (∀ a o, σ' a = some o → OR W a h' o) → (∀ a, σ a = none → s.heap.get? a ≠ none → σ' a = none) → Is (i + 1) h' →
        (∀ b o, b ∉ wr → s.heap.get? b = some o → h'.get? b = some o) → Q₂ () { s with heap := h', toks := tk }) → wpAny (model W.prog W.w) A (letOwnedTupleGo target (.ref I) v) Q₂ E s₁) → Q (some v) s₁) →
    wpAny (model W.prog W.w) A (pyNext (.ref I)) Q E s
  done : ∀ A s Φ (σ : AHeap) (E : Value → Shared → Prop) (Q : Option Value → Shared → Prop), A.handled = none → SH W Φ σ s → src σ → Is cnt s.heap →
    (∀ h' tk, (∀ b o, b ∉ wr → s.heap.get? b = some o → h'.get? b = some o) → Q none { s with heap := h', toks := tk }) → wpAny (model W.prog W.w) A (pyNext (.ref I)) Q E s
  self : ∀ i A (s : Shared) (E : Value → Shared → Prop) (Q : Value → Shared → Prop), Is i s.heap → Q (.ref I) s → wpAny (model W.prog W.w) A (pyIter (.ref I)) Q E s
  alive : ∀ i h, Is i h → ∀ b ∈ wr, h.get? b ≠ none

/-- the iterator's objects stand in the frame while a body runs -/
def hold (F : Addr → Option Obj) (wr : List Addr) (h : Heap) : Addr → Option Obj := fun a => if a ∈ wr then h.get? a else F a
theorem hold_in {F : Addr → Option Obj} {wr : List Addr} {h : Heap} {a : Addr} (q : a ∈ wr) : hold F wr h a = h.get? a := by unfold hold; rw [if_pos q]
theorem hold_out {F : Addr → Option Obj} {wr : List Addr} {h : Heap} {a : Addr} (q : a ∉ wr) : hold F wr h a = F a := by unfold hold; rw [if_neg q]
abbrev Apart (F : Addr → Option Obj) (env : Env) (wr : List Addr) : Prop := ∀ b ∈ wr, F b = none ∧ b ≠ env.locals ∧ ∀ x, env.cells.lookup x ≠ some b
theorem hold_up {F : Addr → Option Obj} {wr : List Addr} {h : Heap} (hw : ∀ b ∈ wr, F b = none) : ∀ a o, F a = some o → hold F wr h a = some o := fun a o e => by
  rw [hold_out (fun q => by rw [hw a q] at e; cases e)]; exact e
theorem own_out {F : Addr → Option Obj} {wr : List Addr} (hw : Apart F env wr) {a : Addr} (ha : Own env a) : a ∉ wr := fun q => by
  rcases ha with e | ⟨_, x, e⟩
  · exact (hw a q).2.1 e
  · exact (hw a q).2.2 x e
theorem St.hold {F : Addr → Option Obj} {s : Shared} {wr : List Addr} (S : St W F env ρ σ s) (hw : Apart F env wr) (hwσ : ∀ b ∈ wr, σ b = none) : St W (hold F wr s.heap) env ρ σ s := by
  refine ⟨⟨fun a o e => ?_, fun a o e => hold_up (fun b q => (hw b q).1) a o (S.sh.base a o e), S.sh.hp, S.sh.same⟩, S.vs, fun a ha => ?_, S.offL, S.offC⟩
  · by_cases q : a ∈ wr
    · rw [hold_in q] at e; exact ⟨e, hwσ a q⟩
    · rw [hold_out q] at e; exact S.sh.fr a o e
  · rw [hold_out (own_out hw ha)]; exact S.frO a ha
theorem St.unhold {F : Addr → Option Obj} {s : Shared} {wr : List Addr} {h : Heap} (S : St W (Mine.hold F wr h) env ρ σ s) (hw : Apart F env wr) (hb : ∀ a o, W.base.get? a = some o → F a = some o) : St W F env ρ σ s := by
  refine ⟨S.sh.weak (hold_up fun b q => (hw b q).1) hb, S.vs, fun a ha => ?_, S.offL, S.offC⟩
  have := S.frO a ha
  rw [hold_out (own_out hw ha)] at this; exact this

theorem forLoop_rule {I : Addr} {wr : List Addr} {cnt : Nat} {ItemP : Nat → AV → AHeap → AHeap → Prop} {src : AHeap → Prop} {Is : Nat → Heap → Prop} {target : Expr} {body orelse : List Stmt} {Q : AFlow → Rho → AHeap → Prop} (J : Nat → Rho → AHeap → Prop)
    (H : It W I wr cnt ItemP src target Is)
    (hturn : ∀ i, i < cnt → ∀ ρ σ, J i ρ σ → src σ ∧ ∀ v σ', Le σ σ' → ItemP i (ab v) σ σ' → T W n env id (assign target env v) (fun _ ρ σ => TS W n env (execs body env) (fun fl ρ σ => match fl with
      | .next | .cont => J (i + 1) ρ σ | .brk => Q .next ρ σ | .ret v => Q (.ret v) ρ σ) ρ σ) ρ σ')
    (hend : ∀ ρ σ, J cnt ρ σ → src σ ∧ TS W n env (execs orelse env) Q ρ σ)
    {F : Addr → Option Obj} {A : Around} {s : Shared} (r : Room n A) (S : St W F env ρ σ s) (hJ : J 0 ρ σ) (hI : Is 0 s.heap) (hw : ∀ b ∈ wr, F b = none ∧ b ≠ env.locals ∧ ∀ x, env.cells.lookup x ≠ some b) (hwσ : ∀ b ∈ wr, σ b = none) :
    codeAny (model W.prog W.w) A (.forLoop target (.ref I) body orelse env) (fun r s' => match r with | .ok f => Po W F env (Q (abf f)) s' | .error e => False) s := by
  let Inv : Nat → Shared → Prop := fun k s => ∃ i ρ σ, k = cnt - i ∧ i ≤ cnt ∧ J i ρ σ ∧ St W F env ρ σ s ∧ Is i s.heap ∧ ∀ b ∈ wr, σ b = none
  refine codeAny_forLoop_any (I := Inv) (fun k s => ?_) cnt ⟨0, ρ, σ, by omega, Nat.zero_le _, hJ, S, hI, hwσ⟩
  rintro ⟨i, ρ, σ, rfl, hi, hJ, S, hI, hwσ⟩
  by_cases hlt : i < cnt
  · obtain ⟨hs, ht⟩ := hturn i hlt ρ σ hJ
    refine H.item i A s F σ _ _ r.1 S.sh hs hwσ hlt hI fun v s₁ hgo => ?_
    refine hgo _ _ fun h' tk σ' le hP hp hd hI' hk => ?_
    have hwσ' : ∀ b ∈ wr, σ' b = none := fun b hb => hd b (hwσ b hb) (H.alive i _ hI b hb)
    have S₁ : St W F env ρ σ' { s with heap := h', toks := tk } := S.moveW hw (fun a o ha e _ => hk a o ha e) hp fun a _ => hd a
    have fin : ∀ {ρ₂ σ₂ s₂}, St W (hold F wr h') env ρ₂ σ₂ s₂ → St W F env ρ₂ σ₂ s₂ ∧ Is (i + 1) s₂.heap ∧ ∀ b ∈ wr, σ₂ b = none := by
      intro ρ₂ σ₂ s₂ S₂
      have g : ∀ b ∈ wr, ∀ o, h'.get? b = some o → s₂.heap.get? b = some o ∧ σ₂ b = none := fun b hb o e => S₂.sh.fr b o (by rw [hold_in hb]; exact e)
      refine ⟨S₂.unhold hw S₁.sh.base, H.keep _ _ _ hI' fun b hb o e => (g b hb o e).1, fun b hb => ?_⟩
      cases e : h'.get? b with
      | none => exact absurd e (H.alive _ _ hI' b hb)
      | some o => exact (g b hb o e).2
    refine wpAny_mono (ht v σ' le hP _ A _ r (S₁.hold hw hwσ')) (fun _ s₂ ⟨ρ₂, σ₂, q, S₂⟩ => ?_) fun _ _ e => e.elim
    refine wpAny_mono (q _ A s₂ r S₂) (fun fl s₃ ⟨ρ₃, σ₃, q, S₃⟩ => ?_) fun _ _ e => e.elim
    obtain ⟨S₄, hI₄, hw₄⟩ := fin S₃
    cases fl with
    | next => exact ⟨cnt - (i + 1), by omega, i + 1, ρ₃, σ₃, rfl, hlt, q, S₄, hI₄, hw₄⟩
    | cont => exact ⟨cnt - (i + 1), by omega, i + 1, ρ₃, σ₃, rfl, hlt, q, S₄, hI₄, hw₄⟩
    | brk => exact ⟨ρ₃, σ₃, q, S₄⟩
    | ret v => exact ⟨ρ₃, σ₃, q, S₄⟩
  · obtain rfl : i = cnt := by omega
    obtain ⟨hs, ht⟩ := hend ρ σ hJ
    refine H.done A s F σ _ _ r.1 S.sh hs hI fun h' tk hk => ?_
    have S₁ : St W F env ρ σ { s with heap := h', toks := tk } := S.moveW hw (fun a o ha e _ => hk a o ha e) (fun a o e => (S.sh.hp a o e).move fun co hc => hk a co (fun q => by rw [hwσ a q] at e; cases e) hc) fun _ _ e _ => e
    exact wpAny_mono (ht F A _ r S₁) (fun fl s₂ q => q) fun _ _ e => e.elim
end

section
variable {W : Wd} {n : Nat} {env : Env} {ρ : Rho} {σ : AHeap}

/-! what is walked over -/
def AHeap.drop (σ : AHeap) (wr : List Addr) : AHeap := fun a => if a ∈ wr then none else σ a
theorem drop_nil : σ.drop [] = σ := by funext a; unfold AHeap.drop; rw [if_neg (by simp)]
def Iter (W : Wd) (v : AV) (wr₀ : List Addr) (σ : AHeap) (cnt : Nat) (ItemP : Nat → AV → AHeap → AHeap → Prop) (src : AHeap → Prop) (target : Expr) : Prop :=
  (∀ b ∈ wr₀, ∃ o, σ b = some (.raw o)) ∧ ∀ A s Φ (E : Value → Shared → Prop) (Q : Value → Shared → Prop), A.handled = none → SH W Φ σ s →
   (∀ I wr Is h' tk, (∀ b ∈ wr, b ∈ wr₀ ∨ s.heap.get? b = none) → It W I wr cnt ItemP src target Is → Is 0 h' → (∀ b o, s.heap.get? b = some o → h'.get? b = some o) → Q (.ref I) { s with heap := h', toks := tk }) →
   ∀ x, ab x = v → wpAny (model W.prog W.w) A (pyIter x) Q E s

theorem St.drop {F : Addr → Option Obj} {s : Shared} (S : St W F env ρ σ s) (wr : List Addr) : St W F env ρ (σ.drop wr) s := by
  have le : ∀ a o, (σ.drop wr) a = some o → σ a = some o := fun a o e => by
    unfold AHeap.drop at e; split at e
    · cases e
    · exact e
  have no : ∀ a, σ a = none → (σ.drop wr) a = none := fun a e => by unfold AHeap.drop; split; exact rfl; exact e
  exact ⟨⟨fun a o e => ⟨(S.sh.fr a o e).1, no a (S.sh.fr a o e).2⟩, S.sh.base, fun a o e => S.sh.hp a o (le a o e), S.sh.same⟩, S.vs, S.frO, no _ S.offL, fun x c e => no _ (S.offC x c e)⟩

inductive ForAsk (W : Wd) (n : Nat) (env : Env) (target : Expr) (body orelse : List Stmt) (Q : AFlow → Rho → AHeap → Prop) (v : AV) (ρ : Rho) (σ : AHeap) : Prop
  | mk (wr₀ : List Addr) (cnt : Nat) (ItemP : Nat → AV → AHeap → AHeap → Prop) (src : AHeap → Prop) (J : Nat → Rho → AHeap → Prop) (hI : Iter W v wr₀ σ cnt ItemP src target) (hJ : J 0 ρ (σ.drop wr₀))
      (ht : ∀ i, i < cnt → ∀ ρ σ, J i ρ σ → src σ ∧ ∀ v σ', Le σ σ' → ItemP i (ab v) σ σ' → T W n env id (assign target env v) (fun _ ρ σ => TS W n env (execs body env) (fun fl ρ σ => match fl with
        | .next | .cont => J (i + 1) ρ σ | .brk => Q .next ρ σ | .ret v => Q (.ret v) ρ σ) ρ σ) ρ σ')
      (he : ∀ ρ σ, J cnt ρ σ → src σ ∧ TS W n env (execs orelse env) Q ρ σ) : ForAsk W n env target body orelse Q v ρ σ
theorem S_For {target iter : Expr} {body orelse : List Stmt} {pos : Pos} {Q : AFlow → Rho → AHeap → Prop} (hfold : ∀ x, foldedSetIterable iter env x = pure x)
    (h : T W n env ab (eval iter env) (ForAsk W n env target body orelse Q) ρ σ) : TS W n env (exec (.For target iter body orelse pos) env) Q ρ σ := fun F A s r S => by
  refine wpAny_For (wpAny_mono (h F A s r S) (fun x s₁ ⟨ρ₁, σ₁, qq, S₁⟩ => ?_) fun _ _ e => e) hfold
  obtain ⟨wr₀, cnt, ItemP, src, J, hI, hJ, hturn, hend⟩ := qq
  refine hI.2 A s₁ F _ _ r.1 S₁.sh (fun I wr Is h' tk hwr H hIs hk => ?_) x rfl
  have none_raw : ∀ b ∈ wr, F b = none ∧ b ≠ env.locals ∧ ∀ x, env.cells.lookup x ≠ some b := fun b hb => by
    rcases hwr b hb with q | q
    · obtain ⟨o, ho⟩ := hI.1 b q
      refine ⟨?_, fun e => ?_, fun x e => ?_⟩
      · cases e : F b with
        | none => rfl
        | some o' => have := (S₁.sh.fr b o' e).2; rw [ho] at this; cases this
      · rw [e, S₁.offL] at ho; cases ho
      · rw [S₁.offC x b e] at ho; cases ho
    · refine ⟨?_, fun e => S₁.vs.locSome (e ▸ q), fun x e => S₁.vs.cellSome e q⟩
      cases e : F b with
      | none => rfl
      | some o' => have := (S₁.sh.fr b o' e).1; rw [q] at this; cases this
  have S₂ : St W F env ρ₁ (σ₁.drop wr₀) { s₁ with heap := h', toks := tk } := (S₁.ext tk hk).drop wr₀
  refine codeAny_mono (forLoop_rule J H hturn hend r S₂ hJ hIs none_raw fun b hb => ?_) fun rr s' q => ?_
  · unfold AHeap.drop
    rcases hwr b hb with q | q
    · rw [if_pos q]
    · split
      · rfl
      · exact St.none_of S₁.sh q
  · cases rr with
    | ok f => exact q
    | error e => exact q.elim

/-! the kinds of what is walked over -/
theorem it_plain {I : Addr} {cnt : Nat} {ItemP : Nat → AV → Prop} {src : AHeap → Prop} {x : Str} {px : Pos} {Is : Nat → Heap → Prop}
    (keep : ∀ i h h', Is i h → (∀ o, h.get? I = some o → h'.get? I = some o) → Is i h')
    (item : ∀ i A s Φ (σ : AHeap) (E : Value → Shared → Prop) (Q : Option Value → Shared → Prop), A.handled = none → SH W Φ σ s → src σ → i < cnt → Is i s.heap →
      (∀ v h' tk, ItemP i (ab v) → Is (i + 1) h' → Heap.ExtBut I s.heap h' → Q (some v) { s with heap := h', toks := tk }) → wpAny (model W.prog W.w) A (pyNext (.ref I)) Q E s)
    (done : ∀ A s Φ (σ : AHeap) (E : Value → Shared → Prop) (Q : Option Value → Shared → Prop), A.handled = none → SH W Φ σ s → src σ → Is cnt s.heap →
      (∀ h' tk, Heap.ExtBut I s.heap h' → Q none { s with heap := h', toks := tk }) → wpAny (model W.prog W.w) A (pyNext (.ref I)) Q E s)
    (self : ∀ i A (s : Shared) (E : Value → Shared → Prop) (Q : Value → Shared → Prop), Is i s.heap → Q (.ref I) s → wpAny (model W.prog W.w) A (pyIter (.ref I)) Q E s)
    (alive : ∀ i h, Is i h → h.get? I ≠ none) : It W I [I] cnt (fun i v σ σ' => ItemP i v ∧ σ' = σ) src (.Name x px) Is where
  keep := fun i h h' a k => keep i h h' a fun o e => k I (by simp) o e
  item := fun i A s Φ σ E Q hh S hs hwσ hi hI k => item i A s Φ σ E Q hh S hs hi hI fun v h' tk hP hI' hx => by
    refine k v _ fun E Q₂ q => ?_
    refine wpAny_of_eq (rfl : letOwnedTupleGo (.Name x px) (.ref I) v = pure ()) ((q h' tk σ (fun _ _ e => e) ⟨hP, rfl⟩ (fun a o e => (S.hp a o e).move fun co hc => hx a co (fun q => by
      have := hwσ I (by simp); rw [← q, e] at this; cases this) hc) (fun _ e _ => e) hI' fun b o hb e => hx b o (fun q => hb (by simp [q])) e))
  done := fun A s Φ σ E Q hh S hs hI k => done A s Φ σ E Q hh S hs hI fun h' tk hx => k h' tk fun b o hb e => hx b o (fun q => hb (by simp [q])) e
  self := self
  alive := fun i h a b hb => by rw [List.mem_singleton.mp hb]; exact alive i h a

theorem iter_list {x : Str} {px : Pos} {a : Addr} {vs : List AV} (hl : σ a = some (.list vs)) : Iter W (.ref a) [] σ vs.length (fun i v σ σ' => vs[i]? = some v ∧ σ' = σ) (fun σ => σ a = some (.list vs)) (.Name x px) := by
  refine ⟨fun _ h => (nomatch h), fun A s Φ E Q hh S k v ev => ?_⟩
  obtain rfl := ab_ref ev
  obtain ⟨us, hu, _⟩ := (S.hp _ _ hl).listE
  refine wpAny_pyIter_list hu (k s.heap.objs.size [s.heap.objs.size] (fun i h => h.IsListIter s.heap.objs.size a i) _ s.toks (fun b hb => .inr (by rw [List.mem_singleton.mp hb]; exact size_none)) ?_ ⟨_, Heap.get?_push_size _ rfl, rfl, rfl⟩ fun b o e => Heap.get?_push_of_some _ e)
  refine it_plain (fun i h h' ⟨o, ho, r⟩ k => ⟨o, k o ho, r⟩) (fun i A s Φ σ E Q hh S hs hi hI k => ?_) (fun A s Φ σ E Q hh S hs hI k => ?_) (fun i A s E Q hI q => wpAny_pyIter_listiter hI q) (fun i h ⟨o, ho, r⟩ => by rw [ho]; simp)
  · obtain ⟨us, hu, e⟩ := (S.hp _ _ hs).listE
    have hl : us.length = vs.length := by rw [← e, List.length_map]
    refine wpAny_pyNext_list_item hI hu (x := us[i]'(by omega)) (by simp) fun h' hI' hs' => k _ h' _ ?_ hI' hs'.extBut
    have := congrArg (fun l => l[i]?) e
    simp only [List.getElem?_map] at this
    rw [← this, List.getElem?_eq_getElem (by omega)]; rfl
  · obtain ⟨us, hu, e⟩ := (S.hp _ _ hs).listE
    have hl : us.length = vs.length := by rw [← e, List.length_map]
    exact wpAny_pyNext_list_end hh hI hu (by simp; omega) fun h' he => k h' _ he
theorem iter_tup {x : Str} {px : Pos} {a : Addr} {vs : List AV} (hl : σ a = some (.tup vs)) : Iter W (.ref a) [] σ vs.length (fun i v σ σ' => vs[i]? = some v ∧ σ' = σ) (fun σ => σ a = some (.tup vs)) (.Name x px) := by
  refine ⟨fun _ h => (nomatch h), fun A s Φ E Q hh S k v ev => ?_⟩
  obtain rfl := ab_ref ev
  obtain ⟨us, hu, _⟩ := (S.hp _ _ hl).tupE
  refine wpAny_pyIter_tuple hu (k s.heap.objs.size [s.heap.objs.size] (fun i h => h.IsTupleIter s.heap.objs.size a i) _ s.toks (fun b hb => .inr (by rw [List.mem_singleton.mp hb]; exact size_none)) ?_ ⟨_, Heap.get?_push_size _ rfl, rfl, rfl⟩ fun b o e => Heap.get?_push_of_some _ e)
  refine it_plain (fun i h h' ⟨o, ho, r⟩ k => ⟨o, k o ho, r⟩) (fun i A s Φ σ E Q hh S hs hi hI k => ?_) (fun A s Φ σ E Q hh S hs hI k => ?_) (fun i A s E Q hI q => wpAny_pyIter_tupleiter hI q) (fun i h ⟨o, ho, r⟩ => by rw [ho]; simp)
  · obtain ⟨us, hu, e⟩ := (S.hp _ _ hs).tupE
    have hl : us.length = vs.length := by rw [← e, List.length_map]
    refine wpAny_pyNext_tuple_item hI hu (x := us[i]'(by omega)) (by simp) fun h' hI' hs' => k _ h' _ ?_ hI' hs'.extBut
    have := congrArg (fun l => l[i]?) e
    simp only [List.getElem?_map] at this
    rw [← this, List.getElem?_eq_getElem (by omega)]; rfl
  · obtain ⟨us, hu, e⟩ := (S.hp _ _ hs).tupE
    have hl : us.length = vs.length := by rw [← e, List.length_map]
    exact wpAny_pyNext_tuple_end hh hI hu (by simp; omega) fun h' he => k h' _ he
/-- keys of a dict; its values may change -/
theorem iter_dict {x : Str} {px : Pos} {d : Addr} {g : Tag} {kvs : List (Key × AV)} {ep : Nat} (hd : σ d = some (.dict g kvs ep)) :
    Iter W (.ref d) [] σ kvs.length (fun i v σ σ' => (∃ k u, kvs[i]? = some (k, u) ∧ v = k.av) ∧ σ' = σ) (fun σ => ∃ g kvs', σ d = some (.dict g kvs' ep) ∧ kvs'.map (·.1) = kvs.map (·.1)) (.Name x px) := by
  refine ⟨fun _ h => (nomatch h), fun A s Φ E Q hh S k v ev => ?_⟩
  obtain rfl := ab_ref ev
  obtain ⟨ks, hu, e0⟩ := (S.hp _ _ hd).dictE
  have hlen : ks.length = kvs.length := by rw [← e0, List.length_map]
  refine wpAny_pyIter_dict (not_sys S hd) hu (k s.heap.objs.size [s.heap.objs.size] (fun i h => h.IsKeyIter s.heap.objs.size d i kvs.length ep) _ s.toks (fun b hb => .inr (by rw [List.mem_singleton.mp hb]; exact size_none)) ?_ ⟨_, Heap.get?_push_size _ rfl, rfl, by rw [← hlen]; rfl⟩ fun b o e => Heap.get?_push_of_some _ e)
  refine it_plain (fun i h h' ⟨o, ho, r⟩ k => ⟨o, k o ho, r⟩) (fun i A s Φ σ E Q hh S hs hi hI k => ?_) (fun A s Φ σ E Q hh S hs hI k => ?_) (fun i A s E Q hI q => wpAny_pyIter_keyiter hI q) (fun i h ⟨o, ho, r⟩ => by rw [ho]; simp)
  · obtain ⟨g', kvs', hs, hkeys⟩ := hs
    obtain ⟨ks, hu, e⟩ := (S.hp _ _ hs).dictE
    have hl : ks.length = kvs.length := by have := congrArg List.length hkeys; rw [← e] at this; simpa using this
    have hi' : ks[i]? = some ((ks[i]'(by omega)).1, (ks[i]'(by omega)).2) := by rw [List.getElem?_eq_getElem (by omega)]
    refine wpAny_pyNext_dict_item (hl ▸ hI) hu hi' fun key h' hk hI' hs' => k key h' _ ⟨_, (kvs[i]'hi).2, ?_, kIs_av hk⟩ (hl ▸ hI') hs'.extBut
    have h1 := congrArg (fun l => l[i]?) hkeys
    simp only [← e, List.map_map, List.getElem?_map] at h1
    rw [List.getElem?_eq_getElem (by omega), List.getElem?_eq_getElem hi] at h1
    rw [List.getElem?_eq_getElem hi]
    simp only [Option.map_some, Option.some.injEq, Function.comp] at h1
    rw [h1]
  · obtain ⟨g', kvs', hs, hkeys⟩ := hs
    obtain ⟨ks, hu, e⟩ := (S.hp _ _ hs).dictE
    have hl : ks.length = kvs.length := by have := congrArg List.length hkeys; rw [← e] at this; simpa using this
    exact wpAny_pyNext_dict_end hh (hl ▸ hI) hu (by simp) fun h' he => k h' _ he

/-! range -/
def rngO (a b : Int) (t u v : Tok) : Obj := { cls := .type "range", data := .fields #[.int a t, .int b u, .int 1 v] }
theorem rsize1 {a b : Int} (hab : a ≤ b) : Builtin.Range.rangeSize a b 1 = b - a := by
  unfold Builtin.Range.rangeSize
  rw [if_pos (by decide), Int.ediv_one]
  split <;> omega
theorem small1 {a b : Int} (ha : -1000 ≤ a) (hb : b ≤ 1000) (hab : a ≤ b) : Builtin.Range.small a b 1 = true := by
  unfold Builtin.Range.small
  rw [rsize1 hab]
  unfold Builtin.Range.rangeFitsLong
  simp only [Bool.and_eq_true, Bool.or_eq_true, decide_eq_true_eq, beq_iff_eq]
  refine ⟨⟨⟨⟨by omega, by omega⟩, by omega⟩, by omega⟩, .inr ?_⟩
  rw [if_pos (by decide)]
  simp only [Bool.and_eq_true, decide_eq_true_eq]
  omega
theorem iter_range {x : Str} {px : Pos} {r : Addr} {a b : Nat} {t u v₀ : Tok} (hr : σ r = some (.raw (rngO a b t u v₀))) (ha : a ≤ 1000) (hb : b ≤ 1000) (hab : a ≤ b) :
    Iter W (.ref r) [] σ (b - a) (fun i v σ σ' => v = .int (a + i) ∧ σ' = σ) (fun _ => True) (.Name x px) := by
  refine ⟨fun _ h => (nomatch h), fun A s Φ E Q hh S k vx ev => ?_⟩
  obtain rfl := ab_ref ev
  have hr' : s.heap.get? r = some (rngO a b t u v₀) := by cases S.hp _ _ hr with | raw o h => exact h
  refine wpAny_pyIter_range (a := a) (b := b) (c := 1) hr' (small1 (by omega) (by omega) (by omega)) (k s.heap.objs.size [s.heap.objs.size] (fun i h => IsRangeIter h s.heap.objs.size ((a : Int) + (i : Nat) * 1) (((b - a : Nat) : Int) - (i : Nat)) 1) _ s.toks (fun b hb => .inr (by rw [List.mem_singleton.mp hb]; exact size_none)) ?_ ?_ fun b o e => Heap.get?_push_of_some _ e)
  · have Wk := fun (A : Around) (hh : A.handled = none) => Walks.range (prog := W.prog) (w := W.w) hh s.heap.objs.size a 1 (b - a)
    refine it_plain (fun i h h' ho k => k _ ho) (fun i A s Φ σ E Q hh S hs hi hI k => ?_) (fun A s Φ σ E Q hh S hs hI k => ?_) (fun i A s E Q hI q => wpAny_pyIter_rangeiter hI q) (fun i h ho => by rw [ho]; simp)
    · refine (Wk A hh).item i s Q E hi hI fun v h' tk hv hI' hk => k v h' tk ?_ hI' fun b o hb e => hk b o (by simpa using hb) e
      obtain ⟨t, rfl⟩ := hv
      show AV.int _ = _
      rw [Int.mul_one]
    · exact (Wk A hh).done s Q E hI fun h' tk hk => k h' tk fun b o hb e => hk b o (by simpa using hb) e
  · show (s.heap.push _).get? s.heap.objs.size = _
    rw [Heap.get?_push_size _ rfl]
    rw [rsize1 (by omega), show ((b : Int) - (a : Int)) = ((b - a : Nat) : Int) by omega]
    simp
theorem L_range1 {b : Int} {Q : AV → Rho → AHeap → Prop} (h : ∀ t u v, New σ (.raw (rngO 0 b t u v)) (fun v σ' => Q v ρ σ')) :
    ∀ ws : List Value, ws.map ab = [.int b] → T W n env ab (PySem.call (.type "range") ws) Q ρ σ := fun ws e Φ A s r S => by
  obtain ⟨x, rfl, ex⟩ := map_one e
  obtain ⟨t, rfl⟩ := ab_int ex
  exact call_range_1 (new_at S (fun b o e => Heap.get?_push_of_some _ e) size_none (.raw _ (Heap.get?_push_size _ rfl)) (h _ _ _))
theorem L_range2 {a b : Int} {Q : AV → Rho → AHeap → Prop} (h : ∀ t u v, New σ (.raw (rngO a b t u v)) (fun v σ' => Q v ρ σ')) :
    ∀ ws : List Value, ws.map ab = [.int a, .int b] → T W n env ab (PySem.call (.type "range") ws) Q ρ σ := fun ws e Φ A s r S => by
  obtain ⟨x, y, rfl, ex, ey⟩ := map_two e
  obtain ⟨t, rfl⟩ := ab_int ex
  obtain ⟨u, rfl⟩ := ab_int ey
  exact call_range_2 (new_at S (fun b o e => Heap.get?_push_of_some _ e) size_none (.raw _ (Heap.get?_push_size _ rfl)) (h _ _ _))

/-! while -/
theorem S_While {test : Expr} {body orelse : List Stmt} {pos : Pos} {Q : AFlow → Rho → AHeap → Prop} (J : Nat → Rho → AHeap → Prop) (k₀ : Nat)
    (hJ : J k₀ ρ σ)
    (h : ∀ k ρ σ, J k ρ σ → T W n env id (isTrue test env (eval test env)) (fun b ρ σ => (b = true → TS W n env (execs body env) (fun fl ρ σ => match fl with
        | .next | .cont => ∃ m, m < k ∧ J m ρ σ | .brk => Q .next ρ σ | .ret v => Q (.ret v) ρ σ) ρ σ) ∧ (b = false → TS W n env (execs orelse env) Q ρ σ)) ρ σ) :
    TS W n env (exec (.While test body orelse pos) env) Q ρ σ := fun F A s r S => by
  refine wpAny_While ?_
  refine codeAny_mono (codeAny_whileLoop (R := fun r s' => match r with | .ok f => Po W F env (Q (abf f)) s' | .error e => False) (fun k s => ∃ ρ σ, J k ρ σ ∧ St W F env ρ σ s) (fun k s ⟨ρ, σ, hJ, S⟩ => ?_) k₀ ⟨ρ, σ, hJ, S⟩) fun rr s' q => ?_
  · refine wpAny_mono (h k ρ σ hJ F A s r S) (fun b s₁ ⟨ρ₁, σ₁, q, S₁⟩ => ?_) fun _ _ e => e.elim
    cases b with
    | true =>
      refine wpAny_mono (q.1 rfl F A s₁ r S₁) (fun fl s₂ ⟨ρ₂, σ₂, q, S₂⟩ => ?_) fun _ _ e => e.elim
      cases fl with
      | next => obtain ⟨m, hm, hJ⟩ := q; exact ⟨m, hm, ρ₂, σ₂, hJ, S₂⟩
      | cont => obtain ⟨m, hm, hJ⟩ := q; exact ⟨m, hm, ρ₂, σ₂, hJ, S₂⟩
      | brk => exact ⟨ρ₂, σ₂, q, S₂⟩
      | ret v => exact ⟨ρ₂, σ₂, q, S₂⟩
    | false => exact wpAny_mono (q.2 rfl F A s₁ r S₁) (fun fl s₂ q => q) fun _ _ e => e.elim
  · cases rr with
    | ok f => exact q
    | error e => exact q.elim
end

section
variable {W : Wd} {n : Nat} {env : Env} {ρ : Rho} {σ : AHeap}

/-! comprehensions -/
abbrev tests (ifs : List Expr) (env : Env) : Sem Bool := forIn ifs true fun c r => if r = true then do let ok ← isTrue c env (eval c env); pure (ForInStep.yield ok) else pure (ForInStep.yield r)
theorem T_tests0 {Q : Bool → Rho → AHeap → Prop} (h : Q true ρ σ) : T W n env id (tests [] env) Q ρ σ := fun F A s r S => wpAny_tests_nil ⟨ρ, σ, h, S⟩
theorem T_tests1 {c : Expr} {Q : Bool → Rho → AHeap → Prop} (h : T W n env id (isTrue c env (eval c env)) Q ρ σ) : T W n env id (tests [c] env) Q ρ σ := fun F A s r S => wpAny_tests_one (h F A s r S)

theorem comp_loop {A : Around} {s : Shared} {elt target iter : Expr} {ifs : List Expr} {scope : Scope} {pos : Pos} {it acc : Value} {env : Env} {R : Result → Shared → Prop} (I : Nat → Shared → Prop)
    (turn : ∀ n s, I n s → wpAny (model W.prog W.w) A (pyNext it) (fun r s₁ => match r with
      | none => R (.ok .next) s₁
      | some v => wpAny (model W.prog W.w) A (letOwnedTupleGo target it v) (fun _ s₀ => wpAny (model W.prog W.w) A (assign target env v) (fun _ s₂ =>
          wpAny (model W.prog W.w) A (tests ifs env) (fun ok s₃ => if ok = true then wpAny (model W.prog W.w) A (eval elt env) (fun x s₄ =>
            wpAny (model W.prog W.w) A (PySem.call (.builtin "list.append") [acc, x]) (fun _ s₅ => ∃ m, m < n ∧ I m s₅) (fun _ _ => False) s₄) (fun _ _ => False) s₃
            else ∃ m, m < n ∧ I m s₃) (fun _ _ => False) s₂) (fun _ _ => False) s₀) (fun _ _ => False) s₁) (fun _ _ => False) s)
    (n : Nat) (h : I n s) : codeAny (model W.prog W.w) A (.compLoop (.ListComp elt [⟨target, iter, ifs, 0⟩] scope pos) 0 it acc env) R s := by
  refine codeAny_loop rfl I (fun n s hI => ?_) n h
  show wpAny _ A ((compTurn (.ListComp elt [⟨target, iter, ifs, 0⟩] scope pos) 0 it acc env).onRaise (fun x => do noteFrame x env; theTreesLotGoes x)) _ _ s
  refine wpAny_noted ?_
  rw [compTurn_list]
  refine wpAny_bind (wpAny_standAt (wpAny_bind (wpAny_mono (turn n s hI) (fun r s₁ h₁ => ?_) fun _ _ h' => h'.elim)))
  cases r with
  | none => exact wpAny_pure h₁
  | some v =>
    refine wpAny_bind (wpAny_mono h₁ (fun _ s₀ h₀' => ?_) fun _ _ h' => h'.elim)
    refine wpAny_bind (wpAny_mono h₀' (fun _ s₂ h₂ => ?_) fun _ _ h' => h'.elim)
    refine wpAny_bind (wpAny_mono h₂ (fun okb s₃ h₃ => ?_) fun _ _ h' => h'.elim)
    cases okb with
    | false => exact wpAny_pure ⟨rfl, h₃⟩
    | true => exact wpAny_bind (wpAny_bind (wpAny_mono h₃ (fun x s₄ h₄ => wpAny_bind (wpAny_mono h₄ (fun _ s₅ h₅ => wpAny_pure (wpAny_pure ⟨rfl, h₅⟩)) fun _ _ h' => h'.elim)) fun _ _ h' => h'.elim))

structure CompOk (env : Env) (scope : Scope) (cl : List (Str × Addr)) (x : Str) : Prop where
  clos : closureFor scope env = pure cl
  kind : scope.kind = .function
  names : ∀ y ∈ scope.names, y.2 = .local → scope.names.lookup y.1 = some .local
  cell : ∀ y ∈ scope.names, y.2 ≠ .cell
  here : scope.names.lookup x = some .local
  sub : ∀ y c, cl.lookup y = some c → env.cells.lookup y = some c
structure CapOk (env : Env) (scope : Scope) (cl : List (Str × Addr)) (ρ ρc : Rho) (x : Str) : Prop where
  cap : ∀ C y u, (y, u) ∈ ρc → (y, u) ∈ ρ ∧ env.kindOf y = some .cell ∧ (compEnvC scope cl C env).kindOf y = some .cell ∧ (cl.lookup y).isSome = true
  xnot : ∀ u, (x, u) ∉ ρc

def rset (ρ : Rho) (x : Str) (v : AV) : Rho := ρ.filter (fun p => decide (p.1 ≠ x)) ++ [(x, v)]
theorem up_filter (x : Str) (v : AV) : ∀ ρ : Rho, Up x v ρ (rset ρ x v)
  | [] => .nil
  | (y, u) :: r => by
    unfold rset
    rw [List.filter_cons]
    by_cases e : y = x
    · subst e; simp only [ne_eq, not_true_eq_false, decide_false, Bool.false_eq_true, if_false]; exact .drop (up_filter y v r)
    · simp only [ne_eq, e, not_false_eq_true, decide_true, if_true]; exact .keep e (up_filter x v r)
theorem T_assignName {x : Str} {px : Pos} {v : Value} {ρ' : Rho} {Q : Unit → Rho → AHeap → Prop} (hs : Sto env x) (hu : Up x (ab v) ρ ρ') (h : Q () ρ' σ) : T W n env id (assign (.Name x px) env v) Q ρ σ :=
  fun F A s r S => wpAny_assign_Name (T_store hs hu h F A s r S)
theorem mem_rset {ρ : Rho} {x y : Str} {u v : AV} (h : (y, u) ∈ ρ) (hne : y ≠ x) : (y, u) ∈ rset ρ x v := List.mem_append_left _ (List.mem_filter.mpr ⟨h, by simpa using hne⟩)

inductive CInv (W : Wd) (Fi : Addr → Option Obj) (cenv : Env) (ρc : Rho) (J : Nat → List AV → AHeap → Prop) (Is : Nat → Heap → Prop) (wr : List Addr) (D : Addr) (cnt : Nat) (k : Nat) (s' : Shared) : Prop
  | mk (i : Nat) (out : List AV) (ρ' : Rho) (σ' : AHeap) (us : List Value) (m : Nat) (e : k = cnt - i) (hi : i ≤ cnt) (hJ : J i out σ') (S' : St W Fi cenv ρ' σ' s') (hρ : ∀ p ∈ ρc, p ∈ ρ') (hI : Is i s'.heap) (hw : ∀ b ∈ wr, σ' b = none) (hD : σ' D = none)
      (hDo : s'.heap.get? D = some ⟨.type "list", none, .seq us.toArray m, #[]⟩) (hus : us.map ab = out) : CInv W Fi cenv ρc J Is wr D cnt k s'
/-- what holds when a comprehension's block has run -/
theorem comp_core {elt iter : Expr} {x : Str} {px : Pos} {ifs : List Expr} {scope : Scope} {cl : List (Str × Addr)} {pos : Pos} {ρc : Rho} {R : AHeap → Value → Addr → Result → Shared → Prop}
    {v : AV} {wr₀ : List Addr} {cnt : Nat} {ItemP : Nat → AV → AHeap → AHeap → Prop} {src : AHeap → Prop} (J : Nat → List AV → AHeap → Prop) (hk : CompOk env scope cl x) (hc : CapOk env scope cl ρ ρc x)
    (hit : Iter W v wr₀ σ cnt ItemP src (.Name x px)) (hJ : J 0 [] (σ.drop wr₀))
    (hturn : ∀ i, i < cnt → ∀ out σ, J i out σ → out.length ≤ 900 ∧ src σ ∧ ∀ v σ' C, Le σ σ' → ItemP i v σ σ' → T W n (compEnvC scope cl C env) id (tests ifs (compEnvC scope cl C env)) (fun ok ρ σ =>
      (ok = true → T W n (compEnvC scope cl C env) ab (eval elt (compEnvC scope cl C env)) (fun y _ σ => J (i + 1) (out ++ [y]) σ) ρ σ) ∧ (ok = false → J (i + 1) out σ)) ((x, v) :: ρc) σ')
    (hend : ∀ out σ, J cnt out σ → src σ)
    {F : Addr → Option Obj} {A : Around} {s : Shared} (r : Room n A) (S : St W F env ρ σ s) (xv : Value) (hxv : ab xv = v)
    (hR : ∀ D C out σ' s', J cnt out σ' → σ' D = none → s.heap.get? D = none → St W F env ρ (σ'.set D (.list out)) s' → F C = none → C ≠ env.locals → (∀ y, env.cells.lookup y ≠ some C) → (σ'.set D (.list out)) C = none → (∃ m, s'.heap.Ns C m) → R σ' (.ref D) C (.ok .next) s') :
    wpAny (model W.prog W.w) A (pyIter xv) (fun it s₂ => wpAny (model W.prog W.w) A (newList []) (fun acc s₃ => wpAny (model W.prog W.w) A (newFunctionEnv scope env.globals cl [] env.qual none .none (some env)) (fun cenv s₄ =>
      codeAny (model W.prog W.w) A (.compStart (.ListComp elt [⟨.Name x px, iter, ifs, 0⟩] scope pos) 0 it acc { cenv with scope := relabel scope env }) (fun r s' => ∃ σ', R σ' acc cenv.locals r s') s₄) (fun _ _ => False) s₃) (fun _ _ => False) s₂) (fun _ _ => False) s := by
  refine hit.2 A s F _ _ r.1 S.sh (fun I wr Is h₁ tk hwr H hIs hk₁ => ?_) xv hxv
  refine wpAny_newObj_type (wpAny_newFunctionEnv hk.cell (by intro y hy; simp at hy) (fun h₂ hns₂ hsb₂ => ?_) hk.kind)
  dsimp only at hns₂ hsb₂ ⊢
  generalize hD : h₁.objs.size = D at hns₂ hsb₂ ⊢
  generalize hH : h₁.push { cls := .type "list", dict := none, data := .seq ([] : List Value).toArray } = H1 at hns₂ hsb₂ ⊢
  generalize hC : H1.objs.size = C at hns₂ hsb₂ ⊢
  have hCD : C = D + 1 := by rw [← hC, ← hH, Heap.size_push, hD]
  have old₁ : ∀ b o, h₁.get? b = some o → h₂.get? b = some o := fun b o e => by
    have hb : @LT.lt Nat _ b D := hD ▸ Heap.lt_size e
    exact hsb₂.extBut b o (by show @Ne Nat b C; omega) (Heap.get?_push_of_some _ (hH ▸ Heap.get?_push_of_some _ e))
  have old : ∀ b o, s.heap.get? b = some o → h₂.get? b = some o := fun b o e => old₁ b o (hk₁ b o e)
  have fresh : ∀ b : Nat, D ≤ b → s.heap.get? b = none := fun b hb => by
    cases e : s.heap.get? b with
    | none => rfl
    | some o =>
      have h1 : @LT.lt Nat _ b h₁.objs.size := Heap.lt_size (hk₁ b o e)
      have h2 : @LE.le Nat _ D b := hb
      omega
  have hacc : h₂.get? D = some ⟨.type "list", none, .seq ([] : List Value).toArray 0, #[]⟩ := by
    refine hsb₂.extBut D _ (by show @Ne Nat D C; omega) (Heap.get?_push_of_some _ ?_)
    rw [← hH, ← hD]; exact Heap.get?_push_size _ rfl
  have ltwr : ∀ b ∈ wr, b < D := fun b hb => by
    have := H.alive 0 h₁ hIs b hb
    cases e : h₁.get? b with
    | none => exact absurd e this
    | some o => exact hD ▸ Heap.lt_size e
  -- the block's frame
  let σ₁ := σ.drop wr₀
  have S₂ : St W F env ρ σ₁ { s with heap := h₂, toks := tk + ([] : List (Str × Value)).length } := (S.ext _ old).drop wr₀
  have wrσ : ∀ b ∈ wr, σ₁ b = none := fun b hb => by
    show (σ.drop wr₀) b = none
    unfold AHeap.drop
    rcases hwr b hb with q | q
    · rw [if_pos q]
    · split
      · rfl
      · exact St.none_of S.sh q
  have wrF : ∀ b ∈ wr, F b = none ∧ b ≠ env.locals ∧ ∀ x, env.cells.lookup x ≠ some b := fun b hb => by
    rcases hwr b hb with q | q
    · obtain ⟨o, ho⟩ := hit.1 b q
      refine ⟨?_, fun e => ?_, fun x e => ?_⟩
      · cases e : F b with
        | none => rfl
        | some o' => have := (S.sh.fr b o' e).2; rw [ho] at this; cases this
      · rw [e, S.offL] at ho; cases ho
      · rw [S.offC x b e] at ho; cases ho
    · refine ⟨?_, fun e => S.vs.locSome (e ▸ q), fun x e => S.vs.cellSome e q⟩
      cases e : F b with
      | none => rfl
      | some o' => have := (S.sh.fr b o' e).1; rw [q] at this; cases this
  have fF : ∀ b : Nat, D ≤ b → F b = none := fun b hb => by
    cases e : F b with
    | none => rfl
    | some o' => have := (S.sh.fr b o' e).1; rw [fresh b hb] at this; cases this
  have fL : ∀ b : Nat, D ≤ b → b ≠ env.locals := fun b hb e => S.vs.locSome (e ▸ fresh b hb)
  have fC : ∀ b : Nat, D ≤ b → ∀ y, env.cells.lookup y ≠ some b := fun b hb y e => S.vs.cellSome e (fresh b hb)
  have fσ : ∀ b : Nat, D ≤ b → σ₁ b = none := fun b hb => by
    show (σ.drop wr₀) b = none
    unfold AHeap.drop
    split
    · rfl
    · exact St.none_of S.sh (fresh b hb)
  let cenv := compEnvC scope cl C env
  let Fi : Addr → Option Obj := fun a => if a ∈ C :: D :: wr then none else Rest σ₁ h₂ a
  have Fi_out : ∀ a, a ∈ C :: D :: wr → Fi a = none := fun a ha => by show (if _ then _ else _) = _; rw [if_pos ha]
  have Fi_in : ∀ a, a ∉ C :: D :: wr → Fi a = Rest σ₁ h₂ a := fun a ha => by show (if _ then _ else _) = _; rw [if_neg ha]
  have notin : ∀ a, s.heap.get? a ≠ none → σ a = none → a ∉ C :: D :: wr := fun a h1 h2 q => by
    rcases List.mem_cons.mp q with rfl | q
    · exact h1 (fresh _ (by omega))
    rcases List.mem_cons.mp q with rfl | q
    · exact h1 (fresh _ (Nat.le_refl _))
    · rcases hwr a q with q | q
      · obtain ⟨o, ho⟩ := hit.1 a q; rw [ho] at h2; cases h2
      · exact h1 q
  have dropn : ∀ a, σ a = none → σ₁ a = none := fun a e => by show (σ.drop wr₀) a = none; unfold AHeap.drop; split; rfl; exact e
  have keepFi : ∀ a o, s.heap.get? a = some o → σ a = none → Fi a = some o := fun a o h1 h2 => by
    rw [Fi_in a (notin a (by rw [h1]; simp) h2), rest_none (dropn a h2)]; exact old a o h1
  have kc : cenv.scope.kind = .function := by show (relabel scope env).kind = _; unfold relabel; exact hk.kind
  have cellIn : ∀ y c, cenv.cells.lookup y = some c → env.cells.lookup y = some c := fun y c e => hk.sub y c e
  have cltC : ∀ y c, cenv.cells.lookup y = some c → c < D := fun y c e => by
    have := S.vs.cellSome (cellIn y c e)
    rcases Nat.lt_or_ge c D with q | q
    · exact q
    · exact absurd (fresh c q) this
  have Si : St W Fi cenv ρc σ₁ { s with heap := h₂, toks := tk + ([] : List (Str × Value)).length } := by
    refine ⟨⟨fun a o e => ?_, fun a o e => ?_, S₂.sh.hp, S₂.sh.same⟩, ⟨kc, ⟨_, hns₂, fun y u hy => ?_⟩, fun y c e => ?_, fun y z c e1 e2 => S.vs.apart y z c (cellIn y c e1) (cellIn z c e2), fun y c e q => ?_⟩, fun a ha => ?_, fσ C (by omega), fun y c e => ?_⟩
    · by_cases q : a ∈ C :: D :: wr
      · rw [Fi_out a q] at e; cases e
      · rw [Fi_in a q] at e; exact rest_of e
    · have := S.sh.fr a o (S.sh.base a o e); exact keepFi a o this.1 this.2
    · obtain ⟨h1, h2, h3, h4⟩ := hc.cap C y u hy
      obtain ⟨c, hc⟩ := Option.isSome_iff_exists.mp h4
      obtain ⟨m, hm, hv⟩ := S.vs.ns
      rcases hv y u h1 with ⟨q, _⟩ | ⟨_, c', v', e, hcell, e'⟩
      · rw [h2] at q; cases q
      · rw [hk.sub y c hc] at e; cases e
        exact .inr ⟨h3, c, v', hc, hcell.keeps old, e'⟩
    · obtain ⟨v', hv'⟩ := S.vs.cells y c (cellIn y c e); exact ⟨v', hv'.keeps old⟩
    · have h1 : @LT.lt Nat _ c D := cltC y c e
      have q' : @Eq Nat c C := q
      omega
    · have : a = C := by
        rcases ha with e | ⟨hlt, y, e⟩
        · exact e
        · have h1 : @LT.lt Nat _ a D := cltC y a e
          have hlt' : @LT.lt Nat _ C a := hlt
          omega
      exact Fi_out a (by rw [this]; simp)
    · exact dropn c (S.offC y c (cellIn y c e))
  -- the loop
  have apart : Apart Fi cenv (D :: wr) := fun b hb => by
    refine ⟨Fi_out b (List.mem_cons_of_mem _ hb), fun e => ?_, fun y e => ?_⟩
    · have e' : @Eq Nat b C := e
      rcases List.mem_cons.mp hb with q | q
      · have q' : @Eq Nat b D := q
        omega
      · have h1 : @LT.lt Nat _ b D := ltwr b q
        omega
    · rcases List.mem_cons.mp hb with q | q
      · have h1 : @LT.lt Nat _ b D := cltC y _ e
        have q' : @Eq Nat b D := q
        omega
      · exact (wrF b q).2.2 y (cellIn y b e)
  have apartW : Apart Fi cenv wr := fun b hb => apart b (List.mem_cons_of_mem _ hb)
  have DwrN : D ∉ wr := fun q => Nat.lt_irrefl _ (ltwr D q)
  have loop : codeAny (model W.prog W.w) A (.compLoop (.ListComp elt [⟨.Name x px, iter, ifs, 0⟩] scope pos) 0 (.ref I) (.ref D) cenv) (fun r s' => ∃ σ', R σ' (.ref D) C r s') { s with heap := h₂, toks := tk + ([] : List (Str × Value)).length } := by
    refine comp_loop (I := CInv W Fi cenv ρc J Is wr D cnt) (fun k s' => ?_) cnt ⟨0, [], ρc, σ₁, [], 0, by omega, Nat.zero_le _, hJ, Si, fun _ h => h, H.keep 0 h₁ h₂ hIs fun b _ o e => old₁ b o e, wrσ, fσ D (Nat.le_refl _), hacc, rfl⟩
    rintro ⟨i, out, ρ', σ', us, m, rfl, hi, hJ, S', hρ, hI, hwσ, hDσ, hDo, hus⟩
    have hxk : Sto cenv x := .inl (lookup_relabel_local hk.here)
    by_cases hlt : i < cnt
    · obtain ⟨hlen, hs, ht⟩ := hturn i hlt out σ' hJ
      refine H.item i A s' Fi σ' _ _ r.1 S'.sh hs hwσ hlt hI fun v s₁ hgo => ?_
      refine hgo _ _ fun h' tk' σ₂ le hP hp hd hI' hk' => ?_
      have hwσ₂ : ∀ b ∈ D :: wr, σ₂ b = none := fun b hb => by
        rcases List.mem_cons.mp hb with rfl | q
        · exact hd _ hDσ (by rw [hDo]; simp)
        · exact hd b (hwσ b q) (H.alive i _ hI b q)
      have S₁ : St W Fi cenv ρ' σ₂ { s' with heap := h', toks := tk' } := S'.moveW apartW (fun a o ha e _ => hk' a o ha e) hp fun a _ => hd a
      have hDo' : h'.get? D = some ⟨.type "list", none, .seq us.toArray m, #[]⟩ := hk' D _ DwrN hDo
      have S₁' : St W (hold Fi (D :: wr) h') cenv ρ' σ₂ { s' with heap := h', toks := tk' } := S₁.hold apart hwσ₂
      refine wpAny_mono (T_assignName (W := W) (n := n) (Q := fun _ ρ'' σ'' => ρ'' = rset ρ' x (ab v) ∧ σ'' = σ₂) hxk (up_filter x (ab v) ρ') ⟨rfl, rfl⟩ _ A _ r S₁') (fun _ s₃ ⟨ρ₃, σ₃, ⟨e1, e2⟩, S₃⟩ => ?_) fun _ _ e => e.elim
      subst e1 e2
      have fin : ∀ {ρ₄ σ₄ s₄}, St W (hold Fi (D :: wr) h') cenv ρ₄ σ₄ s₄ → St W Fi cenv ρ₄ σ₄ s₄ ∧ Is (i + 1) s₄.heap ∧ (∀ b ∈ wr, σ₄ b = none) ∧ σ₄ D = none ∧ s₄.heap.get? D = some ⟨.type "list", none, .seq us.toArray m, #[]⟩ := by
        intro ρ₄ σ₄ s₄ S₄
        have g : ∀ b ∈ D :: wr, ∀ o, h'.get? b = some o → s₄.heap.get? b = some o ∧ σ₄ b = none := fun b hb o e => S₄.sh.fr b o (by rw [hold_in hb]; exact e)
        refine ⟨S₄.unhold apart Si.sh.base, H.keep _ _ _ hI' fun b hb o e => (g b (List.mem_cons_of_mem _ hb) o e).1, fun b hb => ?_, (g D List.mem_cons_self _ hDo').2, (g D List.mem_cons_self _ hDo').1⟩
        cases e : h'.get? b with
        | none => exact absurd e (H.alive _ _ hI' b hb)
        | some o => exact (g b (List.mem_cons_of_mem _ hb) o e).2
      have sub : ∀ p ∈ (x, ab v) :: ρc, p ∈ rset ρ' x (ab v) := fun p hp => by
        rcases List.mem_cons.mp hp with rfl | q
        · exact List.mem_append_right _ List.mem_cons_self
        · exact mem_rset (hρ p q) fun e => hc.xnot p.2 (e ▸ q)
      have Vc : ∀ {ρ₄ σ₄ s₄}, St W Fi cenv ρ₄ σ₄ s₄ → St W Fi cenv ρc σ₄ s₄ := by
        intro ρ₄ σ₄ s₄ S₄
        refine ⟨S₄.sh, ⟨S₄.vs.kind, ?_, S₄.vs.cells, S₄.vs.apart, S₄.vs.offL⟩, S₄.frO, S₄.offL, S₄.offC⟩
        obtain ⟨m₄, hm₄, _⟩ := S₄.vs.ns
        refine ⟨m₄, hm₄, fun y u hy => .inr ?_⟩
        obtain ⟨m₀, hm₀, hv₀⟩ := Si.vs.ns
        rcases hv₀ y u hy with ⟨q, _⟩ | ⟨q, c, v', e, hcell, e'⟩
        · have := (hc.cap C y u hy).2.2.1
          rw [show cenv.kindOf y = _ from this] at q; cases q
        · refine ⟨q, c, v', e, ?_, e'⟩
          obtain ⟨o, ho, hd⟩ := hcell
          have hs : s.heap.get? c ≠ none := S.vs.cellSome (cellIn y c e)
          cases e₀ : s.heap.get? c with
          | none => exact absurd e₀ hs
          | some o' =>
            have h1 := old c o' e₀
            have h2 := S₄.sh.fr c o' (keepFi c o' e₀ (S.offC y c (cellIn y c e)))
            rw [show h₂.get? c = some o from ho] at h1; cases h1
            exact ⟨o, h2.1, hd⟩
      refine wpAny_mono (T.weak sub (ht (ab v) _ C le hP) _ A s₃ r S₃) (fun ok s₄ ⟨ρ₄, σ₄, q, S₄⟩ => ?_) fun _ _ e => e.elim
      cases ok with
      | false =>
        rw [if_neg (by decide)]
        obtain ⟨S₅, hI₅, hw₅, hD₅, hDo₅⟩ := fin S₄
        exact ⟨cnt - (i + 1), by omega, i + 1, out, ρc, σ₄, us, m, rfl, hlt, q.2 rfl, Vc S₅, fun _ h => h, hI₅, hw₅, hD₅, hDo₅, hus⟩
      | true =>
        rw [if_pos rfl]
        refine wpAny_mono (q.1 rfl _ A s₄ r S₄) (fun y s₅ ⟨ρ₅, σ₅, q, S₅⟩ => ?_) fun _ _ e => e.elim
        obtain ⟨S₆, hI₆, hw₆, hD₆, hDo₆⟩ := fin S₅
        have hz : us.toArray.size ≤ sizeLine := by
          rw [List.size_toArray, ← List.length_map ab, hus]; exact line1000 (by omega)
        refine call_meets PySem.F.slot_list_append ⟨_, hDo₆, rfl⟩ PySem.F.entry_list_append (PySem.F.args_list_append_2 _ _) (list_append D _ m y hz) ⟨hDo₆, ?_⟩
        have hDn := IsL.update (h := s₅.heap) (l := D) (n := m) hDo₆ (·.push y)
        have oth : ∀ b o, b ≠ D → s₅.heap.get? b = some o → (s₅.heap.update D (Obj.mapSeq (·.push y))).get? b = some o := fun b o hb e => (Heap.get?_update_other _ _ (Ne.symm hb)).trans e
        have S₇ : St W Fi cenv ρc σ₅ { s₅ with heap := s₅.heap.update D (Obj.mapSeq (·.push y)) } :=
          St.moveW (wr := [D]) (Vc S₆) (fun b hb => by rw [List.mem_singleton.mp hb]; exact apart D List.mem_cons_self) (fun a o ha e _ => oth a o (by simpa using ha) e)
            (fun a o e => (S₆.sh.hp a o e).move fun co hc => oth a co (fun q => by rw [q, hD₆] at e; cases e) hc) fun _ _ e _ => e
        have e : (us ++ [y]).toArray = us.toArray.push y := by simp
        rw [← e] at hDn
        have kD : ∀ b ∈ wr, ∀ o, s₅.heap.get? b = some o → (s₅.heap.update D (Obj.mapSeq (·.push y))).get? b = some o := fun b hb o e => by
          refine oth b o (fun q => ?_) e
          subst q; exact DwrN hb
        exact ⟨cnt - (i + 1), by omega, i + 1, out ++ [ab y], ρc, σ₅, us ++ [y], _, rfl, hlt, q, S₇, fun _ h => h, H.keep _ _ _ hI₆ kD, hw₆, hD₆, hDn, by rw [List.map_append, hus]; rfl⟩
    · obtain rfl : i = cnt := by omega
      have hs := hend out σ' hJ
      refine H.done A s' Fi σ' _ _ r.1 S'.sh hs hI fun h' tk' hk' => ?_
      have S₁ : St W Fi cenv ρ' σ' { s' with heap := h', toks := tk' } := S'.moveW apartW (fun a o ha e _ => hk' a o ha e) (fun a o e => (S'.sh.hp a o e).move fun co hc => hk' a co (fun q => by rw [hwσ a q] at e; cases e) hc) fun _ _ e _ => e
      have hDo' : h'.get? D = some ⟨.type "list", none, .seq us.toArray m, #[]⟩ := hk' D _ DwrN hDo
      have kb : ∀ a o, s.heap.get? a = some o → σ a = none → h'.get? a = some o ∧ σ' a = none := fun a o e q => S₁.sh.fr a o (keepFi a o e q)
      refine ⟨σ', hR D C out σ' _ hJ hDσ (fresh D (Nat.le_refl _)) ?_ (fF C (by omega)) (fL C (by omega)) (fC C (by omega)) ?_ (let ⟨m, hm, _⟩ := S₁.vs.ns; ⟨m, hm⟩)⟩
      · refine ⟨⟨fun a o e => ?_, S.sh.base, fun a o e => ?_, ?_⟩, S.vs.move (fun o e => (kb _ o e S.offL).1) (fun y c e o ho => (kb c o ho (S.offC y c e)).1), S.frO, ?_, fun y c e => ?_⟩
        · have h1 := S.sh.fr a o e
          have h2 := kb a o h1.1 h1.2
          refine ⟨h2.1, ?_⟩
          unfold AHeap.set
          rw [if_neg (fun q => by rw [q, fresh D (Nat.le_refl _)] at h1; cases h1.1)]
          exact h2.2
        · unfold AHeap.set at e
          split at e
          · rename_i q; subst q; cases e; rw [← hus]; exact .list us m hDo'
          · exact S₁.sh.hp a o e
        · obtain ⟨h0, t0, q⟩ := S₁.sh.same; exact ⟨h0, t0, q⟩
        · unfold AHeap.set
          rw [if_neg (fun q => fL D (Nat.le_refl _) q.symm)]
          cases e : s.heap.get? env.locals with
          | none => exact absurd e S.vs.locSome
          | some o => exact (kb _ o e S.offL).2
        · unfold AHeap.set
          rw [if_neg (fun q => fC c (by rw [q]; exact Nat.le_refl _) y e)]
          cases e' : s.heap.get? c with
          | none => exact absurd e' (S.vs.cellSome e)
          | some o => exact (kb c o e' (S.offC y c e)).2
      · unfold AHeap.set
        rw [if_neg (by show ¬ @Eq Nat C D; omega)]
        exact S₁.offL
  exact codeAny_compStart_list loop (H.self 0 _ _ _ _ (H.keep 0 h₁ h₂ hIs fun b _ o e => old₁ b o e) loop)

/-- what a comprehension asks -/
inductive CompAsk (W : Wd) (n : Nat) (env : Env) (elt : Expr) (x : Str) (px : Pos) (ifs : List Expr) (scope : Scope) (cl : List (Str × Addr)) (Q : List AV → AHeap → Prop) (ρc : Rho) (v : AV) (σ : AHeap) : Prop
  | mk (wr₀ : List Addr) (cnt : Nat) (ItemP : Nat → AV → AHeap → AHeap → Prop) (src : AHeap → Prop) (J : Nat → List AV → AHeap → Prop) (hi : Iter W v wr₀ σ cnt ItemP src (.Name x px)) (hJ : J 0 [] (σ.drop wr₀))
      (ht : ∀ i, i < cnt → ∀ out σ, J i out σ → out.length ≤ 900 ∧ src σ ∧ ∀ v σ' C, Le σ σ' → ItemP i v σ σ' → T W n (compEnvC scope cl C env) id (tests ifs (compEnvC scope cl C env)) (fun ok ρ σ =>
        (ok = true → T W n (compEnvC scope cl C env) ab (eval elt (compEnvC scope cl C env)) (fun y _ σ => J (i + 1) (out ++ [y]) σ) ρ σ) ∧ (ok = false → J (i + 1) out σ)) ((x, v) :: ρc) σ')
      (he : ∀ out σ, J cnt out σ → src σ ∧ Q out σ) : CompAsk W n env elt x px ifs scope cl Q ρc v σ
inductive CapAsk (W : Wd) (n : Nat) (env : Env) (elt : Expr) (x : Str) (px : Pos) (ifs : List Expr) (scope : Scope) (cl : List (Str × Addr)) (Q : Rho → List AV → AHeap → Prop) (v : AV) (ρ : Rho) (σ : AHeap) : Prop
  | mk (ρc : Rho) (hc : CapOk env scope cl ρ ρc x) (ha : CompAsk W n env elt x px ifs scope cl (Q ρ) ρc v σ) : CapAsk W n env elt x px ifs scope cl Q v ρ σ
theorem comp_post {elt iter : Expr} {x : Str} {px : Pos} {ifs : List Expr} {scope : Scope} {cl : List (Str × Addr)} {pos : Pos} {ρc : Rho} {v : AV} {P : List AV → AHeap → Prop} {use : Option (Value → Sem Unit)} {Q' : Value → Shared → Prop}
    (hk : CompOk env scope cl x) (hc : CapOk env scope cl ρ ρc x) (ha : CompAsk W n env elt x px ifs scope cl P ρc v σ) {F : Addr → Option Obj} {A : Around} {s : Shared} (r : Room n A) (S : St W F env ρ σ s) (xv : Value) (hxv : ab xv = v)
    (hR : ∀ D C out σ' s', P out σ' → σ' D = none → s.heap.get? D = none → St W F env ρ (σ'.set D (.list out)) s' → F C = none → C ≠ env.locals → (∀ y, env.cells.lookup y ≠ some C) → (σ'.set D (.list out)) C = none → (∃ m, s'.heap.Ns C m) →
      compPost (model W.prog W.w) A (fun _ _ => False) use Q' (.ref D) C (.ok .next) s') :
    wpAny (model W.prog W.w) A (pyIter xv) (fun it s₂ => wpAny (model W.prog W.w) A (newList []) (fun acc s₃ => wpAny (model W.prog W.w) A (newFunctionEnv scope env.globals cl [] env.qual none .none (some env)) (fun cenv s₄ =>
      codeAny (model W.prog W.w) A (.compStart (.ListComp elt [⟨.Name x px, iter, ifs, 0⟩] scope pos) 0 it acc { cenv with scope := relabel scope env }) (compPost (model W.prog W.w) A (fun _ _ => False) use Q' acc cenv.locals) s₄) (fun _ _ => False) s₃) (fun _ _ => False) s₂) (fun _ _ => False) s := by
  obtain ⟨wr₀, cnt, ItemP, src, J, hit, hJ, ht, he⟩ := ha
  have base := comp_core (R := fun σ' acc C r s' => compPost (model W.prog W.w) A (fun _ _ => False) use Q' acc C r s') (iter := iter) (pos := pos) J hk hc hit hJ ht (fun out σ hJ => (he out σ hJ).1) r S xv hxv
    fun D C out σ' s' hJ hDσ hDn S' hF hL hC hCσ hm => hR D C out σ' s' (he out σ' hJ).2 hDσ hDn S' hF hL hC hCσ hm
  exact wpAny_mono base (fun it s₂ h₂ => wpAny_mono h₂ (fun acc s₃ h₃ => wpAny_mono h₃ (fun cenv s₄ h₄ => codeAny_mono h₄ fun r s' ⟨_, q⟩ => q) fun _ _ e => e) fun _ _ e => e) fun _ _ e => e
theorem gone_C {F : Addr → Option Obj} {s' : Shared} {C : Addr} {ρ : Rho} {σ : AHeap} (S' : St W F env ρ σ s') (hF : F C = none) (hL : C ≠ env.locals) (hC : ∀ y, env.cells.lookup y ≠ some C) (hCσ : σ C = none) {h' : Heap} (hs : Heap.SameBut C s'.heap h') : St W F env ρ σ { s' with heap := h' } :=
  St.moveW (wr := [C]) S' (fun b hb => by rw [List.mem_singleton.mp hb]; exact ⟨hF, hL, hC⟩) (fun a o ha e _ => (hs.2 a (by simpa using ha)).trans e)
    (fun a o e => (S'.sh.hp a o e).move fun co hc => (hs.2 a (fun q => by rw [q, hCσ] at e; cases e)).trans hc) fun _ _ e _ => e
theorem T_ListComp {elt iter : Expr} {x : Str} {px : Pos} {ifs : List Expr} {scope : Scope} {cl : List (Str × Addr)} {pos : Pos} {Q : AV → Rho → AHeap → Prop} (hfold : ∀ x, foldedSetIterable iter env x = pure x) (hk : CompOk env scope cl x)
    (h : T W n env ab (eval iter env) (CapAsk W n env elt x px ifs scope cl (fun ρ out σ => New σ (.list out) (fun v σ' => Q v ρ σ'))) ρ σ) :
    T W n env ab (eval (.ListComp elt [⟨.Name x px, iter, ifs, 0⟩] scope pos) env) Q ρ σ := fun F A s r S => by
  rw [eval_ListComp]
  refine wpAny_comprehension_free (use := none) rfl hfold hk.clos hk.kind hk.names (wpAny_mono (h F A s r S) (fun xv s₁ ⟨ρ₁, σ₁, ⟨ρc, hc, ha⟩, S₁⟩ => ?_) fun _ _ e => e)
  refine comp_post hk hc ha r S₁ xv rfl fun D C out σ' s' hP hDσ hDn S' hF hL hC hCσ ⟨m, hm⟩ => ?_
  exact ⟨m, hm, fun h' hs => ⟨ρ₁, _, hP D _ hDσ (Le.set hDσ) set_same, gone_C S' hF hL hC hCσ hs⟩⟩
/-- found = [..] on one line: the block's own road -/
theorem S_AssignComp {elt iter : Expr} {x y : Str} {px py : Pos} {ifs : List Expr} {scope : Scope} {cl : List (Str × Addr)} {pos spos : Pos} {Q : AFlow → Rho → AHeap → Prop}
    (hsw : swapsWith (.ListComp elt [⟨.Name x px, iter, ifs, 0⟩] scope pos) (some (.Name y py)) spos.line env = pure true) (hfold : ∀ x, foldedSetIterable iter env x = pure x) (hk : CompOk env scope cl x) (hy : Sto env y)
    (h : T W n env ab (eval iter env) (CapAsk W n env elt x px ifs scope cl (fun ρ out σ => New σ (.list out) (fun v σ' => ∃ ρ', Up y v ρ ρ' ∧ Q .next ρ' σ'))) ρ σ) :
    TS W n env (exec (.Assign [.Name y py] (.ListComp elt [⟨.Name x px, iter, ifs, 0⟩] scope pos) spos) env) Q ρ σ := fun F A s r S => by
  rw [exec_Assign_Name_used _ _ _ _ hsw]
  refine wpAny_bind (wpAny_standAt (wpAny_bind ?_))
  show wpAny _ A (do let _ ← comprehension (.ListComp elt [⟨.Name x px, iter, ifs, 0⟩] scope pos) scope env _ (newList []) false (eval iter env) (some (assign (.Name y py) env))) _ _ s
  refine wpAny_bind (wpAny_mono (wpAny_comprehension_free (use := some (assign (.Name y py) env)) (Q := fun _ s' => Po W F env (Q .next) s') rfl hfold hk.clos hk.kind hk.names
    (wpAny_mono (h F A s r S) (fun xv s₁ ⟨ρ₁, σ₁, ⟨ρc, hc, ha⟩, S₁⟩ => ?_) fun _ _ e => e)) (fun _ s' hq => wpAny_pure (wpAny_pure hq)) fun _ _ e => e)
  refine comp_post hk hc ha r S₁ xv rfl fun D C out σ' s' hP hDσ hDn S' hF hL hC hCσ ⟨m, hm⟩ => ?_
  obtain ⟨ρ', hu, q⟩ := hP D _ hDσ (Le.set hDσ) set_same
  have ap : Apart F env [C] := fun b hb => by rw [List.mem_singleton.mp hb]; exact ⟨hF, hL, hC⟩
  have cσ : ∀ b ∈ [C], (σ'.set D (.list out)) b = none := fun b hb => by rw [List.mem_singleton.mp hb]; exact hCσ
  show wpAny _ A (assign (.Name y py) env (.ref D)) _ _ s'
  refine wpAny_mono (T_assignName (W := W) (n := n) (v := .ref D) (Q := fun _ ρ'' σ'' => ρ'' = ρ' ∧ σ'' = σ'.set D (.list out)) hy hu ⟨rfl, rfl⟩ _ A s' r (S'.hold ap cσ)) (fun _ s₂ ⟨ρ₂, σ₂, ⟨e1, e2⟩, S₂⟩ => ?_) fun _ _ e => e
  subst e1 e2
  refine ⟨m, ?_, fun h' hs => ⟨ρ₂, _, q, gone_C (S₂.unhold ap S'.sh.base) hF hL hC hCσ hs⟩⟩
  exact hm.at' fun o e => (S₂.sh.fr C o (by rw [hold_in (by simp)]; exact e)).1
end

section
variable {W : Wd} {n : Nat} {env : Env} {ρ : Rho} {σ : AHeap}

/-! stores of all kinds -/
theorem O_nil {Q : Unit → Rho → AHeap → Prop} (h : Q () ρ σ) : T W n env id (assignInOrder [] []) Q ρ σ := fun _ _ _ _ S => wpAny_assignInOrder_none ⟨ρ, σ, h, S⟩
theorem O_cons {m : Value → Sem Unit} {ms : List (Value → Sem Unit)} {x : Value} {xs : List Value} {Q : Unit → Rho → AHeap → Prop} (h : T W n env id (m x) (fun _ => T W n env id (assignInOrder ms xs) Q) ρ σ) : T W n env id (assignInOrder (m :: ms) (x :: xs)) Q ρ σ := fun F A s r S =>
  wpAny_assignInOrder_more (wpAny_mono (h F A s r S) (fun _ s₁ ⟨ρ₁, σ₁, q, S₁⟩ => q F A s₁ r S₁) fun _ _ e => e)
theorem T_assignTup {elts : List Expr} {k : Nat} {pos : Pos} {v : Value} {a : Addr} {vs : List AV} {Q : Unit → Rho → AHeap → Prop} (hv : ab v = .ref a) (ha : σ a = some (.tup vs)) (hn : (assignEach elts env).length = vs.length) (hstar : (assignEach elts env).findIdx? (·.1) = none)
    (h : ∀ xs : List Value, xs.map ab = vs → T W n env id (assignInOrder ((assignEach elts env).map (·.2)) xs) Q ρ σ) : T W n env id (assign (.Tuple elts k pos) env v) Q ρ σ := fun F A s r S => by
  obtain rfl := ab_ref hv
  obtain ⟨us, hu, e⟩ := (S.sh.hp _ _ ha).tupE
  refine wpAny_assign_Tuple r.1 hu (by rw [hn, ← e]; simp) hstar fun h' hx => ?_
  exact h us e F A _ r (S.ext _ fun b o e => hx b o (Nat.ne_of_lt (Heap.lt_size e)) e)
theorem draw_list {A : Around} {E : Value → Shared → Prop} {it t : Addr} {items : Array Value} (hne : t ≠ it) : ∀ (n i : Nat) (s : Shared) (Q : List Value → Shared → Prop), s.heap.IsListIter it t i → s.heap.IsList t items → i + n ≤ items.size →
    (∀ h', h'.IsListIter it t (i + n) → Heap.SameBut it s.heap h' → Q ((items.toList.drop i).take n) { s with heap := h' }) → wpAny (model W.prog W.w) A (draw (.ref it) n) Q E s
  | 0, i, s, Q, hit, _, _, hQ => by
    show wpAny _ _ (Pure.pure []) Q E s
    exact wpAny_pure (by simpa using hQ s.heap hit (Heap.SameBut.refl ..))
  | n + 1, i, s, Q, hit, ht, hle, hQ => by
    have hlt : i < items.size := by omega
    show wpAny _ _ (pyNext (.ref it) >>= _) Q E s
    refine wpAny_bind (wpAny_pyNext_list_item hit ht (x := items[i]) (by simp [hlt]) fun h₁ hit₁ hs₁ => ?_)
    refine wpAny_bind (wpAny_holding (draw_list hne n (i + 1) _ _ hit₁ (ht.extBut hs₁.extBut hne) (by omega) fun h₂ hit₂ hs₂ => wpAny_pure ?_))
    have hd : items.toList.drop i = items[i] :: items.toList.drop (i + 1) := by simp [List.drop_eq_getElem_cons, hlt]
    have := hQ h₂ (by rw [show i + (n + 1) = i + 1 + n by omega]; exact hit₂) (hs₁.trans hs₂)
    rw [hd, List.take_succ_cons] at this
    exact this
theorem unpackItems_list {A : Around} {E : Value → Shared → Prop} {s : Shared} {t : Addr} {items : Array Value} {Q : List Value → Shared → Prop} (hh : A.handled = none) (ht : s.heap.IsList t items)
    (hQ : ∀ h', Heap.ExtBut s.heap.objs.size s.heap h' → Q items.toList { s with heap := h' }) : wpAny (model W.prog W.w) A (unpackItems (.ref t) items.size none) Q E s := by
  have hlt : t ≠ s.heap.objs.size := by obtain ⟨o, ho, _⟩ := ht; exact Nat.ne_of_lt (Heap.lt_size ho)
  unfold unpackItems
  refine wpAny_bind ?_
  · unfold notIterableAtAll
    refine wpAny_bind (wpAny_specialOf ht.typeIs slot_list_iter.lookup ?_)
    refine wpAny_pure ?_
    simp only [Bool.false_eq_true, if_false]
    refine wpAny_bind (wpAny_holding (wpAny_pyIter_list ht ?_))
    refine wpAny_bind (wpAny_holding (draw_list hlt items.size 0 _ _ ⟨_, Heap.get?_push_size _ rfl, rfl, rfl⟩ (ht.push _) (by omega) fun h₁ hit₁ hs₁ => ?_))
    have hall : List.take items.size (List.drop 0 items.toList) = items.toList := by
      rw [List.drop_zero]; exact List.take_of_length_le (by simp)
    rw [hall]
    rw [if_neg (by simp)]
    have ht₁ : h₁.IsList t items := (ht.push _).extBut hs₁.extBut hlt
    refine wpAny_bind (wpAny_holding (wpAny_pyNext_list_end hh hit₁ ht₁ (by simp) fun h₂ he₂ => ?_))
    simp only [Option.isSome_none, Bool.false_eq_true, if_false]
    refine wpAny_pure (hQ h₂ fun b o hb e => he₂ b o hb (hs₁.extBut b o hb (Heap.get?_push_of_some _ e)))
theorem T_assignLst {elts : List Expr} {k : Nat} {pos : Pos} {v : Value} {a : Addr} {vs : List AV} {Q : Unit → Rho → AHeap → Prop} (hv : ab v = .ref a) (ha : σ a = some (.list vs)) (hn : (assignEach elts env).length = vs.length) (hstar : (assignEach elts env).findIdx? (·.1) = none)
    (h : ∀ xs : List Value, xs.map ab = vs → T W n env id (assignInOrder ((assignEach elts env).map (·.2)) xs) Q ρ σ) : T W n env id (assign (.Tuple elts k pos) env v) Q ρ σ := fun F A s r S => by
  obtain rfl := ab_ref hv
  obtain ⟨us, hu, e⟩ := (S.sh.hp _ _ ha).listE
  rw [arm_assign_Tuple]
  refine wpAny_bind (wpAny_standAt ?_)
  unfold unpack
  have hz : (assignEach elts env).length = us.toArray.size := by rw [hn, ← e]; simp
  rw [hz, hstar]
  refine wpAny_bind (wpAny_holding (unpackItems_list r.1 hu fun h' hx => ?_))
  exact h us e F A _ r (S.ext _ fun b o e => hx b o (Nat.ne_of_lt (Heap.lt_size e)) e)
/-- two targets -/
theorem T_assign2 {t₁ t₂ : Expr} {k : Nat} {pos : Pos} {v : Value} {a : Addr} {v₁ v₂ : AV} {Q : Unit → Rho → AHeap → Prop} (he : assignEach [t₁, t₂] env = [(false, assign t₁ env), (false, assign t₂ env)]) (hv : ab v = .ref a) (ha : σ a = some (.tup [v₁, v₂]) ∨ σ a = some (.list [v₁, v₂]))
    (h : ∀ x y, ab x = v₁ → ab y = v₂ → T W n env id (assign t₁ env x) (fun _ => T W n env id (assign t₂ env y) Q) ρ σ) : T W n env id (assign (.Tuple [t₁, t₂] k pos) env v) Q ρ σ := by
  have fin : ∀ xs : List Value, xs.map ab = [v₁, v₂] → T W n env id (assignInOrder ((assignEach [t₁, t₂] env).map (·.2)) xs) Q ρ σ := fun xs e => by
    obtain ⟨x, y, rfl, ex, ey⟩ := map_two e
    rw [he]
    exact O_cons ((h x y ex ey).mono fun _ ρ σ q => O_cons (q.mono fun _ ρ σ q => O_nil q))
  rcases ha with ha | ha
  · exact T_assignTup hv ha (by rw [he]; rfl) (by rw [he]; rfl) fin
  · exact T_assignLst hv ha (by rw [he]; rfl) (by rw [he]; rfl) fin
theorem T_assignSub {o i : Expr} {pos : Pos} {v : Value} {Q : Unit → Rho → AHeap → Prop} (h : T W n env ab (eval o env) (fun ov => T W n env ab (eval i env) (fun iv ρ σ => ∀ vo vi, ab vo = ov → ab vi = iv → T W n env id (setItem vo vi v) Q ρ σ)) ρ σ) :
    T W n env id (assign (.Subscript o i pos) env v) Q ρ σ := fun F A s r S => by
  rw [arm_assign_Subscript]
  refine wpAny_bind (wpAny_holding (wpAny_mono (h F A s r S) (fun vo s₁ ⟨ρ₁, σ₁, q, S₁⟩ => ?_) fun _ _ e => e))
  refine wpAny_bind (wpAny_holding (wpAny_mono (q F A s₁ r S₁) (fun vi s₂ ⟨ρ₂, σ₂, q, S₂⟩ => ?_) fun _ _ e => e))
  refine wpAny_bind (wpAny_standAt (wpAny_bind (wpAny_holding (wpAny_mono (q vo vi rfl rfl F A s₂ r S₂) (fun _ s₃ q => ?_) fun _ _ e => e))))
  exact wpAny_release q
theorem S_Assign1 {t value : Expr} {pos : Pos} {Q : AFlow → Rho → AHeap → Prop}
    (hs : swapsWithSole [t] value pos.line env = pure false) (hw : swappedStores [t] value env = pure none) (he : (assignEach [t] env).map (·.2) = [assign t env])
    (h : T W n env ab (eval value env) (fun v ρ σ => ∀ w, ab w = v → T W n env id (assign t env w) (fun _ => Q .next) ρ σ) ρ σ) : TS W n env (exec (.Assign [t] value pos) env) Q ρ σ := fun F A s r S => by
  refine wpAny_Assign_stores (wpAny_mono (h F A s r S) (fun v s₁ ⟨ρ₁, σ₁, q, S₁⟩ => ?_) fun _ _ e => e) hs hw
  rw [he]
  show wpAny _ A (assign t env v) _ _ s₁
  exact q v rfl F A s₁ r S₁
theorem S_Expr {e : Expr} {pos : Pos} {Q : AFlow → Rho → AHeap → Prop} (h1 : interactive env = false) (h2 : swapsWith e none pos.line env = pure false) (h : T W n env ab (eval e env) (fun _ => Q .next) ρ σ) : TS W n env (exec (.Expr e pos) env) Q ρ σ := fun F A s r S =>
  wpAny_Expr_any (wpAny_mono (h F A s r S) (fun _ s₁ q => q) fun _ _ e => e) h1 h2

/-! slices -/
def sliceO (a b c : Value) : Obj := { cls := .type "slice", data := .fields #[a, b, c] }
theorem T_sliceUp {u : Expr} {p : Pos} {Q : AV → Rho → AHeap → Prop} (h : T W n env ab (eval u env) (fun v ρ σ => ∀ w, ab w = v → New σ (.raw (sliceO .none w .none)) (fun v σ' => Q v ρ σ')) ρ σ) : T W n env ab (eval (.Slice none (some u) none p) env) Q ρ σ := fun F A s r S => by
  refine wpAny_Slice (wpAny_evalPart_none (wpAny_evalPart_some (wpAny_mono (h F A s r S) (fun w s₁ ⟨ρ₁, σ₁, q, S₁⟩ => wpAny_evalPart_none ?_) fun _ _ e => e)))
  exact new_at S₁ (fun b o e => Heap.get?_push_of_some _ e) size_none (.raw _ (Heap.get?_push_size _ rfl)) (q w rfl)
theorem pick_to (xs : List Value) (k : Nat) : slicePick xs.toArray none (some (k : Int)) none = (xs.take k).toArray := slicePick_upto' xs.toArray k
/-- xs[:k] -/
theorem I_listTo {value slice : Expr} {a sl : Addr} {w : Value} {k : Nat} {vs : List AV} {Q : AV → Rho → AHeap → Prop} (hs : ∀ o i, subscripted slice false o i = operate [i, o] (getItem o i))
    (hl : σ a = some (.list vs)) (hsl : σ sl = some (.raw (sliceO .none w .none))) (hw : ab w = .int k) (hz : vs.length ≤ 1000) (h : New σ (.list (vs.take k)) (fun v σ' => Q v ρ σ')) : ∀ vo vi, ab vo = .ref a → ab vi = .ref sl → T W n env ab (subscriptTail value slice vo vi) Q ρ σ := fun vo vi ho hi F A s r S => by
  obtain rfl := ab_ref ho; obtain rfl := ab_ref hi
  obtain ⟨us, hu, rfl⟩ := (S.sh.hp _ _ hl).listE
  have hs' : s.heap.get? sl = some (sliceO .none w .none) := by cases S.sh.hp _ _ hsl with | raw o h => exact h
  obtain ⟨t, rfl⟩ := ab_int hw
  rw [List.length_map] at hz
  rw [← List.map_take] at h
  refine tail_any hu.typeIs slot_list_getitem.lookup (wpAny_getItem_list_slice hu ⟨_, hs', rfl, rfl⟩ .none (.int k t) .none (by simp) ?_ (line1000 (by simpa using hz))) (hs _ _)
  rw [pick_to]
  exact new_at S (fun b o e => Heap.get?_push_of_some _ e) size_none (.list _ 0 (Heap.get?_push_size _ rfl)) h

/-! dict displays -/
abbrev TP (W : Wd) (n : Nat) (env : Env) (keys : List (Option Expr)) (values : List Expr) (pos : Pos) (Q : List (AV × AV) → Rho → AHeap → Prop) (ρ : Rho) (σ : AHeap) : Prop := T W n env (List.map (fun p => (ab p.1, ab p.2))) (evalPairs (pairTrees keys values env pos)) Q ρ σ
theorem P_nil {pos : Pos} {Q : List (AV × AV) → Rho → AHeap → Prop} (h : Q [] ρ σ) : TP W n env [] [] pos Q ρ σ := fun F A s r S => pairTrees_nil_walk ⟨ρ, σ, h, S⟩
theorem P_cons {k v : Expr} {ks : List (Option Expr)} {vs : List Expr} {pos : Pos} {Q : List (AV × AV) → Rho → AHeap → Prop}
    (h : T W n env ab (eval k env) (fun a => T W n env ab (eval v env) (fun b => TP W n env ks vs pos (fun r => Q ((a, b) :: r)))) ρ σ) : TP W n env (some k :: ks) (v :: vs) pos Q ρ σ := fun F A s r S =>
  pairTrees_cons_walk (wpAny_mono (h F A s r S) (fun kv s₁ ⟨ρ₁, σ₁, q, S₁⟩ => wpAny_mono (q F A s₁ r S₁) (fun vv s₂ ⟨ρ₂, σ₂, q, S₂⟩ => wpAny_mono (q F A s₂ r S₂) (fun rr s₃ ⟨ρ₃, σ₃, q, S₃⟩ => ⟨ρ₃, σ₃, q, S₃⟩) fun _ _ e => e) fun _ _ e => e) fun _ _ e => e)
theorem carries_of : ∀ {ps : List (Value × Value)} {kvs : List (Key × AV)}, ps.map (fun p => (ab p.1, ab p.2)) = kvs.map (fun p => (p.1.av, p.2)) → ∃ ks : List (Key × Value), Carries (kk W.prog W.w) ps ks ∧ ks.map (fun p => (p.1, ab p.2)) = kvs
  | [], [], _ => ⟨[], trivial, rfl⟩
  | [], _ :: _, h => by simp at h
  | _ :: _, [], h => by simp at h
  | (k, v) :: ps, (j, u) :: kvs, h => by
    simp only [List.map_cons, List.cons.injEq, Prod.mk.injEq] at h
    obtain ⟨ks, hc, e⟩ := carries_of h.2
    exact ⟨(j, v) :: ks, ⟨kIs_of h.1.1, rfl, hc⟩, by rw [List.map_cons, e, h.1.2]⟩
theorem T_Dict {keys : List (Option Expr)} {values : List Expr} {pos : Pos} {Q : AV → Rho → AHeap → Prop} (g : Tag) (h1 : (keys.all fun x => x.isSome) = true) (h2 : keys.length = values.length) (h3 : keys ≠ []) (h4 : keys.length ≤ 15)
    (h : TP W n env keys values pos (fun ps ρ σ => ∃ kvs : List (Key × AV), ps = kvs.map (fun p => (p.1.av, p.2)) ∧ (kvs.map (·.1)).Nodup ∧ ∀ ep, New σ (.dict g kvs ep) (fun v σ' => Q v ρ σ')) ρ σ) : T W n env ab (eval (.Dict keys values pos) env) Q ρ σ := fun F A s r S => by
  refine wpAny_Dict_walk (knd := kk W.prog W.w) h1 h2 h3 h4 ?_
  have nD := get?_size s.heap
  have Dσ : σ s.heap.objs.size = none := St.none_of S.sh nD
  have ap : Apart F env [s.heap.objs.size] := fun b hb => by
    rw [List.mem_singleton.mp hb]
    refine ⟨?_, fun e => S.vs.locSome (e ▸ nD), fun x e => S.vs.cellSome e nD⟩
    cases e : F s.heap.objs.size with
    | none => rfl
    | some o => have := (S.sh.fr _ o e).1; rw [nD] at this; cases this
  have S₁ := S.push (o := { cls := .type "dict", data := .dict #[] }) s.toks
  refine wpAny_mono (h _ A _ r (S₁.hold ap fun b hb => by rw [List.mem_singleton.mp hb]; exact Dσ)) (fun ps s₂ ⟨ρ₂, σ₂, ⟨kvs, hps, hn, q⟩, S₂⟩ => ?_) fun _ _ e => e
  have g₂ := S₂.sh.fr s.heap.objs.size { cls := .type "dict", data := .dict #[] } (by rw [hold_in (by simp)]; exact Heap.get?_push_size _ rfl)
  obtain ⟨ks, hc, e⟩ := carries_of (W := W) hps
  have hn' : (ks.map (·.1)).Nodup := by rw [← e, List.map_map] at hn; exact hn
  refine ⟨ks, hc, (dictAt_new (W := W) _ g₂.1).dictOf, fun h' hd hs => ?_⟩
  rw [merged_nil_of_nodup ks hn'] at hd
  obtain ⟨ep, hat⟩ := hd.dictAt
  have S₃ := S₂.unhold ap S.sh.base
  have S₄ : St W F env ρ₂ (σ₂.set s.heap.objs.size (.dict g kvs ep)) { s₂ with heap := h', toks := s₂.toks + ps.length } :=
    St.moveW (wr := [s.heap.objs.size]) S₃ ap (fun a o ha e _ => (hs.2 a (by simpa using ha)).trans e) (fun a o ea => by
      unfold AHeap.set at ea
      split at ea
      · rename_i q; subst q; cases ea; rw [← e]; exact .dict g ks ep hat
      · rename_i q; exact (S₃.sh.hp a o ea).move fun co hc => (hs.2 a q).trans hc) fun a ha ea _ => by
      unfold AHeap.set
      rw [if_neg (by simpa using ha)]; exact ea
  exact ⟨ρ₂, _, q ep _ _ g₂.2 (Le.set g₂.2) set_same, S₄⟩
end

section
variable {W : Wd} {n : Nat} {env : Env} {ρ : Rho} {σ : AHeap}

theorem T_neg {x : Expr} {pos : Pos} {Q : AV → Rho → AHeap → Prop} (h : T W n env ab (eval x env) (fun v ρ σ => ∃ i, v = .int i ∧ Q (.int (-i)) ρ σ) ρ σ) : T W n env ab (eval (.UnaryOp .USub x pos) env) Q ρ σ := fun F A s r S =>
  wpAny_UnaryOp (wpAny_mono (h F A s r S) (fun v s₁ ⟨ρ₁, σ₁, ⟨i, e, q⟩, S₁⟩ => by
    obtain ⟨t, rfl⟩ := ab_int e
    exact PyProof.Rows.neg_int ⟨ρ₁, σ₁, q, S₁.tok _⟩) fun _ _ e => e)

/-- xs[:-1] of a tuple of one -/
theorem getItem_tuple_but1 {A : Around} {E : Value → Shared → Prop} {s : Shared} {t sl : Addr} {x : Value} {u : Tok} {Q : Value → Shared → Prop} (ht : IsTup s.heap t #[x]) (hs : s.heap.IsSliceOf sl .none (.int (-1) u) .none)
    (h : Q (.ref s.heap.objs.size) { s with heap := s.heap.push { cls := .type "tuple", data := .seq #[] } }) : wpAny (model W.prog W.w) A (getItem (.ref t) (.ref sl)) Q E s := by
  obtain ⟨os, hos, hcs, hds⟩ := id hs
  have hTs : s.TypeIs (.ref sl) "slice" := ⟨os, hos, hcs⟩
  unfold getItem
  try with_reducible refine wpAny_holding ?_
  first | refine wpAny_bind (wpAny_pure ?_) | skip
  refine wpAny_bind (wpAny_sequenceKey ht.typeIs (by decide) ?_)
  refine wpAny_bind (wpAny_callSpecial?_slot (name := Str.ofString "__getitem__") ht.typeIs slot_tuple_getitem
    (wpAny_call_entry slot_tuple_getitem ht.typeIs entry_tuple_getitem ?_ (args_tuple_getitem _ _)))
  show wpAny _ _ (Builtin.Tuple.tupleItemsOf (.ref t) >>= _) _ _ s
  refine wpAny_bind (tupleItemsOf_ ht ?_)
  refine wpAny_bind (wpAny_typeOf hTs ?_)
  rw [if_pos (by decide)]
  refine wpAny_bind (wpAny_mono (Q := fun r s' => r = ((0 : Int), (1 : Int), 0) ∧ s' = s) ?_ (fun r s' e => ?_) fun _ _ e => e)
  · unfold Builtin.Slice.sliceApplied Builtin.Slice.sliceFields
    refine wpAny_bind (wpAny_bind (wpAny_field hos hds (x := .none) rfl (wpAny_bind (wpAny_field hos hds (x := .int (-1) u) rfl (wpAny_bind (wpAny_field hos hds (x := .none) rfl (wpAny_pure ?_)))))))
    refine wpAny_bind (slicePart_none ?_)
    show wpAny _ _ (if ((1 : Int) == 0) = true then _ else _) _ _ s
    rw [if_neg (by decide)]
    refine wpAny_bind (slicePart_none (wpAny_bind (slicePart_int (wpAny_bind (wpAny_pure (wpAny_pure ⟨rfl, rfl⟩))))))
  · obtain ⟨rfl, rfl⟩ := e
    show wpAny _ _ (if ((0 : Int) == 0 && (1 : Int) == 1 && (0 == 1)) = true then _ else _) _ _ _
    rw [if_neg (by decide)]
    show wpAny _ _ (Builtin.Tuple.tupleExact #[] >>= _) _ _ _
    first
      | exact wpAny_bind (m := Builtin.Tuple.tupleExact _) (wpAny_newObj_type (wpAny_pure ⟨_, rfl, wpAny_pure h⟩))
      | exact wpAny_bind (m := Builtin.Tuple.tupleExact _) (wpAny_newObj_type (wpAny_bind (wpAny_pure (wpAny_pure ⟨_, rfl, wpAny_pure h⟩))))
      | exact wpAny_bind (wpAny_bind (m := Builtin.Tuple.tupleExact _) (wpAny_newObj_type (wpAny_pure (wpAny_pure ⟨_, rfl, wpAny_pure h⟩))))
      | exact wpAny_bind (wpAny_bind (m := Builtin.Tuple.tupleExact _) (wpAny_newObj_type (wpAny_pure ⟨_, rfl, wpAny_pure h⟩)))
theorem I_tupBut1 {value slice : Expr} {a sl : Addr} {w : Value} {v : AV} {Q : AV → Rho → AHeap → Prop} (hs : ∀ o i, subscripted slice false o i = operate [i, o] (getItem o i))
    (hl : σ a = some (.tup [v])) (hsl : σ sl = some (.raw (sliceO .none w .none))) (hw : ab w = .int (-1)) (h : New σ (.tup []) (fun v σ' => Q v ρ σ')) : ∀ vo vi, ab vo = .ref a → ab vi = .ref sl → T W n env ab (subscriptTail value slice vo vi) Q ρ σ := fun vo vi ho hi F A s r S => by
  obtain rfl := ab_ref ho; obtain rfl := ab_ref hi
  obtain ⟨us, hu, e⟩ := (S.sh.hp _ _ hl).tupE
  obtain ⟨x, rfl, _⟩ := map_one e
  have hs' : s.heap.get? sl = some (sliceO .none w .none) := by cases S.sh.hp _ _ hsl with | raw o h => exact h
  obtain ⟨t, rfl⟩ := ab_int hw
  have hu' : IsTup s.heap a #[x] := hu
  refine tail_any hu.typeIs slot_tuple_getitem.lookup (getItem_tuple_but1 hu' ⟨_, hs', rfl, rfl⟩ ?_) (hs _ _)
  exact new_at S (fun b o e => Heap.get?_push_of_some _ e) size_none (.tup [] 0 (Heap.get?_push_size _ rfl)) h

/-- dict.pop of a key that is there -/
theorem L_dpop {d : Addr} {g : Tag} {kvs : List (Key × AV)} {ep : Nat} {k : Key} {v : AV} {Q : AV → Rho → AHeap → Prop} (hd : σ d = some (.dict g kvs ep)) (hz : kvs.length ≤ 1000) (hv : dget kvs k = some v) (h : ∀ ep' σ', Chg d (.dict g (kdel kvs k) ep') σ σ' → Q v ρ σ') :
    ∀ ws : List Value, ws.map ab = [k.av] → T W n env ab (PySem.call (.builtin "dict.pop") (.ref d :: ws)) Q ρ σ := fun ws e Φ A s r S => by
  obtain ⟨x, rfl, ex⟩ := map_one e
  obtain ⟨ks, hw, rfl⟩ := (S.sh.hp _ _ hd).dictE
  rw [List.length_map] at hz
  rw [← valueAt_map] at hv
  obtain ⟨u, hu, rfl⟩ := Option.map_eq_some_iff.mp hv
  have hp : (keyPart x).isSome = true := by
    cases k with
    | i j => obtain ⟨t, rfl⟩ := ab_int ex; rfl
    | s j => obtain ⟨t, rfl⟩ := ab_str ex; rfl
  refine call_meetsIn PySem.F.slot_dict_pop hw.dictOf.typeIs PySem.F.entry_dict_pop (PySem.F.args_dict_pop_2 _ _) (meets_dict_pop_there (kk W.prog W.w) d (kIs_of ex) [] (Or.inl rfl) hp) ⟨_, _, hw.dictOf, line1000 hz, hu, fun h' hd' hs => ?_⟩
  obtain ⟨ep', hat⟩ := hd'.dictAt
  refine ⟨ρ, _, h ep' _ Chg.set, S.upd _ hd hs ?_⟩
  rw [← kdel_without]; exact .dict g _ ep' hat

/-! enumerate over a tuple -/
theorem nextOf_tuple_item {A : Around} {E : Value → Shared → Prop} {s : Shared} {it l : Addr} {i : Nat} {items : Array Value} {x : Value} {Q : Value → Shared → Prop} (hit : s.heap.IsTupleIter it l i)
    (hl : s.heap.IsTuple l items) (hx : items[i]? = some x)
    (hQ : ∀ h', h'.IsTupleIter it l (i + 1) → Heap.SameBut it s.heap h' → Q x { s with heap := h' }) :
    wpAny (model W.prog W.w) A (Builtin.SmallTypes.nextOf (.ref it)) Q E s := by
  obtain ⟨o, ho, hc, hd⟩ := id hit
  obtain ⟨ol, hol, _, nl, hdl⟩ := hl
  unfold Builtin.SmallTypes.nextOf
  refine wpAny_bind (wpAny_callSpecial?_slot (name := Str.ofString "__next__") hit.typeIs PySem.F.slot_tuple_iterator_next
    (wpAny_call_entry PySem.F.slot_tuple_iterator_next hit.typeIs PySem.F.entry_tuple_iterator_next ?_ (PySem.F.args_tuple_iterator_next_1 _)))
  show wpAny _ _ (field (.ref it) 0 >>= _) _ _ s
  refine wpAny_bind (wpAny_field ho hd (x := .ref l) rfl ?_)
  show wpAny _ _ (if (Value.ref l == Value.none) = true then _ else _) _ _ s
  rw [if_neg (show ¬ ((Value.ref l == Value.none) = true) from Bool.false_ne_true)]
  show wpAny _ _ (field (.ref it) 1 >>= _) _ _ s
  refine wpAny_bind (wpAny_field ho hd (x := .int i 0) rfl ?_)
  show wpAny _ _ (seqItems? (.ref l) >>= _) _ _ s
  refine wpAny_bind (wpAny_seqItems hol hdl ?_)
  simp only [Int.toNat_natCast, hx]
  refine wpAny_bind (wpAny_setField ho hd (by simp) (wpAny_pure ⟨x, rfl, wpAny_pure (hQ _ ?_ (Heap.SameBut.update ..))⟩))
  exact ⟨_, Heap.get?_update_self _ ho (Obj.isFreed_of_fields (Obj.data_mapFields hd _)), (Obj.cls_mapFields ..).trans hc, by
    rw [Obj.data_mapFields hd]; simp [rawInt]⟩
theorem nextOf_tuple_end {A : Around} {E : Value → Shared → Prop} {s : Shared} {it l : Addr} {i : Nat} {items : Array Value} {Q : Value → Shared → Prop} (hh : A.handled = none) (hit : s.heap.IsTupleIter it l i)
    (hl : s.heap.IsTuple l items) (hx : items[i]? = none)
    (hE : ∀ h' e, Heap.ExtBut it s.heap h' → (∃ o, h'.get? e = some o ∧ o.cls = .type "StopIteration") → E (.ref e) { s with heap := h' }) :
    wpAny (model W.prog W.w) A (Builtin.SmallTypes.nextOf (.ref it)) Q E s := by
  obtain ⟨o, ho, hc, hd⟩ := id hit
  obtain ⟨ol, hol, _, nl, hdl⟩ := hl
  unfold Builtin.SmallTypes.nextOf
  refine wpAny_bind (wpAny_callSpecial?_slot (name := Str.ofString "__next__") hit.typeIs PySem.F.slot_tuple_iterator_next
    (wpAny_call_entry PySem.F.slot_tuple_iterator_next hit.typeIs PySem.F.entry_tuple_iterator_next ?_ (PySem.F.args_tuple_iterator_next_1 _)))
  show wpAny _ _ (field (.ref it) 0 >>= _) _ _ s
  refine wpAny_bind (wpAny_field ho hd (x := .ref l) rfl ?_)
  show wpAny _ _ (if (Value.ref l == Value.none) = true then _ else _) _ _ s
  rw [if_neg (show ¬ ((Value.ref l == Value.none) = true) from Bool.false_ne_true)]
  show wpAny _ _ (field (.ref it) 1 >>= _) _ _ s
  refine wpAny_bind (wpAny_field ho hd (x := .int i 0) rfl ?_)
  show wpAny _ _ (seqItems? (.ref l) >>= _) _ _ s
  refine wpAny_bind (wpAny_seqItems hol hdl ?_)
  simp only [Int.toNat_natCast, hx]
  refine wpAny_bind (wpAny_rule (wpAny_bind (wpAny_setField ho hd (by simp) ?_)))
  show wpAny _ _ (newExc (.type "StopIteration") [] >>= _) _ _ _
  refine wpAny_bind ?_
  simp only [newExc, newTuple]
  refine wpAny_bind (wpAny_newObj_type ?_ (by size_fits))
  refine wpAny_bind (m := firstArgMember _ _) (wpAny_of_eq (a := Value.none) (by first | rfl | (simp only [firstArgMember]; rfl)) ?_)
  refine wpAny_newObj_type ?_ (by size_fits)
  simp only [raiseNew]
  refine wpAny_bind (wpAny_handled ?_)
  first | rw [show A.in1.handled = none from hh] | rw [hh]
  refine wpAny_bind (wpAny_pure (wpAny_throw ?_))
  exact hE _ _ (((Heap.SameBut.update ..).extBut.push _).push _) ⟨_, Heap.get?_push_size _ rfl, rfl⟩
theorem drawsTuple {A : Around} (hh : A.handled = none) (it l : Addr) (hne : l ≠ it) (items : Array Value) :
    Draws W.prog W.w A it [it, l] items.size (fun i v => items[i]? = some v) (fun i h => h.IsTupleIter it l i ∧ h.IsTuple l items) where
  live := fun _ _ st => let ⟨o, ho, _⟩ := st.1; ⟨o, ho⟩
  frame := fun _ _ _ st hk => ⟨st.1.at fun o e => hk it (by simp) o e, st.2.at fun o e => hk l (by simp) o e⟩
  item := fun i s Q E hi st hQ => by
    refine nextOf_tuple_item st.1 st.2 (x := items[i]) (by simp [hi]) fun h' hit' hs' => ?_
    exact hQ _ h' s.toks (by simp [hi]) ⟨hit', st.2.extBut hs'.extBut hne⟩ hs'
  done := fun s Q E st hE => nextOf_tuple_end hh st.1 st.2 (by simp) hE
theorem meets_enum_tuple (l : Addr) (items : Array Value) (n : Nat) :
    Meets (Builtin.«enumerate.__new__» ⟨[.type "enumerate", .ref l], []⟩) (fun _ R s => s.heap.get? l = some { cls := .type "tuple", dict := none, data := .seq items n, slots := #[] } ∧
      R (.ok (.ret (.ref (s.heap.push { cls := .type "tuple_iterator", data := .fields #[.ref l, .int 0 0] }).objs.size)))
        { s with heap := (s.heap.push { cls := .type "tuple_iterator", data := .fields #[.ref l, .int 0 0] }).push { cls := .type "enumerate", data := .fields #[.none, .bool false, .ref s.heap.objs.size, rawInt 0, .none, .none] } }) :=
  .of_wp fun prog w A R s h => by
    obtain ⟨hp, g, d, tk, os⟩ := s; obtain ⟨hl, h⟩ := h
    have hsub := sub_enumerate
    have hL : Heap.IsTuple (Shared.heap ⟨hp, g, d, tk, os⟩) l items := ⟨_, hl, rfl, n, rfl⟩
    wp_walk using AutoSeq1.wpAny_loadPart' hl
    refine wpAny_stack_any fun st => wpAny_pure ?_
    split
    · rename_i c _ _ _ _ _
      cases (c == Value.type "enumerate")
      · wp_walk using AutoSeq1.wpAny_loadPart' hl, wpAny_pyIter_tuple hL
        exact ⟨_, rfl, h⟩
      · wp_walk using AutoSeq1.wpAny_loadPart' hl, wpAny_pyIter_tuple hL
        exact ⟨_, rfl, h⟩
    · wp_walk using AutoSeq1.wpAny_loadPart' hl, wpAny_pyIter_tuple hL
      exact ⟨_, rfl, h⟩
end

section
variable {W : Wd} {n : Nat} {env : Env} {ρ : Rho} {σ : AHeap}

def enumO (it : Addr) : Obj := { cls := .type "enumerate", data := .fields #[.none, .bool false, .ref it, rawInt 0, .none, .none] }
def titO (a : Addr) : Obj := { cls := .type "tuple_iterator", data := .fields #[.ref a, .int 0 0] }
theorem L_enum {a : Addr} {vs : List AV} {Q : AV → Rho → AHeap → Prop} (ha : σ a = some (.tup vs)) (h : ∀ e it σ', σ e = none → σ it = none → e ≠ it → Le σ σ' → σ' e = some (.raw (enumO it)) → σ' it = some (.raw (titO a)) → Q (.ref e) ρ σ') :
    ∀ ws : List Value, ws.map ab = [.ref a] → T W n env ab (PySem.call (.type "enumerate") ws) Q ρ σ := fun ws e Φ A s r S => by
  obtain ⟨x, rfl, ex⟩ := map_one e
  obtain rfl := ab_ref ex
  obtain ⟨us, m, hu, _⟩ := (S.sh.hp _ _ ha).tupX
  refine callType_new PySem.F.called_enumerate (by decide) (PySem.F.typeCall_enumerate_1 _) (PySem.F.newCall_enumerate_1 _) (fun obj => PySem.F.args_object_init_2 obj _) PySem.F.entry_enumerate_new
    (meets_enum_tuple a us.toArray m) ⟨hu, ?_⟩
  have hz : (s.heap.push (titO a)).objs.size = s.heap.objs.size + 1 := Heap.size_push ..
  show _ ∧ _
  have n0 : σ s.heap.objs.size = none := St.none_size S.sh
  have S1 := S.alloc (titO a) (.raw (titO a)) s.toks rfl fun h e => .raw _ e
  have n1 : (σ.set s.heap.objs.size (.raw (titO a))) (s.heap.push (titO a)).objs.size = none := St.none_size S1.sh
  have S2 := S1.alloc (enumO s.heap.objs.size) (.raw (enumO s.heap.objs.size)) s.toks rfl fun h e => .raw _ e
  have ne : (s.heap.push (titO a)).objs.size ≠ s.heap.objs.size := by rw [hz]; omega
  have le : Le σ ((σ.set s.heap.objs.size (.raw (titO a))).set (s.heap.push (titO a)).objs.size (.raw (enumO s.heap.objs.size))) := (Le.set n0).trans (Le.set n1)
  have e1 : σ (s.heap.push (titO a)).objs.size = none := by
    have := n1; unfold AHeap.set at this; rw [if_neg ne] at this; exact this
  refine ⟨⟨_, Heap.get?_push_size _ rfl, rfl⟩, ρ, _, h _ s.heap.objs.size _ e1 n0 ne le set_same (Le.set n1 _ _ set_same), S2⟩
theorem iter_enum {elts : List Expr} {k : Nat} {pos : Pos} {a e it : Addr} {vs : List AV} (ha : σ a = some (.tup vs)) (he : σ e = some (.raw (enumO it))) (hit : σ it = some (.raw (titO a))) (hne : e ≠ it) :
    Iter W (.ref e) [e, it] σ vs.length (fun i v σ σ' => ∃ T u, v = .ref T ∧ vs[i]? = some u ∧ σ T = none ∧ σ' T = some (.tup [.int i, u])) (fun σ => σ a = some (.tup vs)) (.Tuple elts k pos) := by
  have raw_at : ∀ {Φ : Addr → Option Obj} {s : Shared} {b : Addr} {o : Obj}, SH W Φ σ s → σ b = some (.raw o) → s.heap.get? b = some o := fun S h => by cases S.hp _ _ h with | raw o h => exact h
  refine ⟨fun b hb => ?_, fun A s Φ E Q hh S k v ev => ?_⟩
  · rcases List.mem_cons.mp hb with rfl | hb
    · exact ⟨_, he⟩
    · rw [List.mem_singleton.mp hb]; exact ⟨_, hit⟩
  obtain rfl := ab_ref ev
  have he' : IsEnum s.heap e it 0 .none := raw_at S he
  have hit' : s.heap.get? it = some (titO a) := raw_at S hit
  refine wpAny_pyIter_enum he' (k e [e, it] (fun i h => (∃ old, IsEnum h e it i old) ∧ h.IsTupleIter it a i) s.heap s.toks (fun b hb => .inl hb) ?_ ⟨⟨_, he'⟩, ⟨_, hit', rfl, rfl⟩⟩ fun _ _ e => e)
  refine ⟨fun i h h' ⟨⟨old, q1⟩, o, q2, r⟩ kk => ⟨⟨old, kk e (by simp) _ q1⟩, o, kk it (by simp) _ q2, r⟩, fun i A s Φ σ E Q hh S hs hwσ hi hI kk => ?_, fun A s Φ σ E Q hh S hs hI kk => ?_, fun i A s E Q hI q => ?_, fun i h hI b hb => ?_⟩
  · obtain ⟨⟨old, q1⟩, q2⟩ := hI
    obtain ⟨us, hu, e1⟩ := (S.hp _ _ hs).tupE
    have hl : us.length = vs.length := by rw [← e1, List.length_map]
    have ae : a ≠ e := fun q => by rw [q, hwσ e (by simp)] at hs; cases hs
    have ai : a ≠ it := fun q => by rw [q, hwσ it (by simp)] at hs; cases hs
    have ef : e ∉ [it, a] := fun q => by
      rcases List.mem_cons.mp q with q | q
      · exact hne q
      · exact ae (List.mem_singleton.mp q).symm
    refine wpAny_pyNext_enum_itemD (drawsTuple (W := W) (A := A.in1) hh it a ai us.toArray) q1 ⟨q2, hu⟩ (by simp; omega) hne ef fun x h' tk hP ho hst hT hsz hk => ?_
    refine kk _ _ fun E Q₂ q => ?_
    refine wpAny_letOwnedTupleGo_enum ho fun h₂ he₂ hs₂ => ?_
    have elt : e < s.heap.objs.size := Heap.lt_size q1
    have neT : s.heap.objs.size ≠ e := Nat.ne_of_gt elt
    have keep2 : ∀ b o, b ≠ e → b ≠ it → s.heap.get? b = some o → h₂.get? b = some o := fun b o h1 h2 h3 => (hs₂.2 b h1).trans (hk b o h1 h2 h3)
    have hT₂ : h₂.get? s.heap.objs.size = some ⟨.type "tuple", none, .seq [Value.int i tk, x].toArray 0, #[]⟩ := (hs₂.2 _ neT).trans hT
    have hx : vs[i]? = some (ab x) := by
      have := congrArg (fun l => l[i]?) e1
      simp only [List.getElem?_map] at this
      rw [← this]
      have hP' : us[i]? = some x := by simpa using hP
      rw [hP']; rfl
    refine q h₂ (tk + 1) (σ.set s.heap.objs.size (.tup ([Value.int i tk, x].map ab))) (Le.set (St.none_size S)) ⟨_, ab x, rfl, hx, St.none_size S, set_same⟩ (fun b o ea => ?_) (fun b eb hn => ?_) ⟨⟨_, by simpa using he₂⟩, ?_⟩ fun b o hb h3 => keep2 b o (fun q => hb (by simp [q])) (fun q => hb (by simp [q])) h3
    · unfold AHeap.set at ea
      split at ea
      · rename_i q; subst q; cases ea; exact .tup _ 0 hT₂
      · refine (S.hp b o ea).move fun co hc => keep2 b co (fun q => ?_) (fun q => ?_) hc
        · rw [q, hwσ e (by simp)] at ea; cases ea
        · rw [q, hwσ it (by simp)] at ea; cases ea
    · unfold AHeap.set
      rw [if_neg (fun q => hn (by rw [q, size_none]))]; exact eb
    · obtain ⟨⟨o, ho', r⟩, _⟩ := hst
      exact ⟨o, (hs₂.2 it hne.symm).trans ho', r⟩
  · obtain ⟨⟨old, q1⟩, q2⟩ := hI
    obtain ⟨us, hu, e1⟩ := (S.hp _ _ hs).tupE
    have hl : us.length = vs.length := by rw [← e1, List.length_map]
    have ai : a ≠ it := fun q => by
      obtain ⟨o, ho, hc, _⟩ := q2
      obtain ⟨o', ho', hc', _⟩ := hu
      rw [q, ho] at ho'; cases ho'
      rw [hc] at hc'; exact absurd hc' (by simp)
    have hl' : us.toArray.size = vs.length := by simp [hl]
    refine wpAny_pyNext_enum_endD (drawsTuple (W := W) (A := A.in1) hh it a ai us.toArray) q1 ⟨hl'.symm ▸ q2, hu⟩ fun h' hx => kk h' _ fun b o hb hc => hx b o (fun q => hb (by simp [q])) hc
  · obtain ⟨⟨old, q1⟩, _⟩ := hI
    exact wpAny_pyIter_enum q1 q
  · obtain ⟨⟨old, q1⟩, o, q2, _⟩ := hI
    rcases List.mem_cons.mp hb with rfl | hb
    · rw [q1]; simp
    · rw [List.mem_singleton.mp hb, q2]; simp
end

theorem lk_list_keys : typeLookup (.type "list") "keys" = pure none := by rw [typeLookup_type, builtinLookup_eq_fast]; kernel_rfl
theorem lk_list_hook : typeLookup (.type "list") "__getattr__" = pure none := by rw [typeLookup_type, builtinLookup_eq_fast]; kernel_rfl
theorem meets_keys_miss (a : Addr) (items : Array Value) (m : Nat) (u : Tok) :
    Meets (Builtin.«object.__getattribute__» ⟨[.ref a, .str "keys" u], []⟩) (fun A R s => s.heap.get? a = some ⟨.type "list", none, .seq items m, #[]⟩ ∧ raisesAttr (.ref a) "keys" A R s) :=
  Meets.of_wp fun prog w A R s hs => by
    obtain ⟨hp, g, d, tk, os⟩ := s
    have hx := hs.1
    have hT : (⟨hp, g, d, tk, os⟩ : Shared).TypeIs (.ref a) "list" := ⟨_, hx, rfl⟩
    have f4 := lk_list_keys
    unfold Builtin.«object.__getattribute__»
    repeat (any_goals (first | assumption | wp_step))
    exact wpAny_raiseAttrError hs.2.1 hs.2.2 (attrMsg_fits (by decide +kernel) (by decide +kernel))
section
variable {prog : Program} {w : World} {A : Around} {E : Value → Shared → Prop} {s : Shared}
theorem list_no_keys {a : Addr} {items : Array Value} {m : Nat} {Q : Option Value → Shared → Prop} (hx : s.heap.get? a = some ⟨.type "list", none, .seq items m, #[]⟩) (hA : A.handled = none)
    (h : ∀ h' tk, (∀ b o, s.heap.get? b = some o → h'.get? b = some o) → Q none { s with heap := h', toks := tk }) : wpAny (model prog w) A (getAttr? (.ref a) "keys") Q E s := by
  obtain ⟨hp, g, d, tk, os⟩ := s
  have hT : ∀ tk, (⟨hp, g, d, tk, os⟩ : Shared).TypeIs (.ref a) "list" := fun _ => ⟨_, hx, rfl⟩
  have f1 := sub_AttributeError
  have f3 := PySem.F.slot_list_getattribute.lookup
  have f4 := PySem.F.slot_list_getattribute.bind (.ref a)
  have f5 := lk_list_hook
  unfold getAttr? getAttrBy?
  repeat (any_goals (first | assumption | ((with_reducible show wpAny _ _ (PySem.call (Value.builtin "list.__getattribute__") _ _) _ _ _); refine call_meets PySem.F.slot_list_getattribute (hT _) PySem.F.entry_list_ga (PySem.F.args_list_getattribute_2 _ _) (meets_keys_miss a items m _) ⟨hx, hA, fun h' tk' e hx' => ?_⟩) | wp_step))
  obtain ⟨t', u', he⟩ := hx'.there
  show wpAny _ _ (getattributeRaised _ _ _ _ _ _ _) _ _ _
  unfold getattributeRaised
  repeat (any_goals (first | assumption | wp_step))
  exact h _ _ hx'.keeps
end

theorem entry_dict_loop : entryFor table "dict.update.loop" = some Builtin.«dict.update.loop» := entryFor_of_tree (by kernel_rfl)
theorem plain_dict_loop : plainId "dict.update.loop" = true := by decide +kernel

section
variable {W : Wd} {n : Nat} {env : Env} {ρ : Rho} {σ : AHeap}
/-- the pairs that a list of tuples tells -/
def PairsAt (σ : AHeap) (vs : List AV) (kvs : List (Key × AV)) : Prop := vs.length = kvs.length ∧ ∀ (i : Nat) (k : Key) (v : AV), kvs[i]? = some (k, v) → ∃ T, vs[i]? = some (AV.ref T) ∧ σ T = some (.tup [k.av, v])
theorem dict_loop {A : Around} {R : Result → Shared → Prop} {Φ : Addr → Option Obj} {l D I : Addr} {vs : List AV} {kvs : List (Key × AV)} (hA : A.handled = none) (hl : σ l = some (.list vs)) (hp : PairsAt σ vs kvs) (hn : (kvs.map (·.1)).Nodup) (hz : kvs.length ≤ 1000)
    (hD : σ D = none) (hI : σ I = none) (hDI : D ≠ I) {s₀ : Shared} (hkb : SH W Φ σ s₀) :
    ∀ (c i : Nat) (s : Shared) (ks : List (Key × Value)), kvs.length - i = c → i ≤ kvs.length → (∀ b o, b ≠ D → b ≠ I → s₀.heap.get? b = some o → s.heap.get? b = some o) → (∃ h tk, s = { s₀ with heap := h, toks := tk }) → s.heap.IsListIter I l i → s.heap.DictOf (kk W.prog W.w) D ks →
      ks.map (fun p => (p.1, ab p.2)) = kvs.take i →
      (∀ h' tk ks', (∀ b o, b ≠ D → b ≠ I → s₀.heap.get? b = some o → h'.get? b = some o) → h'.DictOf (kk W.prog W.w) D ks' → ks'.map (fun p => (p.1, ab p.2)) = kvs → R (.ok (.ret .none)) { s₀ with heap := h', toks := tk }) →
      codeAny (model W.prog W.w) A (.builtin "dict.update.loop" ⟨[.ref D, .ref I, rawInt i, .none], []⟩) R s := by
  intro c
  induction c with
  | zero =>
    rintro i s ks hc hi hk ⟨h, tk, rfl⟩ hit hd hks hR
    obtain rfl : i = kvs.length := by omega
    have hlb : l ≠ D ∧ l ≠ I := ⟨fun q => (by rw [q, hD] at hl; cases hl), fun q => (by rw [q, hI] at hl; cases hl)⟩
    obtain ⟨us, hu, e⟩ := ((hkb.hp _ _ hl).move fun co hc => hk l co hlb.1 hlb.2 hc).listE
    have hlen : us.length = kvs.length := by rw [← hp.1, ← e, List.length_map]
    refine codeAny_builtin entry_dict_loop ?_
    rw [Around.under_plainId plain_dict_loop _]
    show wpAny _ A.in1 (pyNext (.ref I) >>= _) _ _ _
    refine wpAny_bind (wpAny_pyNext_list_end hA hit hu (by simp; omega) fun h' he => ?_)
    show wpAny _ A.in1 (Builtin.Dict.addKeywords D [] >>= fun _ => ret Value.none) _ _ _
    refine wpAny_bind (wpAny_pure (wpAny_pure (hR h' tk ks (fun b o h1 h2 h3 => he b o h2 (hk b o h1 h2 h3)) (hd.extBut he hDI) ?_)))
    rw [hks, List.take_length]
  | succ c ih =>
    rintro i s ks hc hi hk ⟨h, tk, rfl⟩ hit hd hks hR
    have hlt : i < kvs.length := by omega
    have hlb : l ≠ D ∧ l ≠ I := ⟨fun q => (by rw [q, hD] at hl; cases hl), fun q => (by rw [q, hI] at hl; cases hl)⟩
    obtain ⟨us, hu, e⟩ := ((hkb.hp _ _ hl).move fun co hc => hk l co hlb.1 hlb.2 hc).listE
    have hlen : us.length = kvs.length := by rw [← hp.1, ← e, List.length_map]
    have hkv : kvs[i]? = some ((kvs[i]'hlt).1, (kvs[i]'hlt).2) := by rw [List.getElem?_eq_getElem hlt]
    obtain ⟨T, hT, hσT⟩ := hp.2 i _ _ hkv
    have hu' : us[i]'(by omega) = .ref T := by
      have := congrArg (fun l => l[i]?) e
      simp only [List.getElem?_map] at this
      rw [hT, List.getElem?_eq_getElem (by omega)] at this
      exact ab_ref (by simpa using this)
    have hTb : T ≠ D ∧ T ≠ I := ⟨fun q => (by rw [q, hD] at hσT; cases hσT), fun q => (by rw [q, hI] at hσT; cases hσT)⟩
    refine codeAny_builtin entry_dict_loop ?_
    rw [Around.under_plainId plain_dict_loop _]
    show wpAny _ A.in1 (pyNext (.ref I) >>= _) _ _ _
    refine wpAny_bind (wpAny_pyNext_list_item hit hu (x := .ref T) (by rw [← hu']; simp) fun h' hit' hs' => ?_)
    obtain ⟨ps, m, hps, e2⟩ := ((hkb.hp _ _ hσT).move fun co hc => hk T co hTb.1 hTb.2 hc).tupX
    obtain ⟨kv, vv, rfl, ek, ev⟩ := map_two e2
    have hps' : h'.get? T = some ⟨.type "tuple", none, .seq [kv, vv].toArray m, #[]⟩ := (hs'.2 T hTb.2).trans hps
    have hTt : Shared.TypeIs { s₀ with heap := h', toks := tk } (.ref T) "tuple" := ⟨_, hps', rfl⟩
    have hd' : h'.DictOf (kk W.prog W.w) D ks := hd.extBut hs'.extBut hDI
    have hks' : ks.length ≤ sizeLine := by
      have := congrArg List.length hks
      rw [List.length_map, List.length_take] at this
      exact line1000 (by omega)
    have hnot : ∀ p ∈ ks, p.1 ≠ (kvs[i]'hlt).1 := fun p hp' q => by
      have h1 : p.1 ∈ (kvs.take i).map (·.1) := by rw [← hks, List.map_map]; exact List.mem_map_of_mem (f := (·.1)) hp'
      have h2 := hn
      rw [← List.take_append_drop i kvs, List.map_append, List.nodup_append] at h2
      exact h2.2.2 _ h1 (kvs[i]'hlt).1 (by rw [List.drop_eq_getElem_cons hlt, List.map_cons]; exact List.mem_cons_self) q
    have hst : stored ks (kvs[i]'hlt).1 vv = ks ++ [((kvs[i]'hlt).1, vv)] := by
      unfold stored
      rw [if_neg]
      rw [List.any_eq_true]; rintro ⟨p, hp', q⟩; exact hnot p hp' (of_decide_eq_true q)
    have hc' : ((i : Int) + 1) = ((i + 1 : Nat) : Int) := by push_cast; rfl
    show wpAny _ A.in1 (holding [.ref T] _ >>= _) _ _ _
    refine wpAny_bind (wpAny_holding ?_)
    refine wpAny_bind (wpAny_tryCatch (wpAny_mono (Q := fun r s' => r = [kv, vv] ∧ s' = { s₀ with heap := h', toks := tk }) (E := fun _ _ => False) ?_ (fun r s' q => ?_) fun _ _ e => e.elim))
    · unfold Builtin.Dict.pairItems
      refine wpAny_bind (wpAny_typeOf hTt ?_)
      rw [if_pos (by decide)]
      refine wpAny_bind (wpAny_seqItems hps' rfl (wpAny_pure ⟨rfl, rfl⟩))
    · obtain ⟨rfl, rfl⟩ := q
      refine wpAny_holding (wpAny_dictSet_pairs (knd := kk W.prog W.w) (k := (kvs[i]'hlt).1) (kIs_of ek) hd' (fun h₂ hd₂ hs₂ => ?_) hks')
      rw [hst] at hd₂
      have hit₂ : h₂.IsListIter I l (i + 1) := hit'.extBut hs₂.extBut (Ne.symm hDI)
      refine wpAny_pure ⟨plainId_quiet plain_dict_loop _, ?_⟩
      show codeAny _ A (.builtin "dict.update.loop" ⟨[.ref D, .ref I, rawInt ((i : Int) + 1), .none], []⟩) R _
      rw [hc']
      refine ih (i + 1) _ (ks ++ [((kvs[i]'hlt).1, vv)]) (by omega) hlt (fun b o h1 h2 h3 => (hs₂.2 b h1).trans (hs'.extBut b o h2 (hk b o h1 h2 h3))) ⟨h₂, tk + 1, rfl⟩ hit₂ hd₂ ?_ hR
      rw [List.map_append, hks, List.take_add_one, hkv]
      simp [ev]
/-- dict(a list of pairs) -/
theorem L_dict_pairs {l : Addr} {vs : List AV} {kvs : List (Key × AV)} {Q : AV → Rho → AHeap → Prop} (g : Tag) (hl : σ l = some (.list vs)) (hp : PairsAt σ vs kvs) (hn : (kvs.map (·.1)).Nodup) (hz : kvs.length ≤ 1000) (h : ∀ ep, New σ (.dict g kvs ep) (fun v σ' => Q v ρ σ')) :
    ∀ ws : List Value, ws.map ab = [.ref l] → T W n env ab (PySem.call (.type "dict") ws) Q ρ σ := fun ws e Φ A s r S => by
  obtain ⟨x, rfl, ex⟩ := map_one e
  obtain rfl := ab_ref ex
  obtain ⟨us, m, hu, _⟩ := (S.sh.hp _ _ hl).listX
  refine callType_codes (Q₁ := fun obj s₁ => obj = .ref s.heap.objs.size ∧ s₁ = { s with heap := s.heap.push { cls := .type "dict", data := .dict #[] } }) PySem.F.kt_called_dict (PySem.F.kt_typeCall_dict_1 _) PySem.F.entry_dict_init (kt_code_dict_new _ ⟨rfl, rfl⟩) ?_
  rintro obj s₁ ⟨rfl, rfl⟩
  have nD : s.heap.get? s.heap.objs.size = none := size_none
  have hnew : (s.heap.push { cls := .type "dict", data := .dict #[] }).DictOf (kk W.prog W.w) s.heap.objs.size [] := Heap.DictOf.new s.heap
  have hu' : (s.heap.push { cls := .type "dict", data := .dict #[] }).get? l = some ⟨.type "list", none, .seq us.toArray m, #[]⟩ := Heap.get?_push_of_some _ hu
  refine ⟨hnew.typeIs, PySem.F.args_dict_init_2 _ _, ?_⟩
  unfold Builtin.«dict.__init__»
  refine wpAny_bind ?_
  unfold Builtin.Dict.selfAndRest
  refine wpAny_bind (wpAny_notOrdered_dict hnew.typeIs ?_)
  show wpAny _ _ (Pure.pure (s.heap.objs.size, [Value.ref l])) _ _ _
  refine wpAny_pure ?_
  show wpAny _ _ (Builtin.Dict.updateFrom "dict.__init__" s.heap.objs.size (.ref l) [] .none) _ _ _
  unfold Builtin.Dict.updateFrom
  refine wpAny_bind (wpAny_typeOf (T := "list") ⟨_, hu', rfl⟩ ?_)
  rw [if_pos (by decide)]
  refine wpAny_bind (list_no_keys hu' r.1 fun h' tk hk => ?_)
  rw [if_pos (by decide)]
  refine wpAny_bind (wpAny_rule ?_)
  have hl' : h'.IsList l us.toArray := ⟨_, hk _ _ hu', rfl, _, rfl⟩
  have hd' : h'.DictOf (kk W.prog W.w) s.heap.objs.size [] := by obtain ⟨o, es, ep, ho, rr⟩ := hnew; exact ⟨o, es, ep, hk _ _ ho, rr⟩
  have kept : ∀ b o, s.heap.get? b = some o → h'.get? b = some o := fun b o e => hk b o (Heap.get?_push_of_some _ e)
  have S' : St W Φ env ρ σ { s with heap := h', toks := tk } := S.ext tk kept
  have Dlt : s.heap.objs.size < h'.objs.size := by obtain ⟨o, es, ep, ho, _⟩ := hd'; exact Heap.lt_size ho
  refine wpAny_bind (wpAny_pyIter_list hl' ?_)
  refine wpAny_pure ⟨plainId_quiet plain_dict_loop _, ?_⟩
  have S'' : St W Φ env ρ σ { s with heap := h'.push { cls := .type "list_iterator", data := .fields #[.ref l, .int 0 0] }, toks := tk } := S'.push _ tk
  have Iσ : σ h'.objs.size = none := St.none_size S'.sh
  have Dσ : σ s.heap.objs.size = none := St.none_of S.sh nD
  refine dict_loop (W := W) (A := A.in1) r.1 hl hp hn hz Dσ Iσ (Nat.ne_of_lt Dlt) S''.sh kvs.length 0 _ [] rfl (Nat.zero_le _) (fun b o _ _ e => e) ⟨_, _, rfl⟩ ⟨_, Heap.get?_push_size _ rfl, rfl, rfl⟩ (hd'.push _) rfl fun h₂ tk₂ ks hk₂ hd₂ hks => ?_
  obtain ⟨ep, hat⟩ := hd₂.dictAt
  refine ⟨rfl, new_at S (fun b o e => ?_) nD (by rw [← hks]; exact .dict g ks ep hat) (h ep)⟩
  have hb : b < s.heap.objs.size := Heap.lt_size e
  exact hk₂ b o (Nat.ne_of_lt hb) (Nat.ne_of_lt (Nat.lt_trans hb Dlt)) (Heap.get?_push_of_some _ (kept b o e))
end

/-! the text's defs by their places -/
abbrev pg : Program := PySem.Challenge.pw_np0042_01
def fOf (st : Stmt) (q : Str → Str) (dV cd pm : Value) : Obj := match st with
  | .FunctionDef (name := n) (args := a) (body := b) (scope := sc) .. =>
    { cls := .type "function", data := .func { name := n, qualname := q n, params := a, body := .stmts b, scope := sc, globals := 3, closure := [], defaults := dV, kwdefaults := .none, doc := .none, pyModule := pm, annotations := none, code := cd, closureTuple := .none, builtins := 0 } }
  | _ => default
def fO (i : Nat) (dV cd pm : Value) : Obj := match pg.main.body.drop i with
  | st :: _ => fOf st (fun n => n) dV cd pm
  | [] => default
def mO (i : Nat) (dV cd pm : Value) : Obj := match pg.main.body.drop 11 with
  | .ClassDef (body := b) .. :: _ => (match b.drop i with
    | st :: _ => fOf st (fun n => "Keymap." ++ n) dV cd pm
    | [] => default)
  | _ => default
def hs (P : Params) (x : String) : Int := if (Str.ofString x).cps.isEmpty then 0 else reduceHash (P.strHash (Str.ofString x).cps)
def nsE (P : Params) (x : String) (t : Nat) (v : Value) : DictEntry := ⟨hs P x, .str x t, v⟩
def tupO (v : Value) : Obj := { cls := .type "tuple", data := .seq #[v] 0 }
def KM (P : Params) : Frag := [
    (77, tupO (.str "" 279)), (233, tupO (.bool false)), (248, tupO (.bool true)),
    (121, { cls := .type "dict", data := .dict #[nsE P "__module__" 274 (.str "emacs.keymaps" 265), nsE P "__firstlineno__" 278 (.int 27 277), nsE P "__init__" 287 (.ref 84), nsE P "is_bound" 295 (.ref 91), nsE P "own" 303 (.ref 98),
      nsE P "put" 312 (.ref 105), nsE P "drop" 320 (.ref 112), nsE P "set_default" 328 (.ref 119), nsE P "__static_attributes__" 334 (.ref 120), nsE P "__dict__" 336 (.ref 123), nsE P "__weakref__" 338 (.ref 124), nsE P "__doc__" 339 .none] 4 }),
    (122, ⟨.type "type", none, .cls ⟨"Keymap", [.type "object"], [.ref 122, .type "object"], 121, "Keymap", true, [], [], false, none, false⟩,
      #[none, none, some (.str "Keymap" 267), some (.str "Keymap" 275), some (.builtin "object.__new__"), some (.bool true)]⟩),
    (48, fO 6 .none (.ref 47) (.str "emacs.events" 227)),
    (55, fO 7 .none (.ref 54) (.str "emacs.events" 227)),
    (62, fO 8 .none (.ref 61) (.str "emacs.events" 227)),
    (69, fO 9 .none (.ref 68) (.str "emacs.events" 227)),
    (84, mO 0 (.ref 77) (.ref 83) (.str "emacs.keymaps" 265)),
    (91, mO 1 .none (.ref 90) (.str "emacs.keymaps" 265)),
    (98, mO 2 .none (.ref 97) (.str "emacs.keymaps" 265)),
    (105, mO 3 .none (.ref 104) (.str "emacs.keymaps" 265)),
    (112, mO 4 .none (.ref 111) (.str "emacs.keymaps" 265)),
    (133, fO 12 .none (.ref 132) (.str "emacs.keymaps" 265)),
    (140, fO 13 .none (.ref 139) (.str "emacs.keymaps" 265)),
    (145, fO 14 .none (.ref 144) (.str "emacs.keymaps" 265)),
    (159, fO 16 .none (.ref 158) (.str "emacs.keymaps" 265)),
    (166, fO 17 .none (.ref 165) (.str "emacs.keymaps" 265)),
    (173, fO 18 .none (.ref 172) (.str "emacs.keymaps" 265)),
    (180, fO 19 .none (.ref 179) (.str "emacs.keymaps" 265)),
    (187, fO 20 .none (.ref 186) (.str "emacs.keymaps" 265)),
    (194, fO 21 .none (.ref 193) (.str "emacs.keymaps" 265)),
    (199, fO 27 .none (.ref 198) (.str "emacs.lookup" 433)),
    (204, fO 28 .none (.ref 203) (.str "emacs.lookup" 433)),
    (211, fO 29 .none (.ref 210) (.str "emacs.lookup" 433)),
    (218, fO 30 .none (.ref 217) (.str "emacs.lookup" 433)),
    (225, fO 31 .none (.ref 224) (.str "emacs.lookup" 433)),
    (232, fO 32 .none (.ref 231) (.str "emacs.lookup" 433)),
    (240, fO 33 (.ref 233) (.ref 239) (.str "emacs.lookup" 433)),
    (247, fO 34 .none (.ref 246) (.str "emacs.lookup" 433)),
    (255, fO 35 (.ref 248) (.ref 254) (.str "emacs.lookup" 433)),
    (260, fO 37 .none (.ref 259) (.str "emacs.whereis" 531)),
    (267, fO 39 .none (.ref 266) (.str "law_np0042_01" 539)),
    (274, fO 40 .none (.ref 273) (.str "law_np0042_01" 539)),
    (281, fO 41 .none (.ref 280) (.str "law_np0042_01" 539)),
    (286, fO 42 .none (.ref 285) (.str "law_np0042_01" 539)),
    (291, fO 43 .none (.ref 290) (.str "law_np0042_01" 539)),
    (296, fO 44 .none (.ref 295) (.str "law_np0042_01" 539)),
    (301, fO 45 .none (.ref 300) (.str "law_np0042_01" 539)),
    (308, fO 46 .none (.ref 307) (.str "law_np0042_01" 539)),
    (313, fO 47 .none (.ref 312) (.str "law_np0042_01" 539)),
    (320, fO 48 .none (.ref 319) (.str "law_np0042_01" 539)),
    (325, fO 49 .none (.ref 324) (.str "law_np0042_01" 539))]
def KCd : List (Addr × Value) := [(47, .str "is_sign" 236), (54, .str "has_meta" 243), (61, .str "without_meta" 250), (68, .str "spread_meta" 257), (83, .str "Keymap.__init__" 281), (90, .str "Keymap.is_bound" 289), (97, .str "Keymap.own" 297), (104, .str "Keymap.put" 305), (111, .str "Keymap.drop" 314), (132, .str "is_keymap" 343), (139, .str "chain_of" 350), (144, .str "set_parent" 358), (158, .str "map_for" 372), (165, .str "define_key" 382), (172, .str "undefine_key" 392), (179, .str "remap" 402), (186, .str "suppress" 411), (193, .str "copy_keymap" 420), (198, .str "rows_along" 444), (203, .str "defaults_along" 450), (210, .str "bindings_in" 456), (217, .str "joined" 466), (224, .str "first_in" 475), (231, .str "found_in" 485), (239, .str "lookup_keys" 497), (246, .str "remapped" 511), (254, .str "key_binding" 521), (259, .str "substitute" 534), (266, .str "_law_draw" 542), (273, .str "_law_pick" 550), (280, .str "_law_events" 558), (285, .str "_law_trees" 564), (290, .str "_law_row" 570), (295, .str "_law_slow" 576), (300, .str "_law_every" 582), (307, .str "_law_tells" 588), (312, .str "_law_copied" 600), (319, .str "_law_swapped" 606), (324, .str "law" 619)]
def KNm : List (String × Value) := [("is_sign", (.ref 48)), ("has_meta", (.ref 55)), ("without_meta", (.ref 62)), ("spread_meta", (.ref 69)), ("is_keymap", (.ref 133)), ("chain_of", (.ref 140)), ("set_parent", (.ref 145)), ("map_for", (.ref 159)), ("define_key", (.ref 166)), ("undefine_key", (.ref 173)), ("remap", (.ref 180)), ("suppress", (.ref 187)), ("copy_keymap", (.ref 194)), ("rows_along", (.ref 199)), ("defaults_along", (.ref 204)), ("bindings_in", (.ref 211)), ("joined", (.ref 218)), ("first_in", (.ref 225)), ("found_in", (.ref 232)), ("lookup_keys", (.ref 240)), ("remapped", (.ref 247)), ("key_binding", (.ref 255)), ("substitute", (.ref 260)), ("_law_draw", (.ref 267)), ("_law_pick", (.ref 274)), ("_law_events", (.ref 281)), ("_law_trees", (.ref 286)), ("_law_row", (.ref 291)), ("_law_slow", (.ref 296)), ("_law_every", (.ref 301)), ("_law_tells", (.ref 308)), ("_law_copied", (.ref 313)), ("_law_swapped", (.ref 320)), ("law", (.ref 325)), ("META", (.int 134217728 231)), ("ESCAPE", (.int 27 233)), ("NONE", (.str "none" 435)), ("PREFIX", (.str "prefix" 437)), ("BOUND", (.str "bound" 439)), ("LONG", (.str "long" 441)), ("Keymap", (.ref 122))]

def KNo : List String := ["isinstance", "len", "range", "list", "tuple", "dict", "enumerate", "int", "str"]
def codeQ (h : Heap) (a : Addr) : Option Value := match h.get? a with
  | some ⟨_, _, .fields vs, _⟩ => vs[1]?
  | _ => none
def KAs : List Addr := [77, 233, 248, 121, 122, 48, 55, 62, 69, 84, 91, 98, 105, 112, 133, 140, 145, 159, 166, 173, 180, 187, 194, 199, 204, 211, 218, 225, 232, 240, 247, 255, 260, 267, 274, 281, 286, 291, 296, 301, 308, 313, 320, 325]
def hkObs (s : Shared) : List (Option Obj) × List (Option Value) × List (Option Value) × List (Option Value) := (KAs.map s.heap.get?, KCd.map (fun c => codeQ s.heap c.1), KNm.map fun x => s.heap.nsMap mainGlobals x.1, KNo.map fun (x : String) => s.heap.nsMap mainGlobals x)
def hkVal (w : World) : List (Option Obj) × List (Option Value) × List (Option Value) × List (Option Value) := ((KM w.params).map (fun p => some p.2), KCd.map (fun c => some c.2), KNm.map fun x => some x.2, KNo.map fun _ => none)

def view : Program := { pg with main := { pg.main with body := pg.main.body.drop 49 } }
def looseN : List Str := (["_wall", "LispSignal", "META", "ESCAPE", "is_sign", "has_meta", "without_meta", "spread_meta",
  "Keymap", "is_keymap", "chain_of", "set_parent", "non_prefix", "map_for", "define_key", "undefine_key", "remap",
  "suppress", "copy_keymap", "NONE", "PREFIX", "BOUND", "LONG", "rows_along", "defaults_along", "bindings_in", "joined",
  "first_in", "found_in", "lookup_keys", "remapped", "key_binding", "substitute", "_law_draw", "_law_pick",
  "_law_events", "_law_trees", "_law_row", "_law_slow", "_law_every", "_law_tells", "_law_copied", "_law_swapped"] : List String).map Str.ofString

def fdOf (o : Obj) : FuncData := match o.data with | .func fd => fd | _ => default
def bodyOf (fd : FuncData) : List Stmt := match fd.body with | .stmts b => b | _ => []
structure Good (W : Wd) : Prop where
  k : W.K = KM W.w.params
  c : W.C = 122
  cd : ∀ a v, KCd.lookup a = some v → codeQ W.base a = some v
  nm : ∀ x v, KNm.lookup x = some v → W.mg (Str.ofString x) = some v
  no : ∀ x ∈ KNo, W.mg (Str.ofString x) = none

theorem codeRec_ofQ {h : Heap} {a : Addr} {q : Str} {t : Tok} (e : codeQ h a = some (.str q t)) : h.CodeRec (.ref a) q := by
  unfold codeQ at e
  split at e
  · rename_i c d vs sl q'
    exact ⟨a, _, vs, t, rfl, q', rfl, e⟩
  · cases e
theorem cellsFrom_acc {x : Str} : ∀ {names : List (Str × NameKind)} {n : Nat} {acc : List (Str × Addr)}, (acc.lookup x).isSome = true → ((cellsFrom n names acc).lookup x).isSome = true := by
  intro names
  induction names with
  | nil => intro n acc h; exact h
  | cons p r ih =>
    intro n acc h
    obtain ⟨y, k⟩ := p
    unfold cellsFrom
    split
    · refine ih ?_
      rw [List.lookup_cons]
      split
      · rfl
      · exact h
    · exact ih h
theorem cellsFrom_has {x : Str} : ∀ {names : List (Str × NameKind)} {n : Nat} {acc : List (Str × Addr)}, names.lookup x = some .cell → ((cellsFrom n names acc).lookup x).isSome = true := by
  intro names
  induction names with
  | nil => intro n acc h; cases h
  | cons p r ih =>
    intro n acc h
    obtain ⟨y, k⟩ := p
    unfold cellsFrom
    rw [List.lookup_cons] at h
    cases e : x == y with
    | true =>
      rw [e] at h; cases h
      rw [if_pos (by decide)]
      refine cellsFrom_acc ?_
      rw [List.lookup_cons, e]; rfl
    | false =>
      rw [e] at h
      split
      · exact ih h
      · exact ih h
def bindOk (fd : FuncData) (nms : List Str) : Bool := nms.all fun x => match fd.scope.names.lookup x with | some .local => true | some .cell => true | _ => false
theorem enterB {W : Wd} {n : Nat} {σ : AHeap} {fa : Addr} {fd : FuncData} {args : List AV} {ρ₀ : Rho} {Q : AV → AHeap → Prop} (nms : List Str) (hf : Fn W fa fd (bodyOf fd)) (hb : Binds W fd args ρ₀) (e : ρ₀.map (·.1) = nms) (hn : nms.Nodup) (hk : bindOk fd nms = true)
    (h : ∀ L, TS W n (callEnvC fd L fa) (execs (bodyOf fd) (callEnvC fd L fa)) (fun fl _ σ' => Q (retOf fl) σ') ρ₀ σ) : Spec W (n + 1) fa args σ Q := by
  subst e
  refine enter hf hb hn (fun L x hx => ?_) h
  have := List.all_eq_true.mp hk x hx
  split at this
  · rename_i q; exact .inl q
  · rename_i q; exact .inr ⟨q, cellsFrom_has q⟩
  · cases this

/-! the data -/
def lav : Option Str → AV
  | none => .none
  | some c => .str c
abbrev Rows := List (Key × Option Str)
inductive Bnd where
  | leaf (c : Option Str)
  | map (r : Rows)
abbrev Tree := List (Key × Bnd)
def lrows (r : Rows) : List (Key × AV) := r.map fun p => (p.1, lav p.2)
def sx (x : String) : Str := Str.ofString x
def kf (r : Addr) (p : AV) : List (Str × AV) := [("prompt", .str ""), ("rows", .ref r), ("has_default", .bool false), ("default", .none), ("parent", p)]

/-- a keymap object -/
def KM0 (σ : AHeap) (x : Addr) (g : Tag) (p : AV) (kvs : List (Key × AV)) : Prop := ∃ d r ep, σ x = some (.inst g d) ∧ σ d = some (.flds g (kf r p)) ∧ σ r = some (.dict g kvs ep)
def KSub (σ : AHeap) (x : Addr) (g : Tag) (rows : Rows) : Prop := KM0 σ x g .none (lrows rows)
def DSub (σ : AHeap) (x : Addr) (g : Tag) (rows : Rows) : Prop := ∃ ep, σ x = some (.dict g (lrows rows) ep)
/-- what stands under a key -/
def BAt (M : AHeap → Addr → Tag → Rows → Prop) (σ : AHeap) (reg : Nat) (k : Key) (v : AV) : Bnd → Prop
  | .leaf c => v = lav c
  | .map rows => ∃ x, v = .ref x ∧ M σ x (reg, some k) rows
inductive RAt (M : AHeap → Addr → Tag → Rows → Prop) (σ : AHeap) (reg : Nat) : List (Key × AV) → Tree → Prop where
  | nil : RAt M σ reg [] []
  | cons {k v b kvs T} : BAt M σ reg k v b → RAt M σ reg kvs T → RAt M σ reg ((k, v) :: kvs) ((k, b) :: T)
def KTop (σ : AHeap) (x : Addr) (reg : Nat) (p : AV) (T : Tree) : Prop := ∃ kvs, KM0 σ x (reg, none) p kvs ∧ RAt KSub σ reg kvs T
def DTree (σ : AHeap) (t : Addr) (reg : Nat) (T : Tree) : Prop := ∃ kvs ep, σ t = some (.dict (reg, none) kvs ep) ∧ RAt DSub σ reg kvs T

def tagOf : AObj → Option Tag
  | .dict g _ _ => some g
  | .inst g _ => some g
  | .flds g _ => some g
  | _ => none
/-- all but what has one of these tags is kept -/
def Mod (P : Tag → Prop) (σ σ' : AHeap) : Prop := ∀ a o, σ a = some o → (∀ g, tagOf o = some g → ¬ P g) → σ' a = some o
theorem Mod.of_le {P : Tag → Prop} {σ σ' : AHeap} (h : Le σ σ') : Mod P σ σ' := fun a o e _ => h a o e
theorem Mod.trans {P : Tag → Prop} {σ σ1 σ2 : AHeap} (a : Mod P σ σ1) (b : Mod P σ1 σ2) : Mod P σ σ2 := fun x o e k => b x o (a x o e k) k
theorem Mod.mono {P P' : Tag → Prop} {σ σ' : AHeap} (h : Mod P σ σ') (k : ∀ g, P g → P' g) : Mod P' σ σ' := fun a o e q => h a o e fun g hg hp => q g hg (k g hp)
theorem Mod.of_chg {P : Tag → Prop} {σ σ' : AHeap} {r : Addr} {o o' : AObj} {g : Tag} (h : Chg r o σ σ') (e : σ r = some o') (hg : tagOf o' = some g) (hp : P g) : Mod P σ σ' := fun a oa ea k => by
  by_cases q : a = r
  · subst q; rw [e] at ea; cases ea; exact absurd hp (k g hg)
  · exact h.2 a oa q ea
theorem Le.chg {σ σ1 σ2 : AHeap} {r : Addr} {o : AObj} (h : Le σ σ1) (n : σ r = none) (c : Chg r o σ1 σ2) : Le σ σ2 := fun a oa e => c.2 a oa (fun q => by rw [q, n] at e; cases e) (h a oa e)

theorem KM0.mod {P : Tag → Prop} {σ σ' : AHeap} {x : Addr} {g : Tag} {p : AV} {kvs : List (Key × AV)} (h : KM0 σ x g p kvs) (m : Mod P σ σ') (n : ¬ P g) : KM0 σ' x g p kvs := by
  obtain ⟨d, r, ep, h1, h2, h3⟩ := h
  have t : ∀ g', some g = some g' → ¬ P g' := fun g' e => by cases e; exact n
  exact ⟨d, r, ep, m _ _ h1 t, m _ _ h2 t, m _ _ h3 t⟩
theorem KM0.le {σ σ' : AHeap} {x : Addr} {g : Tag} {p : AV} {kvs : List (Key × AV)} (h : KM0 σ x g p kvs) (m : Le σ σ') : KM0 σ' x g p kvs := h.mod (P := fun _ => False) (Mod.of_le m) id
structure Stable (M : AHeap → Addr → Tag → Rows → Prop) : Prop where
  mod : ∀ {P : Tag → Prop} {σ σ' : AHeap} {x : Addr} {g : Tag} {r : Rows}, M σ x g r → Mod P σ σ' → ¬ P g → M σ' x g r
theorem stabK : Stable KSub := ⟨fun h m n => KM0.mod h m n⟩
theorem stabD : Stable DSub := ⟨fun ⟨ep, h⟩ m n => ⟨ep, m _ _ h fun g' e => by cases e; exact n⟩⟩
section
variable {M : AHeap → Addr → Tag → Rows → Prop} {P : Tag → Prop} {σ σ' : AHeap} {reg : Nat}
theorem BAt.mod {k : Key} {v : AV} {b : Bnd} (h : BAt M σ reg k v b) (m : Mod P σ σ') (n : ¬ P (reg, some k)) (st : Stable M := by first | exact stabK | exact stabD | assumption) : BAt M σ' reg k v b := by
  cases b with
  | leaf c => exact h
  | map r => obtain ⟨x, e, h⟩ := h; exact ⟨x, e, st.mod h m n⟩
theorem RAt.mod {kvs : List (Key × AV)} {T : Tree} (h : RAt M σ reg kvs T) (m : Mod P σ σ') (n : ∀ k, ¬ P (reg, some k)) (st : Stable M := by first | exact stabK | exact stabD | assumption) : RAt M σ' reg kvs T := by
  induction h with
  | nil => exact .nil
  | cons b _ ih => exact .cons (b.mod m (n _)) ih
end
theorem KTop.mod {P : Tag → Prop} {σ σ' : AHeap} {x : Addr} {reg : Nat} {p : AV} {T : Tree} (h : KTop σ x reg p T) (m : Mod P σ σ') (n : ∀ k, ¬ P (reg, k)) : KTop σ' x reg p T := by
  obtain ⟨kvs, h1, h2⟩ := h; exact ⟨kvs, h1.mod m (n _), h2.mod m fun k => n _⟩
theorem KTop.le {σ σ' : AHeap} {x : Addr} {reg : Nat} {p : AV} {T : Tree} (h : KTop σ x reg p T) (m : Le σ σ') : KTop σ' x reg p T := h.mod (P := fun _ => False) (Mod.of_le m) fun _ => id
theorem DTree.mod {P : Tag → Prop} {σ σ' : AHeap} {t : Addr} {reg : Nat} {T : Tree} (h : DTree σ t reg T) (m : Mod P σ σ') (n : ∀ k, ¬ P (reg, k)) : DTree σ' t reg T := by
  obtain ⟨kvs, ep, h1, h2⟩ := h; exact ⟨kvs, ep, m _ _ h1 fun g e => by cases e; exact n _, h2.mod m fun k => n _⟩
theorem DTree.le {σ σ' : AHeap} {t : Addr} {reg : Nat} {T : Tree} (h : DTree σ t reg T) (m : Le σ σ') : DTree σ' t reg T := h.mod (P := fun _ => False) (Mod.of_le m) fun _ => id

/-! trees -/
def tget (T : Tree) (k : Key) : Option Bnd := (T.find? fun p => p.1 = k).map (·.2)
def tput : Tree → Key → Bnd → Tree
  | [], k, b => [(k, b)]
  | (j, u) :: r, k, b => if j = k then (j, b) :: r else (j, u) :: tput r k b
def tdel (T : Tree) (k : Key) : Tree := T.filter fun p => decide (p.1 ≠ k)
def rput : Rows → Key → Option Str → Rows
  | [], k, b => [(k, b)]
  | (j, u) :: r, k, b => if j = k then (j, b) :: r else (j, u) :: rput r k b
theorem lrows_put (r : Rows) (k : Key) (c : Option Str) : lrows (rput r k c) = kput (lrows r) k (lav c) := by
  induction r with
  | nil => rfl
  | cons p r ih =>
    obtain ⟨j, u⟩ := p
    show lrows (if j = k then _ else _) = (if j = k then _ else _)
    split
    · rfl
    · show (j, lav u) :: lrows (rput r k c) = _; rw [ih]; rfl
theorem lrows_get (r : Rows) (k : Key) : dget (lrows r) k = ((r.find? fun p => p.1 = k).map (·.2)).map lav := by
  induction r with
  | nil => rfl
  | cons p r ih =>
    obtain ⟨j, u⟩ := p
    unfold dget lrows at ih ⊢
    simp only [List.map_cons, List.find?_cons]
    by_cases e : j = k
    · simp [e]
    · simp only [e, decide_false]; exact ih
section
variable {M : AHeap → Addr → Tag → Rows → Prop} {σ : AHeap} {reg : Nat}
theorem RAt.get {kvs : List (Key × AV)} {T : Tree} (h : RAt M σ reg kvs T) (k : Key) : (dget kvs k = none ∧ tget T k = none) ∨ ∃ v b, dget kvs k = some v ∧ tget T k = some b ∧ BAt M σ reg k v b := by
  induction h with
  | nil => exact .inl ⟨rfl, rfl⟩
  | @cons j v b kvs T hb _ ih =>
    unfold dget tget at ih ⊢
    simp only [List.find?_cons]
    by_cases e : j = k
    · subst e; exact .inr ⟨v, b, by simp, by simp, hb⟩
    · simp only [e, decide_false]; exact ih
theorem RAt.put {kvs : List (Key × AV)} {T : Tree} (h : RAt M σ reg kvs T) {k : Key} {v : AV} {b : Bnd} (hb : BAt M σ reg k v b) : RAt M σ reg (kput kvs k v) (tput T k b) := by
  induction h with
  | nil => exact .cons hb .nil
  | @cons j u c kvs T hc h ih =>
    unfold kput tput
    by_cases e : j = k
    · subst e; simp only [if_true]; exact .cons hb h
    · simp only [e, if_false]; exact .cons hc ih
theorem RAt.del {kvs : List (Key × AV)} {T : Tree} (h : RAt M σ reg kvs T) (k : Key) : RAt M σ reg (kdel kvs k) (tdel T k) := by
  induction h with
  | nil => exact .nil
  | @cons j u c kvs T hc h ih =>
    unfold kdel tdel at ih ⊢
    rw [List.filter_cons, List.filter_cons]
    split <;> rename_i q
    · exact .cons hc ih
    · exact ih
theorem RAt.length {kvs : List (Key × AV)} {T : Tree} (h : RAt M σ reg kvs T) : kvs.length = T.length := by
  induction h with
  | nil => rfl
  | cons _ _ ih => simp [ih]
theorem RAt.keys {kvs : List (Key × AV)} {T : Tree} (h : RAt M σ reg kvs T) : kvs.map (·.1) = T.map (·.1) := by
  induction h with
  | nil => rfl
  | cons _ _ ih => simp [ih]
end

section
variable {W : Wd} (G : Good W)
def fd_is_sign : FuncData := fdOf (fO 6 .none (.ref 47) (.str "emacs.events" 227))
def fd_has_meta : FuncData := fdOf (fO 7 .none (.ref 54) (.str "emacs.events" 227))
def fd_without_meta : FuncData := fdOf (fO 8 .none (.ref 61) (.str "emacs.events" 227))
def fd_spread_meta : FuncData := fdOf (fO 9 .none (.ref 68) (.str "emacs.events" 227))
def fd_m_init : FuncData := fdOf (mO 0 (.ref 77) (.ref 83) (.str "emacs.keymaps" 265))
def fd_m_is_bound : FuncData := fdOf (mO 1 .none (.ref 90) (.str "emacs.keymaps" 265))
def fd_m_own : FuncData := fdOf (mO 2 .none (.ref 97) (.str "emacs.keymaps" 265))
def fd_m_put : FuncData := fdOf (mO 3 .none (.ref 104) (.str "emacs.keymaps" 265))
def fd_m_drop : FuncData := fdOf (mO 4 .none (.ref 111) (.str "emacs.keymaps" 265))
def fd_is_keymap : FuncData := fdOf (fO 12 .none (.ref 132) (.str "emacs.keymaps" 265))
def fd_chain_of : FuncData := fdOf (fO 13 .none (.ref 139) (.str "emacs.keymaps" 265))
def fd_set_parent : FuncData := fdOf (fO 14 .none (.ref 144) (.str "emacs.keymaps" 265))
def fd_map_for : FuncData := fdOf (fO 16 .none (.ref 158) (.str "emacs.keymaps" 265))
def fd_define_key : FuncData := fdOf (fO 17 .none (.ref 165) (.str "emacs.keymaps" 265))
def fd_undefine_key : FuncData := fdOf (fO 18 .none (.ref 172) (.str "emacs.keymaps" 265))
def fd_remap : FuncData := fdOf (fO 19 .none (.ref 179) (.str "emacs.keymaps" 265))
def fd_suppress : FuncData := fdOf (fO 20 .none (.ref 186) (.str "emacs.keymaps" 265))
def fd_copy_keymap : FuncData := fdOf (fO 21 .none (.ref 193) (.str "emacs.keymaps" 265))
def fd_rows_along : FuncData := fdOf (fO 27 .none (.ref 198) (.str "emacs.lookup" 433))
def fd_defaults_along : FuncData := fdOf (fO 28 .none (.ref 203) (.str "emacs.lookup" 433))
def fd_bindings_in : FuncData := fdOf (fO 29 .none (.ref 210) (.str "emacs.lookup" 433))
def fd_joined : FuncData := fdOf (fO 30 .none (.ref 217) (.str "emacs.lookup" 433))
def fd_first_in : FuncData := fdOf (fO 31 .none (.ref 224) (.str "emacs.lookup" 433))
def fd_found_in : FuncData := fdOf (fO 32 .none (.ref 231) (.str "emacs.lookup" 433))
def fd_lookup_keys : FuncData := fdOf (fO 33 (.ref 233) (.ref 239) (.str "emacs.lookup" 433))
def fd_remapped : FuncData := fdOf (fO 34 .none (.ref 246) (.str "emacs.lookup" 433))
def fd_key_binding : FuncData := fdOf (fO 35 (.ref 248) (.ref 254) (.str "emacs.lookup" 433))
def fd_substitute : FuncData := fdOf (fO 37 .none (.ref 259) (.str "emacs.whereis" 531))
def fd_law_draw : FuncData := fdOf (fO 39 .none (.ref 266) (.str "law_np0042_01" 539))
def fd_law_pick : FuncData := fdOf (fO 40 .none (.ref 273) (.str "law_np0042_01" 539))
def fd_law_events : FuncData := fdOf (fO 41 .none (.ref 280) (.str "law_np0042_01" 539))
def fd_law_trees : FuncData := fdOf (fO 42 .none (.ref 285) (.str "law_np0042_01" 539))
def fd_law_row : FuncData := fdOf (fO 43 .none (.ref 290) (.str "law_np0042_01" 539))
def fd_law_slow : FuncData := fdOf (fO 44 .none (.ref 295) (.str "law_np0042_01" 539))
def fd_law_every : FuncData := fdOf (fO 45 .none (.ref 300) (.str "law_np0042_01" 539))
def fd_law_tells : FuncData := fdOf (fO 46 .none (.ref 307) (.str "law_np0042_01" 539))
def fd_law_copied : FuncData := fdOf (fO 47 .none (.ref 312) (.str "law_np0042_01" 539))
def fd_law_swapped : FuncData := fdOf (fO 48 .none (.ref 319) (.str "law_np0042_01" 539))
def fd_law : FuncData := fdOf (fO 49 .none (.ref 324) (.str "law_np0042_01" 539))
include G
theorem fn_is_sign : Fn W 48 fd_is_sign (bodyOf fd_is_sign) := ⟨⟨.type "function", none, #[], by rw [G.k]; rfl⟩, codeRec_ofQ (G.cd 47 _ rfl), rfl, rfl, rfl, rfl, rfl⟩
theorem at_is_sign : FnAt W "is_sign" 48 := ⟨G.nm "is_sign" _ rfl, by rw [G.k]; rfl, rfl⟩
theorem fn_has_meta : Fn W 55 fd_has_meta (bodyOf fd_has_meta) := ⟨⟨.type "function", none, #[], by rw [G.k]; rfl⟩, codeRec_ofQ (G.cd 54 _ rfl), rfl, rfl, rfl, rfl, rfl⟩
theorem at_has_meta : FnAt W "has_meta" 55 := ⟨G.nm "has_meta" _ rfl, by rw [G.k]; rfl, rfl⟩
theorem fn_without_meta : Fn W 62 fd_without_meta (bodyOf fd_without_meta) := ⟨⟨.type "function", none, #[], by rw [G.k]; rfl⟩, codeRec_ofQ (G.cd 61 _ rfl), rfl, rfl, rfl, rfl, rfl⟩
theorem at_without_meta : FnAt W "without_meta" 62 := ⟨G.nm "without_meta" _ rfl, by rw [G.k]; rfl, rfl⟩
theorem fn_spread_meta : Fn W 69 fd_spread_meta (bodyOf fd_spread_meta) := ⟨⟨.type "function", none, #[], by rw [G.k]; rfl⟩, codeRec_ofQ (G.cd 68 _ rfl), rfl, rfl, rfl, rfl, rfl⟩
theorem at_spread_meta : FnAt W "spread_meta" 69 := ⟨G.nm "spread_meta" _ rfl, by rw [G.k]; rfl, rfl⟩
theorem fn_m_init : Fn W 84 fd_m_init (bodyOf fd_m_init) := ⟨⟨.type "function", none, #[], by rw [G.k]; rfl⟩, codeRec_ofQ (G.cd 83 _ rfl), rfl, rfl, rfl, rfl, rfl⟩
theorem fn_m_is_bound : Fn W 91 fd_m_is_bound (bodyOf fd_m_is_bound) := ⟨⟨.type "function", none, #[], by rw [G.k]; rfl⟩, codeRec_ofQ (G.cd 90 _ rfl), rfl, rfl, rfl, rfl, rfl⟩
theorem at_m_is_bound : MethAt W "is_bound" 91 := ⟨by rw [G.k, G.c]; rfl, by rw [G.k, G.c]; rfl, by rw [G.k]; rfl, by rw [G.k]; rfl⟩
theorem fn_m_own : Fn W 98 fd_m_own (bodyOf fd_m_own) := ⟨⟨.type "function", none, #[], by rw [G.k]; rfl⟩, codeRec_ofQ (G.cd 97 _ rfl), rfl, rfl, rfl, rfl, rfl⟩
theorem at_m_own : MethAt W "own" 98 := ⟨by rw [G.k, G.c]; rfl, by rw [G.k, G.c]; rfl, by rw [G.k]; rfl, by rw [G.k]; rfl⟩
theorem fn_m_put : Fn W 105 fd_m_put (bodyOf fd_m_put) := ⟨⟨.type "function", none, #[], by rw [G.k]; rfl⟩, codeRec_ofQ (G.cd 104 _ rfl), rfl, rfl, rfl, rfl, rfl⟩
theorem at_m_put : MethAt W "put" 105 := ⟨by rw [G.k, G.c]; rfl, by rw [G.k, G.c]; rfl, by rw [G.k]; rfl, by rw [G.k]; rfl⟩
theorem fn_m_drop : Fn W 112 fd_m_drop (bodyOf fd_m_drop) := ⟨⟨.type "function", none, #[], by rw [G.k]; rfl⟩, codeRec_ofQ (G.cd 111 _ rfl), rfl, rfl, rfl, rfl, rfl⟩
theorem at_m_drop : MethAt W "drop" 112 := ⟨by rw [G.k, G.c]; rfl, by rw [G.k, G.c]; rfl, by rw [G.k]; rfl, by rw [G.k]; rfl⟩
theorem fn_is_keymap : Fn W 133 fd_is_keymap (bodyOf fd_is_keymap) := ⟨⟨.type "function", none, #[], by rw [G.k]; rfl⟩, codeRec_ofQ (G.cd 132 _ rfl), rfl, rfl, rfl, rfl, rfl⟩
theorem at_is_keymap : FnAt W "is_keymap" 133 := ⟨G.nm "is_keymap" _ rfl, by rw [G.k]; rfl, rfl⟩
theorem fn_chain_of : Fn W 140 fd_chain_of (bodyOf fd_chain_of) := ⟨⟨.type "function", none, #[], by rw [G.k]; rfl⟩, codeRec_ofQ (G.cd 139 _ rfl), rfl, rfl, rfl, rfl, rfl⟩
theorem at_chain_of : FnAt W "chain_of" 140 := ⟨G.nm "chain_of" _ rfl, by rw [G.k]; rfl, rfl⟩
theorem fn_set_parent : Fn W 145 fd_set_parent (bodyOf fd_set_parent) := ⟨⟨.type "function", none, #[], by rw [G.k]; rfl⟩, codeRec_ofQ (G.cd 144 _ rfl), rfl, rfl, rfl, rfl, rfl⟩
theorem at_set_parent : FnAt W "set_parent" 145 := ⟨G.nm "set_parent" _ rfl, by rw [G.k]; rfl, rfl⟩
theorem fn_map_for : Fn W 159 fd_map_for (bodyOf fd_map_for) := ⟨⟨.type "function", none, #[], by rw [G.k]; rfl⟩, codeRec_ofQ (G.cd 158 _ rfl), rfl, rfl, rfl, rfl, rfl⟩
theorem at_map_for : FnAt W "map_for" 159 := ⟨G.nm "map_for" _ rfl, by rw [G.k]; rfl, rfl⟩
theorem fn_define_key : Fn W 166 fd_define_key (bodyOf fd_define_key) := ⟨⟨.type "function", none, #[], by rw [G.k]; rfl⟩, codeRec_ofQ (G.cd 165 _ rfl), rfl, rfl, rfl, rfl, rfl⟩
theorem at_define_key : FnAt W "define_key" 166 := ⟨G.nm "define_key" _ rfl, by rw [G.k]; rfl, rfl⟩
theorem fn_undefine_key : Fn W 173 fd_undefine_key (bodyOf fd_undefine_key) := ⟨⟨.type "function", none, #[], by rw [G.k]; rfl⟩, codeRec_ofQ (G.cd 172 _ rfl), rfl, rfl, rfl, rfl, rfl⟩
theorem at_undefine_key : FnAt W "undefine_key" 173 := ⟨G.nm "undefine_key" _ rfl, by rw [G.k]; rfl, rfl⟩
theorem fn_remap : Fn W 180 fd_remap (bodyOf fd_remap) := ⟨⟨.type "function", none, #[], by rw [G.k]; rfl⟩, codeRec_ofQ (G.cd 179 _ rfl), rfl, rfl, rfl, rfl, rfl⟩
theorem at_remap : FnAt W "remap" 180 := ⟨G.nm "remap" _ rfl, by rw [G.k]; rfl, rfl⟩
theorem fn_suppress : Fn W 187 fd_suppress (bodyOf fd_suppress) := ⟨⟨.type "function", none, #[], by rw [G.k]; rfl⟩, codeRec_ofQ (G.cd 186 _ rfl), rfl, rfl, rfl, rfl, rfl⟩
theorem at_suppress : FnAt W "suppress" 187 := ⟨G.nm "suppress" _ rfl, by rw [G.k]; rfl, rfl⟩
theorem fn_copy_keymap : Fn W 194 fd_copy_keymap (bodyOf fd_copy_keymap) := ⟨⟨.type "function", none, #[], by rw [G.k]; rfl⟩, codeRec_ofQ (G.cd 193 _ rfl), rfl, rfl, rfl, rfl, rfl⟩
theorem at_copy_keymap : FnAt W "copy_keymap" 194 := ⟨G.nm "copy_keymap" _ rfl, by rw [G.k]; rfl, rfl⟩
theorem fn_rows_along : Fn W 199 fd_rows_along (bodyOf fd_rows_along) := ⟨⟨.type "function", none, #[], by rw [G.k]; rfl⟩, codeRec_ofQ (G.cd 198 _ rfl), rfl, rfl, rfl, rfl, rfl⟩
theorem at_rows_along : FnAt W "rows_along" 199 := ⟨G.nm "rows_along" _ rfl, by rw [G.k]; rfl, rfl⟩
theorem fn_defaults_along : Fn W 204 fd_defaults_along (bodyOf fd_defaults_along) := ⟨⟨.type "function", none, #[], by rw [G.k]; rfl⟩, codeRec_ofQ (G.cd 203 _ rfl), rfl, rfl, rfl, rfl, rfl⟩
theorem at_defaults_along : FnAt W "defaults_along" 204 := ⟨G.nm "defaults_along" _ rfl, by rw [G.k]; rfl, rfl⟩
theorem fn_bindings_in : Fn W 211 fd_bindings_in (bodyOf fd_bindings_in) := ⟨⟨.type "function", none, #[], by rw [G.k]; rfl⟩, codeRec_ofQ (G.cd 210 _ rfl), rfl, rfl, rfl, rfl, rfl⟩
theorem at_bindings_in : FnAt W "bindings_in" 211 := ⟨G.nm "bindings_in" _ rfl, by rw [G.k]; rfl, rfl⟩
theorem fn_joined : Fn W 218 fd_joined (bodyOf fd_joined) := ⟨⟨.type "function", none, #[], by rw [G.k]; rfl⟩, codeRec_ofQ (G.cd 217 _ rfl), rfl, rfl, rfl, rfl, rfl⟩
theorem at_joined : FnAt W "joined" 218 := ⟨G.nm "joined" _ rfl, by rw [G.k]; rfl, rfl⟩
theorem fn_first_in : Fn W 225 fd_first_in (bodyOf fd_first_in) := ⟨⟨.type "function", none, #[], by rw [G.k]; rfl⟩, codeRec_ofQ (G.cd 224 _ rfl), rfl, rfl, rfl, rfl, rfl⟩
theorem at_first_in : FnAt W "first_in" 225 := ⟨G.nm "first_in" _ rfl, by rw [G.k]; rfl, rfl⟩
theorem fn_found_in : Fn W 232 fd_found_in (bodyOf fd_found_in) := ⟨⟨.type "function", none, #[], by rw [G.k]; rfl⟩, codeRec_ofQ (G.cd 231 _ rfl), rfl, rfl, rfl, rfl, rfl⟩
theorem at_found_in : FnAt W "found_in" 232 := ⟨G.nm "found_in" _ rfl, by rw [G.k]; rfl, rfl⟩
theorem fn_lookup_keys : Fn W 240 fd_lookup_keys (bodyOf fd_lookup_keys) := ⟨⟨.type "function", none, #[], by rw [G.k]; rfl⟩, codeRec_ofQ (G.cd 239 _ rfl), rfl, rfl, rfl, rfl, rfl⟩
theorem at_lookup_keys : FnAt W "lookup_keys" 240 := ⟨G.nm "lookup_keys" _ rfl, by rw [G.k]; rfl, rfl⟩
theorem fn_remapped : Fn W 247 fd_remapped (bodyOf fd_remapped) := ⟨⟨.type "function", none, #[], by rw [G.k]; rfl⟩, codeRec_ofQ (G.cd 246 _ rfl), rfl, rfl, rfl, rfl, rfl⟩
theorem at_remapped : FnAt W "remapped" 247 := ⟨G.nm "remapped" _ rfl, by rw [G.k]; rfl, rfl⟩
theorem fn_key_binding : Fn W 255 fd_key_binding (bodyOf fd_key_binding) := ⟨⟨.type "function", none, #[], by rw [G.k]; rfl⟩, codeRec_ofQ (G.cd 254 _ rfl), rfl, rfl, rfl, rfl, rfl⟩
theorem at_key_binding : FnAt W "key_binding" 255 := ⟨G.nm "key_binding" _ rfl, by rw [G.k]; rfl, rfl⟩
theorem fn_substitute : Fn W 260 fd_substitute (bodyOf fd_substitute) := ⟨⟨.type "function", none, #[], by rw [G.k]; rfl⟩, codeRec_ofQ (G.cd 259 _ rfl), rfl, rfl, rfl, rfl, rfl⟩
theorem at_substitute : FnAt W "substitute" 260 := ⟨G.nm "substitute" _ rfl, by rw [G.k]; rfl, rfl⟩
theorem fn_law_draw : Fn W 267 fd_law_draw (bodyOf fd_law_draw) := ⟨⟨.type "function", none, #[], by rw [G.k]; rfl⟩, codeRec_ofQ (G.cd 266 _ rfl), rfl, rfl, rfl, rfl, rfl⟩
theorem at_law_draw : FnAt W "_law_draw" 267 := ⟨G.nm "_law_draw" _ rfl, by rw [G.k]; rfl, rfl⟩
theorem fn_law_pick : Fn W 274 fd_law_pick (bodyOf fd_law_pick) := ⟨⟨.type "function", none, #[], by rw [G.k]; rfl⟩, codeRec_ofQ (G.cd 273 _ rfl), rfl, rfl, rfl, rfl, rfl⟩
theorem at_law_pick : FnAt W "_law_pick" 274 := ⟨G.nm "_law_pick" _ rfl, by rw [G.k]; rfl, rfl⟩
theorem fn_law_events : Fn W 281 fd_law_events (bodyOf fd_law_events) := ⟨⟨.type "function", none, #[], by rw [G.k]; rfl⟩, codeRec_ofQ (G.cd 280 _ rfl), rfl, rfl, rfl, rfl, rfl⟩
theorem at_law_events : FnAt W "_law_events" 281 := ⟨G.nm "_law_events" _ rfl, by rw [G.k]; rfl, rfl⟩
theorem fn_law_trees : Fn W 286 fd_law_trees (bodyOf fd_law_trees) := ⟨⟨.type "function", none, #[], by rw [G.k]; rfl⟩, codeRec_ofQ (G.cd 285 _ rfl), rfl, rfl, rfl, rfl, rfl⟩
theorem at_law_trees : FnAt W "_law_trees" 286 := ⟨G.nm "_law_trees" _ rfl, by rw [G.k]; rfl, rfl⟩
theorem fn_law_row : Fn W 291 fd_law_row (bodyOf fd_law_row) := ⟨⟨.type "function", none, #[], by rw [G.k]; rfl⟩, codeRec_ofQ (G.cd 290 _ rfl), rfl, rfl, rfl, rfl, rfl⟩
theorem at_law_row : FnAt W "_law_row" 291 := ⟨G.nm "_law_row" _ rfl, by rw [G.k]; rfl, rfl⟩
theorem fn_law_slow : Fn W 296 fd_law_slow (bodyOf fd_law_slow) := ⟨⟨.type "function", none, #[], by rw [G.k]; rfl⟩, codeRec_ofQ (G.cd 295 _ rfl), rfl, rfl, rfl, rfl, rfl⟩
theorem at_law_slow : FnAt W "_law_slow" 296 := ⟨G.nm "_law_slow" _ rfl, by rw [G.k]; rfl, rfl⟩
theorem fn_law_every : Fn W 301 fd_law_every (bodyOf fd_law_every) := ⟨⟨.type "function", none, #[], by rw [G.k]; rfl⟩, codeRec_ofQ (G.cd 300 _ rfl), rfl, rfl, rfl, rfl, rfl⟩
theorem at_law_every : FnAt W "_law_every" 301 := ⟨G.nm "_law_every" _ rfl, by rw [G.k]; rfl, rfl⟩
theorem fn_law_tells : Fn W 308 fd_law_tells (bodyOf fd_law_tells) := ⟨⟨.type "function", none, #[], by rw [G.k]; rfl⟩, codeRec_ofQ (G.cd 307 _ rfl), rfl, rfl, rfl, rfl, rfl⟩
theorem at_law_tells : FnAt W "_law_tells" 308 := ⟨G.nm "_law_tells" _ rfl, by rw [G.k]; rfl, rfl⟩
theorem fn_law_copied : Fn W 313 fd_law_copied (bodyOf fd_law_copied) := ⟨⟨.type "function", none, #[], by rw [G.k]; rfl⟩, codeRec_ofQ (G.cd 312 _ rfl), rfl, rfl, rfl, rfl, rfl⟩
theorem at_law_copied : FnAt W "_law_copied" 313 := ⟨G.nm "_law_copied" _ rfl, by rw [G.k]; rfl, rfl⟩
theorem fn_law_swapped : Fn W 320 fd_law_swapped (bodyOf fd_law_swapped) := ⟨⟨.type "function", none, #[], by rw [G.k]; rfl⟩, codeRec_ofQ (G.cd 319 _ rfl), rfl, rfl, rfl, rfl, rfl⟩
theorem at_law_swapped : FnAt W "_law_swapped" 320 := ⟨G.nm "_law_swapped" _ rfl, by rw [G.k]; rfl, rfl⟩
theorem fn_law : Fn W 325 fd_law (bodyOf fd_law) := ⟨⟨.type "function", none, #[], by rw [G.k]; rfl⟩, codeRec_ofQ (G.cd 324 _ rfl), rfl, rfl, rfl, rfl, rfl⟩
theorem at_law : FnAt W "law" 325 := ⟨G.nm "law" _ rfl, by rw [G.k]; rfl, rfl⟩
theorem own_prompt : OwnAttr W "prompt" := ⟨by rw [G.k, G.c]; rfl, by rw [G.k, G.c]; rfl, by rw [G.k, G.c]; rfl, by rw [G.k, G.c]; rfl, by rw [G.k, G.c]; rfl⟩
theorem own_rows : OwnAttr W "rows" := ⟨by rw [G.k, G.c]; rfl, by rw [G.k, G.c]; rfl, by rw [G.k, G.c]; rfl, by rw [G.k, G.c]; rfl, by rw [G.k, G.c]; rfl⟩
theorem own_has_default : OwnAttr W "has_default" := ⟨by rw [G.k, G.c]; rfl, by rw [G.k, G.c]; rfl, by rw [G.k, G.c]; rfl, by rw [G.k, G.c]; rfl, by rw [G.k, G.c]; rfl⟩
theorem own_default : OwnAttr W "default" := ⟨by rw [G.k, G.c]; rfl, by rw [G.k, G.c]; rfl, by rw [G.k, G.c]; rfl, by rw [G.k, G.c]; rfl, by rw [G.k, G.c]; rfl⟩
theorem own_parent : OwnAttr W "parent" := ⟨by rw [G.k, G.c]; rfl, by rw [G.k, G.c]; rfl, by rw [G.k, G.c]; rfl, by rw [G.k, G.c]; rfl, by rw [G.k, G.c]; rfl⟩
theorem cls_at : ClsAt W "Keymap" 84 := ⟨by rw [G.c]; exact G.nm "Keymap" _ rfl, by rw [G.k, G.c]; rfl, rfl, by rw [G.k, G.c]; rfl, by rw [G.k, G.c]; rfl, by rw [G.k]; rfl⟩
theorem cls_k : ClsK W := ⟨by rw [G.k, G.c]; rfl, by rw [G.k, G.c]; rfl, by rw [G.k, G.c]; rfl, by rw [G.k]; rfl, by rw [G.k]; rfl, by rw [G.k, G.c]; rfl⟩
theorem one_int_int : kitOne W.K (.type "int") (.type "int") = some true := by rw [G.k]; rfl
theorem one_int_str : kitOne W.K (.type "int") (.type "str") = some false := by rw [G.k]; rfl
theorem one_int_list : kitOne W.K (.type "int") (.type "list") = some false := by rw [G.k]; rfl
theorem one_int_dict : kitOne W.K (.type "int") (.type "dict") = some false := by rw [G.k]; rfl
theorem one_int_K : kitOne W.K (.type "int") (.ref W.C) = some false := by rw [G.k, G.c]; rfl
theorem one_str_int : kitOne W.K (.type "str") (.type "int") = some false := by rw [G.k]; rfl
theorem one_str_str : kitOne W.K (.type "str") (.type "str") = some true := by rw [G.k]; rfl
theorem one_str_list : kitOne W.K (.type "str") (.type "list") = some false := by rw [G.k]; rfl
theorem one_str_dict : kitOne W.K (.type "str") (.type "dict") = some false := by rw [G.k]; rfl
theorem one_str_K : kitOne W.K (.type "str") (.ref W.C) = some false := by rw [G.k, G.c]; rfl
theorem one_NoneType_int : kitOne W.K (.type "NoneType") (.type "int") = some false := by rw [G.k]; rfl
theorem one_NoneType_str : kitOne W.K (.type "NoneType") (.type "str") = some false := by rw [G.k]; rfl
theorem one_NoneType_list : kitOne W.K (.type "NoneType") (.type "list") = some false := by rw [G.k]; rfl
theorem one_NoneType_dict : kitOne W.K (.type "NoneType") (.type "dict") = some false := by rw [G.k]; rfl
theorem one_NoneType_K : kitOne W.K (.type "NoneType") (.ref W.C) = some false := by rw [G.k, G.c]; rfl
theorem one_list_int : kitOne W.K (.type "list") (.type "int") = some false := by rw [G.k]; rfl
theorem one_list_str : kitOne W.K (.type "list") (.type "str") = some false := by rw [G.k]; rfl
theorem one_list_list : kitOne W.K (.type "list") (.type "list") = some true := by rw [G.k]; rfl
theorem one_list_dict : kitOne W.K (.type "list") (.type "dict") = some false := by rw [G.k]; rfl
theorem one_list_K : kitOne W.K (.type "list") (.ref W.C) = some false := by rw [G.k, G.c]; rfl
theorem one_dict_int : kitOne W.K (.type "dict") (.type "int") = some false := by rw [G.k]; rfl
theorem one_dict_str : kitOne W.K (.type "dict") (.type "str") = some false := by rw [G.k]; rfl
theorem one_dict_list : kitOne W.K (.type "dict") (.type "list") = some false := by rw [G.k]; rfl
theorem one_dict_dict : kitOne W.K (.type "dict") (.type "dict") = some true := by rw [G.k]; rfl
theorem one_dict_K : kitOne W.K (.type "dict") (.ref W.C) = some false := by rw [G.k, G.c]; rfl
theorem one_tuple_int : kitOne W.K (.type "tuple") (.type "int") = some false := by rw [G.k]; rfl
theorem one_tuple_str : kitOne W.K (.type "tuple") (.type "str") = some false := by rw [G.k]; rfl
theorem one_tuple_list : kitOne W.K (.type "tuple") (.type "list") = some false := by rw [G.k]; rfl
theorem one_tuple_dict : kitOne W.K (.type "tuple") (.type "dict") = some false := by rw [G.k]; rfl
theorem one_tuple_K : kitOne W.K (.type "tuple") (.ref W.C) = some false := by rw [G.k, G.c]; rfl
theorem one_K_int : kitOne W.K (.ref W.C) (.type "int") = some false := by rw [G.k, G.c]; rfl
theorem one_K_str : kitOne W.K (.ref W.C) (.type "str") = some false := by rw [G.k, G.c]; rfl
theorem one_K_list : kitOne W.K (.ref W.C) (.type "list") = some false := by rw [G.k, G.c]; rfl
theorem one_K_dict : kitOne W.K (.ref W.C) (.type "dict") = some false := by rw [G.k, G.c]; rfl
theorem one_K_K : kitOne W.K (.ref W.C) (.ref W.C) = some true := by rw [G.k, G.c]; rfl
end

section
variable {W : Wd} {n : Nat} {env : Env} {ρ : Rho} {σ : AHeap}
abbrev Sub (ρ₀ ρ : Rho) : Prop := ∀ p ∈ ρ₀, p ∈ ρ
theorem sub_nil : Sub [] ρ := fun _ h => nomatch h
theorem sub_cons {p : Str × AV} {ρ₀ : Rho} (h : p ∈ ρ) (t : Sub ρ₀ ρ) : Sub (p :: ρ₀) ρ := fun q hq => by
  rcases List.mem_cons.mp hq with rfl | h'
  · exact h
  · exact t q h'
theorem sub_rset {ρ₀ ρ : Rho} {x : Str} {u : AV} (h : Sub ρ₀ ρ) (hx : ((ρ₀.map (·.1)).all fun y => decide (y ≠ x)) = true) : Sub ((x, u) :: ρ₀) (rset ρ x u) := fun p hp => by
  rcases List.mem_cons.mp hp with rfl | q
  · exact List.mem_append_right _ List.mem_cons_self
  · have := List.all_eq_true.mp hx p.1 (List.mem_map_of_mem q)
    exact mem_rset (h p q) (of_decide_eq_true this)
theorem weakS {α β : Type} {f : α → β} {t : Sem α} {Q : β → Rho → AHeap → Prop} {ρ₀ : Rho} (hw : Sub ρ₀ ρ) (h : T W n env f t Q ρ₀ σ) : T W n env f t Q ρ σ := T.weak hw h
def LoopQ (J : Rho → AHeap → Prop) (Q : AFlow → Rho → AHeap → Prop) : AFlow → Rho → AHeap → Prop := fun fl ρ σ => match fl with
  | .next | .cont => J ρ σ | .brk => Q .next ρ σ | .ret v => Q (.ret v) ρ σ

theorem for_plain {x : Str} {px : Pos} {body orelse : List Stmt} {Q : AFlow → Rho → AHeap → Prop} {cnt : Nat} {P : Nat → AV → Prop} {src : AHeap → Prop} {v : AV} {J : Nat → Rho → AHeap → Prop} (hx : Sto env x)
    (hit : Iter W v [] σ cnt (fun i v σ σ' => P i v ∧ σ' = σ) src (.Name x px)) (hJ : J 0 ρ σ)
    (ht : ∀ i u, i < cnt → P i u → ∀ ρ σ, J i ρ σ → src σ ∧ TS W n env (execs body env) (LoopQ (J (i + 1)) Q) (rset ρ x u) σ)
    (hsrc : ∀ i, i < cnt → ∀ ρ σ, J i ρ σ → src σ)
    (he : ∀ ρ σ, J cnt ρ σ → src σ ∧ TS W n env (execs orelse env) Q ρ σ) :
    ForAsk W n env (.Name x px) body orelse Q v ρ σ := by
  refine ⟨[], cnt, _, src, J, hit, by rw [drop_nil]; exact hJ, fun i hi ρ σ hJ => ⟨hsrc i hi ρ σ hJ, fun v σ' le hp => ?_⟩, he⟩
  obtain ⟨hp, rfl⟩ := hp
  exact T_assignName hx (up_filter x (ab v) ρ) (ht i _ hi hp ρ _ hJ).2
inductive ForTupAsk (W : Wd) (n : Nat) (env : Env) (x : Str) (body orelse : List Stmt) (Q : AFlow → Rho → AHeap → Prop) (v : AV) (ρ : Rho) (σ : AHeap) : Prop
  | mk (a : Addr) (vs : List AV) (J : Nat → Rho → AHeap → Prop) (e : v = .ref a) (ha : σ a = some (.tup vs)) (hJ : J 0 ρ σ) (hs : ∀ i ρ σ, J i ρ σ → σ a = some (.tup vs))
      (ht : ∀ i u, vs[i]? = some u → ∀ ρ σ, J i ρ σ → TS W n env (execs body env) (LoopQ (J (i + 1)) Q) (rset ρ x u) σ)
      (he : ∀ ρ σ, J vs.length ρ σ → TS W n env (execs orelse env) Q ρ σ) : ForTupAsk W n env x body orelse Q v ρ σ
theorem S_ForTup {x : Str} {px : Pos} {iter : Expr} {body orelse : List Stmt} {pos : Pos} {Q : AFlow → Rho → AHeap → Prop} (hfold : ∀ x, foldedSetIterable iter env x = pure x) (hx : Sto env x)
    (h : T W n env ab (eval iter env) (ForTupAsk W n env x body orelse Q) ρ σ) : TS W n env (exec (.For (.Name x px) iter body orelse pos) env) Q ρ σ := by
  refine S_For hfold (h.mono ?_)
  rintro v ρ σ ⟨a, vs, J, rfl, ha, hJ, hs, ht, he⟩
  exact for_plain hx (iter_tup ha) hJ (fun i u hi hu ρ σ hJ => ⟨hs i ρ σ hJ, ht i u hu ρ σ hJ⟩) (fun i _ ρ σ hJ => hs i ρ σ hJ) fun ρ σ hJ => ⟨hs _ ρ σ hJ, he ρ σ hJ⟩
inductive ForListAsk (W : Wd) (n : Nat) (env : Env) (x : Str) (body orelse : List Stmt) (Q : AFlow → Rho → AHeap → Prop) (v : AV) (ρ : Rho) (σ : AHeap) : Prop
  | mk (a : Addr) (vs : List AV) (J : Nat → Rho → AHeap → Prop) (e : v = .ref a) (ha : σ a = some (.list vs)) (hJ : J 0 ρ σ) (hs : ∀ i ρ σ, J i ρ σ → σ a = some (.list vs))
      (ht : ∀ i u, vs[i]? = some u → ∀ ρ σ, J i ρ σ → TS W n env (execs body env) (LoopQ (J (i + 1)) Q) (rset ρ x u) σ)
      (he : ∀ ρ σ, J vs.length ρ σ → TS W n env (execs orelse env) Q ρ σ) : ForListAsk W n env x body orelse Q v ρ σ
theorem S_ForList {x : Str} {px : Pos} {iter : Expr} {body orelse : List Stmt} {pos : Pos} {Q : AFlow → Rho → AHeap → Prop} (hfold : ∀ x, foldedSetIterable iter env x = pure x) (hx : Sto env x)
    (h : T W n env ab (eval iter env) (ForListAsk W n env x body orelse Q) ρ σ) : TS W n env (exec (.For (.Name x px) iter body orelse pos) env) Q ρ σ := by
  refine S_For hfold (h.mono ?_)
  rintro v ρ σ ⟨a, vs, J, rfl, ha, hJ, hs, ht, he⟩
  exact for_plain hx (iter_list ha) hJ (fun i u hi hu ρ σ hJ => ⟨hs i ρ σ hJ, ht i u hu ρ σ hJ⟩) (fun i _ ρ σ hJ => hs i ρ σ hJ) fun ρ σ hJ => ⟨hs _ ρ σ hJ, he ρ σ hJ⟩
inductive ForDictAsk (W : Wd) (n : Nat) (env : Env) (x : Str) (body orelse : List Stmt) (Q : AFlow → Rho → AHeap → Prop) (v : AV) (ρ : Rho) (σ : AHeap) : Prop
  | mk (d : Addr) (g : Tag) (kvs : List (Key × AV)) (ep : Nat) (J : Nat → Rho → AHeap → Prop) (e : v = .ref d) (hd : σ d = some (.dict g kvs ep)) (hJ : J 0 ρ σ)
      (hs : ∀ i ρ σ, J i ρ σ → ∃ g kvs', σ d = some (.dict g kvs' ep) ∧ kvs'.map (·.1) = kvs.map (·.1))
      (ht : ∀ i k u, kvs[i]? = some (k, u) → ∀ ρ σ, J i ρ σ → TS W n env (execs body env) (LoopQ (J (i + 1)) Q) (rset ρ x k.av) σ)
      (he : ∀ ρ σ, J kvs.length ρ σ → TS W n env (execs orelse env) Q ρ σ) : ForDictAsk W n env x body orelse Q v ρ σ
theorem S_ForDict {x : Str} {px : Pos} {iter : Expr} {body orelse : List Stmt} {pos : Pos} {Q : AFlow → Rho → AHeap → Prop} (hfold : ∀ x, foldedSetIterable iter env x = pure x) (hx : Sto env x)
    (h : T W n env ab (eval iter env) (ForDictAsk W n env x body orelse Q) ρ σ) : TS W n env (exec (.For (.Name x px) iter body orelse pos) env) Q ρ σ := by
  refine S_For hfold (h.mono ?_)
  rintro v ρ σ ⟨d, g, kvs, ep, J, rfl, hd, hJ, hs, ht, he⟩
  refine for_plain hx (iter_dict hd) hJ (fun i u hi hu ρ σ hJ => ⟨hs i ρ σ hJ, ?_⟩) (fun i _ ρ σ hJ => hs i ρ σ hJ) fun ρ σ hJ => ⟨hs _ ρ σ hJ, he ρ σ hJ⟩
  obtain ⟨k, u', hk, rfl⟩ := hu
  exact ht i k u' hk ρ σ hJ
inductive ForRangeAsk (W : Wd) (n : Nat) (env : Env) (x : Str) (body orelse : List Stmt) (Q : AFlow → Rho → AHeap → Prop) (v : AV) (ρ : Rho) (σ : AHeap) : Prop
  | mk (r : Addr) (a b : Nat) (t u w : Tok) (J : Nat → Rho → AHeap → Prop) (e : v = .ref r) (hr : σ r = some (.raw (rngO a b t u w))) (hab : a ≤ b) (hb : b ≤ 1000) (hJ : J 0 ρ σ)
      (ht : ∀ i, i < b - a → ∀ ρ σ, J i ρ σ → TS W n env (execs body env) (LoopQ (J (i + 1)) Q) (rset ρ x (.int (a + i))) σ)
      (he : ∀ ρ σ, J (b - a) ρ σ → TS W n env (execs orelse env) Q ρ σ) : ForRangeAsk W n env x body orelse Q v ρ σ
theorem S_ForRange {x : Str} {px : Pos} {iter : Expr} {body orelse : List Stmt} {pos : Pos} {Q : AFlow → Rho → AHeap → Prop} (hfold : ∀ x, foldedSetIterable iter env x = pure x) (hx : Sto env x)
    (h : T W n env ab (eval iter env) (ForRangeAsk W n env x body orelse Q) ρ σ) : TS W n env (exec (.For (.Name x px) iter body orelse pos) env) Q ρ σ := by
  refine S_For hfold (h.mono ?_)
  rintro v ρ σ ⟨r, a, b, t, u, w, J, rfl, hr, hab, hb, hJ, ht, he⟩
  refine for_plain hx (iter_range hr (by omega) hb hab) hJ (fun i u hi hu ρ σ hJ => ⟨trivial, ?_⟩) (fun i _ ρ σ hJ => trivial) fun ρ σ hJ => ⟨trivial, he ρ σ hJ⟩
  subst hu
  exact ht i hi ρ σ hJ
inductive ForEnumAsk (W : Wd) (n : Nat) (env : Env) (x y : Str) (body orelse : List Stmt) (Q : AFlow → Rho → AHeap → Prop) (v : AV) (ρ : Rho) (σ : AHeap) : Prop
  | mk (a e : Addr) (it : Addr) (vs : List AV) (J : Nat → Rho → AHeap → Prop) (ev : v = .ref e) (h1 : σ a = some (.tup vs)) (h2 : σ e = some (.raw (enumO it))) (h3 : σ it = some (.raw (titO a))) (h4 : e ≠ it) (hJ : J 0 ρ (σ.drop [e, it])) (hs : ∀ i ρ σ, J i ρ σ → σ a = some (.tup vs))
      (ht : ∀ i u, vs[i]? = some u → ∀ ρ σ, J i ρ σ → ∀ σ', Le σ σ' → TS W n env (execs body env) (LoopQ (J (i + 1)) Q) (rset (rset ρ x (.int i)) y u) σ')
      (he : ∀ ρ σ, J vs.length ρ σ → TS W n env (execs orelse env) Q ρ σ) : ForEnumAsk W n env x y body orelse Q v ρ σ
theorem S_ForEnum {x y : Str} {px py : Pos} {iter : Expr} {k : Nat} {tp : Pos} {body orelse : List Stmt} {pos : Pos} {Q : AFlow → Rho → AHeap → Prop} (hfold : ∀ x, foldedSetIterable iter env x = pure x) (hx : Sto env x) (hy : Sto env y)
    (ha : assignEach [.Name x px, .Name y py] env = [(false, assign (.Name x px) env), (false, assign (.Name y py) env)])
    (h : T W n env ab (eval iter env) (ForEnumAsk W n env x y body orelse Q) ρ σ) : TS W n env (exec (.For (.Tuple [.Name x px, .Name y py] k tp) iter body orelse pos) env) Q ρ σ := by
  refine S_For hfold (h.mono ?_)
  rintro v ρ σ ⟨a, e, it, vs, J, rfl, h1, h2, h3, h4, hJ, hs, ht, he⟩
  refine ⟨[e, it], _, _, _, J, iter_enum h1 h2 h3 h4, hJ, fun i hi ρ σ hJ => ⟨hs i ρ σ hJ, fun v σ' le hp => ?_⟩, fun ρ σ hJ => ⟨hs _ ρ σ hJ, he ρ σ hJ⟩⟩
  obtain ⟨T, u, hv, hu, hn, hT⟩ := hp
  refine T_assign2 ha hv (.inl hT) fun a b ea eb => ?_
  refine T_assignName hx (up_filter x (ab a) ρ) ?_
  refine T_assignName hy (up_filter y (ab b) _) ?_
  rw [ea, eb]
  exact ht i u hu ρ σ hJ σ' le

/-! comprehensions over one kind of thing -/
theorem comp_plain {elt : Expr} {x : Str} {px : Pos} {ifs : List Expr} {scope : Scope} {cl : List (Str × Addr)} {Q : List AV → AHeap → Prop} {ρc : Rho} {v : AV} {cnt : Nat} {P : Nat → AV → Prop} {src : AHeap → Prop} (J : Nat → List AV → AHeap → Prop)
    (hit : Iter W v [] σ cnt (fun i v σ σ' => P i v ∧ σ' = σ) src (.Name x px)) (hJ : J 0 [] σ) (hz : cnt ≤ 900) (hlen : ∀ i out σ, i < cnt → J i out σ → out.length ≤ i) (hs : ∀ i out σ, J i out σ → src σ)
    (ht : ∀ i u, i < cnt → P i u → ∀ out σ, J i out σ → ∀ C, T W n (compEnvC scope cl C env) id (tests ifs (compEnvC scope cl C env)) (fun ok ρ σ =>
      (ok = true → T W n (compEnvC scope cl C env) ab (eval elt (compEnvC scope cl C env)) (fun y _ σ => J (i + 1) (out ++ [y]) σ) ρ σ) ∧ (ok = false → J (i + 1) out σ)) ((x, u) :: ρc) σ)
    (he : ∀ out σ, J cnt out σ → Q out σ) : CompAsk W n env elt x px ifs scope cl Q ρc v σ := by
  refine ⟨[], cnt, _, src, J, hit, by rw [drop_nil]; exact hJ, fun i hi out σ hJ => ⟨by have := hlen i out σ hi hJ; omega, hs i out σ hJ, fun v σ' C le hp => ?_⟩, fun out σ hJ => ⟨hs _ out σ hJ, he out σ hJ⟩⟩
  obtain ⟨hp, rfl⟩ := hp
  exact ht i v hi hp out _ hJ C
theorem T_Name_ {x : Str} {pos : Pos} {v : AV} {Q : AV → Rho → AHeap → Prop} (hd : (x == ("__debug__" : Str)) = false) (hx : (x, v) ∈ ρ) (h : Q v ρ σ) : T W n env ab (eval (.Name x pos) env) Q ρ σ := T_Name hx h hd
end

local macro_rules | `(tactic| k_extra "mem") => `(tactic| first | with_reducible exact List.mem_cons_self | (with_reducible refine List.mem_cons_of_mem _ ?_; k_extra "mem"))
local macro_rules | `(tactic| k_extra "rf") => `(tactic| with_unfolding_all rfl)
local macro_rules | `(tactic| k_extra "go1") => `(tactic| first
  | (with_reducible refine' T_Name_ ?_ ?_ ?_; rotate_left; (focus (k_extra "rf")); (focus (k_extra "mem")))
  | with_reducible refine T_none ?_
  | with_reducible refine T_int ?_
  | with_reducible refine T_str ?_
  | with_reducible refine T_bool ?_
  | with_reducible refine A_nil ?_
  | (with_reducible refine A_cons ?_ ?_; (focus (k_extra "rf")))
  | (with_reducible refine ca_cons ?_ ?_ ?_; (focus (k_extra "rf")); (focus (k_extra "rf")))
  | with_reducible refine T_BinOp ?_
  | (with_reducible refine T_Compare ?_ ?_; (focus (k_extra "rf")))
  | (with_reducible refine T_isCompare ?_ ?_; (focus (k_extra "rf")))
  | with_reducible refine T_isNot ?_
  | with_reducible refine T_isBoolOp ?_
  | with_reducible refine T_and_cons ?_
  | with_reducible refine T_and_nil ?_
  | with_reducible refine T_or_cons ?_
  | with_reducible refine T_or_nil ?_
  | with_reducible refine T_IfExp ?_
  | with_reducible refine T_And2 ?_
  | with_reducible refine T_Tuple ?_
  | with_reducible refine T_List ?_
  | with_reducible refine S_nil ?_
  | with_reducible refine S_cons ?_
  | with_reducible refine S_Return ?_
  | with_reducible refine S_Return0 ?_
  | with_reducible refine S_If ?_
  | with_reducible refine S_Continue ?_
  | with_reducible refine S_Break ?_
  | (with_reducible refine S_Expr ?_ ?_ ?_; (focus (k_extra "rf")); (focus (k_extra "rf")))
  | with_reducible refine T_Subscript ?_
  | with_reducible refine T_neg ?_)
local macro_rules | `(tactic| k_extra "go") => `(tactic| repeat k_extra "go1")
local macro_rules | `(tactic| k_extra "start") => `(tactic| (with_unfolding_all refine S_cons ?_); k_extra "go")
local macro_rules | `(tactic| k_extra "up") => `(tactic| first | exact Up.nil | (apply Up.drop; k_extra "up") | (apply Up.keep; (focus decide); k_extra "up"))
local macro_rules | `(tactic| k_extra "lt") => `(tactic| (show _ < _; first | exact Nat.lt_succ_self _ | exact Nat.lt_add_of_pos_right (Nat.zero_lt_succ _)))
local macro_rules | `(tactic| k_extra "sto") => `(tactic| first | exact Or.inl (by k_extra "rf") | exact Or.inr ⟨by k_extra "rf", _, by k_extra "rf", by k_extra "lt"⟩)
local macro_rules | `(tactic| k_extra "asg") => `(tactic| (refine S_AssignName (by k_extra "rf") (by k_extra "sto") ?_; k_extra "go"))
local macro_rules | `(tactic| k_extra "set") => `(tactic| (apply Exists.intro; apply And.intro; k_extra "up"; k_extra "go"))
local macro_rules | `(tactic| k_extra "sub") => `(tactic| first | exact sub_nil | (refine sub_cons (by k_extra "mem") ?_; k_extra "sub"))
local macro_rules | `(tactic| k_extra "own") => `(tactic| with_reducible first | exact own_rows (by assumption) | exact own_parent (by assumption) | exact own_prompt (by assumption) | exact own_has_default (by assumption) | exact own_default (by assumption))
local macro_rules | `(tactic| k_extra "sat") => `(tactic| (refine S_AssignAttr (by k_extra "own") (by k_extra "rf") (by k_extra "rf") (by k_extra "rf") ?_; k_extra "go"))
local macro_rules | `(tactic| k_extra "at") => `(tactic| (refine T_Attr (by k_extra "own") (by k_extra "rf") ?_; k_extra "go"))
local macro_rules | `(tactic| k_extra "all") => `(tactic| first | exact List.forall_mem_nil _ | (refine List.forall_mem_cons.mpr (And.intro ?_ ?_); (focus (k_extra "rf")); k_extra "all"))
local macro_rules | `(tactic| k_extra "cap1") => `(tactic| first | exact List.forall_mem_nil _ | (refine List.forall_mem_cons.mpr (And.intro ?_ ?_); (focus (refine ⟨?_, ?_, ?_, ?_⟩; (focus (k_extra "mem")); (focus (k_extra "rf")); (focus (k_extra "rf")); (focus (k_extra "rf")))); k_extra "cap1"))
local macro_rules | `(tactic| k_extra "bi") => `(tactic| (first
   | refine T_CallBi (Good.no (by assumption) "isinstance" (by decide)) (by k_extra "rf") (by decide) rfl rfl (by k_extra "rf") (by k_extra "rf") ?_
   | refine T_CallBi (Good.no (by assumption) "len" (by decide)) (by k_extra "rf") (by decide) rfl rfl (by k_extra "rf") (by k_extra "rf") ?_
   | refine T_CallTy (Good.no (by assumption) "tuple" (by decide)) (by k_extra "rf") (by decide) rfl rfl (by k_extra "rf") (by k_extra "rf") ?_
   | refine T_CallTy (Good.no (by assumption) "list" (by decide)) (by k_extra "rf") (by decide) rfl rfl (by k_extra "rf") (by k_extra "rf") ?_
   | refine T_CallTy (Good.no (by assumption) "dict" (by decide)) (by k_extra "rf") (by decide) rfl rfl (by k_extra "rf") (by k_extra "rf") ?_
   | refine T_CallTy (Good.no (by assumption) "range" (by decide)) (by k_extra "rf") (by decide) rfl rfl (by k_extra "rf") (by k_extra "rf") ?_
   | refine T_CallTy (Good.no (by assumption) "enumerate" (by decide)) (by k_extra "rf") (by decide) rfl rfl (by k_extra "rf") (by k_extra "rf") ?_
   | refine T_Builtin (Good.no (by assumption) "list" (by decide)) (by k_extra "rf") (by decide) rfl rfl (by k_extra "rf") (by k_extra "rf") ?_
   | refine T_Builtin (Good.no (by assumption) "dict" (by decide)) (by k_extra "rf") (by decide) rfl rfl (by k_extra "rf") (by k_extra "rf") ?_
   | refine T_Builtin (Good.no (by assumption) "str" (by decide)) (by k_extra "rf") (by decide) rfl rfl (by k_extra "rf") (by k_extra "rf") ?_
   | refine T_Builtin (Good.no (by assumption) "int" (by decide)) (by k_extra "rf") (by decide) rfl rfl (by k_extra "rf") (by k_extra "rf") ?_); k_extra "go")
local macro_rules | `(tactic| k_extra "no") => `(tactic| (refine ⟨(fun hb => nomatch hb), fun _ => ?_⟩; k_extra "go"))
local macro_rules | `(tactic| k_extra "yes") => `(tactic| (refine ⟨fun _ => ?_, (fun hb => nomatch hb)⟩; k_extra "go"))
local macro_rules | `(tactic| k_extra "as1") => `(tactic| (refine S_Assign1 (by k_extra "rf") (by k_extra "rf") (by k_extra "rf") ?_; k_extra "go"))
local macro_rules | `(tactic| k_extra "nm") => `(tactic| (apply T_assignName; (focus (k_extra "sto")); k_extra "up"; k_extra "go"))

section
variable {W : Wd} {n : Nat} {env : Env} {ρ : Rho} {σ : AHeap}
def Key.ok : Key → Prop
  | .i n => Builtin.bitAnd n 134217728 = 0
  | .s _ => True
def Key.isI : Key → Bool
  | .i _ => true
  | .s _ => false
theorem bind1 {fd : FuncData} {x : Str} {v : AV} (h : ∀ a : Value, bindArgs fd ⟨[a], []⟩ = pure [(x, a)]) : Binds W fd [v] [(x, v)] := fun vs e => by
  obtain ⟨a, rfl, ex⟩ := map_one e
  exact ⟨[(x, a)], by rw [← ex]; rfl, fun s _ => .of_eq (h a)⟩
theorem bind2 {fd : FuncData} {x y : Str} {v u : AV} (h : ∀ a b : Value, bindArgs fd ⟨[a, b], []⟩ = pure [(x, a), (y, b)]) : Binds W fd [v, u] [(x, v), (y, u)] := fun vs e => by
  obtain ⟨a, b, rfl, ex, ey⟩ := map_two e
  exact ⟨[(x, a), (y, b)], by rw [← ex, ← ey]; rfl, fun s _ => .of_eq (h a b)⟩
theorem bind3 {fd : FuncData} {x y z : Str} {v u w : AV} (h : ∀ a b c : Value, bindArgs fd ⟨[a, b, c], []⟩ = pure [(x, a), (y, b), (z, c)]) : Binds W fd [v, u, w] [(x, v), (y, u), (z, w)] := fun vs e => by
  obtain ⟨a, r, rfl, ex, hr⟩ := List.map_eq_cons_iff.mp e
  obtain ⟨b, c, rfl, ey, ez⟩ := map_two hr
  exact ⟨[(x, a), (y, b), (z, c)], by rw [← ex, ← ey, ← ez]; rfl, fun s _ => .of_eq (h a b c)⟩
theorem bind0 {fd : FuncData} (h : bindArgs fd ⟨[], []⟩ = pure []) : Binds W fd [] [] := fun vs e => by
  obtain rfl := List.map_eq_nil_iff.mp e
  exact ⟨[], rfl, fun s _ => .of_eq h⟩

theorem sp_is_sign (G : Good W) {v : AV} {t : Value} {b : Bool} (ht : tyOf W σ v = some t) (ho : kitOne W.K t (.type "int") = some b) : Spec W 1 48 [v] σ (fun r σ' => r = .bool b ∧ σ' = σ) := by
  refine enterB (ρ₀ := [("event", v)]) ["event"] (fn_is_sign G) (bind1 fun _ => rfl) rfl (by decide) rfl fun L => ?_
  k_extra "start"
  refine T_CallBi (G.no "isinstance" (by decide)) (by k_extra "rf") (by decide) rfl rfl (by k_extra "rf") (by k_extra "rf") ?_
  k_extra "go"
  refine T_Builtin (G.no "int" (by decide)) (by k_extra "rf") (by decide) rfl rfl (by k_extra "rf") (by k_extra "rf") ?_
  k_extra "go"
  refine L_isinst (cls_k G) other_type ht ho ?_
  exact ⟨rfl, rfl⟩
theorem sp_is_sign_key (G : Good W) (k : Key) : Spec W 1 48 [k.av] σ (fun r σ' => r = .bool k.isI ∧ σ' = σ) := by
  cases k with
  | i j => exact sp_is_sign G rfl (one_int_int G)
  | s t => exact sp_is_sign G rfl (one_str_int G)
theorem sp_has_meta (G : Good W) (k : Key) (hk : k.ok) : Spec W 2 55 [k.av] σ (fun r σ' => r = .bool false ∧ σ' = σ) := by
  refine enterB (ρ₀ := [("event", k.av)]) ["event"] (fn_has_meta G) (bind1 fun _ => rfl) rfl (by decide) rfl fun L => ?_
  k_extra "start"
  refine T_CallFn (at_is_sign G) (Nat.le_refl _) rfl (by k_extra "rf") ?_
  k_extra "go"
  refine (sp_is_sign_key G k).mono ?_
  rintro _ _ ⟨rfl, rfl⟩
  refine ⟨_, rfl, fun hb => ?_, fun hb => ⟨rfl, rfl⟩⟩
  cases k with
  | s t => cases hb
  | i j =>
    k_extra "go"
    refine T_Global (G.nm "META" _ rfl) rfl (by k_extra "rf") (by k_extra "rf") fun v' e => ?_
    subst e
    refine B_and ?_
    k_extra "go"
    refine C_ne_int ?_
    rw [show Builtin.bitAnd j 134217728 = 0 from hk]
    exact ⟨rfl, rfl⟩
theorem sp_without_meta (G : Good W) (k : Key) (hk : k.ok) : Spec W 3 62 [k.av] σ (fun r σ' => r = k.av ∧ σ' = σ) := by
  refine enterB (ρ₀ := [("event", k.av)]) ["event"] (fn_without_meta G) (bind1 fun _ => rfl) rfl (by decide) rfl fun L => ?_
  k_extra "start"
  refine T_isValue (by k_extra "rf") ?_
  refine T_CallFn (at_has_meta G) (Nat.le_refl _) rfl (by k_extra "rf") ?_
  k_extra "go"
  refine (sp_has_meta G k hk).mono ?_
  rintro _ _ ⟨rfl, rfl⟩
  refine ⟨_, rfl, ⟨(fun hb => nomatch hb), fun hb => ?_⟩⟩
  k_extra "go"
  exact ⟨rfl, rfl⟩
theorem sp_spread_meta (G : Good W) {a : Addr} {ks : List Key} (ha : σ a = some (.tup (ks.map Key.av))) (hk : ∀ k ∈ ks, k.ok) (hz : ks.length ≤ 100) :
    Spec W 4 69 [.ref a] σ (fun r σ' => ∃ b, r = .ref b ∧ Le σ σ' ∧ σ' b = some (.tup (ks.map Key.av))) := by
  refine enterB (ρ₀ := [("keys", .ref a)]) ["keys"] (fn_spread_meta G) (bind1 fun _ => rfl) rfl (by decide) rfl fun L => ?_
  k_extra "start"
  k_extra "asg"
  refine ⟨by simp, fun l σ₁ hl le₁ hl₁ => ?_⟩
  k_extra "set"
  refine S_ForTup (by intro; rfl) (by k_extra "sto") ?_
  k_extra "go"
  refine ⟨a, _, fun i ρ σ' => Sub [("found", .ref l)] ρ ∧ σ' l = some (.list ((ks.take i).map Key.av)) ∧ Le σ σ', rfl, le₁ _ _ ha, ⟨?_, ?_, le₁⟩, fun i ρ σ' h => h.2.2 _ _ ha, fun i u hu ρ σ' ⟨h1, h2, h3⟩ => ?_, fun ρ σ' ⟨h1, h2, h3⟩ => ?_⟩
  · k_extra "sub"
  · exact hl₁
  · rw [List.getElem?_map] at hu
    obtain ⟨k, hki, rfl⟩ := Option.map_eq_some_iff.mp hu
    have ko := hk k (List.mem_of_getElem? hki)
    refine weakS (sub_rset h1 rfl) ?_
    k_extra "start"
    refine T_isValue (by k_extra "rf") ?_
    refine T_CallFn (m := 2) (at_has_meta G) (by decide) rfl (by k_extra "rf") ?_
    k_extra "go"
    refine (sp_has_meta G k ko).mono ?_
    rintro _ _ ⟨rfl, rfl⟩
    refine ⟨_, rfl, ⟨(fun hb => nomatch hb), fun _ => ?_⟩⟩
    k_extra "go"
    refine T_MethB (by k_extra "rf") PySem.F.plainAttrs_list PySem.F.slot_list_append PySem.F.type_list_append ?_
    k_extra "go"
    refine ⟨l, _, rfl, h2, fun h => ty_list h, ?_⟩
    k_extra "go"
    refine T_CallFn (m := 3) (at_without_meta G) (by decide) rfl (by k_extra "rf") ?_
    k_extra "go"
    refine (sp_without_meta G k ko).mono ?_
    rintro _ _ ⟨rfl, rfl⟩
    k_extra "go"
    refine L_append h2 (by simp; omega) fun σ₂ c => ?_
    k_extra "go"
    refine ⟨?_, ?_, h3.chg hl c⟩
    · k_extra "sub"
    · rw [c.1, List.take_add_one, hki]; simp
  · refine weakS h1 ?_
    k_extra "go"
    refine T_CallTy (G.no "tuple" (by decide)) (by k_extra "rf") (by decide) rfl rfl (by k_extra "rf") (by k_extra "rf") ?_
    k_extra "go"
    rw [List.length_map, List.take_length] at h2
    refine L_tuple_list h2 (by simp; omega) fun b σ₂ hb le hb' => ?_
    exact ⟨b, rfl, h3.trans le, hb'⟩
end

section
variable {W : Wd} {n : Nat} {env : Env} {ρ : Rho} {σ : AHeap}
theorem bindDef {fd : FuncData} {args : List AV} {ρ₀ : Rho} {T : Addr} {v : Value} (hd : fd.defaults = .ref T) (hT : W.K.lookup T = some (tupO v))
    (h : ∀ vs : List Value, vs.map ab = args → ∃ bs : List (Str × Value), bs.map (fun p => (p.1, ab p.2)) = ρ₀ ∧ ∃ k, bindArgs fd ⟨vs, []⟩ = seqItems? fd.defaults >>= k ∧ k (some #[v]) = pure bs) : Binds W fd args ρ₀ := fun vs e => by
  obtain ⟨bs, h1, k, h2, h3⟩ := h vs e
  exact ⟨bs, h1, fun s hk => .of_defaults hd ((W.X.keeps hk) _ _ hT) rfl h2 h3⟩
theorem sp_init (G : Good W) {args : List AV} {x d : Addr} {g : Tag} (hb : Binds W fd_m_init args [("self", .ref x), ("prompt", .str "")]) (hx : σ x = some (.inst g d)) (hd : σ d = some (.flds g [])) : Spec W 1 84 args σ (fun r σ' => r = .none ∧ KM0 σ' x g .none [] ∧ ∀ a o, a ≠ d → σ a = some o → σ' a = some o) := by
  refine enterB ["self", "prompt"] (fn_m_init G) hb rfl (by decide) rfl fun L => ?_
  k_extra "start"
  k_extra "sat"
  have ne : x ≠ d := fun q => by rw [q, hd] at hx; cases hx
  refine ⟨x, _, _, _, _, rfl, hx, hd, by decide, fun σ₁ c₁ => ?_⟩
  k_extra "go"
  k_extra "sat"
  refine T_Dict0 g fun r σ₂ nr le₂ hr => ?_
  k_extra "go"
  have nd : r ≠ d := fun q => by rw [q, c₁.1] at nr; cases nr
  refine ⟨x, _, _, _, _, rfl, le₂ _ _ (c₁.2 _ _ ne hx), le₂ _ _ c₁.1, (show 1 < 900 by decide), fun σ₃ c₃ => ?_⟩
  k_extra "go"
  k_extra "sat"
  refine ⟨x, _, _, _, _, rfl, c₃.2 _ _ ne (le₂ _ _ (c₁.2 _ _ ne hx)), c₃.1, (show 2 < 900 by decide), fun σ₄ c₄ => ?_⟩
  k_extra "go"
  k_extra "sat"
  refine ⟨x, _, _, _, _, rfl, c₄.2 _ _ ne (c₃.2 _ _ ne (le₂ _ _ (c₁.2 _ _ ne hx))), c₄.1, (show 3 < 900 by decide), fun σ₅ c₅ => ?_⟩
  k_extra "go"
  k_extra "sat"
  refine ⟨x, _, _, _, _, rfl, c₅.2 _ _ ne (c₄.2 _ _ ne (c₃.2 _ _ ne (le₂ _ _ (c₁.2 _ _ ne hx)))), c₅.1, (show 4 < 900 by decide), fun σ₆ c₆ => ?_⟩
  k_extra "go"
  have keep : ∀ a o, a ≠ d → σ₁ a = some o → σ₆ a = some o := fun a o n e => c₆.2 _ _ n (c₅.2 _ _ n (c₄.2 _ _ n (c₃.2 _ _ n (le₂ _ _ e))))
  refine ⟨rfl, ⟨d, r, 0, keep _ _ ne (c₁.2 _ _ ne hx), ?_, c₆.2 _ _ nd (c₅.2 _ _ nd (c₄.2 _ _ nd (c₃.2 _ _ nd hr)))⟩, fun a o n e => keep a o n (c₁.2 _ _ n e)⟩
  rw [c₆.1]; rfl
theorem sp_init1 (G : Good W) {x d : Addr} {g : Tag} (hx : σ x = some (.inst g d)) (hd : σ d = some (.flds g [])) : Spec W 1 84 [.ref x, .str ""] σ (fun r σ' => r = .none ∧ KM0 σ' x g .none [] ∧ ∀ a o, a ≠ d → σ a = some o → σ' a = some o) :=
  sp_init G (bindDef (v := .str "" 279) rfl (by rw [G.k]; rfl) fun vs e => by
      obtain ⟨a, b, rfl, ex, ey⟩ := map_two e
      exact ⟨[("self", a), ("prompt", b)], by rw [← ex, ← ey]; rfl, _, rfl, rfl⟩) hx hd
theorem sp_init0 (G : Good W) {x d : Addr} {g : Tag} (hx : σ x = some (.inst g d)) (hd : σ d = some (.flds g [])) : Spec W 1 84 [.ref x] σ (fun r σ' => r = .none ∧ KM0 σ' x g .none [] ∧ ∀ a o, a ≠ d → σ a = some o → σ' a = some o) :=
  sp_init G (bindDef (v := .str "" 279) rfl (by rw [G.k]; rfl) fun vs e => by
      obtain ⟨a, rfl, ex⟩ := map_one e
      exact ⟨[("self", a), ("prompt", .str "" 279)], by rw [← ex]; rfl, _, rfl, rfl⟩) hx hd
/-- Keymap(prompt) -/
theorem T_Keymap1 {np pos : Pos} {e : Expr} {Q : AV → Rho → AHeap → Prop} (G : Good W) (g : Tag) (hn : 2 ≤ n) (hg : env.globals = mainGlobals) (hx : env.kindOf "Keymap" = some .globalImplicit)
    (h : CA W n env pos [e] (fun vs ρ σ => vs = [.str ""] ∧ ∀ x σ', σ x = none → Le σ σ' → KM0 σ' x g .none [] → Q (.ref x) ρ σ') ρ σ) : T W n env ab (eval (.Call (.Name "Keymap" np) [e] [] pos) env) Q ρ σ := by
  refine T_New g g (cls_at G) hn hg hx ⟨h.1, h.2.1, h.2.2.mono ?_⟩
  rintro vs ρ σ ⟨rfl, h⟩ x d σ₁ nx nd ne le e1 e2
  refine (sp_init1 G e1 e2).mono ?_
  rintro v σ₂ ⟨rfl, hk, hkeep⟩
  exact ⟨rfl, h x σ₂ nx (fun a o e => hkeep a o (fun q => by rw [q, nd] at e; cases e) (le a o e)) hk⟩
/-- Keymap() -/
theorem T_Keymap0 {np pos : Pos} {Q : AV → Rho → AHeap → Prop} (G : Good W) (g : Tag) (hn : 2 ≤ n) (hg : env.globals = mainGlobals) (hx : env.kindOf "Keymap" = some .globalImplicit)
    (h : ∀ x σ', σ x = none → Le σ σ' → KM0 σ' x g .none [] → Q (.ref x) ρ σ') : T W n env ab (eval (.Call (.Name "Keymap" np) [] [] pos) env) Q ρ σ := by
  refine T_New g g (cls_at G) hn hg hx (ca_nil fun x d σ₁ nx nd ne le e1 e2 => ?_)
  refine (sp_init0 G e1 e2).mono ?_
  rintro v σ₂ ⟨rfl, hk, hkeep⟩
  exact ⟨rfl, h x σ₂ nx (fun a o e => hkeep a o (fun q => by rw [q, nd] at e; cases e) (le a o e)) hk⟩

/-! reading a keymap's own -/
abbrev isAttr (env : Env) (value : Expr) (attr : Str) (pos : Pos) : Prop := eval (.Attribute value attr pos) env = (do
      let o ← eval value env
      standAt pos.atName
      let r ← holding [o] (getAttr o attr true)
      letTemporaryGo value o r
      Pure.pure r)
inductive RowsAsk (Q : AV → Rho → AHeap → Prop) (o : AV) (ρ : Rho) (σ : AHeap) : Prop
  | mk (x : Addr) (g : Tag) (p : AV) (kvs : List (Key × AV)) (e : o = .ref x) (h : KM0 σ x g p kvs) (q : ∀ d r ep, σ x = some (.inst g d) → σ d = some (.flds g (kf r p)) → σ r = some (.dict g kvs ep) → Q (.ref r) ρ σ) : RowsAsk Q o ρ σ
inductive ParAsk (Q : AV → Rho → AHeap → Prop) (o : AV) (ρ : Rho) (σ : AHeap) : Prop
  | mk (x : Addr) (g : Tag) (p : AV) (kvs : List (Key × AV)) (e : o = .ref x) (h : KM0 σ x g p kvs) (hp : ∀ u, p ≠ .other u) (q : Q p ρ σ) : ParAsk Q o ρ σ
inductive OneAsk (v : AV) (Q : AV → Rho → AHeap → Prop) (o : AV) (ρ : Rho) (σ : AHeap) : Prop
  | mk (x : Addr) (g : Tag) (p : AV) (kvs : List (Key × AV)) (e : o = .ref x) (h : KM0 σ x g p kvs) (q : Q v ρ σ) : OneAsk v Q o ρ σ
theorem T_rows {value : Expr} {pos : Pos} {Q : AV → Rho → AHeap → Prop} (G : Good W) (he : isAttr env value "rows" pos)
    (h : T W n env ab (eval value env) (RowsAsk Q) ρ σ) : T W n env ab (eval (.Attribute value "rows" pos) env) Q ρ σ := by
  refine T_Attr (own_rows G) he (h.mono ?_)
  rintro o ρ σ ⟨x, g, p, kvs, rfl, ⟨d, r, ep, h1, h2, h3⟩, q⟩
  exact ⟨x, g, d, g, _, .ref r, rfl, h1, h2, rfl, (fun _ h => nomatch h), q d r ep h1 h2 h3⟩
theorem T_parent {value : Expr} {pos : Pos} {Q : AV → Rho → AHeap → Prop} (G : Good W) (he : isAttr env value "parent" pos)
    (h : T W n env ab (eval value env) (ParAsk Q) ρ σ) : T W n env ab (eval (.Attribute value "parent" pos) env) Q ρ σ := by
  refine T_Attr (own_parent G) he (h.mono ?_)
  rintro o ρ σ ⟨x, g, p, kvs, rfl, ⟨d, r, ep, h1, h2, h3⟩, hp, q⟩
  exact ⟨x, g, d, g, _, p, rfl, h1, h2, rfl, hp, q⟩
theorem T_prompt {value : Expr} {pos : Pos} {Q : AV → Rho → AHeap → Prop} (G : Good W) (he : isAttr env value "prompt" pos)
    (h : T W n env ab (eval value env) (OneAsk (.str "") Q) ρ σ) : T W n env ab (eval (.Attribute value "prompt" pos) env) Q ρ σ := by
  refine T_Attr (own_prompt G) he (h.mono ?_)
  rintro o ρ σ ⟨x, g, p, kvs, rfl, ⟨d, r, ep, h1, h2, h3⟩, q⟩
  exact ⟨x, g, d, g, _, .str "", rfl, h1, h2, rfl, (fun _ h => nomatch h), q⟩
theorem T_has_default {value : Expr} {pos : Pos} {Q : AV → Rho → AHeap → Prop} (G : Good W) (he : isAttr env value "has_default" pos)
    (h : T W n env ab (eval value env) (OneAsk (.bool false) Q) ρ σ) : T W n env ab (eval (.Attribute value "has_default" pos) env) Q ρ σ := by
  refine T_Attr (own_has_default G) he (h.mono ?_)
  rintro o ρ σ ⟨x, g, p, kvs, rfl, ⟨d, r, ep, h1, h2, h3⟩, q⟩
  exact ⟨x, g, d, g, _, .bool false, rfl, h1, h2, rfl, (fun _ h => nomatch h), q⟩
theorem T_default {value : Expr} {pos : Pos} {Q : AV → Rho → AHeap → Prop} (G : Good W) (he : isAttr env value "default" pos)
    (h : T W n env ab (eval value env) (OneAsk .none Q) ρ σ) : T W n env ab (eval (.Attribute value "default" pos) env) Q ρ σ := by
  refine T_Attr (own_default G) he (h.mono ?_)
  rintro o ρ σ ⟨x, g, p, kvs, rfl, ⟨d, r, ep, h1, h2, h3⟩, q⟩
  exact ⟨x, g, d, g, _, .none, rfl, h1, h2, rfl, (fun _ h => nomatch h), q⟩
theorem S_AssignSub {o i value : Expr} {pos' pos : Pos} {Q : AFlow → Rho → AHeap → Prop} (hs : swapsWith value (some (.Subscript o i pos')) pos.line env = pure false)
    (h : T W n env ab (eval value env) (fun v => T W n env ab (eval o env) (fun ov => T W n env ab (eval i env) (fun iv ρ σ => ∀ vo vi vv, ab vo = ov → ab vi = iv → ab vv = v → T W n env id (setItem vo vi vv) (fun _ => Q .next) ρ σ))) ρ σ) :
    TS W n env (exec (.Assign [.Subscript o i pos'] value pos) env) Q ρ σ := fun F A s r S =>
  wpAny_Assign_Subscript (wpAny_mono (h F A s r S) (fun v s₁ ⟨ρ₁, σ₁, q, S₁⟩ => wpAny_mono (q F A s₁ r S₁) (fun vo s₂ ⟨ρ₂, σ₂, q, S₂⟩ => wpAny_mono (q F A s₂ r S₂) (fun vi s₃ ⟨ρ₃, σ₃, q, S₃⟩ => q vo vi v rfl rfl rfl F A s₃ r S₃) fun _ _ e => e) fun _ _ e => e) fun _ _ e => e) hs

/-- the methods -/
theorem sp_is_bound (G : Good W) {x : Addr} {g : Tag} {p : AV} {kvs : List (Key × AV)} {k : Key} (hx : KM0 σ x g p kvs) : Spec W 1 91 [.ref x, k.av] σ (fun r σ' => r = .bool (dget kvs k).isSome ∧ σ' = σ) := by
  refine enterB (ρ₀ := [("self", .ref x), ("event", k.av)]) ["self", "event"] (fn_m_is_bound G) (bind2 fun _ _ => rfl) rfl (by decide) rfl fun L => ?_
  k_extra "start"
  refine T_rows G (by k_extra "rf") ?_
  k_extra "go"
  refine ⟨x, _, _, _, rfl, hx, fun d r ep h1 h2 h3 => C_in_dict h3 ?_⟩
  exact ⟨rfl, rfl⟩
theorem sp_own (G : Good W) {x : Addr} {g : Tag} {p : AV} {kvs : List (Key × AV)} {k : Key} (hx : KM0 σ x g p kvs) : Spec W 1 98 [.ref x, k.av] σ (fun r σ' => r = (dget kvs k).getD .none ∧ σ' = σ) := by
  refine enterB (ρ₀ := [("self", .ref x), ("event", k.av)]) ["self", "event"] (fn_m_own G) (bind2 fun _ _ => rfl) rfl (by decide) rfl fun L => ?_
  k_extra "start"
  refine T_MethB (by k_extra "rf") PySem.F.plainAttrs_dict PySem.F.slot_dict_get PySem.F.type_dict_get ?_
  refine T_rows G (by k_extra "rf") ?_
  k_extra "go"
  refine ⟨x, _, _, _, rfl, hx, fun d r ep h1 h2 h3 => ⟨r, _, rfl, h3, fun h => ty_dict h, ?_⟩⟩
  k_extra "go"
  refine L_get h3 ?_
  exact ⟨rfl, rfl⟩
/-- a keymap whose rows were written anew -/
def KPut (σ σ' : AHeap) (x : Addr) (g : Tag) (p : AV) (kvs : List (Key × AV)) : Prop := KM0 σ' x g p kvs ∧ Mod (· = g) σ σ'
theorem km_chg {σ' : AHeap} {x d r : Addr} {g : Tag} {p : AV} {kvs kvs' : List (Key × AV)} {ep ep' : Nat} (h1 : σ x = some (.inst g d)) (h2 : σ d = some (.flds g (kf r p))) (h3 : σ r = some (.dict g kvs ep)) (c : Chg r (.dict g kvs' ep') σ σ') : KPut σ σ' x g p kvs' := by
  refine ⟨⟨d, r, ep', c.2 _ _ (fun q => ?_) h1, c.2 _ _ (fun q => ?_) h2, c.1⟩, Mod.of_chg c h3 rfl rfl⟩
  · rw [q, h3] at h1; cases h1
  · rw [q, h3] at h2; cases h2
theorem sp_put (G : Good W) {x : Addr} {g : Tag} {p : AV} {kvs : List (Key × AV)} {k : Key} {v : AV} (hx : KM0 σ x g p kvs) (hz : kvs.length ≤ 1000) : Spec W 1 105 [.ref x, k.av, v] σ (fun r σ' => r = .none ∧ KPut σ σ' x g p (kput kvs k v)) := by
  refine enterB (ρ₀ := [("self", .ref x), ("event", k.av), ("binding", v)]) ["self", "event", "binding"] (fn_m_put G) (bind3 fun _ _ _ => rfl) rfl (by decide) rfl fun L => ?_
  k_extra "start"
  refine S_AssignSub (by k_extra "rf") ?_
  k_extra "go"
  refine T_rows G (by k_extra "rf") ?_
  k_extra "go"
  refine ⟨x, _, _, _, rfl, hx, fun d r ep h1 h2 h3 => ?_⟩
  k_extra "go"
  intro vo vi vv eo ei ev
  refine T_setItem_dict eo ei h3 hz fun σ' ep' _ c => ?_
  rw [ev] at c
  k_extra "go"
  exact ⟨rfl, km_chg h1 h2 h3 c⟩
theorem sp_drop (G : Good W) {x : Addr} {g : Tag} {p : AV} {kvs : List (Key × AV)} {k : Key} (hx : KM0 σ x g p kvs) (hz : kvs.length ≤ 1000) : Spec W 1 112 [.ref x, k.av] σ (fun r σ' => r = .none ∧ KPut σ σ' x g p (kdel kvs k)) := by
  refine enterB (ρ₀ := [("self", .ref x), ("event", k.av)]) ["self", "event"] (fn_m_drop G) (bind2 fun _ _ => rfl) rfl (by decide) rfl fun L => ?_
  k_extra "start"
  refine T_rows G (by k_extra "rf") ?_
  k_extra "go"
  refine ⟨x, _, _, _, rfl, hx, fun d r ep h1 h2 h3 => C_in_dict h3 ⟨_, rfl, ⟨fun hb => ?_, fun hb => ?_⟩⟩⟩
  · obtain ⟨v, hv⟩ := Option.isSome_iff_exists.mp hb
    k_extra "start"
    refine T_MethB (by k_extra "rf") PySem.F.plainAttrs_dict PySem.F.slot_dict_pop PySem.F.type_dict_pop ?_
    refine T_rows G (by k_extra "rf") ?_
    k_extra "go"
    refine ⟨x, _, _, _, rfl, hx, fun d r ep h1 h2 h3 => ⟨r, _, rfl, h3, fun h => ty_dict h, ?_⟩⟩
    k_extra "go"
    refine L_dpop h3 hz hv fun ep' σ' c => ?_
    k_extra "go"
    exact ⟨rfl, km_chg h1 h2 h3 c⟩
  · k_extra "go"
    refine ⟨rfl, ?_⟩
    have e : kdel kvs k = kvs := by
      unfold kdel
      rw [List.filter_eq_self]
      intro q hq
      rw [decide_eq_true_eq]
      rintro rfl
      unfold dget at hb
      rw [Option.isSome_map, ← Bool.not_eq_true, List.find?_isSome] at hb
      exact hb ⟨q, hq, by simp⟩
    rw [e]
    exact ⟨hx, Mod.of_le Le.rfl⟩
end

section
variable {W : Wd} {n : Nat} {env : Env} {ρ : Rho} {σ : AHeap}
theorem cap_mk {scope : Scope} {cl : List (Str × Addr)} {ρc : Rho} {x : Str} (h : ∀ C, ∀ p ∈ ρc, p ∈ ρ ∧ env.kindOf p.1 = some .cell ∧ (compEnvC scope cl C env).kindOf p.1 = some .cell ∧ (cl.lookup p.1).isSome = true)
    (hx : ((ρc.map (·.1)).all fun y => decide (y ≠ x)) = true) : CapOk env scope cl ρ ρc x :=
  ⟨fun C y u hm => h C (y, u) hm, fun u hm => by
    have := List.all_eq_true.mp hx x (List.mem_map_of_mem (f := (·.1)) hm)
    exact absurd rfl (of_decide_eq_true this)⟩
theorem comp_mk {scope : Scope} {cl : List (Str × Addr)} {x : Str} (h1 : closureFor scope env = pure cl) (h2 : scope.kind = .function) (h3 : ∀ y ∈ scope.names, y.2 = .local → scope.names.lookup y.1 = some .local) (h4 : ∀ y ∈ scope.names, y.2 ≠ .cell)
    (h5 : scope.names.lookup x = some .local) (h6 : ∀ p ∈ cl, env.cells.lookup p.1 = some p.2) : CompOk env scope cl x :=
  ⟨h1, h2, h3, h4, h5, fun y c h => h6 (y, c) (mem_of_lookup h)⟩

theorem tyOf_lav (c : Option Str) : tyOf W σ (lav c) = some (match c with | none => .type "NoneType" | some _ => .type "str") := by cases c <;> rfl
theorem tyOf_km {x : Addr} {g : Tag} {p : AV} {kvs : List (Key × AV)} (h : KM0 σ x g p kvs) : tyOf W σ (.ref x) = some (.ref W.C) := by
  obtain ⟨d, r, ep, h1, h2, h3⟩ := h
  unfold tyOf; simp only [h1, h2]
theorem tyOf_list {a : Addr} {vs : List AV} (h : σ a = some (.list vs)) : tyOf W σ (.ref a) = some (.type "list") := by unfold tyOf; simp only [h]
theorem tyOf_dict {a : Addr} {g : Tag} {kvs : List (Key × AV)} {ep : Nat} (h : σ a = some (.dict g kvs ep)) : tyOf W σ (.ref a) = some (.type "dict") := by unfold tyOf; simp only [h]
theorem sp_is_keymap (G : Good W) {v : AV} {t : Value} {b : Bool} (ht : tyOf W σ v = some t) (ho : kitOne W.K t (.ref W.C) = some b) : Spec W 1 133 [v] σ (fun r σ' => r = .bool b ∧ σ' = σ) := by
  refine enterB (ρ₀ := [("binding", v)]) ["binding"] (fn_is_keymap G) (bind1 fun _ => rfl) rfl (by decide) rfl fun L => ?_
  k_extra "start"
  k_extra "bi"
  refine T_Global (cls_at G).glob rfl (by k_extra "rf") (by k_extra "rf") fun v' e => ?_
  subst e
  k_extra "go"
  exact L_isinst (cls_k G) ref_only ht ho ⟨rfl, rfl⟩

structure Node where
  x : Addr
  g : Tag
  kvs : List (Key × AV)
def Chain (σ : AHeap) : AV → List Node → Prop
  | p, [] => p = .none
  | p, nd :: ns => p = .ref nd.x ∧ ∃ p', KM0 σ nd.x nd.g p' nd.kvs ∧ Chain σ p' ns
theorem Chain.le {σ σ' : AHeap} (m : Le σ σ') : ∀ {ns : List Node} {p : AV}, Chain σ p ns → Chain σ' p ns
  | [], _, h => h
  | _ :: _, _, ⟨e, p', h, t⟩ => ⟨e, p', h.le m, Chain.le m t⟩
theorem Chain.other {ns : List Node} {p : AV} (h : Chain σ p ns) : ∀ u, p ≠ .other u := fun u e => by
  cases ns with
  | nil => rw [show p = .none from h] at e; cases e
  | cons a b => rw [h.1] at e; cases e
def nrefs (ns : List Node) : List AV := ns.map fun nd => .ref nd.x
theorem sp_chain_of (G : Good W) {p : AV} {ns : List Node} (h : Chain σ p ns) (hz : ns.length ≤ 100) : Spec W 1 140 [p] σ (fun r σ' => ∃ l, r = .ref l ∧ σ l = none ∧ Le σ σ' ∧ σ' l = some (.list (nrefs ns))) := by
  refine enterB (ρ₀ := [("keymap", p)]) ["keymap"] (fn_chain_of G) (bind1 fun _ => rfl) rfl (by decide) rfl fun L => ?_
  k_extra "start"
  k_extra "asg"
  refine ⟨by simp, fun l σ₁ nl le₁ hl => ?_⟩
  k_extra "set"
  refine S_While (fun k ρ σ' => ∃ p' d r, ns = d ++ r ∧ k = r.length ∧ Sub [("keymap", p'), ("found", .ref l)] ρ ∧ Chain σ p' r ∧ Le σ σ' ∧ σ' l = some (.list (nrefs d))) ns.length ⟨p, [], ns, rfl, rfl, by k_extra "sub", h, le₁, hl⟩ ?_
  rintro k ρ σ' ⟨p', d, r, rfl, rfl, hs, hc, le, hl'⟩
  refine weakS hs ?_
  k_extra "go"
  refine C_isNot_none ⟨_, rfl, ⟨fun hb => ?_, fun hb => ?_⟩⟩
  · cases r with
    | nil => rw [show p' = .none from hc] at hb; cases hb
    | cons nd r =>
      obtain ⟨rfl, p'', hk, hc'⟩ := hc
      k_extra "start"
      refine T_MethB (by k_extra "rf") PySem.F.plainAttrs_list PySem.F.slot_list_append PySem.F.type_list_append ?_
      k_extra "go"
      refine ⟨l, _, rfl, hl', fun h => ty_list h, ?_⟩
      k_extra "go"
      refine L_append hl' (by simp [nrefs]; simp at hz; omega) fun σ₂ c => ?_
      k_extra "go"
      k_extra "asg"
      refine T_parent G (by k_extra "rf") ?_
      k_extra "go"
      refine ⟨nd.x, _, _, _, rfl, hk.le (le.chg nl c), hc'.other, ?_⟩
      k_extra "set"
      refine ⟨r.length, by simp, p'', d ++ [nd], r, by simp, rfl, by k_extra "sub", hc', le.chg nl c, ?_⟩
      rw [c.1]; simp [nrefs]
  · cases r with
    | cons nd r => rw [hc.1] at hb; cases hb
    | nil =>
      k_extra "go"
      rw [List.append_nil] at *
      exact ⟨l, rfl, nl, le, hl'⟩
end

local macro_rules | `(tactic| k_extra "cap") => `(tactic| (refine cap_mk (fun C => ?_) rfl; k_extra "cap1"))
local macro_rules | `(tactic| k_extra "compok") => `(tactic| exact comp_mk (by k_extra "rf") rfl (by decide) (by decide) (by k_extra "rf") (by k_extra "all"))

section
variable {W : Wd} {n : Nat} {env : Env} {ρ : Rho} {σ : AHeap}
theorem Mod.le {P : Tag → Prop} {σ σ1 σ2 : AHeap} (a : Le σ σ1) (b : Mod P σ1 σ2) : Mod P σ σ2 := (Mod.of_le a).trans b
theorem sp_set_parent (G : Good W) {x y : Addr} {g g' : Tag} {kvs kvs' : List (Key × AV)} (hx : KM0 σ x g .none kvs) (hy : KM0 σ y g' .none kvs') (hne : x ≠ y) :
    Spec W 2 145 [.ref x, .ref y] σ (fun r σ' => r = .none ∧ KM0 σ' x g (.ref y) kvs ∧ Mod (· = g) σ σ') := by
  refine enterB (ρ₀ := [("keymap", .ref x), ("parent", .ref y)]) ["keymap", "parent"] (fn_set_parent G) (bind2 fun _ _ => rfl) rfl (by decide) rfl fun L => ?_
  k_extra "start"
  refine C_isNot_none ⟨_, rfl, ⟨fun hb => ?_, fun hb => by simp at hb⟩⟩
  k_extra "go"
  refine T_ListComp (by intro; rfl) (by k_extra "compok") ?_
  refine T_CallFn (m := 1) (at_chain_of G) (Nat.le_refl _) rfl (by k_extra "rf") ?_
  k_extra "go"
  refine (sp_chain_of G (ns := [⟨y, g', kvs'⟩]) ⟨rfl, _, hy, rfl⟩ (by show 1 ≤ 100; decide)).mono ?_
  rintro _ σ₁ ⟨l, rfl, nl, le₁, hl⟩
  refine ⟨[("keymap", .ref x)], by k_extra "cap", ?_⟩
  obtain ⟨d, r, ep, h1, h2, h3⟩ := id hx
  obtain ⟨d', r', ep', h1', h2', h3'⟩ := id hy
  refine comp_plain (fun i out σ' => out = [] ∧ σ' = σ₁) (iter_list hl) ⟨rfl, rfl⟩ (by simp [nrefs]) (fun i out σ' _ h => by rw [h.1]; exact Nat.zero_le _) (fun i out σ' h => by rw [h.2]; exact hl) ?_ ?_
  · rintro i u hi hu out σ' ⟨rfl, rfl⟩ C
    have hi' : i = 0 := by simp [nrefs] at hi; omega
    subst hi'
    have hu' : u = .ref y := by simpa [nrefs] using hu.symm
    subst hu'
    refine T_tests1 ?_
    k_extra "go"
    refine C_is_ref (le₁ _ _ h1') (le₁ _ _ h1) ⟨_, rfl, ?_⟩
    rw [decide_eq_false (fun e => hne e.symm)]
    exact ⟨(fun hb => nomatch hb), fun _ => ⟨rfl, rfl⟩⟩
  · rintro out σ' ⟨rfl, rfl⟩
    intro a σ₂ na le₂ ha
    k_extra "go"
    refine ⟨by simp, fun b σ₃ nb le₃ hb' => C_ne_list0 (le₃ _ _ ha) hb' ⟨_, rfl, ⟨(fun hb => nomatch hb), fun _ => ?_⟩⟩⟩
    have le : Le σ σ₃ := (le₁.trans le₂).trans le₃
    refine ⟨(fun hb => nomatch hb), fun _ => ?_⟩
    k_extra "go"
    k_extra "sat"
    refine ⟨x, _, _, _, _, rfl, le _ _ h1, le _ _ h2, by show 5 < 900; decide, fun σ₄ c => ?_⟩
    k_extra "go"
    refine ⟨rfl, ⟨d, r, ep, ?_, ?_, ?_⟩, Mod.le le (Mod.of_chg c (le _ _ h2) rfl rfl)⟩
    · exact c.2 _ _ (fun q => by rw [q, h2] at h1; cases h1) (le _ _ h1)
    · rw [c.1]; rfl
    · exact c.2 _ _ (fun q => by rw [q, h2] at h3; cases h3) (le _ _ h3)
end

section
variable {W : Wd} {n : Nat} {env : Env} {ρ : Rho} {σ : AHeap}
inductive MethKAsk (W : Wd) (n m : Nat) (env : Env) (fa : Addr) (pos : Pos) (args : List Expr) (Q : AV → Rho → AHeap → Prop) (ov : AV) (ρ : Rho) (σ : AHeap) : Prop
  | mk (x : Addr) (g : Tag) (p : AV) (kvs : List (Key × AV)) (e : ov = .ref x) (h : KM0 σ x g p kvs) (q : CA W n env pos args (fun vs ρ σ => Spec W m fa (.ref x :: vs) σ (fun v σ' => Q v ρ σ')) ρ σ) : MethKAsk W n m env fa pos args Q ov ρ σ
theorem T_MethK {m : Nat} {o : Expr} {name : Str} {apos pos : Pos} {args : List Expr} {pl : Sem Bool} {fa : Addr} {Q : AV → Rho → AHeap → Prop} (hf : MethAt W name fa) (hm : m ≤ n) (he : isMeth env o name apos pos args pl) (hn : ∀ r p, fget (kf r p) name = none)
    (h : T W n env ab (eval o env) (MethKAsk W n m env fa pos args Q) ρ σ) : T W n env ab (eval (.Call (.Attribute o name apos) args [] pos) env) Q ρ σ := by
  refine T_Meth hf hm he (h.mono ?_)
  rintro ov ρ σ ⟨x, g, p, kvs, rfl, ⟨d, r, ep, h1, h2, h3⟩, q⟩
  exact ⟨x, g, d, g, _, rfl, h1, h2, hn r p, q⟩

/-! trees -/
def tkeys (T : Tree) : List Key := T.map (·.1)
def rowsAt (T : Tree) (k : Key) : Rows := match tget T k with | some (.map r) => r | _ => []
def tdef (T : Tree) (ks : List Key) (c : Option Str) : Tree := match ks with
  | [k] => tput T k (.leaf c)
  | [k, j] => tput T k (.map (rput (rowsAt T k) j c))
  | _ => T
/-- no command stands in the way of a sequence -/
def tfree (T : Tree) (ks : List Key) : Prop := match ks with
  | [_] => True
  | [k, _] => ∀ c, tget T k ≠ some (.leaf (some c))
  | _ => False
theorem tkeys_put (T : Tree) (k : Key) (b : Bnd) : tkeys (tput T k b) = if k ∈ tkeys T then tkeys T else tkeys T ++ [k] := by
  induction T with
  | nil => rfl
  | cons p r ih =>
    obtain ⟨j, u⟩ := p
    unfold tkeys at ih ⊢
    unfold tput
    by_cases e : j = k
    · subst e; simp
    · simp only [e, if_false, List.map_cons, ih, List.mem_cons]
      have : (k = j ∨ k ∈ r.map (·.1)) ↔ k ∈ r.map (·.1) := ⟨fun h => h.resolve_left fun q => e q.symm, .inr⟩
      simp only [this]
      split <;> simp
theorem nodup_put {T : Tree} (h : (tkeys T).Nodup) (k : Key) (b : Bnd) : (tkeys (tput T k b)).Nodup := by
  rw [tkeys_put]; split
  · exact h
  · rename_i q; rw [List.nodup_append]; exact ⟨h, by simp, fun a ha b hb => by rw [List.mem_singleton] at hb; subst hb; exact fun e => q (e ▸ ha)⟩
theorem nodup_del {T : Tree} (h : (tkeys T).Nodup) (k : Key) : (tkeys (tdel T k)).Nodup := (List.filter_sublist.map _).nodup h
theorem tput_len (T : Tree) (k : Key) (b : Bnd) : (tput T k b).length ≤ T.length + 1 := by
  induction T with
  | nil => simp [tput]
  | cons p r ih => obtain ⟨j, u⟩ := p; unfold tput; split <;> simp_all
theorem rput_len (T : Rows) (k : Key) (b : Option Str) : (rput T k b).length ≤ T.length + 1 := by
  induction T with
  | nil => simp [rput]
  | cons p r ih => obtain ⟨j, u⟩ := p; unfold rput; split <;> simp_all

section
variable {M : AHeap → Addr → Tag → Rows → Prop} {σ' : AHeap} {reg : Nat}
/-- one sub-map is written anew -/
theorem RAt.upd {kvs : List (Key × AV)} {T : Tree} {k : Key} {y : Addr} {rows : Rows} (h : RAt M σ reg kvs T) (hn : (tkeys T).Nodup) (hy : dget kvs k = some (.ref y)) (m : Mod (· = (reg, some k)) σ σ') (hs : M σ' y (reg, some k) rows) (st : Stable M := by first | exact stabK | exact stabD | assumption) : RAt M σ' reg kvs (tput T k (.map rows)) := by
  have rest : ∀ {kvs : List (Key × AV)} {T : Tree}, RAt M σ reg kvs T → k ∉ tkeys T → RAt M σ' reg kvs T := by
    intro kvs T h
    induction h with
    | nil => intro _; exact .nil
    | @cons j v b kvs T hb _ ih =>
      intro hk
      unfold tkeys at hk ih
      simp only [List.map_cons, List.mem_cons, not_or] at hk
      exact .cons (hb.mod m (fun e => hk.1 (by cases e; rfl))) (ih hk.2)
  induction h with
  | nil => cases hy
  | @cons j v b kvs T hb h ih =>
    unfold tkeys at hn
    rw [List.map_cons, List.nodup_cons] at hn
    unfold dget at hy
    rw [List.find?_cons] at hy
    unfold tput
    by_cases e : j = k
    · subst e
      simp at hy
      subst hy
      rw [if_pos rfl]
      exact .cons ⟨y, rfl, hs⟩ (rest h hn.1)
    · simp only [e, decide_false] at hy
      rw [if_neg e]
      exact .cons (hb.mod m (fun q => e (by cases q; rfl))) (ih hn.2 hy)
end
theorem kput_get {kvs : List (Key × AV)} {k : Key} {v : AV} : dget (kput kvs k v) k = some v := by
  induction kvs with
  | nil => simp [kput, dget]
  | cons p r ih =>
    obtain ⟨j, u⟩ := p
    show dget (if j = k then (j, v) :: r else (j, u) :: kput r k v) k = some v
    split
    · rename_i e; subst e; simp [dget]
    · rename_i e
      show ((((j, u) :: kput r k v).find? _).map _) = _
      rw [List.find?_cons, decide_eq_false e]; exact ih
theorem kput_same {kvs : List (Key × AV)} {k : Key} {v : AV} (h : dget kvs k = some v) : kput kvs k v = kvs := by
  induction kvs with
  | nil => cases h
  | cons p r ih =>
    obtain ⟨j, u⟩ := p
    unfold kput
    unfold dget at h ih
    rw [List.find?_cons] at h
    by_cases e : j = k
    · subst e; simp at h; subst h; rw [if_pos rfl]
    · simp only [e, decide_false] at h
      rw [if_neg e, ih h]

theorem sp_map_for1 (G : Good W) {x a : Addr} {k : AV} (ha : σ a = some (.tup [k])) : Spec W 1 159 [.ref x, .ref a] σ (fun r σ' => r = .ref x ∧ Le σ σ') := by
  refine enterB (ρ₀ := [("keymap", .ref x), ("keys", .ref a)]) ["keymap", "keys"] (fn_map_for G) (bind2 fun _ _ => rfl) rfl (by decide) rfl fun L => ?_
  k_extra "start"
  refine S_ForRange (by intro; rfl) (by k_extra "sto") ?_
  k_extra "bi"
  k_extra "bi"
  refine L_len_tup ha (by simp) ?_
  k_extra "go"
  refine B_sub ?_
  k_extra "go"
  refine L_range1 fun t u v r σ₁ nr le₁ hr => ?_
  refine ⟨r, 0, 0, t, u, v, fun i ρ σ' => Sub [("keymap", .ref x)] ρ ∧ Le σ σ', rfl, hr, by decide, by decide, ⟨by k_extra "sub", le₁⟩, fun i hi => absurd hi (by omega), fun ρ σ' ⟨hs, le⟩ => ?_⟩
  refine weakS hs ?_
  k_extra "go"
  exact ⟨rfl, le⟩

inductive MfR (σ : AHeap) (x : Addr) (reg : Nat) (p : AV) (T : Tree) (k : Key) (r : AV) (σ' : AHeap) : Prop
  | mk (y : Addr) (kvs : List (Key × AV)) (e : r = .ref y) (h1 : KM0 σ' x (reg, none) p kvs) (h2 : dget kvs k = some (.ref y)) (h3 : RAt KSub σ' reg kvs (tput T k (.map (rowsAt T k)))) (h4 : KSub σ' y (reg, some k) (rowsAt T k)) (h5 : Mod (·.1 = reg) σ σ') : MfR σ x reg p T k r σ'
inductive MfJ (σ σ₁ : AHeap) (x a : Addr) (reg : Nat) (p : AV) (T : Tree) (k : Key) (i : Nat) (ρ : Rho) (σ' : AHeap) : Prop
  | fst (e : i = 0) (es : σ' = σ₁) (hs : Sub [("keymap", .ref x), ("keys", .ref a)] ρ) : MfJ σ σ₁ x a reg p T k i ρ σ'
  | snd (e : i = 1) (y : Addr) (kvs : List (Key × AV)) (hs : Sub [("keymap", .ref y)] ρ) (h1 : KM0 σ' x (reg, none) p kvs) (h2 : dget kvs k = some (.ref y)) (h3 : RAt KSub σ' reg kvs (tput T k (.map (rowsAt T k)))) (h4 : KSub σ' y (reg, some k) (rowsAt T k)) (h5 : Mod (·.1 = reg) σ σ') : MfJ σ σ₁ x a reg p T k i ρ σ'
theorem sp_map_for2 (G : Good W) {x a : Addr} {reg : Nat} {p : AV} {T : Tree} {k j : Key} (ha : σ a = some (.tup [k.av, j.av])) (hx : KTop σ x reg p T) (hz : T.length ≤ 100) (hf : tfree T [k, j]) :
    Spec W 3 159 [.ref x, .ref a] σ (MfR σ x reg p T k) := by
  obtain ⟨kvs, hk, hr⟩ := hx
  refine enterB (ρ₀ := [("keymap", .ref x), ("keys", .ref a)]) ["keymap", "keys"] (fn_map_for G) (bind2 fun _ _ => rfl) rfl (by decide) rfl fun L => ?_
  k_extra "start"
  refine S_ForRange (by intro; rfl) (by k_extra "sto") ?_
  k_extra "bi"
  k_extra "bi"
  refine L_len_tup ha (by simp) ?_
  k_extra "go"
  refine B_sub ?_
  k_extra "go"
  refine L_range1 fun t u v r σ₁ nr le₁ hr₁ => ?_
  refine ⟨r, 0, 1, t, u, v, MfJ σ σ₁ x a reg p T k,
    rfl, hr₁, by decide, by decide, .fst rfl rfl (by k_extra "sub"), fun i hi ρ σ' h => ?_, fun ρ σ' h => ?_⟩
  · rcases h with ⟨rfl, rfl, hs⟩ | ⟨rfl, _⟩
    · refine weakS (sub_rset hs rfl) ?_
      have hk₁ := hk.le le₁
      have hr₁ : RAt KSub σ' reg kvs T := hr.mod (P := fun _ => False) (Mod.of_le le₁) fun _ => id
      k_extra "start"
      k_extra "asg"
      refine T_MethK (m := 1) (at_m_own G) (by decide) (by k_extra "rf") (fun _ _ => rfl) ?_
      k_extra "go"
      refine ⟨x, _, _, _, rfl, hk₁, ?_⟩
      k_extra "go"
      refine I_tup (by intro _ _; rfl) (le₁ _ _ ha) (by decide) (by decide) (j := 0) (by show seqIndex? 0 2 = some 0; decide) rfl ?_
      k_extra "go"
      refine (sp_own G hk₁).mono ?_
      rintro _ σ' ⟨rfl, rfl⟩
      have hcase : ((dget kvs k).getD .none = .none ∧ rowsAt T k = []) ∨ ∃ y rows, dget kvs k = some (.ref y) ∧ tget T k = some (.map rows) ∧ KSub σ' y (reg, some k) rows ∧ rowsAt T k = rows := by
        rcases hr₁.get k with ⟨h1, h2⟩ | ⟨v, b, h1, h2, h3⟩
        · left; rw [h1]; unfold rowsAt; rw [h2]; exact ⟨rfl, rfl⟩
        · cases b with
          | leaf c =>
            cases c with
            | none => left; rw [h1, show v = .none from h3]; unfold rowsAt; rw [h2]; exact ⟨rfl, rfl⟩
            | some c => exact absurd h2 (hf c)
          | map rows =>
            obtain ⟨y, rfl, hy⟩ := h3
            exact .inr ⟨y, rows, h1, h2, hy, by unfold rowsAt; rw [h2]⟩
      k_extra "set"
      rcases hcase with ⟨hv, hrw⟩ | ⟨y, rows, hy, hT, hs', hrw⟩
      · rw [hv]
        refine C_is_none ⟨_, rfl, ?_⟩
        k_extra "yes"
        k_extra "asg"
        refine T_Keymap0 G (reg, some k) (by decide) rfl (by k_extra "rf") fun y σ₂ ny le₂ hy => ?_
        k_extra "set"
        refine T_MethK (m := 1) (at_m_put G) (by decide) (by k_extra "rf") (fun _ _ => rfl) ?_
        k_extra "go"
        have hk₂ := hk₁.le le₂
        refine ⟨x, _, _, _, rfl, hk₂, ?_⟩
        k_extra "go"
        refine I_tup (by intro _ _; rfl) (le₂ _ _ (le₁ _ _ ha)) (by decide) (by decide) (j := 0) (by show seqIndex? 0 2 = some 0; decide) rfl ?_
        k_extra "go"
        refine (sp_put G hk₂ (by rw [hr.length]; omega)).mono ?_
        rintro _ σ₃ ⟨rfl, hk₃, m₃⟩
        have hy₃ : KM0 σ₃ y (reg, some k) .none [] := hy.mod m₃ (fun e => by cases e)
        k_extra "go"
        refine T_isValue (by k_extra "rf") ?_
        refine T_CallFn (m := 1) (at_is_keymap G) (by decide) rfl (by k_extra "rf") ?_
        k_extra "go"
        refine (sp_is_keymap G (tyOf_km hy₃) (one_K_K G)).mono ?_
        rintro _ σ₃ ⟨rfl, rfl⟩
        refine ⟨_, rfl, ?_⟩
        k_extra "no"
        k_extra "asg"
        k_extra "set"
        have hr₂ : RAt KSub σ₂ reg kvs T := hr₁.mod (P := fun _ => False) (Mod.of_le le₂) fun _ => id
        have hr₃ : RAt KSub _ reg kvs T := hr₂.mod m₃ (fun _ e => by cases e)
        refine .snd rfl y _ (by k_extra "sub") hk₃ kput_get ?_ ?_ ?_
        · refine hr₃.put ⟨y, rfl, ?_⟩; rw [hrw]; exact hy₃
        · rw [hrw]; exact hy₃
        · exact Mod.le ((le₁.trans le₂)) (m₃.mono fun g e => by rw [e])
      · have hv : (dget kvs k).getD .none = .ref y := by rw [hy]; rfl
        rw [hv]
        refine C_is_none ⟨_, rfl, ?_⟩
        k_extra "no"
        refine T_isValue (by k_extra "rf") ?_
        refine T_CallFn (m := 1) (at_is_keymap G) (by decide) rfl (by k_extra "rf") ?_
        k_extra "go"
        refine (sp_is_keymap G (tyOf_km hs') (one_K_K G)).mono ?_
        rintro _ σ' ⟨rfl, rfl⟩
        refine ⟨_, rfl, ?_⟩
        k_extra "no"
        k_extra "asg"
        k_extra "set"
        refine .snd rfl y kvs (by k_extra "sub") hk₁ hy ?_ (by rw [hrw]; exact hs') (Mod.of_le le₁)
        have := hr₁.put (k := k) (v := .ref y) (b := .map (rowsAt T k)) ⟨y, rfl, by rw [hrw]; exact hs'⟩
        rw [kput_same hy] at this; exact this
    · exact absurd hi (by decide)
  · rcases h with ⟨h, _⟩ | ⟨_, y, kvs', hs, h1, h2, h3, h4, h5⟩
    · cases h
    · refine weakS hs ?_
      k_extra "go"
      exact ⟨y, kvs', rfl, h1, h2, h3, h4, h5⟩

/-- define_key -/
theorem sp_define_key (G : Good W) {x a : Addr} {reg : Nat} {p : AV} {T : Tree} {ks : List Key} {c : Option Str} (ha : σ a = some (.tup (ks.map Key.av))) (hok : ∀ k ∈ ks, k.ok) (hx : KTop σ x reg p T) (hn : (tkeys T).Nodup) (hz : T.length ≤ 100) (hf : tfree T ks) (hrz : ∀ k, (rowsAt T k).length ≤ 100) :
    Spec W 5 166 [.ref x, .ref a, lav c] σ (fun r σ' => r = lav c ∧ KTop σ' x reg p (tdef T ks c) ∧ Mod (·.1 = reg) σ σ') := by
  have hl : ks.length ≤ 2 ∧ ks ≠ [] := by
    match ks, hf with
    | [_], _ => exact ⟨by simp, by simp⟩
    | [_, _], _ => exact ⟨by simp, by simp⟩
  refine enterB (ρ₀ := [("keymap", .ref x), ("keys", .ref a), ("binding", lav c)]) ["keymap", "keys", "binding"] (fn_define_key G) (bind3 fun _ _ _ => rfl) rfl (by decide) rfl fun L => ?_
  k_extra "start"
  k_extra "asg"
  refine T_CallFn (m := 4) (at_spread_meta G) (by decide) rfl (by k_extra "rf") ?_
  k_extra "go"
  refine (sp_spread_meta G ha hok (by omega)).mono ?_
  rintro _ σ₁ ⟨b, rfl, le₁, hb⟩
  k_extra "set"
  refine ⟨by simp, fun e σ₂ ne le₂ he => C_eq_tup0 (le₂ _ _ hb) he ⟨_, rfl, ?_⟩⟩
  rw [show (ks.map Key.av).isEmpty = false by cases ks with | nil => exact absurd rfl hl.2 | cons _ _ => rfl]
  have le : Le σ σ₂ := le₁.trans le₂
  have hb₂ := le₂ _ _ hb
  have hx₂ := hx.le le
  k_extra "no"
  match ks, hf with
  | [k], _ =>
    refine T_MethK (m := 1) (at_m_put G) (by decide) (by k_extra "rf") (fun _ _ => rfl) ?_
    refine T_CallFn (m := 1) (at_map_for G) (by decide) rfl (by k_extra "rf") ?_
    k_extra "go"
    refine (sp_map_for1 G hb₂).mono ?_
    rintro _ σ₃ ⟨rfl, le₃⟩
    obtain ⟨kvs, hk, hr⟩ := hx₂.le le₃
    refine ⟨x, _, _, _, rfl, hk, ?_⟩
    k_extra "go"
    refine ⟨1, rfl, ?_⟩
    refine I_tup (by intro _ _; rfl) (le₃ _ _ hb₂) (by decide) (by decide) (j := 0) (by show seqIndex? (-1) 1 = some 0; decide) rfl ?_
    k_extra "go"
    refine (sp_put G hk (by rw [hr.length]; omega)).mono ?_
    rintro _ σ₄ ⟨rfl, hk₄, m₄⟩
    k_extra "go"
    have hr₄ := hr.mod m₄ (fun _ e => by cases e)
    exact ⟨rfl, ⟨_, hk₄, hr₄.put rfl⟩, Mod.le (le.trans le₃) (m₄.mono fun g e => by rw [e])⟩
  | [k, j], hf =>
    refine T_MethK (m := 1) (at_m_put G) (by decide) (by k_extra "rf") (fun _ _ => rfl) ?_
    refine T_CallFn (m := 3) (at_map_for G) (by decide) rfl (by k_extra "rf") ?_
    k_extra "go"
    refine (sp_map_for2 G hb₂ hx₂ hz hf).mono ?_
    rintro _ σ₃ ⟨y, kvs, rfl, hk, hy, hr, hs, m₃⟩
    refine ⟨y, _, _, _, rfl, hs, ?_⟩
    k_extra "go"
    refine ⟨1, rfl, ?_⟩
    refine I_tup (by intro _ _; rfl) (m₃ _ _ hb₂ fun _ e => nomatch e) (by decide) (by decide) (j := 1) (by show seqIndex? (-1) 2 = some 1; decide) rfl ?_
    k_extra "go"
    refine (sp_put G hs (by unfold lrows; rw [List.length_map]; have := hrz k; omega)).mono ?_
    rintro _ σ₄ ⟨rfl, hs₄, m₄⟩
    k_extra "go"
    have hs₄' : KSub σ₄ y (reg, some k) (rput (rowsAt T k) j c) := by unfold KSub; rw [lrows_put]; exact hs₄
    have hr₄ := hr.upd (nodup_put hn _ _) hy m₄ hs₄'
    refine ⟨rfl, ⟨kvs, hk.mod m₄ (fun e => by cases e), ?_⟩, Mod.le le (m₃.trans (m₄.mono fun g e => by rw [e]))⟩
    have e : tput (tput T k (.map (rowsAt T k))) k (.map (rput (rowsAt T k) j c)) = tdef T [k, j] c := by
      unfold tdef
      have gen : ∀ (T : Tree) (b b' : Bnd), tput (tput T k b) k b' = tput T k b' := by
        intro T b b'
        induction T with
        | nil => simp [tput]
        | cons q r ih =>
          obtain ⟨i, u⟩ := q
          show tput (if i = k then _ else _) k b' = (if i = k then _ else _)
          split
          · rename_i e; simp [tput, e]
          · rename_i e; show (if i = k then _ else _) = _; rw [if_neg e, ih]
      exact gen _ _ _
    rw [e] at hr₄; exact hr₄
end

section
variable {W : Wd} {n : Nat} {env : Env} {ρ : Rho} {σ : AHeap}
def TOk (m : Nat) (T : Tree) : Prop := (tkeys T).Nodup ∧ T.length ≤ m ∧ ∀ k, (rowsAt T k).length ≤ m
theorem rowsAt_put (T : Tree) (k : Key) (b : Bnd) (j : Key) : rowsAt (tput T k b) j = if j = k then (match b with | .map r => r | .leaf _ => []) else rowsAt T j := by
  have g : tget (tput T k b) j = if j = k then some b else tget T j := by
    induction T with
    | nil => by_cases e : j = k <;> simp [tput, tget, e, eq_comm]
    | cons p r ih =>
      obtain ⟨i, u⟩ := p
      show tget (if i = k then (i, b) :: r else (i, u) :: tput r k b) j = _
      by_cases e : i = k
      · rw [if_pos e]
        unfold tget
        rw [List.find?_cons, List.find?_cons]
        by_cases q : j = k
        · simp [q, e]
        · have : ¬ i = j := fun h => q (by rw [← h, e])
          simp [q, this]
      · rw [if_neg e]
        unfold tget at ih ⊢
        rw [List.find?_cons, List.find?_cons]
        by_cases q : i = j
        · subst q; simp [e]
        · simp only [q, decide_false]; exact ih
  unfold rowsAt
  rw [g]
  split <;> rename_i h
  · split at h
    · cases h; rename_i q; rw [if_pos q]
    · rename_i q; rw [if_neg q, h]
  · split at h
    · rename_i q; rw [if_pos q]
      cases b with
      | leaf c => rfl
      | map r => exact absurd rfl (h r)
    · rename_i q; rw [if_neg q]
      split
      · rename_i r h'; exact absurd h' (h r)
      · rfl
theorem TOk.tdef {m : Nat} {T : Tree} (h : TOk m T) (ks : List Key) (c : Option Str) : TOk (m + 1) (tdef T ks c) := by
  obtain ⟨h1, h2, h3⟩ := h
  have w : TOk (m + 1) T := ⟨h1, by omega, fun k => by have := h3 k; omega⟩
  unfold Mine.tdef
  split
  · rename_i k
    refine ⟨nodup_put h1 _ _, by have := tput_len T k (.leaf c); omega, fun j => ?_⟩
    rw [rowsAt_put]
    split
    · exact Nat.zero_le _
    · have := h3 j; omega
  · rename_i k j
    refine ⟨nodup_put h1 _ _, by have := tput_len T k (.map (rput (rowsAt T k) j c)); omega, fun i => ?_⟩
    rw [rowsAt_put]
    split
    · have := rput_len (rowsAt T k) j c; have := h3 k; show (rput _ _ _).length ≤ _; omega
    · have := h3 i; omega
  · exact w
theorem TOk.mono {m m' : Nat} {T : Tree} (h : TOk m T) (hm : m ≤ m') : TOk m' T := ⟨h.1, Nat.le_trans h.2.1 hm, fun k => Nat.le_trans (h.2.2 k) hm⟩
theorem TOk.nil : TOk 0 [] := ⟨List.nodup_nil, Nat.le_refl _, fun _ => Nat.le_refl _⟩
/-- define_key, in short -/
theorem sp_def (G : Good W) {x a : Addr} {reg : Nat} {p : AV} {T : Tree} {ks : List Key} {c : Option Str} {m : Nat} (ha : σ a = some (.tup (ks.map Key.av))) (hok : ∀ k ∈ ks, k.ok) (hx : KTop σ x reg p T) (ht : TOk m T) (hm : m ≤ 100) (hf : tfree T ks) :
    Spec W 5 166 [.ref x, .ref a, lav c] σ (fun r σ' => r = lav c ∧ KTop σ' x reg p (tdef T ks c) ∧ Mod (·.1 = reg) σ σ') :=
  sp_define_key G ha hok hx ht.1 (Nat.le_trans ht.2.1 hm) hf fun k => Nat.le_trans (ht.2.2 k) hm

theorem sp_undefine (G : Good W) {x a : Addr} {reg : Nat} {p : AV} {T : Tree} {k : Key} (ha : σ a = some (.tup [k.av])) (hok : k.ok) (hx : KTop σ x reg p T) (hz : T.length ≤ 100) :
    Spec W 5 173 [.ref x, .ref a] σ (fun r σ' => r = .none ∧ KTop σ' x reg p (tdel T k) ∧ Mod (·.1 = reg) σ σ') := by
  refine enterB (ρ₀ := [("keymap", .ref x), ("keys", .ref a)]) ["keymap", "keys"] (fn_undefine_key G) (bind2 fun _ _ => rfl) rfl (by decide) rfl fun L => ?_
  k_extra "start"
  k_extra "asg"
  refine T_CallFn (m := 4) (at_spread_meta G) (by decide) rfl (by k_extra "rf") ?_
  k_extra "go"
  refine (sp_spread_meta G (ks := [k]) ha (by simpa using hok) (by show 1 ≤ 100; decide)).mono ?_
  rintro _ σ₁ ⟨b, rfl, le₁, hb⟩
  k_extra "set"
  refine S_ForTup (by intro; rfl) (by k_extra "sto") ?_
  k_extra "go"
  refine T_sliceUp ?_
  k_extra "go"
  refine ⟨1, rfl, fun w ew sl σ₂ ns le₂ hsl => I_tupBut1 (by intro _ _; rfl) (le₂ _ _ hb) hsl ew fun t σ₃ nt le₃ ht => ?_⟩
  have le : Le σ σ₃ := (le₁.trans le₂).trans le₃
  have hb₃ := le₃ _ _ (le₂ _ _ hb)
  refine ⟨t, [], fun i ρ σ' => Sub [("keymap", .ref x), ("spread", .ref b)] ρ ∧ σ' = σ₃, rfl, ht, ⟨by k_extra "sub", rfl⟩, fun i ρ σ' h => h.2 ▸ ht, fun i u hu => (nomatch hu), fun ρ σ' ⟨hs, h⟩ => ?_⟩
  subst h
  refine weakS hs ?_
  k_extra "go"
  refine ⟨by simp, fun e σ₄ ne le₄ he => C_ne_tup0 (le₄ _ _ hb₃) he ⟨_, rfl, ?_⟩⟩
  k_extra "yes"
  have le' := le.trans le₄
  obtain ⟨kvs, hk, hr⟩ := hx.le le'
  refine T_MethK (m := 1) (at_m_drop G) (by decide) (by k_extra "rf") (fun _ _ => rfl) ?_
  k_extra "go"
  refine ⟨x, _, _, _, rfl, hk, ?_⟩
  k_extra "go"
  refine ⟨1, rfl, ?_⟩
  refine I_tup (by intro _ _; rfl) (le₄ _ _ hb₃) (by decide) (by decide) (j := 0) (by show seqIndex? (-1) 1 = some 0; decide) rfl ?_
  k_extra "go"
  refine (sp_drop G hk (by rw [hr.length]; omega)).mono ?_
  rintro _ σ₅ ⟨rfl, hk₅, m₅⟩
  k_extra "go"
  exact ⟨rfl, ⟨_, hk₅, (hr.mod m₅ (fun _ e => by cases e)).del k⟩, Mod.le le' (m₅.mono fun g e => by rw [e])⟩

theorem sp_remap (G : Good W) {x : Addr} {reg : Nat} {p : AV} {T : Tree} {u v : Str} {m : Nat} (hx : KTop σ x reg p T) (ht : TOk m T) (hm : m ≤ 100) (hf : tfree T [.s "remap", .s u]) :
    Spec W 6 180 [.ref x, .str u, .str v] σ (fun r σ' => KTop σ' x reg p (tdef T [.s "remap", .s u] (some v)) ∧ Mod (·.1 = reg) σ σ') := by
  refine enterB (ρ₀ := [("keymap", .ref x), ("command", .str u), ("other", .str v)]) ["keymap", "command", "other"] (fn_remap G) (bind3 fun _ _ _ => rfl) rfl (by decide) rfl fun L => ?_
  k_extra "start"
  refine T_CallFn (m := 5) (at_define_key G) (by decide) rfl (by k_extra "rf") ?_
  k_extra "go"
  refine ⟨by simp, fun a σ₁ na le₁ ha => ?_⟩
  k_extra "go"
  refine (sp_def G (c := some v) (ks := [.s "remap", .s u]) ha (by intro k hk; simp at hk; rcases hk with rfl | rfl <;> trivial) (hx.le le₁) ht hm hf).mono ?_
  rintro _ σ₂ ⟨rfl, hx₂, m₂⟩
  exact ⟨hx₂, Mod.le le₁ m₂⟩
end

section
variable {W : Wd} {n : Nat} {env : Env} {ρ : Rho} {σ : AHeap}
def sup0 : Tree := tdef [] [.s "remap", .s "self-insert-command"] (some "undefined")
def sup1 : Tree := tdef sup0 [.i 45] (some "negative-argument")
def supI (i : Nat) : Tree := (List.range i).foldl (fun T j => tdef T [.i (48 + (j : Nat))] (some "digit-argument")) sup1
def supT (d : Bool) : Tree := if d then supI 10 else sup0
theorem supI_ok (i : Nat) : TOk (2 + i) (supI i) := by
  induction i with
  | zero =>
    show TOk 2 sup1
    unfold sup1 sup0
    exact (TOk.nil.tdef _ _).tdef _ _
  | succ i ih =>
    unfold supI at ih ⊢
    rw [List.range_succ, List.foldl_append, List.foldl_cons, List.foldl_nil]
    exact ih.tdef _ _
theorem sp_suppress (G : Good W) {x : Addr} {reg : Nat} {p : AV} {d : Bool} (hx : KTop σ x reg p []) :
    Spec W 7 187 [.ref x, .bool d] σ (fun r σ' => KTop σ' x reg p (supT d) ∧ Mod (·.1 = reg) σ σ') := by
  refine enterB (ρ₀ := [("keymap", .ref x), ("has_digits", .bool d)]) ["keymap", "has_digits"] (fn_suppress G) (bind2 fun _ _ => rfl) rfl (by decide) rfl fun L => ?_
  k_extra "start"
  refine T_CallFn (m := 6) (at_remap G) (by decide) rfl (by k_extra "rf") ?_
  k_extra "go"
  refine (sp_remap G hx TOk.nil (by decide) (fun c h => nomatch h)).mono ?_
  rintro _ σ₁ ⟨hx₁, m₁⟩
  k_extra "go"
  refine T_isValue (by k_extra "rf") ?_
  k_extra "go"
  refine ⟨d, rfl, fun hb => ?_, fun hb => ?_⟩
  · subst hb
    k_extra "start"
    refine T_CallFn (m := 5) (at_define_key G) (by decide) rfl (by k_extra "rf") ?_
    k_extra "go"
    refine ⟨by simp, fun a σ₂ na le₂ ha => ?_⟩
    k_extra "go"
    refine (sp_def G (c := some "negative-argument") (ks := [.i 45]) ha (by intro k hk; simp at hk; subst hk; rfl) (hx₁.le le₂) (TOk.nil.tdef _ _) (by decide) trivial).mono ?_
    rintro _ σ₃ ⟨rfl, hx₃, m₃⟩
    k_extra "go"
    refine S_ForRange (by intro; rfl) (by k_extra "sto") ?_
    k_extra "bi"
    refine L_range2 fun t u v r σ₄ nr le₄ hr => ?_
    refine ⟨r, 48, 58, t, u, v, fun i ρ σ' => Sub [("keymap", .ref x)] ρ ∧ KTop σ' x reg p (supI i) ∧ Mod (·.1 = reg) σ σ', rfl, hr, by decide, by decide, ⟨by k_extra "sub", hx₃.le le₄, ((m₁.trans (Mod.of_le le₂)).trans m₃).trans (Mod.of_le le₄)⟩, fun i hi ρ σ' ⟨hs, hx', m'⟩ => ?_, fun ρ σ' ⟨hs, hx', m'⟩ => ?_⟩
    · refine weakS (sub_rset hs rfl) ?_
      k_extra "start"
      refine T_CallFn (m := 5) (at_define_key G) (by decide) rfl (by k_extra "rf") ?_
      k_extra "go"
      refine ⟨by simp, fun a σ₅ na le₅ ha => ?_⟩
      k_extra "go"
      have hok : (Key.i (48 + (i : Nat))).ok := by
        have : ∀ i, i < 10 → Builtin.bitAnd (48 + (i : Nat)) 134217728 = 0 := by decide
        exact this i hi
      refine (sp_def G (c := some "digit-argument") (ks := [.i (48 + (i : Nat))]) ha (by intro k hk; rw [List.mem_singleton] at hk; subst hk; exact hok) (hx'.le le₅) (supI_ok i) (by omega) trivial).mono ?_
      rintro _ σ₆ ⟨rfl, hx₆, m₆⟩
      k_extra "go"
      refine ⟨by k_extra "sub", ?_, (m'.trans (Mod.of_le le₅)).trans m₆⟩
      unfold supI at hx₆ ⊢
      rw [List.range_succ, List.foldl_append]
      exact hx₆
    · k_extra "go"
      exact ⟨hx', m'⟩
  · subst hb
    k_extra "go"
    exact ⟨hx₁, m₁⟩
end

section
variable {W : Wd} {n : Nat} {env : Env} {ρ : Rho} {σ : AHeap}
theorem T_nodup {α β : Type} {f : α → β} {t : Sem α} {Q : β → Rho → AHeap → Prop} {r : Addr} {g : Tag} {kvs : List (Key × AV)} {ep : Nat} (h3 : σ r = some (.dict g kvs ep)) (h : (kvs.map (·.1)).Nodup → T W n env f t Q ρ σ) : T W n env f t Q ρ σ := fun F A s rm S => by
  obtain ⟨ks, hw, e⟩ := (S.sh.hp _ _ h3).dictE
  refine h ?_ F A s rm S
  rw [← e, List.map_map]; exact DictAt.nodup (W := W) hw
theorem km_flds {σ' : AHeap} {x d r : Addr} {g : Tag} {p p' : AV} {kvs : List (Key × AV)} {ep : Nat} (h1 : σ x = some (.inst g d)) (h2 : σ d = some (.flds g (kf r p))) (h3 : σ r = some (.dict g kvs ep)) (c : Chg d (.flds g (kf r p')) σ σ') : KM0 σ' x g p' kvs ∧ Mod (· = g) σ σ' := by
  refine ⟨⟨d, r, ep, c.2 _ _ (fun q => ?_) h1, c.1, c.2 _ _ (fun q => ?_) h3⟩, Mod.of_chg c h2 rfl rfl⟩
  · rw [q, h2] at h1; cases h1
  · rw [q, h2] at h3; cases h3
abbrev sw0 (o value : Expr) (attr : Str) (apos pos : Pos) (env : Env) : Prop := swapsWithSole [.Attribute o attr apos] value pos.line env = pure false
abbrev sw1 (o value : Expr) (attr : Str) (apos : Pos) (env : Env) : Prop := swappedStores [.Attribute o attr apos] value env = pure none
abbrev sw2 (o : Expr) (attr : Str) (apos : Pos) (env : Env) : Prop := (assignEach [.Attribute o attr apos] env).map (·.2) = [assign (.Attribute o attr apos) env]
inductive SetAsk (Q : AFlow → Rho → AHeap → Prop) (v w : AV) (ov : AV) (ρ : Rho) (σ : AHeap) : Prop
  | mk (x : Addr) (g : Tag) (p : AV) (kvs : List (Key × AV)) (e : v = w) (eo : ov = .ref x) (h : KM0 σ x g p kvs) (q : ∀ σ', KM0 σ' x g p kvs → Mod (· = g) σ σ' → Q .next ρ σ') : SetAsk Q v w ov ρ σ
inductive SetPAsk (Q : AFlow → Rho → AHeap → Prop) (v : AV) (ov : AV) (ρ : Rho) (σ : AHeap) : Prop
  | mk (x : Addr) (g : Tag) (p : AV) (kvs : List (Key × AV)) (eo : ov = .ref x) (h : KM0 σ x g p kvs) (q : ∀ σ', KM0 σ' x g v kvs → Mod (· = g) σ σ' → Q .next ρ σ') : SetPAsk Q v ov ρ σ
theorem S_setParent {o value : Expr} {apos pos : Pos} {Q : AFlow → Rho → AHeap → Prop} (G : Good W) (hs : sw0 o value "parent" apos pos env) (hw : sw1 o value "parent" apos env) (he : sw2 o "parent" apos env)
    (h : T W n env ab (eval value env) (fun v => T W n env ab (eval o env) (SetPAsk Q v)) ρ σ) : TS W n env (exec (.Assign [.Attribute o "parent" apos] value pos) env) Q ρ σ := by
  refine S_AssignAttr (own_parent G) hs hw he (h.mono fun v ρ σ h => h.mono ?_)
  rintro ov ρ σ ⟨x, g, p, kvs, rfl, ⟨d, r, ep, h1, h2, h3⟩, q⟩
  refine ⟨x, _, _, _, _, rfl, h1, h2, by show 5 < 900; decide, fun σ' c => ?_⟩
  obtain ⟨a, b⟩ := km_flds (p' := v) h1 h2 h3 c
  exact q σ' a b
theorem S_setHas {o value : Expr} {apos pos : Pos} {Q : AFlow → Rho → AHeap → Prop} (G : Good W) (hs : sw0 o value "has_default" apos pos env) (hw : sw1 o value "has_default" apos env) (he : sw2 o "has_default" apos env)
    (h : T W n env ab (eval value env) (fun v => T W n env ab (eval o env) (SetAsk Q v (.bool false))) ρ σ) : TS W n env (exec (.Assign [.Attribute o "has_default" apos] value pos) env) Q ρ σ := by
  refine S_AssignAttr (own_has_default G) hs hw he (h.mono fun v ρ σ h => h.mono ?_)
  rintro ov ρ σ ⟨x, g, p, kvs, rfl, rfl, ⟨d, r, ep, h1, h2, h3⟩, q⟩
  refine ⟨x, _, _, _, _, rfl, h1, h2, by show 5 < 900; decide, fun σ' c => ?_⟩
  obtain ⟨a, b⟩ := km_flds (p' := p) h1 h2 h3 c
  exact q σ' a b
theorem S_setDef {o value : Expr} {apos pos : Pos} {Q : AFlow → Rho → AHeap → Prop} (G : Good W) (hs : sw0 o value "default" apos pos env) (hw : sw1 o value "default" apos env) (he : sw2 o "default" apos env)
    (h : T W n env ab (eval value env) (fun v => T W n env ab (eval o env) (SetAsk Q v .none)) ρ σ) : TS W n env (exec (.Assign [.Attribute o "default" apos] value pos) env) Q ρ σ := by
  refine S_AssignAttr (own_default G) hs hw he (h.mono fun v ρ σ h => h.mono ?_)
  rintro ov ρ σ ⟨x, g, p, kvs, rfl, rfl, ⟨d, r, ep, h1, h2, h3⟩, q⟩
  refine ⟨x, _, _, _, _, rfl, h1, h2, by show 5 < 900; decide, fun σ' c => ?_⟩
  obtain ⟨a, b⟩ := km_flds (p' := p) h1 h2 h3 c
  exact q σ' a b

/-! the plain part of copying -/
structure PQ where
  k : Key
  rows : Rows
  t : Addr
  sub : Addr
  inner : Addr
def fillT (T : Tree) (ps : List PQ) : Tree := ps.foldr (fun q T => tput T q.k (.map q.rows)) T
theorem tput_new {T : Tree} {k : Key} {b : Bnd} (h : k ∉ tkeys T) : tput T k b = T ++ [(k, b)] := by
  induction T with
  | nil => rfl
  | cons p r ih =>
    obtain ⟨j, u⟩ := p
    unfold tkeys at h ih
    simp only [List.map_cons, List.mem_cons, not_or] at h
    show (if j = k then _ else _) = _
    rw [if_neg (fun e => h.1 e.symm), ih h.2]; rfl
theorem tput_app {T S : Tree} {k : Key} {b : Bnd} (h : k ∈ tkeys T) : tput (T ++ S) k b = tput T k b ++ S := by
  induction T with
  | nil => cases h
  | cons p r ih =>
    obtain ⟨j, u⟩ := p
    unfold tkeys at h ih
    show (if j = k then _ else _) = (if j = k then _ else _) ++ S
    by_cases e : j = k
    · rw [if_pos e, if_pos e]; rfl
    · rw [if_neg e, if_neg e]
      simp only [List.map_cons, List.mem_cons] at h
      show (j, u) :: tput (r ++ S) k b = _
      rw [ih (h.resolve_left fun q => e q.symm)]; rfl
theorem tput_end {T : Tree} {k : Key} {b b' : Bnd} (h : k ∉ tkeys T) : tput (T ++ [(k, b)]) k b' = T ++ [(k, b')] := by
  induction T with
  | nil => simp [tput]
  | cons p r ih =>
    obtain ⟨j, u⟩ := p
    unfold tkeys at h ih
    simp only [List.map_cons, List.mem_cons, not_or] at h
    show (if j = k then _ else _) = _
    rw [if_neg (fun e => h.1 e.symm)]
    show (j, u) :: tput (r ++ [(k, b)]) k b' = _
    rw [ih h.2]; rfl
theorem mem_tput {T : Tree} {k j : Key} {b : Bnd} (h : j ∈ tkeys T) : j ∈ tkeys (tput T k b) := by
  rw [tkeys_put]; split
  · exact h
  · exact List.mem_append_left _ h
theorem fillT_mem {T : Tree} {ps : List PQ} {j : Key} (h : j ∈ tkeys T) : j ∈ tkeys (fillT T ps) := by
  induction ps with
  | nil => exact h
  | cons q r ih => exact mem_tput ih
theorem fillT_app {T S : Tree} {ps : List PQ} (h : ∀ q ∈ ps, q.k ∈ tkeys T) : fillT (T ++ S) ps = fillT T ps ++ S := by
  induction ps with
  | nil => rfl
  | cons q r ih =>
    show tput (fillT (T ++ S) r) q.k _ = tput (fillT T r) q.k _ ++ S
    rw [ih fun q hq => h q (List.mem_cons_of_mem _ hq)]
    exact tput_app (fillT_mem (h q List.mem_cons_self))
theorem fillT_snoc {T : Tree} {ps : List PQ} {q : PQ} : fillT T (ps ++ [q]) = fillT (tput T q.k (.map q.rows)) ps := by
  unfold fillT; rw [List.foldr_append]; rfl
theorem tget_put (T : Tree) (k : Key) (b : Bnd) (j : Key) : tget (tput T k b) j = if j = k then some b else tget T j := by
  induction T with
  | nil => by_cases e : j = k <;> simp [tput, tget, e, eq_comm]
  | cons p r ih =>
    obtain ⟨i, u⟩ := p
    show tget (if i = k then (i, b) :: r else (i, u) :: tput r k b) j = _
    by_cases e : i = k
    · rw [if_pos e]
      unfold tget
      rw [List.find?_cons, List.find?_cons]
      by_cases q : j = k
      · simp [q, e]
      · have : ¬ i = j := fun h => q (by rw [← h, e])
        simp [q, this]
    · rw [if_neg e]
      unfold tget at ih ⊢
      rw [List.find?_cons, List.find?_cons]
      by_cases q : i = j
      · subst q; simp [e]
      · simp only [q, decide_false]; exact ih
theorem rput_new {T : Rows} {k : Key} {b : Option Str} (h : k ∉ T.map (·.1)) : rput T k b = T ++ [(k, b)] := by
  induction T with
  | nil => rfl
  | cons p r ih =>
    obtain ⟨j, u⟩ := p
    simp only [List.map_cons, List.mem_cons, not_or] at h
    show (if j = k then _ else _) = _
    rw [if_neg (fun e => h.1 e.symm), ih h.2]; rfl
theorem RAt.at {M : AHeap → Addr → Tag → Rows → Prop} {reg : Nat} {kvs : List (Key × AV)} {T : Tree} (h : RAt M σ reg kvs T) : ∀ {i : Nat} {k : Key} {u : AV}, kvs[i]? = some (k, u) → ∃ b, T[i]? = some (k, b) ∧ BAt M σ reg k u b := by
  induction h with
  | nil => intro i k u h; cases h
  | @cons j v b kvs T hb h ih =>
    intro i k u hi
    cases i with
    | zero => simp at hi; obtain ⟨rfl, rfl⟩ := hi; exact ⟨b, rfl, hb⟩
    | succ i => exact ih (by simpa using hi)
theorem dget_at {kvs : List (Key × AV)} (hn : (kvs.map (·.1)).Nodup) {i : Nat} {k : Key} {u : AV} (h : kvs[i]? = some (k, u)) : dget kvs k = some u := by
  induction kvs generalizing i with
  | nil => cases h
  | cons p r ih =>
    obtain ⟨j, v⟩ := p
    rw [List.map_cons, List.nodup_cons] at hn
    unfold dget
    rw [List.find?_cons]
    cases i with
    | zero => simp at h; obtain ⟨rfl, rfl⟩ := h; simp
    | succ i =>
      have h' : r[i]? = some (k, u) := by simpa using h
      have hm : k ∈ r.map (·.1) := List.mem_map.mpr ⟨(k, u), List.mem_of_getElem? h', rfl⟩
      have hne : ¬ j = k := fun e => hn.1 (e ▸ hm)
      simp only [hne, decide_false]
      exact ih hn.2 h'
theorem take_new {α β : Type} {l : List (α × β)} (hn : (l.map (·.1)).Nodup) {i : Nat} {k : α} {u : β} (h : l[i]? = some (k, u)) : k ∉ (l.take i).map (·.1) := fun hm => by
  have hlt : i < l.length := by
    rcases Nat.lt_or_ge i l.length with q | q
    · exact q
    · rw [List.getElem?_eq_none q] at h; cases h
  rw [List.getElem?_eq_getElem hlt] at h
  rw [← List.take_append_drop i l, List.map_append, List.nodup_append] at hn
  refine hn.2.2 _ hm k ?_ rfl
  rw [List.drop_eq_getElem_cons hlt, List.map_cons]
  have e : l[i] = (k, u) := by simpa using h
  rw [e]
  exact List.mem_cons_self
theorem Mod.chg {P : Tag → Prop} {σ1 σ2 : AHeap} {r : Addr} {o : AObj} (h : Mod P σ σ1) (n : σ r = none) (c : Chg r o σ1 σ2) : Mod P σ σ2 := fun a oa e k => c.2 a oa (fun q => by rw [q, n] at e; cases e) (h a oa e k)
end

local macro_rules | `(tactic| k_extra "setp") => `(tactic| (refine S_setParent (by assumption) (by k_extra "rf") (by k_extra "rf") (by k_extra "rf") ?_))
local macro_rules | `(tactic| k_extra "seth") => `(tactic| (refine S_setHas (by assumption) (by k_extra "rf") (by k_extra "rf") (by k_extra "rf") ?_))
local macro_rules | `(tactic| k_extra "setd") => `(tactic| (refine S_setDef (by assumption) (by k_extra "rf") (by k_extra "rf") (by k_extra "rf") ?_))

section
variable {W : Wd} {n : Nat} {env : Env} {ρ : Rho} {σ : AHeap}
def emp : Bnd → Bnd
  | .map _ => .map []
  | b => b
def PE (σ σ' : AHeap) (reg : Nat) (kvs : List (Key × AV)) (T : Tree) (q : PQ) : Prop := σ' q.t = some (.tup [.ref q.sub, .ref q.inner]) ∧ KSub σ q.sub (reg, some q.k) q.rows ∧ dget kvs q.k = some (.ref q.inner) ∧ tget T q.k = some (.map [])
/-- the copy is on its way: ps is still to be done -/
structure CP (σ σ' : AHeap) (y w : Addr) (reg reg' : Nat) (p : AV) (kvs : List (Key × AV)) (To : Tree) (ps : List PQ) (T : Tree) : Prop where
  top : KM0 σ' y (reg', none) p kvs
  at_ : RAt KSub σ' reg' kvs To
  nod : (tkeys To).Nodup
  fill : fillT To ps = T
  pnod : (ps.map (·.k)).Nodup
  pe : ∀ q ∈ ps, PE σ σ' reg kvs To q
  wl : σ' w = some (.list (ps.map fun q => .ref q.t))
  m : Mod (·.1 = reg') σ σ'
theorem dget_put {kvs : List (Key × AV)} {k j : Key} {v : AV} : dget (kput kvs k v) j = if j = k then some v else dget kvs j := by
  induction kvs with
  | nil => by_cases e : j = k <;> simp [kput, dget, e, eq_comm]
  | cons p r ih =>
    obtain ⟨i, u⟩ := p
    show dget (if i = k then (i, v) :: r else (i, u) :: kput r k v) j = _
    by_cases e : i = k
    · rw [if_pos e]
      unfold dget
      rw [List.find?_cons, List.find?_cons]
      by_cases q : j = k
      · simp [q, e]
      · have : ¬ i = j := fun h => q (by rw [← h, e])
        simp [q, this]
    · rw [if_neg e]
      unfold dget at ih ⊢
      rw [List.find?_cons, List.find?_cons]
      by_cases q : i = j
      · subst q; simp [e]
      · simp only [q, decide_false]; exact ih
/-- all keymaps and dicts are kept -/
def KT (σ σ' : AHeap) : Prop := ∀ a o, σ a = some o → (tagOf o).isSome = true → σ' a = some o
theorem KT.of_chg {σ σ' : AHeap} {w : Addr} {o o' : AObj} (h : σ w = some o) (ht : tagOf o = none) (c : Chg w o' σ σ') : KT σ σ' := fun a oa e k => c.2 a oa (fun q => by rw [q, h] at e; cases e; rw [ht] at k; cases k) e
theorem KT.of_le {σ σ' : AHeap} (h : Le σ σ') : KT σ σ' := fun a o e _ => h a o e
theorem KM0.kt {σ σ' : AHeap} {x : Addr} {g : Tag} {p : AV} {kvs : List (Key × AV)} (h : KM0 σ x g p kvs) (k : KT σ σ') : KM0 σ' x g p kvs := by
  obtain ⟨d, r, ep, h1, h2, h3⟩ := h; exact ⟨d, r, ep, k _ _ h1 rfl, k _ _ h2 rfl, k _ _ h3 rfl⟩
theorem RAt.kt {σ σ' : AHeap} {reg : Nat} {kvs : List (Key × AV)} {T : Tree} (h : RAt KSub σ reg kvs T) (k : KT σ σ') : RAt KSub σ' reg kvs T := by
  induction h with
  | nil => exact .nil
  | @cons j v b kvs T hb _ ih =>
    refine .cons ?_ ih
    cases b with
    | leaf c => exact hb
    | map r => obtain ⟨x, e, h⟩ := hb; exact ⟨x, e, KM0.kt h k⟩
theorem RAt.ktD {σ σ' : AHeap} {reg : Nat} {kvs : List (Key × AV)} {T : Tree} (h : RAt DSub σ reg kvs T) (k : KT σ σ') : RAt DSub σ' reg kvs T := by
  induction h with
  | nil => exact .nil
  | @cons j v b kvs T hb _ ih =>
    refine .cons ?_ ih
    cases b with
    | leaf c => exact hb
    | map r => obtain ⟨x, e, ep, h⟩ := hb; exact ⟨x, e, ep, k _ _ h rfl⟩
theorem KTop.kt {σ σ' : AHeap} {x : Addr} {reg : Nat} {p : AV} {T : Tree} (h : KTop σ x reg p T) (k : KT σ σ') : KTop σ' x reg p T := by obtain ⟨kvs, h1, h2⟩ := h; exact ⟨kvs, h1.kt k, h2.kt k⟩
theorem DTree.kt {σ σ' : AHeap} {t : Addr} {reg : Nat} {T : Tree} (h : DTree σ t reg T) (k : KT σ σ') : DTree σ' t reg T := by obtain ⟨kvs, ep, h1, h2⟩ := h; exact ⟨kvs, ep, k _ _ h1 rfl, h2.ktD k⟩
/-- the waiting list is written anew -/
theorem CP.wput {σ σ1 σ2 : AHeap} {y w : Addr} {reg reg' : Nat} {p : AV} {kvs : List (Key × AV)} {To : Tree} {ps : List PQ} {T : Tree} (h : CP σ σ1 y w reg reg' p kvs To ps T) (nw : σ w = none) {vs : List AV} (c : Chg w (.list vs) σ1 σ2) :
    KM0 σ2 y (reg', none) p kvs ∧ RAt KSub σ2 reg' kvs To ∧ Mod (·.1 = reg') σ σ2 ∧ ∀ q, PE σ σ1 reg kvs To q → PE σ σ2 reg kvs To q := by
  have k := KT.of_chg h.wl rfl c
  exact ⟨h.top.kt k, h.at_.kt k, h.m.chg nw c, fun q ⟨a, b, d, e⟩ => ⟨c.2 _ _ (fun e' => by rw [e', h.wl] at a; cases a) a, b, d, e⟩⟩

theorem tget_app {T : Tree} {k j : Key} {b : Bnd} (hk : k ∉ tkeys T) (hne : j ≠ k) : tget (T ++ [(k, b)]) j = tget T j := by
  rw [← tput_new hk, tget_put, if_neg hne]
theorem CP.put {σ σ1 σ2 : AHeap} {y w : Addr} {reg reg' : Nat} {p : AV} {kvs : List (Key × AV)} {To : Tree} {ps : List PQ} {T1 : Tree} {k : Key} {v : AV} {b : Bnd} (h : CP σ σ1 y w reg reg' p kvs To ps T1) (hp : KPut σ1 σ2 y (reg', none) p (kput kvs k v)) (hb : BAt KSub σ2 reg' k v b) (hk : k ∉ tkeys To) (hps : ∀ q ∈ ps, q.k ∈ tkeys To) :
    CP σ σ2 y w reg reg' p (kput kvs k v) (To ++ [(k, b)]) ps (T1 ++ [(k, b)]) := by
  obtain ⟨h1, m⟩ := hp
  refine ⟨h1, ?_, ?_, ?_, h.pnod, fun q hq => ?_, m _ _ h.wl (fun _ e => nomatch e), h.m.trans (m.mono fun g e => by rw [e])⟩
  · rw [← tput_new hk]; exact (h.at_.mod m (fun _ e => by cases e)).put hb
  · rw [← tput_new hk]; exact nodup_put h.nod _ _
  · rw [fillT_app hps, h.fill]
  · obtain ⟨a, b', c, d⟩ := h.pe q hq
    have hne : q.k ≠ k := fun e => hk (e ▸ hps q hq)
    exact ⟨m _ _ a (fun _ e => nomatch e), b', by rw [dget_put, if_neg hne]; exact c, by rw [tget_app hk hne]; exact d⟩
theorem CP.more {σ σ1 σ2 σ3 : AHeap} {y w : Addr} {reg reg' : Nat} {p : AV} {kvs : List (Key × AV)} {To : Tree} {ps : List PQ} {T1 : Tree} {q : PQ} (h : CP σ σ1 y w reg reg' p kvs To ps T1) (nw : σ w = none) (c : Chg w (.list ((ps ++ [q]).map fun q => .ref q.t)) σ1 σ2) (hp : KPut σ2 σ3 y (reg', none) p (kput kvs q.k (.ref q.inner)))
    (ht : σ1 q.t = some (.tup [.ref q.sub, .ref q.inner])) (hsub : KSub σ q.sub (reg, some q.k) q.rows) (hin : KSub σ1 q.inner (reg', some q.k) []) (hk : q.k ∉ tkeys To) (hps : ∀ q ∈ ps, q.k ∈ tkeys To) :
    CP σ σ3 y w reg reg' p (kput kvs q.k (.ref q.inner)) (To ++ [(q.k, .map [])]) (ps ++ [q]) (T1 ++ [(q.k, .map q.rows)]) := by
  obtain ⟨h1, m⟩ := hp
  obtain ⟨w1, w2, w3, w4⟩ := h.wput nw c
  have kt := KT.of_chg h.wl rfl c
  have tw : q.t ≠ w := fun e => by rw [e, h.wl] at ht; cases ht
  have hin3 : KSub σ3 q.inner (reg', some q.k) [] := (KM0.kt hin kt).mod m (fun e => by cases e)
  refine ⟨h1, ?_, ?_, ?_, ?_, fun q' hq => ?_, m _ _ c.1 (fun _ e => nomatch e), w3.trans (m.mono fun g e => by rw [e])⟩
  · rw [← tput_new hk]; exact (w2.mod m (fun _ e => by cases e)).put ⟨_, rfl, hin3⟩
  · rw [← tput_new hk]; exact nodup_put h.nod _ _
  · rw [fillT_snoc, tput_end hk, fillT_app hps, h.fill]
  · rw [List.map_append, List.nodup_append]
    refine ⟨h.pnod, by simp, fun a ha b hb e => ?_⟩
    rw [List.map_cons, List.map_nil, List.mem_singleton] at hb
    subst hb; subst e
    obtain ⟨q', hq', e⟩ := List.mem_map.mp ha
    exact hk (e ▸ hps q' hq')
  · rcases List.mem_append.mp hq with hq | hq
    · obtain ⟨a, b', c, d⟩ := w4 q' (h.pe q' hq)
      have hne : q'.k ≠ q.k := fun e => hk (e ▸ hps q' hq)
      exact ⟨m _ _ a (fun _ e => nomatch e), b', by rw [dget_put, if_neg hne]; exact c, by rw [tget_app hk hne]; exact d⟩
    · rw [List.mem_singleton.mp hq]
      refine ⟨m _ _ (c.2 _ _ tw ht) (fun _ e => nomatch e), hsub, kput_get, ?_⟩
      rw [← tput_new hk, tget_put, if_pos rfl]
theorem RAt.modNot {M : AHeap → Addr → Tag → Rows → Prop} {σ σ' : AHeap} {reg : Nat} {k : Key} {kvs : List (Key × AV)} {T : Tree} (h : RAt M σ reg kvs T) (m : Mod (· = (reg, some k)) σ σ') (hk : k ∉ tkeys T) (st : Stable M := by first | exact stabK | exact stabD | assumption) : RAt M σ' reg kvs T := by
  revert hk
  induction h with
  | nil => intro _; exact .nil
  | @cons j v b kvs T hb _ ih =>
    intro hk
    unfold tkeys at hk ih
    simp only [List.map_cons, List.mem_cons, not_or] at hk
    exact .cons (hb.mod m (fun e => hk.1 (by cases e; rfl))) (ih hk.2)
theorem CP.modk {σ σ1 σ2 : AHeap} {y w : Addr} {reg reg' : Nat} {p : AV} {kvs : List (Key × AV)} {To : Tree} {ps : List PQ} {T1 : Tree} {k : Key} (h : CP σ σ1 y w reg reg' p kvs To ps T1) (m : Mod (· = (reg', some k)) σ1 σ2) (hk : k ∉ tkeys To) : CP σ σ2 y w reg reg' p kvs To ps T1 :=
  ⟨h.top.mod m (fun e => by cases e), h.at_.modNot m hk, h.nod, h.fill, h.pnod, fun q hq => by
    obtain ⟨a, b, c, d⟩ := h.pe q hq; exact ⟨m _ _ a (fun _ e => nomatch e), b, c, d⟩, m _ _ h.wl (fun _ e => nomatch e), h.m.trans (m.mono fun g e => by rw [e])⟩
theorem CP.le {σ σ1 σ2 : AHeap} {y w : Addr} {reg reg' : Nat} {p : AV} {kvs : List (Key × AV)} {To : Tree} {ps : List PQ} {T1 : Tree} (h : CP σ σ1 y w reg reg' p kvs To ps T1) (m : Le σ1 σ2) : CP σ σ2 y w reg reg' p kvs To ps T1 :=
  ⟨h.top.le m, h.at_.mod (P := fun _ => False) (Mod.of_le m) (fun _ => id), h.nod, h.fill, h.pnod, fun q hq => by
    obtain ⟨a, b, c, d⟩ := h.pe q hq; exact ⟨m _ _ a, b, c, d⟩, m _ _ h.wl, h.m.trans (Mod.of_le m)⟩
theorem tput_same {T : Tree} {k : Key} {b : Bnd} (h : tget T k = some b) : tput T k b = T := by
  induction T with
  | nil => cases h
  | cons p r ih =>
    obtain ⟨j, u⟩ := p
    unfold tget at h ih
    rw [List.find?_cons] at h
    show (if j = k then _ else _) = _
    by_cases e : j = k
    · subst e; simp at h; subst h; rw [if_pos rfl]
    · simp only [e, decide_false] at h
      rw [if_neg e, ih h]
theorem tput_tput (T : Tree) (k : Key) (b b' : Bnd) : tput (tput T k b) k b' = tput T k b' := by
  induction T with
  | nil => simp [tput]
  | cons q r ih =>
    obtain ⟨i, u⟩ := q
    show tput (if i = k then _ else _) k b' = (if i = k then _ else _)
    split
    · rename_i e; simp [tput, e]
    · rename_i e; show (if i = k then _ else _) = _; rw [if_neg e, ih]
inductive RAtAsk (Q : AV → Rho → AHeap → Prop) (o : AV) (ρ : Rho) (σ : AHeap) : Prop
  | mk (x d r : Addr) (g : Tag) (p : AV) (e : o = .ref x) (h1 : σ x = some (.inst g d)) (h2 : σ d = some (.flds g (kf r p))) (q : Q (.ref r) ρ σ) : RAtAsk Q o ρ σ
theorem T_rowsAt {value : Expr} {pos : Pos} {Q : AV → Rho → AHeap → Prop} (G : Good W) (he : isAttr env value "rows" pos)
    (h : T W n env ab (eval value env) (RAtAsk Q) ρ σ) : T W n env ab (eval (.Attribute value "rows" pos) env) Q ρ σ := by
  refine T_Attr (own_rows G) he (h.mono ?_)
  rintro o ρ σ ⟨x, d, r, g, p, rfl, h1, h2, q⟩
  exact ⟨x, g, d, g, _, .ref r, rfl, h1, h2, rfl, (fun _ h => nomatch h), q⟩
inductive CpR (σ : AHeap) (reg' : Nat) (p : AV) (T : Tree) (r : AV) (σ' : AHeap) : Prop
  | mk (y : Addr) (e : r = .ref y) (h : KTop σ' y reg' p T) (m : Mod (·.1 = reg') σ σ') : CpR σ reg' p T r σ'
inductive CJ1 (σ₅ : AHeap) (x y w : Addr) (reg reg' : Nat) (p : AV) (T : Tree) (i : Nat) (ρ : Rho) (σ' : AHeap) : Prop
  | mk (hs : Sub [("found", .ref y), ("waiting", .ref w), ("old", .ref x), ("new", .ref y)] ρ) (kvs : List (Key × AV)) (ps : List PQ) (cp : CP σ₅ σ' y w reg reg' p kvs ((T.take i).map fun q => (q.1, emp q.2)) ps (T.take i))
      (hps : ∀ q ∈ ps, q.k ∈ tkeys (T.take i) ∧ q.rows.length ≤ 100) (psz : ps.length ≤ i) : CJ1 σ₅ x y w reg reg' p T i ρ σ'
inductive CW (σ₅ σ₆ : AHeap) (y w : Addr) (reg reg' : Nat) (p : AV) (T : Tree) (k : Nat) (ρ : Rho) (σ' : AHeap) : Prop
  | fst (e : k = T.length + 1) (es : σ' = σ₆) (hs : Sub [("found", .ref y), ("waiting", .ref w)] ρ) : CW σ₅ σ₆ y w reg reg' p T k ρ σ'
  | snd (kvs : List (Key × AV)) (To : Tree) (ps : List PQ) (e : k = ps.length) (hs : Sub [("found", .ref y), ("waiting", .ref w)] ρ) (cp : CP σ₅ σ' y w reg reg' p kvs To ps T) (pz : ps.length ≤ 100) (rz : ∀ q ∈ ps, q.rows.length ≤ 100) : CW σ₅ σ₆ y w reg reg' p T k ρ σ'
inductive CJ2 (σ₅ : AHeap) (y w : Addr) (reg reg' : Nat) (p : AV) (kvs : List (Key × AV)) (To : Tree) (q : PQ) (ps' : List PQ) (i : Nat) (ρ : Rho) (σ' : AHeap) : Prop
  | mk (hs : Sub [("found", .ref y), ("waiting", .ref w), ("old", .ref q.sub), ("new", .ref q.inner)] ρ) (j1 : KM0 σ' y (reg', none) p kvs) (j2 : RAt KSub σ' reg' kvs (tput To q.k (.map (q.rows.take i)))) (j3 : KSub σ' q.inner (reg', some q.k) (q.rows.take i))
      (j4 : ∀ q' ∈ ps', PE σ₅ σ' reg kvs To q' ∧ q'.k ≠ q.k) (j5 : σ' w = some (.list (ps'.map fun q => .ref q.t))) (j6 : Mod (·.1 = reg') σ₅ σ') : CJ2 σ₅ y w reg reg' p kvs To q ps' i ρ σ'
theorem sp_copy (G : Good W) {x : Addr} {reg reg' : Nat} {p : AV} {T : Tree} (hx : KTop σ x reg p T) (hp : ∀ u, p ≠ .other u) (hne : reg ≠ reg') (hz : T.length ≤ 100) (hrz : ∀ k rows, (k, Bnd.map rows) ∈ T → rows.length ≤ 100) :
    Spec W 3 194 [.ref x] σ (CpR σ reg' p T) := by
  obtain ⟨kvs₀, hk, hr⟩ := hx
  obtain ⟨d, r, ep, e1, e2, e3⟩ := id hk
  have nreg : ∀ {k g : Option Key}, (reg', g) ≠ (reg, k) := fun e => hne (by cases e; rfl)
  refine enterB (ρ₀ := [("keymap", .ref x)]) ["keymap"] (fn_copy_keymap G) (bind1 fun _ => rfl) rfl (by decide) rfl fun L => T_nodup e3 fun hnod => ?_
  k_extra "start"
  k_extra "asg"
  refine T_Keymap1 G (reg', none) (by decide) rfl (by k_extra "rf") ?_
  k_extra "go"
  refine T_prompt G (by k_extra "rf") ?_
  k_extra "go"
  refine ⟨x, _, _, _, rfl, hk, ?_⟩
  k_extra "go"
  refine ⟨rfl, fun y σ₁ ny le₁ hy₁ => ?_⟩
  k_extra "set"
  have hk₁ := hk.le le₁
  k_extra "setp"
  refine T_parent G (by k_extra "rf") ?_
  k_extra "go"
  refine ⟨x, _, _, _, rfl, hk₁, hp, ?_⟩
  k_extra "go"
  refine ⟨y, _, _, _, rfl, hy₁, fun σ₂ hy₂ m₂ => ?_⟩
  have hk₂ := hk₁.mod m₂ (fun e => nreg e.symm)
  k_extra "go"
  k_extra "seth"
  refine T_has_default G (by k_extra "rf") ?_
  k_extra "go"
  refine ⟨x, _, _, _, rfl, hk₂, ?_⟩
  k_extra "go"
  refine ⟨y, _, _, _, rfl, rfl, hy₂, fun σ₃ hy₃ m₃ => ?_⟩
  have hk₃ := hk₂.mod m₃ (fun e => nreg e.symm)
  k_extra "go"
  k_extra "setd"
  refine T_default G (by k_extra "rf") ?_
  k_extra "go"
  refine ⟨x, _, _, _, rfl, hk₃, ?_⟩
  k_extra "go"
  refine ⟨y, _, _, _, rfl, rfl, hy₃, fun σ₄ hy₄ m₄ => ?_⟩
  have hk₄ := hk₃.mod m₄ (fun e => nreg e.symm)
  k_extra "go"
  k_extra "asg"
  refine ⟨by simp, fun t σ₅ nt le₅ ht => ?_⟩
  k_extra "go"
  refine ⟨by simp, fun w σ₆ nw le₆ hw => ?_⟩
  k_extra "set"
  have hk₆ := (hk₄.le le₅).le le₆
  have hy₆ := (hy₄.le le₅).le le₆
  have m₆ : Mod (·.1 = reg') σ σ₆ := ((((Mod.of_le le₁).trans (m₂.mono fun g e => by rw [e])).trans (m₃.mono fun g e => by rw [e])).trans (m₄.mono fun g e => by rw [e])).trans (Mod.of_le (le₅.trans le₆))
  have hr₆ : RAt KSub σ₆ reg kvs₀ T := hr.mod m₆ (fun k e => hne e)
  have ht₆ := le₆ _ _ ht
  have hk₅ := hk₄.le le₅
  have hy₅ := hy₄.le le₅
  have m₅ : Mod (·.1 = reg') σ σ₅ := ((((Mod.of_le le₁).trans (m₂.mono fun g e => by rw [e])).trans (m₃.mono fun g e => by rw [e])).trans (m₄.mono fun g e => by rw [e])).trans (Mod.of_le le₅)
  have hr₅ : RAt KSub σ₅ reg kvs₀ T := hr.mod m₅ (fun k e => hne e)
  refine S_While (CW σ₅ σ₆ y w reg reg' p T) (T.length + 1) (.fst rfl rfl (by k_extra "sub")) ?_
  rintro k ρ σ' (⟨rfl, rfl, hs⟩ | ⟨kvs, To, ps, rfl, hs, cp, pz, rz⟩)
  · refine weakS hs ?_
    k_extra "go"
    refine ⟨by simp, fun e σ₇ ne le₇ he => C_ne_list0 (le₇ _ _ hw) he ⟨_, rfl, ?_⟩⟩
    k_extra "yes"
    k_extra "as1"
    refine T_MethB (by k_extra "rf") PySem.F.plainAttrs_list PySem.F.slot_list_pop PySem.F.type_list_pop ?_
    k_extra "go"
    have hw₇ := le₇ _ _ hw
    refine ⟨w, _, rfl, hw₇, fun h => ty_list h, ?_⟩
    k_extra "go"
    refine L_pop (vs := []) (v := .ref t) hw₇ (by decide) fun σ₈ c₈ => ?_
    intro wv ew
    have tw : t ≠ w := fun q => by rw [q, hw] at ht₆; cases ht₆
    have kt : KT σ' σ₈ := fun a o e k => KT.of_chg hw₇ rfl c₈ a o (le₇ _ _ e) k
    refine T_assign2 (by k_extra "rf") ew (.inl (c₈.2 _ _ tw (le₇ _ _ ht₆))) fun a b ea eb => ?_
    k_extra "nm"
    k_extra "nm"
    rw [ea, eb]
    refine S_ForDict (by intro; rfl) (by k_extra "sto") ?_
    refine T_rowsAt G (by k_extra "rf") ?_
    k_extra "go"
    have tg : ∀ {g' : Tag}, g' = (reg, none) → ∀ g, some g' = some g → ¬ g.1 = reg' := fun e g q => by cases q; rw [e]; exact hne
    have kx : ∀ σ', Mod (·.1 = reg') σ₅ σ' → σ' x = some (.inst (reg, none) d) ∧ σ' d = some (.flds (reg, none) (kf r p)) ∧ σ' r = some (.dict (reg, none) kvs₀ ep) := fun σ' m => ⟨(m₅.trans m) _ _ e1 (tg rfl), (m₅.trans m) _ _ e2 (tg rfl), (m₅.trans m) _ _ e3 (tg rfl)⟩
    have hT : kvs₀.map (·.1) = tkeys T := hr₆.keys
    have m₈ : Mod (·.1 = reg') σ₅ σ₈ := (Mod.of_le (le₆.trans le₇)).chg nw c₈
    refine ⟨x, d, r, _, _, rfl, (kx _ m₈).1, (kx _ m₈).2.1, ?_⟩
    refine ⟨r, _, kvs₀, ep, CJ1 σ₅ x y w reg reg' p T, rfl, (kx _ m₈).2.2, ⟨by k_extra "sub", [], [], ⟨hy₅.kt (fun a o e k => kt a o (le₆ _ _ e) k), .nil, List.nodup_nil, rfl, List.nodup_nil, (fun _ h => nomatch h), c₈.1, m₈⟩, (fun _ h => nomatch h), Nat.le_refl _⟩,
      fun i ρ σ' h => ⟨_, _, by cases h with | mk _ _ _ cp _ _ => exact (kx _ cp.m).2.2, rfl⟩, fun i k u hu ρ σ' h => ?_, fun ρ σ' h => ?_⟩
    · obtain ⟨hs, kvs, ps, cp, hps, psz⟩ := h
      obtain ⟨bd, hTi, hb⟩ := hr₅.at hu
      have tke : tkeys ((T.take i).map fun q => (q.1, emp q.2)) = tkeys (T.take i) := by unfold tkeys; rw [List.map_map]; rfl
      have knew : k ∉ tkeys (T.take i) := take_new (by rw [← show kvs₀.map (·.1) = T.map (·.1) from hT]; exact hnod) hTi
      have knew' : k ∉ tkeys ((T.take i).map fun q => (q.1, emp q.2)) := by rw [tke]; exact knew
      have hps' : ∀ q ∈ ps, q.k ∈ tkeys ((T.take i).map fun q => (q.1, emp q.2)) := fun q hq => by rw [tke]; exact (hps q hq).1
      have tks : T.take (i + 1) = T.take i ++ [(k, bd)] := by rw [List.take_add_one, hTi]; rfl
      have kz : kvs.length ≤ 1000 := by rw [cp.at_.length, List.length_map, List.length_take]; omega
      have fin : ∀ σ₉ kvs' ps', CP σ₅ σ₉ y w reg reg' p kvs' ((T.take i).map (fun q => (q.1, emp q.2)) ++ [(k, emp bd)]) ps' (T.take i ++ [(k, bd)]) → (∀ q ∈ ps', (q.k ∈ tkeys (T.take i) ∨ q.k = k) ∧ q.rows.length ≤ 100) → ps'.length ≤ i + 1 →
          ∀ ρ, Sub [("found", .ref y), ("waiting", .ref w), ("old", .ref x), ("new", .ref y)] ρ → CJ1 σ₅ x y w reg reg' p T (i + 1) ρ σ₉ := fun σ₉ kvs' ps' h1 h2 h3 ρ hs => by
        refine ⟨hs, kvs', ps', by rw [tks, List.map_append]; exact h1, fun q hq => ⟨?_, (h2 q hq).2⟩, h3⟩
        rw [tks]
        unfold tkeys at h2 ⊢
        rw [List.map_append]
        rcases (h2 q hq).1 with h | h
        · exact List.mem_append_left _ h
        · exact List.mem_append_right _ (by rw [h]; exact List.mem_cons_self)
      refine weakS (sub_rset hs rfl) ?_
      k_extra "start"
      k_extra "asg"
      refine T_rowsAt G (by k_extra "rf") ?_
      k_extra "go"
      obtain ⟨q1, q2, q3⟩ := kx _ cp.m
      refine ⟨x, d, r, _, _, rfl, q1, q2, ?_⟩
      k_extra "go"
      refine I_dict (by intro _ _; rfl) q3 (dget_at hnod hu) ?_
      k_extra "set"
      refine T_isValue (by k_extra "rf") ?_
      refine T_CallFn (m := 1) (at_is_keymap G) (by decide) rfl (by k_extra "rf") ?_
      k_extra "go"
      cases bd with
      | leaf c =>
        obtain rfl : u = lav c := hb
        have ty : ∃ t, tyOf W σ' (lav c) = some t ∧ kitOne W.K t (.ref W.C) = some false := by
          cases c with
          | none => exact ⟨_, rfl, one_NoneType_K G⟩
          | some s => exact ⟨_, rfl, one_str_K G⟩
        obtain ⟨t, ty1, ty2⟩ := ty
        refine (sp_is_keymap G ty1 ty2).mono ?_
        rintro _ σ' ⟨rfl, rfl⟩
        refine ⟨_, rfl, ?_⟩
        k_extra "no"
        refine T_MethK (m := 1) (at_m_put G) (by decide) (by k_extra "rf") (fun _ _ => rfl) ?_
        k_extra "go"
        refine ⟨y, _, _, _, rfl, cp.top, ?_⟩
        k_extra "go"
        refine (sp_put G cp.top kz).mono ?_
        rintro _ σ₉ ⟨rfl, hput⟩
        k_extra "go"
        exact fin _ _ _ (cp.put hput rfl knew' hps') (fun q hq => ⟨.inl (hps q hq).1, (hps q hq).2⟩) (Nat.le_succ_of_le psz) _ (by k_extra "sub")
      | map rows =>
        obtain ⟨sub, rfl, hsub⟩ := hb
        have hs' : KSub σ' sub (reg, some k) rows := KM0.mod hsub cp.m (fun e => hne e)
        refine (sp_is_keymap G (tyOf_km hs') (one_K_K G)).mono ?_
        rintro _ σ' ⟨rfl, rfl⟩
        refine ⟨_, rfl, ?_⟩
        k_extra "yes"
        k_extra "asg"
        refine T_Keymap1 G (reg', some k) (by decide) rfl (by k_extra "rf") ?_
        k_extra "go"
        refine T_prompt G (by k_extra "rf") ?_
        k_extra "go"
        refine ⟨sub, _, _, _, rfl, hs', ?_⟩
        k_extra "go"
        refine ⟨rfl, fun inner a₁ nin la₁ hin₁ => ?_⟩
        k_extra "set"
        have hsub₁ := KM0.le hs' la₁
        k_extra "setp"
        refine T_parent G (by k_extra "rf") ?_
        k_extra "go"
        refine ⟨sub, _, _, _, rfl, hsub₁, (fun _ h => nomatch h), ?_⟩
        k_extra "go"
        refine ⟨inner, _, _, _, rfl, hin₁, fun a₂ hin₂ n₂ => ?_⟩
        have hsub₂ := hsub₁.mod n₂ (fun e => nreg e.symm)
        k_extra "go"
        k_extra "seth"
        refine T_has_default G (by k_extra "rf") ?_
        k_extra "go"
        refine ⟨sub, _, _, _, rfl, hsub₂, ?_⟩
        k_extra "go"
        refine ⟨inner, _, _, _, rfl, rfl, hin₂, fun a₃ hin₃ n₃ => ?_⟩
        have hsub₃ := hsub₂.mod n₃ (fun e => nreg e.symm)
        k_extra "go"
        k_extra "setd"
        refine T_default G (by k_extra "rf") ?_
        k_extra "go"
        refine ⟨sub, _, _, _, rfl, hsub₃, ?_⟩
        k_extra "go"
        refine ⟨inner, _, _, _, rfl, rfl, hin₃, fun a₄ hin₄ n₄ => ?_⟩
        k_extra "go"
        have mm : Mod (· = (reg', some k)) σ' a₄ := (((Mod.of_le la₁).trans n₂).trans n₃).trans n₄
        have cp₄ : CP σ₅ a₄ y w reg reg' p kvs ((T.take i).map fun q => (q.1, emp q.2)) ps (T.take i) := cp.modk mm knew'
        refine T_MethB (by k_extra "rf") PySem.F.plainAttrs_list PySem.F.slot_list_append PySem.F.type_list_append ?_
        k_extra "go"
        refine ⟨w, _, rfl, cp₄.wl, fun h => ty_list h, ?_⟩
        k_extra "go"
        refine ⟨by simp, fun t' a₅ nt' la₅ ht' => ?_⟩
        k_extra "go"
        have ilt : i < T.length := by
          rcases Nat.lt_or_ge i T.length with q | q
          · exact q
          · rw [List.getElem?_eq_none q] at hTi; cases hTi
        refine L_append (la₅ _ _ cp₄.wl) (by rw [List.length_map]; omega) fun a₆ c₆ => ?_
        k_extra "go"
        k_extra "asg"
        k_extra "set"
        have cp₅ : CP σ₅ a₅ y w reg reg' p kvs ((T.take i).map fun q => (q.1, emp q.2)) ps (T.take i) := cp₄.le la₅
        have c₆' : Chg w (.list ((ps ++ [(⟨k, rows, t', sub, inner⟩ : PQ)]).map fun q => AV.ref q.t)) a₅ a₆ := by rw [List.map_append]; exact c₆
        obtain ⟨w1, _, _, _⟩ := cp₅.wput nw c₆
        refine T_MethK (m := 1) (at_m_put G) (by decide) (by k_extra "rf") (fun _ _ => rfl) ?_
        k_extra "go"
        refine ⟨y, _, _, _, rfl, w1, ?_⟩
        k_extra "go"
        refine (sp_put G w1 kz).mono ?_
        rintro _ σ₉ ⟨rfl, hput⟩
        k_extra "go"
        refine fin _ _ _ (cp₅.more (q := ⟨k, rows, t', sub, inner⟩) nw c₆' hput ht' hsub (KM0.le hin₄ la₅) knew' hps') (fun q hq => ?_) (by rw [List.length_append]; exact Nat.succ_le_succ psz) _ (by k_extra "sub")
        rcases List.mem_append.mp hq with h | h
        · exact ⟨.inl (hps q h).1, (hps q h).2⟩
        · rw [List.mem_singleton.mp h]; exact ⟨.inr rfl, hrz k rows (List.mem_of_getElem? hTi)⟩
    · obtain ⟨hs, kvs, ps, cp, hps, psz⟩ := h
      refine weakS hs ?_
      k_extra "go"
      have kl : kvs₀.length = T.length := hr₆.length
      rw [kl] at cp psz
      rw [List.take_length] at cp
      exact ⟨ps.length, by omega, .snd kvs _ ps rfl (by k_extra "sub") cp (by omega) fun q hq => (hps q hq).2⟩
  · refine weakS hs ?_
    k_extra "go"
    refine ⟨by simp, fun e σ₇ ne le₇ he => C_ne_list0 (le₇ _ _ cp.wl) he ⟨_, rfl, ?_⟩⟩
    have cp₇ := cp.le le₇
    rcases List.eq_nil_or_concat ps with rfl | ⟨ps', q, rfl⟩
    · refine ⟨(fun hb => nomatch hb), fun _ => ?_⟩
      k_extra "go"
      have hT : To = T := cp.fill
      subst hT
      exact ⟨y, rfl, ⟨kvs, cp₇.top, cp₇.at_⟩, m₅.trans cp₇.m⟩
    · have hwl : σ₇ w = some (.list (ps'.map (fun q => AV.ref q.t) ++ [.ref q.t])) := by have := cp₇.wl; rw [List.concat_eq_append, List.map_append] at this; exact this
      have hne' : (!((ps'.concat q).map (fun q => AV.ref q.t)).isEmpty) = true := by simp
      rw [hne']
      k_extra "yes"
      k_extra "as1"
      refine T_MethB (by k_extra "rf") PySem.F.plainAttrs_list PySem.F.slot_list_pop PySem.F.type_list_pop ?_
      k_extra "go"
      refine ⟨w, _, rfl, hwl, fun h => ty_list h, ?_⟩
      k_extra "go"
      refine L_pop hwl (by rw [List.length_map]; rw [List.concat_eq_append, List.length_append] at pz; omega) fun σ₈ c₈ => ?_
      intro wv ew
      obtain ⟨w1, w2, w3, w4⟩ := cp₇.wput nw c₈
      have hq := w4 q (cp₇.pe q (by simp))
      have hps' : ∀ q' ∈ ps', PE σ₅ σ₈ reg kvs To q' ∧ q'.k ≠ q.k := fun q' hq' => ⟨w4 q' (cp₇.pe q' (by simp [hq'])), fun e => by
        have := cp.pnod
        rw [List.concat_eq_append, List.map_append, List.nodup_append] at this
        exact this.2.2 _ (List.mem_map_of_mem (f := (·.k)) hq') q.k (by simp) e⟩
      refine T_assign2 (by k_extra "rf") ew (.inl hq.1) fun a b ea eb => ?_
      k_extra "nm"
      k_extra "nm"
      rw [ea, eb]
      obtain ⟨sd, sr, sep, s1, s2, s3⟩ := id hq.2.1
      have tg : ∀ {g' : Tag}, g' = (reg, some q.k) → ∀ g, some g' = some g → ¬ g.1 = reg' := fun e g q => by cases q; rw [e]; exact hne
      have kx : ∀ σ', Mod (·.1 = reg') σ₅ σ' → σ' q.sub = some (.inst (reg, some q.k) sd) ∧ σ' sd = some (.flds (reg, some q.k) (kf sr .none)) ∧ σ' sr = some (.dict (reg, some q.k) (lrows q.rows) sep) := fun σ' m => ⟨m _ _ s1 (tg rfl), m _ _ s2 (tg rfl), m _ _ s3 (tg rfl)⟩
      refine T_nodup (kx _ w3).2.2 fun hnod' => ?_
      have rnod : (q.rows.map (·.1)).Nodup := by unfold lrows at hnod'; rw [List.map_map] at hnod'; exact hnod'
      have hin₀ : KSub σ₈ q.inner (reg', some q.k) [] := by
        rcases w2.get q.k with ⟨h1, _⟩ | ⟨v, bd, h1, h2, h3⟩
        · rw [hq.2.2.1] at h1; cases h1
        · rw [hq.2.2.1] at h1; cases h1
          rw [hq.2.2.2] at h2; cases h2
          obtain ⟨z, e, h⟩ := h3
          cases e; exact h
      refine S_ForDict (by intro; rfl) (by k_extra "sto") ?_
      refine T_rowsAt G (by k_extra "rf") ?_
      k_extra "go"
      refine ⟨q.sub, sd, sr, _, _, rfl, (kx _ w3).1, (kx _ w3).2.1, ?_⟩
      refine ⟨sr, _, lrows q.rows, sep, CJ2 σ₅ y w reg reg' p kvs To q ps',
        rfl, (kx _ w3).2.2, ⟨by k_extra "sub", w1, by rw [List.take_zero, tput_same hq.2.2.2]; exact w2, hin₀, hps', c₈.1, w3⟩, fun i ρ σ' h => ⟨_, _, by cases h with | mk _ _ _ _ _ _ j6 => exact (kx _ j6).2.2, rfl⟩, fun i k u hu ρ σ' h => ?_, fun ρ σ' h => ?_⟩
      · obtain ⟨hs, j1, j2, j3, j4, j5, j6⟩ := h
        obtain ⟨c, hc, rfl⟩ : ∃ c, q.rows[i]? = some (k, c) ∧ lav c = u := by
          unfold lrows at hu
          rw [List.getElem?_map] at hu
          obtain ⟨⟨k', c⟩, h1, h2⟩ := Option.map_eq_some_iff.mp hu
          cases h2; exact ⟨c, h1, rfl⟩
        refine weakS (sub_rset hs rfl) ?_
        k_extra "start"
        k_extra "asg"
        refine T_rowsAt G (by k_extra "rf") ?_
        k_extra "go"
        obtain ⟨q1, q2, q3⟩ := kx _ j6
        refine ⟨q.sub, sd, sr, _, _, rfl, q1, q2, ?_⟩
        k_extra "go"
        refine I_dict (by intro _ _; rfl) q3 (dget_at hnod' hu) ?_
        k_extra "set"
        refine T_isValue (by k_extra "rf") ?_
        refine T_CallFn (m := 1) (at_is_keymap G) (by decide) rfl (by k_extra "rf") ?_
        k_extra "go"
        have ty : ∃ t, tyOf W σ' (lav c) = some t ∧ kitOne W.K t (.ref W.C) = some false := by
          cases c with
          | none => exact ⟨_, rfl, one_NoneType_K G⟩
          | some s => exact ⟨_, rfl, one_str_K G⟩
        obtain ⟨t, ty1, ty2⟩ := ty
        refine (sp_is_keymap G ty1 ty2).mono ?_
        rintro _ σ' ⟨rfl, rfl⟩
        refine ⟨_, rfl, ?_⟩
        k_extra "no"
        refine T_MethK (m := 1) (at_m_put G) (by decide) (by k_extra "rf") (fun _ _ => rfl) ?_
        k_extra "go"
        refine ⟨q.inner, _, _, _, rfl, j3, ?_⟩
        k_extra "go"
        refine (sp_put G j3 (by unfold lrows; rw [List.length_map, List.length_take]; have := rz q (by simp); omega)).mono ?_
        rintro _ σ₉ ⟨rfl, hput, m₉⟩
        k_extra "go"
        have e1 : q.rows.take (i + 1) = rput (q.rows.take i) k c := by
          rw [rput_new (take_new rnod hc), List.take_add_one, hc]; rfl
        have hin : KSub σ₉ q.inner (reg', some q.k) (q.rows.take (i + 1)) := by unfold KSub; rw [e1, lrows_put]; exact hput
        refine ⟨by k_extra "sub", j1.mod m₉ (fun e => by cases e), ?_, hin, fun q' hq' => ?_, m₉ _ _ j5 (fun _ e => nomatch e), j6.trans (m₉.mono fun g e => by rw [e])⟩
        · have := j2.upd (nodup_put cp.nod _ _) hq.2.2.1 m₉ hin
          rw [tput_tput] at this; exact this
        · obtain ⟨⟨a1, a2, a3, a4⟩, a5⟩ := j4 q' hq'
          exact ⟨⟨m₉ _ _ a1 (fun _ e => nomatch e), a2, a3, a4⟩, a5⟩
      · obtain ⟨hs, j1, j2, j3, j4, j5, j6⟩ := h
        refine weakS hs ?_
        k_extra "go"
        have ll : (lrows q.rows).length = q.rows.length := by unfold lrows; rw [List.length_map]
        rw [ll, List.take_length] at j2
        refine ⟨ps'.length, by simp, .snd kvs (tput To q.k (.map q.rows)) ps' rfl (by k_extra "sub") ⟨j1, j2, nodup_put cp.nod _ _, ?_, ?_, fun q' hq' => ?_, j5, j6⟩ (by rw [List.concat_eq_append, List.length_append] at pz; omega) fun q' hq' => rz q' (by simp [hq'])⟩
        · have := cp.fill; rw [List.concat_eq_append, fillT_snoc] at this; exact this
        · have := cp.pnod; rw [List.concat_eq_append, List.map_append, List.nodup_append] at this; exact this.1
        · obtain ⟨⟨a1, a2, a3, a4⟩, a5⟩ := j4 q' hq'
          exact ⟨a1, a2, a3, by rw [tget_put, if_neg a5]; exact a4⟩
end

section
variable {W : Wd} {n : Nat} {env : Env} {ρ : Rho} {σ : AHeap}
def bound (ns : List Node) (k : Key) : List AV := ns.filterMap fun nd => dget nd.kvs k
theorem Chain.at {σ : AHeap} : ∀ {ns : List Node} {p : AV}, Chain σ p ns → ∀ {i : Nat} {nd : Node}, ns[i]? = some nd → ∃ p', KM0 σ nd.x nd.g p' nd.kvs
  | [], _, _, _, _, h => by cases h
  | a :: ns, _, ⟨_, p', hk, ht⟩, i, nd, h => by
    cases i with
    | zero => simp at h; subst h; exact ⟨p', hk⟩
    | succ i => exact Chain.at ht (by simpa using h)
theorem sp_rows_along (G : Good W) {p : AV} {ns : List Node} {k : Key} (h : Chain σ p ns) (hz : ns.length ≤ 100) : Spec W 2 199 [p, k.av] σ (fun r σ' => ∃ l, r = .ref l ∧ Le σ σ' ∧ σ' l = some (.list (bound ns k))) := by
  refine enterB (ρ₀ := [("keymap", p), ("event", k.av)]) ["keymap", "event"] (fn_rows_along G) (bind2 fun _ _ => rfl) rfl (by decide) rfl fun L => ?_
  k_extra "start"
  refine T_ListComp (by intro; rfl) (by k_extra "compok") ?_
  refine T_CallFn (m := 1) (at_chain_of G) (by decide) rfl (by k_extra "rf") ?_
  k_extra "go"
  refine (sp_chain_of G h hz).mono ?_
  rintro _ σ₁ ⟨l, rfl, nl, le₁, hl⟩
  refine ⟨[("event", k.av)], by k_extra "cap", ?_⟩
  have h₁ := h.le le₁
  refine comp_plain (fun i out σ' => out = bound (ns.take i) k ∧ out.length ≤ i ∧ Le σ₁ σ') (iter_list hl) ⟨rfl, Nat.le_refl _, Le.rfl⟩ (by simp [nrefs]; omega) (fun i out σ' _ h => h.2.1) (fun i out σ' h => h.2.2 _ _ hl) ?_ ?_
  · rintro i u hi hu out σ' ⟨rfl, hlen, le₂⟩ C
    unfold nrefs at hu
    rw [List.getElem?_map] at hu
    obtain ⟨nd, hnd, rfl⟩ := Option.map_eq_some_iff.mp hu
    obtain ⟨p', hk⟩ := (h₁.le le₂).at hnd
    have ts : bound (ns.take (i + 1)) k = bound (ns.take i) k ++ (dget nd.kvs k).toList := by
      unfold bound; rw [List.take_add_one, hnd, List.filterMap_append]
      show _ ++ List.filterMap _ [nd] = _
      rw [List.filterMap_cons]; cases dget nd.kvs k <;> rfl
    refine T_tests1 ?_
    refine T_isValue (by k_extra "rf") ?_
    refine T_MethK (m := 1) (at_m_is_bound G) (by decide) (by k_extra "rf") (fun _ _ => rfl) ?_
    k_extra "go"
    refine ⟨nd.x, _, _, _, rfl, hk, ?_⟩
    k_extra "go"
    refine (sp_is_bound G hk).mono ?_
    rintro _ σ' ⟨rfl, rfl⟩
    refine ⟨_, rfl, fun hb => ?_, fun hb => ?_⟩
    · obtain ⟨v, hv⟩ := Option.isSome_iff_exists.mp hb
      refine T_MethK (m := 1) (at_m_own G) (by decide) (by k_extra "rf") (fun _ _ => rfl) ?_
      k_extra "go"
      refine ⟨nd.x, _, _, _, rfl, hk, ?_⟩
      k_extra "go"
      refine (sp_own G hk).mono ?_
      rintro _ σ' ⟨rfl, rfl⟩
      refine ⟨by rw [ts, hv]; rfl, by rw [List.length_append]; simp; omega, le₂⟩
    · have hv : dget nd.kvs k = none := by cases e : dget nd.kvs k with | none => rfl | some v => rw [e] at hb; cases hb
      exact ⟨by rw [ts, hv]; simp, by omega, le₂⟩
  · rintro out σ' ⟨rfl, hlen, le₂⟩
    intro a σ₂ na le₃ ha
    refine ⟨a, rfl, (le₁.trans le₂).trans le₃, ?_⟩
    rw [ha]; simp [nrefs]
theorem sp_defaults_along (G : Good W) {p : AV} {ns : List Node} (h : Chain σ p ns) (hz : ns.length ≤ 100) : Spec W 2 204 [p] σ (fun r σ' => ∃ l, r = .ref l ∧ Le σ σ' ∧ σ' l = some (.list [])) := by
  refine enterB (ρ₀ := [("keymap", p)]) ["keymap"] (fn_defaults_along G) (bind1 fun _ => rfl) rfl (by decide) rfl fun L => ?_
  k_extra "start"
  refine T_ListComp (by intro; rfl) (by k_extra "compok") ?_
  refine T_CallFn (m := 1) (at_chain_of G) (by decide) rfl (by k_extra "rf") ?_
  k_extra "go"
  refine (sp_chain_of G h hz).mono ?_
  rintro _ σ₁ ⟨l, rfl, nl, le₁, hl⟩
  refine ⟨[], by k_extra "cap", ?_⟩
  have h₁ := h.le le₁
  refine comp_plain (fun i out σ' => out = [] ∧ Le σ₁ σ') (iter_list hl) ⟨rfl, Le.rfl⟩ (by simp [nrefs]; omega) (fun i out σ' _ h => by rw [h.1]; exact Nat.zero_le _) (fun i out σ' h => h.2 _ _ hl) ?_ ?_
  · rintro i u hi hu out σ' ⟨rfl, le₂⟩ C
    unfold nrefs at hu
    rw [List.getElem?_map] at hu
    obtain ⟨nd, hnd, rfl⟩ := Option.map_eq_some_iff.mp hu
    obtain ⟨p', hk⟩ := (h₁.le le₂).at hnd
    refine T_tests1 ?_
    refine T_isValue (by k_extra "rf") ?_
    refine T_has_default G (by k_extra "rf") ?_
    k_extra "go"
    refine ⟨nd.x, _, _, _, rfl, hk, ?_⟩
    exact ⟨false, rfl, (fun hb => nomatch hb), fun _ => ⟨rfl, le₂⟩⟩
  · rintro out σ' ⟨rfl, le₂⟩
    intro a σ₂ na le₃ ha
    exact ⟨a, rfl, (le₁.trans le₂).trans le₃, ha⟩
end

section
variable {W : Wd} {n : Nat} {env : Env} {ρ : Rho} {σ : AHeap}
theorem sp_bindings_in (G : Good W) {p : AV} {ns : List Node} {k : Key} {d : Bool} (h : Chain σ p ns) (hz : ns.length ≤ 100) : Spec W 3 211 [p, k.av, .bool d] σ (fun r σ' => ∃ l, r = .ref l ∧ Le σ σ' ∧ σ' l = some (.list (bound ns k))) := by
  refine enterB (ρ₀ := [("keymap", p), ("event", k.av), ("takes_default", .bool d)]) ["keymap", "event", "takes_default"] (fn_bindings_in G) (bind3 fun _ _ _ => rfl) rfl (by decide) rfl fun L => ?_
  k_extra "start"
  k_extra "asg"
  refine T_CallFn (m := 2) (at_rows_along G) (by decide) rfl (by k_extra "rf") ?_
  k_extra "go"
  refine (sp_rows_along G h hz).mono ?_
  rintro _ σ₁ ⟨l, rfl, le₁, hl⟩
  k_extra "set"
  refine ⟨by simp, fun e σ₂ ne le₂ he => C_eq_list0 (le₂ _ _ hl) he ⟨_, rfl, fun hb => ?_, fun hb => ⟨(fun hb => nomatch hb), fun _ => ?_⟩⟩⟩
  · have hv : bound ns k = [] := List.isEmpty_iff.mp hb
    k_extra "go"
    refine T_isValue (by k_extra "rf") ?_
    k_extra "go"
    refine ⟨d, rfl, fun hd => ?_, fun hd => ?_⟩
    · k_extra "go"
      refine ⟨fun _ => ?_, (fun hb => nomatch hb)⟩
      k_extra "start"
      k_extra "asg"
      refine T_CallFn (m := 2) (at_defaults_along G) (by decide) rfl (by k_extra "rf") ?_
      k_extra "go"
      refine (sp_defaults_along G ((h.le le₁).le le₂) hz).mono ?_
      rintro _ σ₃ ⟨b, rfl, le₃, hb'⟩
      refine T_sliceUp ?_
      k_extra "go"
      intro w ew sl σ₄ nsl le₄ hsl
      refine I_listTo (k := 1) (by intro _ _; rfl) (le₄ _ _ hb') hsl ew (by simp) fun c σ₅ nc le₅ hc => ?_
      k_extra "set"
      exact ⟨c, rfl, (((le₁.trans le₂).trans le₃).trans le₄).trans le₅, by rw [hv]; exact hc⟩
    · exact ⟨(fun hb => nomatch hb), fun _ => by
        k_extra "go"
        exact ⟨l, rfl, le₁.trans le₂, le₂ _ _ hl⟩⟩
  · k_extra "go"
    exact ⟨l, rfl, le₁.trans le₂, le₂ _ _ hl⟩
end

section
variable {W : Wd} {n : Nat} {env : Env} {ρ : Rho} {σ : AHeap}
/-! what a list of bindings tells -/
inductive Item where
  | leaf (c : Option Str)
  | map (x : Addr)
def Item.av : Item → AV
  | .leaf c => lav c
  | .map x => .ref x
def IOk (σ : AHeap) : Item → Prop
  | .leaf _ => True
  | .map x => ∃ g p kvs, KM0 σ x g p kvs
theorem IOk.le {σ σ' : AHeap} {it : Item} (h : IOk σ it) (m : Le σ σ') : IOk σ' it := by
  cases it with
  | leaf c => trivial
  | map x => obtain ⟨g, p, kvs, h⟩ := h; exact ⟨g, p, kvs, h.le m⟩
def coll : List Item → List Addr × Option Str
  | [] => ([], none)
  | .leaf none :: r => coll r
  | .leaf (some c) :: _ => ([], some c)
  | .map x :: r => (x :: (coll r).1, (coll r).2)
/-- what is handed back: maps, a command, or nothing -/
def told (σ : AHeap) (r : AV) (m : List Addr) (c : Option Str) : Prop := (m ≠ [] ∧ ∃ l, r = .ref l ∧ σ l = some (.list (m.map .ref))) ∨ (m = [] ∧ r = lav c)
theorem sp_joined (G : Good W) {a : Addr} {its : List Item} (ha : σ a = some (.list (its.map Item.av))) (hi : ∀ it ∈ its, IOk σ it) (hz : its.length ≤ 100) : Spec W 2 218 [.ref a] σ (fun r σ' => Le σ σ' ∧ told σ' r (coll its).1 (coll its).2) := by
  refine enterB (ρ₀ := [("bindings", .ref a)]) ["bindings"] (fn_joined G) (bind1 fun _ => rfl) rfl (by decide) rfl fun L => ?_
  k_extra "start"
  k_extra "asg"
  refine ⟨by simp, fun l σ₁ nl le₁ hl => ?_⟩
  k_extra "set"
  refine S_ForList (by intro; rfl) (by k_extra "sto") ?_
  k_extra "go"
  refine ⟨a, _, fun i ρ σ' => ∃ m, Sub [("maps", .ref l)] ρ ∧ Le σ σ' ∧ σ' l = some (.list (m.map .ref)) ∧ m.length ≤ i ∧ (coll its).1 = m ++ (coll (its.drop i)).1 ∧ (coll its).2 = (coll (its.drop i)).2, rfl, le₁ _ _ ha, ⟨[], by k_extra "sub", le₁, hl, Nat.le_refl _, rfl, rfl⟩, fun i ρ σ' ⟨m, _, le, _⟩ => le _ _ ha, fun i u hu ρ σ' ⟨m, hs, le, hm, mz, e1, e2⟩ => ?_, fun ρ σ' ⟨m, hs, le, hm, mz, e1, e2⟩ => ?_⟩
  · rw [List.getElem?_map] at hu
    obtain ⟨it, hit, rfl⟩ := Option.map_eq_some_iff.mp hu
    have ho := (hi it (List.mem_of_getElem? hit)).le le
    have hlt : i < its.length := by
      rcases Nat.lt_or_ge i its.length with q | q
      · exact q
      · rw [List.getElem?_eq_none q] at hit; cases hit
    have hd : its.drop i = it :: its.drop (i + 1) := by
      rw [List.getElem?_eq_getElem hlt] at hit; cases hit; exact List.drop_eq_getElem_cons hlt
    rw [hd] at e1 e2
    refine weakS (sub_rset hs rfl) ?_
    k_extra "start"
    refine T_isValue (by k_extra "rf") ?_
    refine T_CallFn (m := 1) (at_is_keymap G) (by decide) rfl (by k_extra "rf") ?_
    k_extra "go"
    cases it with
    | map x =>
      obtain ⟨g, p, kvs, hk⟩ := ho
      refine (sp_is_keymap G (tyOf_km hk) (one_K_K G)).mono ?_
      rintro _ σ' ⟨rfl, rfl⟩
      refine ⟨_, rfl, ?_⟩
      k_extra "yes"
      refine T_MethB (by k_extra "rf") PySem.F.plainAttrs_list PySem.F.slot_list_append PySem.F.type_list_append ?_
      k_extra "go"
      refine ⟨l, _, rfl, hm, fun h => ty_list h, ?_⟩
      k_extra "go"
      refine L_append hm (by rw [List.length_map]; omega) fun σ₂ c => ?_
      k_extra "go"
      refine ⟨m ++ [x], by k_extra "sub", le.chg nl c, ?_, by rw [List.length_append]; simp; omega, ?_, e2⟩
      · rw [c.1, List.map_append]; rfl
      · rw [e1, List.append_assoc]; rfl
    | leaf c =>
      cases c with
      | none =>
        refine (sp_is_keymap G (v := .none) rfl (one_NoneType_K G)).mono ?_
        rintro _ σ' ⟨rfl, rfl⟩
        refine ⟨_, rfl, ?_⟩
        k_extra "no"
        refine C_isNot_none ⟨_, rfl, ?_⟩
        k_extra "no"
        exact ⟨m, by k_extra "sub", le, hm, by omega, e1, e2⟩
      | some c =>
        refine (sp_is_keymap G (v := .str c) rfl (one_str_K G)).mono ?_
        rintro _ σ' ⟨rfl, rfl⟩
        refine ⟨_, rfl, ?_⟩
        k_extra "no"
        refine C_isNot_none ⟨_, rfl, ?_⟩
        k_extra "yes"
        refine ⟨by simp, fun e σ₂ ne le₂ he => C_ne_list0 (le₂ _ _ hm) he ⟨_, rfl, fun hb => ?_, fun hb => ?_⟩⟩
        · k_extra "go"
          have hne : m ≠ [] := fun q => by rw [q] at hb; cases hb
          refine ⟨le.trans le₂, .inl ⟨by rw [e1]; simp [hne], l, rfl, ?_⟩⟩
          rw [e1]; show _ = some (AObj.list ((m ++ []).map _)); rw [List.append_nil]; exact le₂ _ _ hm
        · k_extra "go"
          have hnil : m = [] := by cases m with | nil => rfl | cons _ _ => cases hb
          refine ⟨le.trans le₂, .inr ⟨by rw [e1, hnil]; rfl, by rw [e2]; rfl⟩⟩
  · refine weakS hs ?_
    rw [List.length_map, List.drop_length] at e1 e2
    k_extra "go"
    refine ⟨by simp, fun e σ₂ ne le₂ he => C_ne_list0 (le₂ _ _ hm) he ⟨_, rfl, fun hb => ?_, fun hb => ?_⟩⟩
    · k_extra "go"
      have hne : m ≠ [] := fun q => by rw [q] at hb; cases hb
      refine ⟨le.trans le₂, .inl ⟨by rw [e1]; simp [hne], l, rfl, ?_⟩⟩
      rw [e1]; show _ = some (AObj.list ((m ++ []).map _)); rw [List.append_nil]; exact le₂ _ _ hm
    · k_extra "go"
      have hnil : m = [] := by cases m with | nil => rfl | cons _ _ => cases hb
      refine ⟨le.trans le₂, .inr ⟨by rw [e1, hnil]; rfl, by rw [e2]; rfl⟩⟩
end

section
variable {W : Wd} {n : Nat} {env : Env} {ρ : Rho} {σ : AHeap}
/-- what a key's bindings along a chain tell: nothing when the first is none -/
def firstOf (its : List Item) : List Addr × Option Str := match its with
  | [] => ([], none)
  | .leaf none :: _ => ([], none)
  | its => coll its
theorem sp_first_in (G : Good W) {p : AV} {ns : List Node} {k : Key} {d : Bool} {its : List Item} (h : Chain σ p ns) (hz : ns.length ≤ 100) (hb : bound ns k = its.map Item.av) (hi : ∀ it ∈ its, IOk σ it) :
    Spec W 4 225 [p, k.av, .bool d] σ (fun r σ' => Le σ σ' ∧ told σ' r (firstOf its).1 (firstOf its).2) := by
  have iz : its.length ≤ 100 := by
    have := congrArg List.length hb
    rw [List.length_map] at this
    have h2 : (bound ns k).length ≤ ns.length := List.length_filterMap_le ..
    omega
  refine enterB (ρ₀ := [("keymap", p), ("event", k.av), ("takes_default", .bool d)]) ["keymap", "event", "takes_default"] (fn_first_in G) (bind3 fun _ _ _ => rfl) rfl (by decide) rfl fun L => ?_
  k_extra "start"
  k_extra "asg"
  refine T_CallFn (m := 3) (at_bindings_in G) (by decide) rfl (by k_extra "rf") ?_
  k_extra "go"
  refine (sp_bindings_in G h hz).mono ?_
  rintro _ σ₁ ⟨l, rfl, le₁, hl⟩
  rw [hb] at hl
  k_extra "set"
  refine ⟨by simp, fun e σ₂ ne le₂ he => C_eq_list0 (le₂ _ _ hl) he ⟨_, rfl, fun hb' => ?_, fun hb' => ?_⟩⟩
  · have hnil : its = [] := by cases its with | nil => rfl | cons _ _ => cases hb'
    subst hnil
    refine ⟨fun _ => ?_, (fun hb => nomatch hb)⟩
    k_extra "start"
    exact ⟨le₁.trans le₂, .inr ⟨rfl, rfl⟩⟩
  · obtain ⟨it, r, rfl⟩ : ∃ it r, its = it :: r := by cases its with | nil => cases hb' | cons it r => exact ⟨it, r, rfl⟩
    k_extra "go"
    refine I_list (by intro _ _; rfl) (le₂ _ _ hl) (by decide) (by decide) rfl ?_
    k_extra "go"
    refine C_is_none ⟨_, rfl, fun hb => ?_, fun hb => ?_⟩
    · have hit : it = .leaf none := by
        cases it with
        | leaf c => cases c with
          | none => rfl
          | some c => cases hb
        | map x => cases hb
      subst hit
      refine ⟨fun _ => ?_, (fun hb => nomatch hb)⟩
      k_extra "start"
      exact ⟨le₁.trans le₂, .inr ⟨rfl, rfl⟩⟩
    · k_extra "go"
      refine ⟨(fun hb => nomatch hb), fun _ => ?_⟩
      k_extra "go"
      refine T_CallFn (m := 2) (at_joined G) (by decide) rfl (by k_extra "rf") ?_
      k_extra "go"
      have le := le₁.trans le₂
      refine (sp_joined G (le₂ _ _ hl) (fun it hit => (hi it hit).le le) iz).mono ?_
      rintro v σ₃ ⟨le₃, ht⟩
      have e1 : firstOf (it :: r) = coll (it :: r) := by
        cases it with
        | leaf c => cases c with
          | none => cases hb
          | some c => rfl
        | map x => rfl
      rw [e1]
      exact ⟨le.trans le₃, ht⟩
end

section
variable {W : Wd} {n : Nat} {env : Env} {ρ : Rho} {σ : AHeap}
abbrev TC := List Addr × Option Str
/-- each map of a list tells what stands in the other list -/
def FP (σ : AHeap) (ps : List AV) (k : Key) (all : List TC) : Prop := ps.length = all.length ∧ ∀ (i : Nat) p q, ps[i]? = some p → all[i]? = some q → q.1.length ≤ 100 ∧ ∃ (ns : List Node) (its : List Item), Chain σ p ns ∧ ns.length ≤ 100 ∧ bound ns k = its.map Item.av ∧ (∀ it ∈ its, IOk σ it) ∧ firstOf its = q
theorem FP.le {σ σ' : AHeap} {ps : List AV} {k : Key} {all : List TC} (h : FP σ ps k all) (m : Le σ σ') : FP σ' ps k all :=
  ⟨h.1, fun i p q hp hq => by
    obtain ⟨h0, ns, its, h1, h2, h3, h4, h5⟩ := h.2 i p q hp hq
    exact ⟨h0, ns, its, h1.le m, h2, h3, fun it hit => (h4 it hit).le m, h5⟩⟩
def comb : List TC → TC
  | [] => ([], none)
  | (x :: m, _) :: r => (x :: m ++ (comb r).1, (comb r).2)
  | ([], none) :: r => comb r
  | ([], some c) :: _ => ([], some c)
theorem comb_cons {m : List Addr} {c : Option Str} {r : List TC} (h : m ≠ []) : comb ((m, c) :: r) = (m ++ (comb r).1, (comb r).2) := by
  cases m with
  | nil => exact absurd rfl h
  | cons x m => rfl
theorem drop_at {α : Type} {l : List α} {i : Nat} {a : α} (h : l[i]? = some a) : l.drop i = a :: l.drop (i + 1) := by
  have hlt : i < l.length := by
    rcases Nat.lt_or_ge i l.length with q | q
    · exact q
    · rw [List.getElem?_eq_none q] at h; cases h
  rw [List.getElem?_eq_getElem hlt] at h; cases h; exact List.drop_eq_getElem_cons hlt
inductive FiJ (σ : AHeap) (l : Addr) (k : Key) (d : Bool) (all : List TC) (i : Nat) (ρ : Rho) (σ' : AHeap) : Prop
  | mk (m : List Addr) (hs : Sub [("found", .ref l), ("event", k.av), ("takes_default", .bool d)] ρ) (le : Le σ σ') (hm : σ' l = some (.list (m.map .ref))) (mz : m.length ≤ 100 * i) (e1 : (comb all).1 = m ++ (comb (all.drop i)).1) (e2 : (comb all).2 = (comb (all.drop i)).2) : FiJ σ l k d all i ρ σ'
theorem sp_found_in (G : Good W) {a : Addr} {ps : List AV} {k : Key} {d : Bool} {all : List TC} (ha : σ a = some (.list ps)) (h : FP σ ps k all) (hz : ps.length ≤ 9) :
    Spec W 5 232 [.ref a, k.av, .bool d] σ (fun r σ' => Le σ σ' ∧ told σ' r (comb all).1 (comb all).2) := by
  refine enterB (ρ₀ := [("maps", .ref a), ("event", k.av), ("takes_default", .bool d)]) ["maps", "event", "takes_default"] (fn_found_in G) (bind3 fun _ _ _ => rfl) rfl (by decide) rfl fun L => ?_
  k_extra "start"
  k_extra "asg"
  refine ⟨by simp, fun l σ₁ nl le₁ hl => ?_⟩
  k_extra "set"
  refine S_ForList (by intro; rfl) (by k_extra "sto") ?_
  k_extra "go"
  refine ⟨a, _, FiJ σ l k d all, rfl, le₁ _ _ ha, ⟨[], by k_extra "sub", le₁, hl, Nat.le_refl _, rfl, rfl⟩, fun i ρ σ' h => by cases h with | mk m _ le => exact le _ _ ha, fun i u hu ρ σ' h' => ?_, fun ρ σ' h' => ?_⟩
  · obtain ⟨m, hs, le, hm, mz, e1, e2⟩ := h'
    have hlt : i < ps.length := by
      rcases Nat.lt_or_ge i ps.length with q | q
      · exact q
      · rw [List.getElem?_eq_none q] at hu; cases hu
    obtain ⟨q, hq⟩ : ∃ q, all[i]? = some q := ⟨_, List.getElem?_eq_getElem (by rw [← h.1]; exact hlt)⟩
    obtain ⟨qz, ns, its, h1, h2, h3, h4, rfl⟩ := (h.le le).2 i u q hu hq
    rw [drop_at hq] at e1 e2
    refine weakS (sub_rset hs rfl) ?_
    k_extra "start"
    k_extra "asg"
    refine T_CallFn (m := 4) (at_first_in G) (by decide) rfl (by k_extra "rf") ?_
    k_extra "go"
    refine (sp_first_in G h1 h2 h3 h4).mono ?_
    rintro v σ₂ ⟨le₂, ht⟩
    k_extra "set"
    refine T_isValue (by k_extra "rf") ?_
    k_extra "bi"
    k_extra "bi"
    generalize firstOf its = q at *
    obtain ⟨qm, qc⟩ := q
    rcases ht with ⟨hne, l', rfl, hl'⟩ | ⟨hnil, rfl⟩
    · refine L_isinst (cls_k G) other_type (tyOf_list hl') (one_list_list G) ⟨_, rfl, ?_⟩
      k_extra "yes"
      refine T_MethB (by k_extra "rf") PySem.F.plainAttrs_list PySem.F.slot_list_extend PySem.F.type_list_extend ?_
      k_extra "go"
      refine ⟨l, _, rfl, le₂ _ _ hm, fun h => ty_list h, ?_⟩
      k_extra "go"
      refine L_extend (le₂ _ _ hm) hl' (by rw [List.length_map]; omega) (by rw [List.length_map]; exact Nat.le_trans qz (by decide)) fun σ₃ c => ?_
      k_extra "go"
      rw [comb_cons hne] at e1 e2
      refine ⟨m ++ qm, by k_extra "sub", (le.trans le₂).chg nl c, ?_, by rw [List.length_append]; simp only at qz; omega, ?_, e2⟩
      · rw [c.1, List.map_append]
      · rw [e1, List.append_assoc]
    · simp only at hnil
      subst hnil
      cases qc with
      | none =>
        refine L_isinst (v := .none) (cls_k G) other_type rfl (one_NoneType_list G) ⟨_, rfl, ?_⟩
        k_extra "no"
        refine C_isNot_none ⟨_, rfl, ?_⟩
        k_extra "no"
        exact ⟨m, by k_extra "sub", le.trans le₂, le₂ _ _ hm, by omega, e1, e2⟩
      | some c =>
        refine L_isinst (v := .str c) (cls_k G) other_type rfl (one_str_list G) ⟨_, rfl, ?_⟩
        k_extra "no"
        refine C_isNot_none ⟨_, rfl, ?_⟩
        k_extra "yes"
        refine ⟨by simp, fun e σ₃ ne le₃ he => C_ne_list0 (le₃ _ _ (le₂ _ _ hm)) he ⟨_, rfl, fun hb => ?_, fun hb => ?_⟩⟩
        · k_extra "go"
          have hne : m ≠ [] := fun q => by rw [q] at hb; cases hb
          refine ⟨(le.trans le₂).trans le₃, .inl ⟨by rw [e1]; simp [hne], l, rfl, ?_⟩⟩
          rw [e1]; show _ = some (AObj.list ((m ++ []).map _)); rw [List.append_nil]; exact le₃ _ _ (le₂ _ _ hm)
        · k_extra "go"
          have hnil : m = [] := by cases m with | nil => rfl | cons _ _ => cases hb
          refine ⟨(le.trans le₂).trans le₃, .inr ⟨by rw [e1, hnil]; rfl, by rw [e2]; rfl⟩⟩
  · obtain ⟨m, hs, le, hm, mz, e1, e2⟩ := h'
    refine weakS hs ?_
    rw [h.1, List.drop_length] at e1 e2
    k_extra "go"
    refine ⟨by simp, fun e σ₂ ne le₂ he => C_ne_list0 (le₂ _ _ hm) he ⟨_, rfl, fun hb => ?_, fun hb => ?_⟩⟩
    · k_extra "go"
      have hne : m ≠ [] := fun q => by rw [q] at hb; cases hb
      refine ⟨le.trans le₂, .inl ⟨by rw [e1]; simp [hne], l, rfl, ?_⟩⟩
      rw [e1]; show _ = some (AObj.list ((m ++ []).map _)); rw [List.append_nil]; exact le₂ _ _ hm
    · k_extra "go"
      have hnil : m = [] := by cases m with | nil => rfl | cons _ _ => cases hb
      refine ⟨le.trans le₂, .inr ⟨by rw [e1, hnil]; rfl, by rw [e2]; rfl⟩⟩
end

section
variable {W : Wd} {n : Nat} {env : Env} {ρ : Rho} {σ : AHeap}
theorem le_drop2 {σ σ' : AHeap} {e it : Addr} (h : Le σ σ') (he : σ e = none) (hit : σ it = none) : Le σ (σ'.drop [e, it]) := fun a o ha => by
  unfold AHeap.drop
  rw [if_neg ?_]
  · exact h a o ha
  · intro q
    rcases List.mem_cons.mp q with rfl | q
    · rw [he] at ha; cases ha
    · rw [List.mem_singleton] at q; subst q; rw [hit] at ha; cases ha
def FPs (σ : AHeap) : List AV → List Key → List (List TC) → Prop
  | _, [], [] => True
  | ps, k :: ks, all :: rest => ps.length ≤ 9 ∧ FP σ ps k all ∧ ((comb all).1 ≠ [] → FPs σ ((comb all).1.map .ref) ks rest)
  | _, _, _ => False
theorem FPs.le {σ σ' : AHeap} (m : Le σ σ') : ∀ {ps : List AV} {ks : List Key} {alls : List (List TC)}, FPs σ ps ks alls → FPs σ' ps ks alls
  | _, [], [], _ => trivial
  | _, [], _ :: _, h => h.elim
  | _, _ :: _, [], h => h.elim
  | _, _ :: _, _ :: _, ⟨h1, h2, h3⟩ => ⟨h1, h2.le m, fun q => FPs.le m (h3 q)⟩
inductive Res where
  | none
  | bound (c : Str)
  | long (n : Int)
  | pre (ps : List AV)
def resL (len : Nat) : Nat → List AV → List (List TC) → Res
  | _, ps, [] => .pre ps
  | i, _, all :: rest => if (comb all).1 ≠ [] then resL len (i + 1) ((comb all).1.map .ref) rest else match (comb all).2 with
    | .none => .none
    | some c => if i + 1 = len then .bound c else .long (i + 1)
def resAt (σ : AHeap) (t : Addr) : Res → Prop
  | .none => σ t = some (.tup [.str "none", .int 0])
  | .bound c => σ t = some (.tup [.str "bound", .str c])
  | .long n => σ t = some (.tup [.str "long", .int n])
  | .pre ps => ∃ l, σ t = some (.tup [.str "prefix", .ref l]) ∧ σ l = some (.list ps)
theorem comb_len : ∀ {all : List TC}, all.length ≤ 9 → (∀ (i : Nat) q, all[i]? = some q → q.1.length ≤ 100) → (comb all).1.length ≤ 100 * all.length := by
  intro all
  induction all with
  | nil => intro _ _; exact Nat.zero_le _
  | cons q r ih =>
    intro h1 h2
    have h3 := h2 0 q rfl
    have h4 := ih (by simp at h1; omega) (fun i q hq => h2 (i + 1) q (by simpa using hq))
    obtain ⟨qm, qc⟩ := q
    rw [List.length_cons]
    cases qm with
    | cons x qm =>
      show (x :: qm ++ (comb r).1).length ≤ _
      rw [List.length_append]; simp only at h3; omega
    | nil =>
      cases qc with
      | none => show (comb r).1.length ≤ _; omega
      | some c => exact Nat.zero_le _
inductive LkJ (σ₂ : AHeap) (b' : Addr) (d : Bool) (ks : List Key) (R0 : Res) (i : Nat) (ρ : Rho) (σ' : AHeap) : Prop
  | mk (l : Addr) (ps : List AV) (rest : List (List TC)) (hs : Sub [("here", .ref l), ("spread", .ref b'), ("takes_default", .bool d)] ρ) (m : Le σ₂ σ') (hl : σ' l = some (.list ps)) (hz : ps.length ≤ 900) (hF : FPs σ' ps (ks.drop i) rest) (hR : R0 = resL ks.length i ps rest) : LkJ σ₂ b' d ks R0 i ρ σ'
theorem lookup_core (G : Good W) {args : List AV} {a b : Addr} {d : Bool} {ps : List AV} {ks : List Key} {alls : List (List TC)} (hb : Binds W fd_lookup_keys args [("maps", .ref a), ("keys", .ref b), ("takes_default", .bool d)])
    (ha : σ a = some (.list ps)) (hz : ps.length ≤ 9) (hk : σ b = some (.tup (ks.map Key.av))) (hok : ∀ k ∈ ks, k.ok) (hkz : ks.length ≤ 100) (h : FPs σ ps ks alls) :
    Spec W 6 240 args σ (fun r σ' => Le σ σ' ∧ ∃ t, r = .ref t ∧ resAt σ' t (resL ks.length 0 ps alls)) := by
  generalize hR0 : resL ks.length 0 ps alls = R0
  refine enterB ["maps", "keys", "takes_default"] (fn_lookup_keys G) hb rfl (by decide) rfl fun L => ?_
  k_extra "start"
  k_extra "asg"
  refine T_CallFn (m := 4) (at_spread_meta G) (by decide) rfl (by k_extra "rf") ?_
  k_extra "go"
  refine (sp_spread_meta G hk hok hkz).mono ?_
  rintro _ σ₁ ⟨b', rfl, le₁, hb'⟩
  k_extra "set"
  k_extra "asg"
  k_extra "bi"
  refine L_list_list (le₁ _ _ ha) (by omega) fun l σ₂ nl le₂ hl => ?_
  k_extra "set"
  refine S_ForEnum (by intro; rfl) (by k_extra "sto") (by k_extra "sto") (by k_extra "rf") ?_
  k_extra "bi"
  have hb₂ := le₂ _ _ hb'
  have le := le₁.trans le₂
  refine L_enum hb₂ fun e it σ₃ ne nit hne le₃ he hit => ?_
  have le₀ : Le σ₂ (σ₃.drop [e, it]) := le_drop2 le₃ ne nit
  refine ⟨b', e, it, _, LkJ σ₂ b' d ks R0,
    rfl, le₃ _ _ hb₂, he, hit, hne, ⟨l, ps, alls, by k_extra "sub", le₀, le₀ _ _ hl, by omega, (h.le le).le le₀, hR0.symm⟩, fun i ρ σ' h => by cases h with | mk _ _ _ _ m => exact m _ _ hb₂, fun i u hu ρ σ' h σ'' m' => ?_, fun ρ σ' h => ?_⟩
  · obtain ⟨l, ps, rest, hs, m, hl', hz', hF, hR⟩ := h
    rw [List.getElem?_map] at hu
    obtain ⟨k, hki, rfl⟩ := Option.map_eq_some_iff.mp hu
    rw [drop_at hki] at hF
    cases rest with
    | nil => exact hF.elim
    | cons all rest =>
    obtain ⟨pz, hf, hnext⟩ := hF.le m'
    have m₂ := m.trans m'
    refine weakS (sub_rset (sub_rset hs rfl) rfl) ?_
    k_extra "start"
    k_extra "asg"
    refine T_CallFn (m := 5) (at_found_in G) (by decide) rfl (by k_extra "rf") ?_
    k_extra "go"
    refine (sp_found_in G (m' _ _ hl') hf pz).mono ?_
    rintro v σ₄ ⟨le₄, ht⟩
    have lt : i < ks.length := by
      rcases Nat.lt_or_ge i ks.length with q | q
      · exact q
      · rw [List.getElem?_eq_none q] at hki; cases hki
    unfold resL at hR
    k_extra "set"
    rcases ht with ⟨hne', l', rfl, hl''⟩ | ⟨hnil, rfl⟩
    · refine C_is_none ⟨_, rfl, ?_⟩
      k_extra "no"
      refine T_isValue (by k_extra "rf") ?_
      k_extra "bi"
      k_extra "bi"
      refine L_isinst (cls_k G) other_type (tyOf_list hl'') (one_list_list G) ⟨_, rfl, ?_⟩
      k_extra "no"
      k_extra "asg"
      k_extra "set"
      rw [if_pos hne'] at hR
      refine ⟨l', _, rest, by k_extra "sub", m₂.trans le₄, hl'', ?_, (hnext hne').le le₄, hR⟩
      rw [List.length_map]
      have h9 : all.length ≤ 9 := by rw [← hf.1]; exact pz
      have := comb_len h9 (fun i q hq => (hf.2 i _ q (List.getElem?_eq_getElem (by
        rw [hf.1]
        rcases Nat.lt_or_ge i all.length with z | z
        · exact z
        · rw [List.getElem?_eq_none z] at hq; cases hq)) hq).1)
      omega
    · rw [if_neg (by rw [hnil]; exact fun h => h rfl)] at hR
      generalize (comb all).2 = c at *
      cases c with
      | none =>
        refine C_is_none ⟨_, rfl, ?_⟩
        k_extra "yes"
        refine T_Global (G.nm "NONE" _ rfl) rfl (by k_extra "rf") (by k_extra "rf") fun v' e => ?_
        subst e
        k_extra "go"
        refine ⟨by simp, fun t σ₅ nt le₅ ht => ?_⟩
        refine ⟨le.trans ((m₂.trans le₄).trans le₅), t, rfl, ?_⟩
        rw [hR]; exact ht
      | some c =>
        refine C_is_none ⟨_, rfl, ?_⟩
        k_extra "no"
        refine T_isValue (by k_extra "rf") ?_
        k_extra "bi"
        k_extra "bi"
        refine L_isinst (v := .str c) (cls_k G) other_type rfl (one_str_list G) ⟨_, rfl, ?_⟩
        k_extra "yes"
        k_extra "bi"
        refine L_len_tup (le₄ _ _ (m₂ _ _ hb₂)) (by rw [List.length_map]; omega) ?_
        k_extra "go"
        refine B_sub ?_
        k_extra "go"
        refine C_eq_int ⟨_, rfl, fun hb => ?_, fun hb => ?_⟩
        · rw [List.length_map, beq_iff_eq] at hb
          k_extra "go"
          refine T_Global (G.nm "BOUND" _ rfl) rfl (by k_extra "rf") (by k_extra "rf") fun v' e => ?_
          subst e
          k_extra "go"
          refine ⟨by simp, fun t σ₅ nt le₅ ht => ?_⟩
          refine ⟨le.trans ((m₂.trans le₄).trans le₅), t, rfl, ?_⟩
          rw [hR]; simp only; rw [if_pos (by omega)]; exact ht
        · rw [List.length_map, beq_eq_false_iff_ne] at hb
          k_extra "go"
          refine T_Global (G.nm "LONG" _ rfl) rfl (by k_extra "rf") (by k_extra "rf") fun v' e => ?_
          subst e
          k_extra "go"
          refine B_add ?_
          k_extra "go"
          refine ⟨by simp, fun t σ₅ nt le₅ ht => ?_⟩
          refine ⟨le.trans ((m₂.trans le₄).trans le₅), t, rfl, ?_⟩
          rw [hR]; simp only; rw [if_neg (by omega)]; exact ht
  · obtain ⟨l, ps, rest, hs, m, hl', hz', hF, hR⟩ := h
    refine weakS hs ?_
    rw [List.length_map, List.drop_length] at hF
    rw [List.length_map] at hR
    cases rest with
    | cons _ _ => exact hF.elim
    | nil =>
    k_extra "go"
    refine T_Global (G.nm "PREFIX" _ rfl) rfl (by k_extra "rf") (by k_extra "rf") fun v' e => ?_
    subst e
    k_extra "go"
    refine ⟨by simp, fun t σ₅ nt le₅ ht => ?_⟩
    refine ⟨le.trans (m.trans le₅), t, rfl, ?_⟩
    rw [hR]; exact ⟨l, ht, le₅ _ _ hl'⟩
end

section
variable {W : Wd} {n : Nat} {env : Env} {ρ : Rho} {σ : AHeap}
theorem sp_lookup2 (G : Good W) {a b : Addr} {ps : List AV} {ks : List Key} {alls : List (List TC)}
    (ha : σ a = some (.list ps)) (hz : ps.length ≤ 9) (hk : σ b = some (.tup (ks.map Key.av))) (hok : ∀ k ∈ ks, k.ok) (hkz : ks.length ≤ 100) (h : FPs σ ps ks alls) :
    Spec W 6 240 [.ref a, .ref b] σ (fun r σ' => Le σ σ' ∧ ∃ t, r = .ref t ∧ resAt σ' t (resL ks.length 0 ps alls)) :=
  lookup_core (d := false) G (bindDef (v := .bool false) rfl (by rw [G.k]; rfl) fun vs e => by
      obtain ⟨a, b, rfl, ex, ey⟩ := map_two e
      exact ⟨[("maps", a), ("keys", b), ("takes_default", .bool false)], by rw [← ex, ← ey]; rfl, _, rfl, rfl⟩) ha hz hk hok hkz h
theorem sp_lookup3 (G : Good W) {a b : Addr} {d : Bool} {ps : List AV} {ks : List Key} {alls : List (List TC)}
    (ha : σ a = some (.list ps)) (hz : ps.length ≤ 9) (hk : σ b = some (.tup (ks.map Key.av))) (hok : ∀ k ∈ ks, k.ok) (hkz : ks.length ≤ 100) (h : FPs σ ps ks alls) :
    Spec W 6 240 [.ref a, .ref b, .bool d] σ (fun r σ' => Le σ σ' ∧ ∃ t, r = .ref t ∧ resAt σ' t (resL ks.length 0 ps alls)) :=
  lookup_core G (bindDef (v := .bool false) rfl (by rw [G.k]; rfl) fun vs e => by
      obtain ⟨a, r, rfl, ex, hr⟩ := List.map_eq_cons_iff.mp e
      obtain ⟨b, c, rfl, ey, ez⟩ := map_two hr
      exact ⟨[("maps", a), ("keys", b), ("takes_default", c)], by rw [← ex, ← ey, ← ez]; rfl, _, rfl, rfl⟩) ha hz hk hok hkz h
def afterR (c : Str) : Res → Str
  | .bound x => x
  | _ => c
theorem res_word {σ : AHeap} {t : Addr} {R : Res} (h : resAt σ t R) : ∃ (w : Str) (v : AV), σ t = some (.tup [.str w, v]) ∧ ((w = "bound" ∧ ∃ c, R = .bound c ∧ v = .str c) ∨ (w ≠ "bound" ∧ ∀ c, R ≠ .bound c)) := by
  cases R with
  | none => exact ⟨_, _, h, .inr ⟨by decide, fun c e => nomatch e⟩⟩
  | bound c => exact ⟨_, _, h, .inl ⟨rfl, c, rfl, rfl⟩⟩
  | long k => exact ⟨_, _, h, .inr ⟨by decide, fun c e => nomatch e⟩⟩
  | pre ps => obtain ⟨l, h, _⟩ := h; exact ⟨_, _, h, .inr ⟨by decide, fun c e => nomatch e⟩⟩
theorem sp_remapped (G : Good W) {a : Addr} {c : Str} {ps : List AV} {alls : List (List TC)} (ha : σ a = some (.list ps)) (hz : ps.length ≤ 9) (h : FPs σ ps [.s "remap", .s c] alls) :
    Spec W 7 247 [.ref a, .str c] σ (fun r σ' => Le σ σ' ∧ r = .str (afterR c (resL 2 0 ps alls))) := by
  refine enterB (ρ₀ := [("maps", .ref a), ("command", .str c)]) ["maps", "command"] (fn_remapped G) (bind2 fun _ _ => rfl) rfl (by decide) rfl fun L => ?_
  k_extra "start"
  k_extra "as1"
  refine T_CallFn (m := 6) (at_lookup_keys G) (by decide) rfl (by k_extra "rf") ?_
  k_extra "go"
  refine ⟨by simp, fun b σ₁ nb le₁ hb => ?_⟩
  k_extra "go"
  refine (sp_lookup2 G (ks := [.s "remap", .s c]) (le₁ _ _ ha) hz hb (by intro k hk; simp at hk; rcases hk with rfl | rfl <;> trivial) (by show 2 ≤ 100; decide) (h.le le₁)).mono ?_
  rintro _ σ₂ ⟨le₂, t, rfl, ht⟩
  obtain ⟨w, v, ht', hw⟩ := res_word ht
  intro wv ew
  refine T_assign2 (by k_extra "rf") ew (.inl ht') fun x y ex ey => ?_
  k_extra "nm"
  k_extra "nm"
  rw [ex, ey]
  refine T_Global (G.nm "BOUND" _ rfl) rfl (by k_extra "rf") (by k_extra "rf") fun v' e => ?_
  subst e
  refine C_eq trivial trivial ⟨_, rfl, fun hb => ?_, fun hb => ?_⟩
  · have e := of_decide_eq_true hb
    k_extra "go"
    rcases hw with ⟨_, c', hc, rfl⟩ | ⟨hn, _⟩
    · refine ⟨le₁.trans le₂, ?_⟩; rw [show resL 2 0 ps alls = .bound c' from hc]; rfl
    · exact absurd (by injection e) hn
  · have e := of_decide_eq_false hb
    k_extra "go"
    rcases hw with ⟨rfl, _⟩ | ⟨_, hn⟩
    · exact absurd rfl e
    · refine ⟨le₁.trans le₂, ?_⟩
      have : afterR c (resL 2 0 ps alls) = c := by
        cases q : resL 2 0 ps alls with
        | bound x => exact absurd q (hn x)
        | _ => rfl
      rw [this]; rfl
def afterK (f : Str → List (List TC)) (ps : List AV) : Res → AV
  | .bound c => .str (afterR c (resL 2 0 ps (f c)))
  | _ => .none
theorem sp_key_binding (G : Good W) {a b : Addr} {ps : List AV} {ks : List Key} {alls : List (List TC)} {f : Str → List (List TC)} (ha : σ a = some (.list ps)) (hz : ps.length ≤ 9) (hk : σ b = some (.tup (ks.map Key.av))) (hok : ∀ k ∈ ks, k.ok) (hkz : ks.length ≤ 100)
    (h : FPs σ ps ks alls) (hf : ∀ c, resL ks.length 0 ps alls = .bound c → FPs σ ps [.s "remap", .s c] (f c)) :
    Spec W 8 255 [.ref a, .ref b] σ (fun r σ' => Le σ σ' ∧ r = afterK f ps (resL ks.length 0 ps alls)) := by
  refine enterB (ρ₀ := [("maps", .ref a), ("keys", .ref b), ("takes_default", .bool true)]) ["maps", "keys", "takes_default"] (fn_key_binding G) (bindDef (v := .bool true) rfl (by rw [G.k]; rfl) fun vs e => by
      obtain ⟨a, b, rfl, ex, ey⟩ := map_two e
      exact ⟨[("maps", a), ("keys", b), ("takes_default", .bool true)], by rw [← ex, ← ey]; rfl, _, rfl, rfl⟩) rfl (by decide) rfl fun L => ?_
  k_extra "start"
  k_extra "as1"
  refine T_CallFn (m := 6) (at_lookup_keys G) (by decide) rfl (by k_extra "rf") ?_
  k_extra "go"
  refine (sp_lookup3 G ha hz hk hok hkz h).mono ?_
  rintro _ σ₂ ⟨le₂, t, rfl, ht⟩
  obtain ⟨w, v, ht', hw⟩ := res_word ht
  intro wv ew
  refine T_assign2 (by k_extra "rf") ew (.inl ht') fun x y ex ey => ?_
  k_extra "nm"
  k_extra "nm"
  rw [ex, ey]
  refine T_Global (G.nm "BOUND" _ rfl) rfl (by k_extra "rf") (by k_extra "rf") fun v' e => ?_
  subst e
  rcases hw with ⟨rfl, c, hc, rfl⟩ | ⟨hn, hc⟩
  · refine C_ne trivial trivial ⟨_, rfl, (fun hb => by simp [ab] at hb), fun _ => ?_⟩
    k_extra "go"
    refine T_isValue (by k_extra "rf") ?_
    k_extra "bi"
    k_extra "bi"
    refine L_isinst (v := .str c) (cls_k G) other_type rfl (one_str_str G) ⟨_, rfl, ?_⟩
    k_extra "yes"
    refine T_CallFn (m := 7) (at_remapped G) (by decide) rfl (by k_extra "rf") ?_
    k_extra "go"
    refine (sp_remapped G (le₂ _ _ ha) hz ((hf c hc).le le₂)).mono ?_
    rintro _ σ₃ ⟨le₃, rfl⟩
    refine ⟨le₂.trans le₃, ?_⟩
    rw [hc]; rfl
  · refine C_ne trivial trivial ⟨_, rfl, (fun _ => ?_), (fun hb => absurd (show w = "bound" by simp [ab] at hb; exact hb) hn)⟩
    k_extra "go"
    refine ⟨le₂, ?_⟩
    cases q : resL ks.length 0 ps alls with
    | bound x => exact absurd q (hc x)
    | _ => rfl
end

section
variable {old new : Str}
def swC (old new : Str) (c : Option Str) : Option Str := if c = some old then some new else c
def swR (old new : Str) (r : Rows) : Rows := r.map fun p => (p.1, swC old new p.2)
def swF (old new : Str) : Bnd → Bnd
  | .leaf c => .leaf (swC old new c)
  | b => b
def swB (old new : Str) : Bnd → Bnd
  | .leaf c => .leaf (swC old new c)
  | .map r => .map (swR old new r)
def swL (old new : Str) (T : Tree) : Tree := T.map fun p => (p.1, swF old new p.2)
def swT (old new : Str) (T : Tree) : Tree := T.map fun p => (p.1, swB old new p.2)
def cC (old : Str) (c : Option Str) : Nat := if c = some old then 1 else 0
def cR (old : Str) : Rows → Nat
  | [] => 0
  | p :: r => cC old p.2 + cR old r
def c1 (old : Str) : Tree → Nat
  | [] => 0
  | (_, .leaf c) :: r => cC old c + c1 old r
  | (_, .map _) :: r => c1 old r
def cT (old : Str) : Tree → Nat
  | [] => 0
  | (_, .leaf c) :: r => cC old c + cT old r
  | (_, .map m) :: r => cR old m + cT old r
def mapsOf : Tree → List (Key × Rows)
  | [] => []
  | (_, .leaf _) :: r => mapsOf r
  | (k, .map m) :: r => (k, m) :: mapsOf r
def cM (old : Str) : List (Key × Rows) → Nat
  | [] => 0
  | p :: r => cR old p.2 + cM old r
def fillM (old new : Str) (T : Tree) (ms : List (Key × Rows)) : Tree := ms.foldr (fun q T => tput T q.1 (.map (swR old new q.2))) T
theorem c_split (T : Tree) : c1 old T + cM old (mapsOf T) = cT old T := by
  induction T with
  | nil => rfl
  | cons p r ih =>
    obtain ⟨k, b⟩ := p
    cases b with
    | leaf c => show cC old c + c1 old r + cM old (mapsOf r) = cC old c + cT old r; omega
    | map m => show c1 old r + (cR old m + cM old (mapsOf r)) = cR old m + cT old r; omega
theorem cR_app (a b : Rows) : cR old (a ++ b) = cR old a + cR old b := by
  induction a with
  | nil => show cR old b = 0 + cR old b; omega
  | cons p r ih => show cC old p.2 + cR old (r ++ b) = cC old p.2 + cR old r + cR old b; omega
theorem c1_app (a b : Tree) : c1 old (a ++ b) = c1 old a + c1 old b := by
  induction a with
  | nil => show c1 old b = 0 + c1 old b; omega
  | cons p r ih =>
    obtain ⟨k, u⟩ := p
    cases u with
    | leaf c => show cC old c + c1 old (r ++ b) = cC old c + c1 old r + c1 old b; omega
    | map m => exact ih
theorem cM_app (a b : List (Key × Rows)) : cM old (a ++ b) = cM old a + cM old b := by
  induction a with
  | nil => show cM old b = 0 + cM old b; omega
  | cons p r ih => show cR old p.2 + cM old (r ++ b) = cR old p.2 + cM old r + cM old b; omega
theorem mapsOf_app (a b : Tree) : mapsOf (a ++ b) = mapsOf a ++ mapsOf b := by
  induction a with
  | nil => rfl
  | cons p r ih =>
    obtain ⟨k, u⟩ := p
    cases u with
    | leaf c => exact ih
    | map m => show (k, m) :: mapsOf (r ++ b) = (k, m) :: (mapsOf r ++ mapsOf b); rw [ih]
theorem mapsOf_keys {T : Tree} {q : Key × Rows} (h : q ∈ mapsOf T) : (q.1, Bnd.map q.2) ∈ T := by
  induction T with
  | nil => cases h
  | cons p r ih =>
    obtain ⟨k, u⟩ := p
    cases u with
    | leaf c => exact List.mem_cons_of_mem _ (ih h)
    | map m =>
      rcases List.mem_cons.mp h with rfl | h
      · exact List.mem_cons_self
      · exact List.mem_cons_of_mem _ (ih h)
theorem mapsOf_nodup {T : Tree} (h : (tkeys T).Nodup) : ((mapsOf T).map (·.1)).Nodup := by
  induction T with
  | nil => exact List.nodup_nil
  | cons p r ih =>
    obtain ⟨k, u⟩ := p
    unfold tkeys at h ih
    rw [List.map_cons, List.nodup_cons] at h
    cases u with
    | leaf c => exact ih h.2
    | map m =>
      show ((k, m) :: mapsOf r).map (·.1) |>.Nodup
      rw [List.map_cons, List.nodup_cons]
      refine ⟨fun q => h.1 ?_, ih h.2⟩
      obtain ⟨q, hq, e⟩ := List.mem_map.mp q
      exact List.mem_map.mpr ⟨_, mapsOf_keys hq, e⟩
theorem fillM_head {T : Tree} {k : Key} {b : Bnd} {ms : List (Key × Rows)} (h : k ∉ ms.map (·.1)) : fillM old new ((k, b) :: T) ms = (k, b) :: fillM old new T ms := by
  induction ms with
  | nil => rfl
  | cons q r ih =>
    rw [List.map_cons, List.mem_cons, not_or] at h
    show tput (fillM old new ((k, b) :: T) r) q.1 _ = (k, b) :: tput (fillM old new T r) q.1 _
    rw [ih h.2]
    show (if k = q.1 then _ else _) = _
    rw [if_neg h.1]
theorem fillM_all {T : Tree} (h : (tkeys T).Nodup) : fillM old new (swL old new T) (mapsOf T) = swT old new T := by
  induction T with
  | nil => rfl
  | cons p r ih =>
    obtain ⟨k, u⟩ := p
    have hn := h
    unfold tkeys at h
    rw [List.map_cons, List.nodup_cons] at h
    have hk : k ∉ (mapsOf r).map (·.1) := fun q => h.1 (by
      obtain ⟨q, hq, e⟩ := List.mem_map.mp q
      exact List.mem_map.mpr ⟨_, mapsOf_keys hq, e⟩)
    cases u with
    | leaf c =>
      show fillM old new ((k, _) :: swL old new r) (mapsOf r) = (k, _) :: swT old new r
      rw [fillM_head hk, ih h.2]; rfl
    | map m =>
      show tput (fillM old new ((k, _) :: swL old new r) (mapsOf r)) k _ = (k, _) :: swT old new r
      rw [fillM_head hk, ih h.2]
      show (if k = k then _ else _) = _
      rw [if_pos rfl]; rfl
theorem fillM_snoc {T : Tree} {ms : List (Key × Rows)} {q : Key × Rows} : fillM old new T (ms ++ [q]) = fillM old new (tput T q.1 (.map (swR old new q.2))) ms := by
  unfold fillM; rw [List.foldr_append]; rfl
theorem tput_mid {A B : Tree} {k : Key} {b b' : Bnd} (h : k ∉ tkeys A) : tput (A ++ (k, b) :: B) k b' = A ++ (k, b') :: B := by
  induction A with
  | nil => show (if k = k then _ else _) = _; rw [if_pos rfl]; rfl
  | cons p r ih =>
    obtain ⟨j, u⟩ := p
    unfold tkeys at h ih
    rw [List.map_cons, List.mem_cons, not_or] at h
    show (if j = k then _ else _) = _
    rw [if_neg (fun e => h.1 e.symm)]
    show (j, u) :: tput (r ++ (k, b) :: B) k b' = _
    rw [ih h.2]; rfl
theorem rput_mid {A B : Rows} {k : Key} {b b' : Option Str} (h : k ∉ A.map (·.1)) : rput (A ++ (k, b) :: B) k b' = A ++ (k, b') :: B := by
  induction A with
  | nil => show (if k = k then _ else _) = _; rw [if_pos rfl]; rfl
  | cons p r ih =>
    obtain ⟨j, u⟩ := p
    rw [List.map_cons, List.mem_cons, not_or] at h
    show (if j = k then _ else _) = _
    rw [if_neg (fun e => h.1 e.symm)]
    show (j, u) :: rput (r ++ (k, b) :: B) k b' = _
    rw [ih h.2]; rfl
theorem swL_keys (T : Tree) : tkeys (swL old new T) = tkeys T := by unfold tkeys swL; rw [List.map_map]; rfl
theorem swT_keys (T : Tree) : tkeys (swT old new T) = tkeys T := by unfold tkeys swT; rw [List.map_map]; rfl
theorem swR_keys (T : Rows) : (swR old new T).map (·.1) = T.map (·.1) := by unfold swR; rw [List.map_map]; rfl
end
section
variable {W : Wd} {n : Nat} {env : Env} {ρ : Rho} {σ : AHeap}
/-- two names, stored from the right -/
theorem S_AssignSwap {x y : Str} {px py tp pos : Pos} {k : Nat} {value : Expr} {Q : AFlow → Rho → AHeap → Prop} (hs : swapsWithSole [.Tuple [.Name x px, .Name y py] k tp] value pos.line env = pure false) (hw : swappedStores [.Tuple [.Name x px, .Name y py] k tp] value env = pure (some [x, y]))
    (hx : Sto env x) (hy : Sto env y) (h : T W n env ab (eval value env) (fun v ρ σ => ∃ a v1 v2, v = .ref a ∧ σ a = some (.tup [v1, v2]) ∧ ∃ ρ', Up y v2 ρ ρ' ∧ ∃ ρ'', Up x v1 ρ' ρ'' ∧ Q .next ρ'' σ) ρ σ) :
    TS W n env (exec (.Assign [.Tuple [.Name x px, .Name y py] k tp] value pos) env) Q ρ σ := fun F A s r S => by
  refine Assign_Tuple_swapped (names := [x, y]) (wpAny_mono (h F A s r S) (fun v s₁ ⟨ρ₁, σ₁, qq, S₁⟩ => ?_) fun _ _ e => e) hs hw
  obtain ⟨a, v1, v2, ev, ha, ρ', u1, ρ'', u2, q⟩ := qq
  obtain rfl := ab_ref ev
  obtain ⟨us, hu, e⟩ := (S₁.sh.hp _ _ ha).tupE
  obtain ⟨z1, z2, rfl, e1, e2⟩ := map_two e
  subst e1 e2
  refine unpackItems_tuple (items := [z1, z2].toArray) r.1 hu fun h' hx' => ?_
  have S₂ := S₁.ext s₁.toks fun b o e => hx' b o (Nat.ne_of_lt (Heap.lt_size e)) e
  refine O_cons (ρ := ρ₁) (σ := σ₁) (Q := fun _ => Q .next) (W := W) (n := n) (env := env) (m := fun v => bindName env y v) (ms := [fun v => bindName env x v]) (x := z2) (xs := [z1]) ?_ F A _ r S₂
  refine fun F A s r S => wpAny_bindName (T_store (Q := fun _ => T W n env id (assignInOrder [fun v => bindName env x v] [z1]) (fun _ => Q .next)) hy u1 ?_ F A s r S)
  refine O_cons ?_
  refine fun F A s r S => wpAny_bindName (T_store (Q := fun _ => T W n env id (assignInOrder [] []) (fun _ => Q .next)) hx u2 ?_ F A s r S)
  exact O_nil q
end

section
variable {W : Wd} {n : Nat} {env : Env} {ρ : Rho} {σ : AHeap}
theorem tget_mid {A B : Tree} {k : Key} {b : Bnd} (h : k ∉ tkeys A) : tget (A ++ (k, b) :: B) k = some b := by
  induction A with
  | nil => unfold tget; simp
  | cons p r ih =>
    obtain ⟨j, u⟩ := p
    unfold tkeys at h ih
    rw [List.map_cons, List.mem_cons, not_or] at h
    have e : ¬ j = k := fun q => h.1 q.symm
    have := ih h.2
    unfold tget at this ⊢
    rw [List.cons_append, List.find?_cons]
    simp only [e, decide_false]; exact this
theorem rget_mid {A B : Rows} {k : Key} {c : Option Str} (h : k ∉ A.map (·.1)) : dget (lrows (A ++ (k, c) :: B)) k = some (lav c) := by
  induction A with
  | nil => unfold dget lrows; simp
  | cons p r ih =>
    obtain ⟨j, u⟩ := p
    rw [List.map_cons, List.mem_cons, not_or] at h
    have e : ¬ j = k := fun q => h.1 q.symm
    have := ih h.2
    unfold dget lrows at this ⊢
    rw [List.cons_append, List.map_cons, List.find?_cons]
    simp only [e, decide_false]; exact this
structure SQ where
  k : Key
  rows : Rows
  sub : Addr
def SQ.kr (q : SQ) : Key × Rows := (q.k, q.rows)
/-- substitute is on its way: ps is still to be done -/
structure SP (σ σ' : AHeap) (old new : Str) (x w mt : Addr) (reg : Nat) (p : AV) (T : Tree) (kvs : List (Key × AV)) (To : Tree) (ps : List SQ) (m : Nat) : Prop where
  top : KM0 σ' x (reg, none) p kvs
  at_ : RAt KSub σ' reg kvs To
  nod : (tkeys To).Nodup
  fill : fillM old new To (ps.map SQ.kr) = swT old new T
  pnod : (ps.map (·.k)).Nodup
  pe : ∀ q ∈ ps, dget kvs q.k = some (.ref q.sub) ∧ KSub σ' q.sub (reg, some q.k) q.rows ∧ q.rows.length ≤ 100
  wl : σ' w = some (.list (ps.map fun q => .ref q.sub))
  ml : ∃ vs, σ' mt = some (.list vs) ∧ vs.length + ps.length ≤ 200
  cnt : m + cM old (ps.map SQ.kr) = cT old T
  md : Mod (·.1 = reg) σ σ'
theorem SP.le {σ σ1 σ2 : AHeap} {old new : Str} {x w mt : Addr} {reg : Nat} {p : AV} {T : Tree} {kvs : List (Key × AV)} {To : Tree} {ps : List SQ} {m : Nat} (h : SP σ σ1 old new x w mt reg p T kvs To ps m) (l : Le σ1 σ2) : SP σ σ2 old new x w mt reg p T kvs To ps m :=
  ⟨h.top.le l, h.at_.kt (KT.of_le l), h.nod, h.fill, h.pnod, fun q hq => ⟨(h.pe q hq).1, KM0.le (h.pe q hq).2.1 l, (h.pe q hq).2.2⟩, l _ _ h.wl, by obtain ⟨vs, a, b⟩ := h.ml; exact ⟨vs, l _ _ a, b⟩, h.cnt, h.md.trans (Mod.of_le l)⟩
inductive SuR (σ : AHeap) (old new : Str) (x : Addr) (reg : Nat) (p : AV) (T : Tree) (r : AV) (σ' : AHeap) : Prop
  | mk (e : r = .int (cT old T)) (h : KTop σ' x reg p (swT old new T)) (m : Mod (·.1 = reg) σ σ') : SuR σ old new x reg p T r σ'
inductive SW (σ σ₃ : AHeap) (old new : Str) (x w mt : Addr) (reg : Nat) (p : AV) (T : Tree) (k : Nat) (ρ : Rho) (σ' : AHeap) : Prop
  | fst (e : k = T.length + 1) (hs : Sub [("many", .int 0), ("waiting", .ref w), ("met", .ref mt), ("old", .str old), ("new", .str new)] ρ) (es : σ' = σ₃) : SW σ σ₃ old new x w mt reg p T k ρ σ'
  | snd (kvs : List (Key × AV)) (To : Tree) (ps : List SQ) (m : Nat) (z : Int) (e : k = ps.length) (hz : z = ((m : Nat) : Int)) (hs : Sub [("many", .int z), ("waiting", .ref w), ("met", .ref mt), ("old", .str old), ("new", .str new)] ρ)
      (sp : SP σ σ' old new x w mt reg p T kvs To ps m) : SW σ σ₃ old new x w mt reg p T k ρ σ'
inductive SJ1 (σ : AHeap) (old new : Str) (x w mt la : Addr) (reg : Nat) (p : AV) (T : Tree) (kvs₀ : List (Key × AV)) (i : Nat) (ρ : Rho) (σ' : AHeap) : Prop
  | mk (kvs : List (Key × AV)) (ps : List SQ) (z : Int) (hz : z = ((c1 old (T.take i) : Nat) : Int)) (hs : Sub [("many", .int z), ("waiting", .ref w), ("met", .ref mt), ("old", .str old), ("new", .str new), ("here", .ref x)] ρ)
      (j1 : KM0 σ' x (reg, none) p kvs) (j2 : RAt KSub σ' reg kvs (swL old new (T.take i) ++ T.drop i)) (j3 : mapsOf (T.take i) = ps.map SQ.kr) (j4 : ∀ q ∈ ps, dget kvs q.k = some (.ref q.sub) ∧ KSub σ' q.sub (reg, some q.k) q.rows)
      (j5 : σ' w = some (.list (ps.map fun q => .ref q.sub))) (j6 : σ' mt = some (.list [.ref x])) (j7 : ps.length ≤ i) (j8 : Mod (·.1 = reg) σ σ') (j9 : σ' la = some (.list (kvs₀.map fun p => p.1.av))) : SJ1 σ old new x w mt la reg p T kvs₀ i ρ σ'
inductive SJ2 (σ : AHeap) (old new : Str) (x w mt la : Addr) (reg : Nat) (p : AV) (kvs : List (Key × AV)) (To : Tree) (m : Nat) (q : SQ) (ps' : List SQ) (vs : List AV) (i : Nat) (ρ : Rho) (σ' : AHeap) : Prop
  | mk (z : Int) (hz : z = ((m + cR old (q.rows.take i) : Nat) : Int)) (hs : Sub [("many", .int z), ("waiting", .ref w), ("met", .ref mt), ("old", .str old), ("new", .str new), ("here", .ref q.sub)] ρ) (j1 : KM0 σ' x (reg, none) p kvs)
      (j2 : RAt KSub σ' reg kvs (tput To q.k (.map (swR old new (q.rows.take i) ++ q.rows.drop i)))) (j3 : KSub σ' q.sub (reg, some q.k) (swR old new (q.rows.take i) ++ q.rows.drop i))
      (j4 : ∀ q' ∈ ps', q'.k ≠ q.k ∧ KSub σ' q'.sub (reg, some q'.k) q'.rows) (j5 : σ' w = some (.list (ps'.map fun q => .ref q.sub))) (j6 : σ' mt = some (.list (vs ++ [.ref q.sub]))) (j7 : Mod (·.1 = reg) σ σ')
      (j8 : σ' la = some (.list ((lrows q.rows).map fun p => p.1.av))) : SJ2 σ old new x w mt la reg p kvs To m q ps' vs i ρ σ'
theorem sp_substitute (G : Good W) {old new : Str} {x : Addr} {reg : Nat} {p : AV} {T : Tree} (hx : KTop σ x reg p T) (hz : T.length ≤ 100) (hrz : ∀ k rows, (k, Bnd.map rows) ∈ T → rows.length ≤ 100) :
    Spec W 2 260 [.ref x, .str old, .str new] σ (SuR σ old new x reg p T) := by
  obtain ⟨kvs₀, hk, hr⟩ := hx
  obtain ⟨d, r, ep, e1, e2, e3⟩ := id hk
  refine enterB (ρ₀ := [("keymap", .ref x), ("old", .str old), ("new", .str new)]) ["keymap", "old", "new"] (fn_substitute G) (bind3 fun _ _ _ => rfl) rfl (by decide) rfl fun L => T_nodup e3 fun hnod => ?_
  have hT : kvs₀.map (·.1) = tkeys T := hr.keys
  have hTn : (tkeys T).Nodup := hT ▸ hnod
  k_extra "start"
  k_extra "asg"
  k_extra "set"
  refine S_AssignSwap (by k_extra "rf") (by k_extra "rf") (by k_extra "sto") (by k_extra "sto") ?_
  k_extra "go"
  refine ⟨by simp, fun w σ₁ nw le₁ hw => ?_⟩
  k_extra "go"
  refine ⟨by simp, fun mt σ₂ nmt le₂ hmt => ?_⟩
  k_extra "go"
  refine ⟨by simp, fun t σ₃ nt le₃ ht => ?_⟩
  refine ⟨t, _, _, rfl, ht, ?_⟩
  k_extra "set"
  k_extra "set"
  have wm : mt ≠ w := fun q => by rw [q, hw] at nmt; cases nmt
  have nmt₀ : σ mt = none := by
    cases q : σ mt with
    | none => rfl
    | some o => rw [le₁ _ _ q] at nmt; cases nmt
  have le := (le₁.trans le₂).trans le₃
  have hw₃ := le₃ _ _ (le₂ _ _ hw)
  have hmt₃ := le₃ _ _ hmt
  refine S_While (SW σ σ₃ old new x w mt reg p T) (T.length + 1) (.fst rfl (by k_extra "sub") rfl) ?_
  rintro k ρ σ' (⟨rfl, hs, rfl⟩ | ⟨kvs, To, ps, m, z, rfl, hz', hs, sp⟩)
  · refine weakS hs ?_
    k_extra "go"
    refine ⟨by simp, fun e σ₄ ne le₄ he => C_ne_list0 (le₄ _ _ hw₃) he ⟨_, rfl, ?_⟩⟩
    k_extra "yes"
    k_extra "asg"
    refine T_MethB (by k_extra "rf") PySem.F.plainAttrs_list PySem.F.slot_list_pop PySem.F.type_list_pop ?_
    k_extra "go"
    have hw₄ := le₄ _ _ hw₃
    refine ⟨w, _, rfl, hw₄, fun h => ty_list h, ?_⟩
    k_extra "go"
    refine L_pop (vs := []) (v := .ref x) hw₄ (by decide) fun σ₅ c₅ => ?_
    k_extra "set"
    refine T_MethB (by k_extra "rf") PySem.F.plainAttrs_list PySem.F.slot_list_append PySem.F.type_list_append ?_
    k_extra "go"
    have hmt₅ := c₅.2 _ _ wm (le₄ _ _ hmt₃)
    refine ⟨mt, _, rfl, hmt₅, fun h => ty_list h, ?_⟩
    k_extra "go"
    refine L_append hmt₅ (by decide) fun σ₆ c₆ => ?_
    k_extra "go"
    have lx : Le σ σ₆ := ((le.trans le₄).chg nw c₅).chg nmt₀ c₆
    have hk₆ := hk.le lx
    have hr₆ : RAt KSub σ₆ reg kvs₀ T := hr.kt (KT.of_le lx)
    have hw₆ : σ₆ w = some (.list []) := c₆.2 _ _ wm.symm c₅.1
    refine S_ForList (by intro; rfl) (by k_extra "sto") ?_
    k_extra "bi"
    refine T_rows G (by k_extra "rf") ?_
    k_extra "go"
    refine ⟨x, _, _, _, rfl, hk₆, fun d' r' ep' q1 q2 q3 => ?_⟩
    k_extra "go"
    refine L_list_dict q3 (by rw [hr.length]; omega) fun la σ₇ nla le₇ hla => ?_
    have nla₀ : σ la = none := by
      cases q : σ la with
      | none => rfl
      | some o => rw [lx _ _ q] at nla; cases nla
    have law : la ≠ w := fun q => by rw [q, hw₆] at nla; cases nla
    have lam : la ≠ mt := fun q => by rw [q, c₆.1] at nla; cases nla
    refine ⟨la, _, SJ1 σ old new x w mt la reg p T kvs₀,
      rfl, hla, ⟨kvs₀, [], 0, rfl, by k_extra "sub", hk₆.le le₇, hr₆.kt (KT.of_le le₇), rfl, (fun _ h => nomatch h), le₇ _ _ hw₆, le₇ _ _ c₆.1, Nat.le_refl _, Mod.of_le (lx.trans le₇), hla⟩,
      fun i ρ σ' h => by cases h; assumption, fun i u hu ρ σ' h => ?_, fun ρ σ' h => ?_⟩
    · obtain ⟨kvs, ps, z, hz', hs, j1, j2, j3, j4, j5, j6, j7, j8, j9⟩ := h
      rw [List.getElem?_map] at hu
      obtain ⟨⟨k, u'⟩, hki, rfl⟩ := Option.map_eq_some_iff.mp hu
      obtain ⟨b, hTi, _⟩ := hr.at hki
      have hlt : i < T.length := by
        rcases Nat.lt_or_ge i T.length with q | q
        · exact q
        · rw [List.getElem?_eq_none q] at hTi; cases hTi
      have hne : k ∉ tkeys (T.take i) := take_new hTn hTi
      have hne' : k ∉ tkeys (swL old new (T.take i)) := by rw [swL_keys]; exact hne
      have tks : T.take (i + 1) = T.take i ++ [(k, b)] := by rw [List.take_add_one, hTi]; rfl
      rw [drop_at hTi] at j2
      have step : swL old new (T.take (i + 1)) ++ T.drop (i + 1) = swL old new (T.take i) ++ (k, swF old new b) :: T.drop (i + 1) := by
        rw [tks]; unfold swL; rw [List.map_append, List.append_assoc]; rfl
      have kz : kvs.length ≤ 1000 := by rw [j2.length, List.length_append, List.length_cons, List.length_drop]; unfold swL; rw [List.length_map, List.length_take]; omega
      obtain ⟨v, hv, hb⟩ : ∃ v, dget kvs k = some v ∧ BAt KSub σ' reg k v b := by
        rcases j2.get k with ⟨_, h⟩ | ⟨v, b', h1, h2, h3⟩
        · rw [tget_mid hne'] at h; cases h
        · rw [tget_mid hne'] at h2; cases h2; exact ⟨v, h1, h3⟩
      refine weakS (sub_rset hs rfl) ?_
      k_extra "start"
      k_extra "asg"
      refine T_rows G (by k_extra "rf") ?_
      k_extra "go"
      refine ⟨x, _, _, _, rfl, j1, fun d' r' ep' q1 q2 q3 => ?_⟩
      k_extra "go"
      refine I_dict (by intro _ _; rfl) q3 hv ?_
      k_extra "set"
      refine T_isValue (by k_extra "rf") ?_
      refine T_CallFn (m := 1) (at_is_keymap G) (by decide) rfl (by k_extra "rf") ?_
      k_extra "go"
      cases b with
      | leaf c =>
        obtain rfl : v = lav c := hb
        have c1e : c1 old (T.take (i + 1)) = c1 old (T.take i) + cC old c := by rw [tks, c1_app]; rfl
        have mpe : mapsOf (T.take (i + 1)) = ps.map SQ.kr := by rw [tks, mapsOf_app, j3]; show _ ++ [] = _; rw [List.append_nil]
        have same : swC old new c = c → cC old c = 0 → ∀ ρ, Sub [("many", .int z), ("waiting", .ref w), ("met", .ref mt), ("old", .str old), ("new", .str new), ("here", .ref x)] ρ →
            SJ1 σ old new x w mt la reg p T kvs₀ (i + 1) ρ σ' := fun h1 h2 ρ hs =>
          ⟨kvs, ps, z, by rw [c1e, h2]; exact hz', hs, j1, by rw [step]; show RAt _ _ _ _ (_ ++ (k, .leaf (swC old new c)) :: _); rw [h1]; exact j2, mpe, j4, j5, j6, Nat.le_succ_of_le j7, j8, j9⟩
        cases c with
        | none =>
          refine (sp_is_keymap G (v := .none) rfl (one_NoneType_K G)).mono ?_
          rintro _ σ' ⟨rfl, rfl⟩
          refine ⟨_, rfl, ?_⟩
          k_extra "no"
          refine T_isValue (by k_extra "rf") ?_
          k_extra "bi"
          k_extra "bi"
          refine L_isinst (v := .none) (cls_k G) other_type rfl (one_NoneType_str G) ⟨_, rfl, ?_⟩
          refine ⟨(fun hb => nomatch hb), fun _ => ?_⟩
          refine ⟨(fun hb => nomatch hb), fun _ => ?_⟩
          k_extra "go"
          exact same rfl rfl _ (by k_extra "sub")
        | some c =>
          refine (sp_is_keymap G (v := .str c) rfl (one_str_K G)).mono ?_
          rintro _ σ' ⟨rfl, rfl⟩
          refine ⟨_, rfl, ?_⟩
          k_extra "no"
          refine T_isValue (by k_extra "rf") ?_
          k_extra "bi"
          k_extra "bi"
          refine L_isinst (v := .str c) (cls_k G) other_type rfl (one_str_str G) ⟨_, rfl, ?_⟩
          k_extra "yes"
          refine C_eq trivial trivial ⟨_, rfl, fun hb => ?_, fun hb => ?_⟩
          · have e : c = old := by have := of_decide_eq_true hb; injection this
            subst e
            k_extra "go"
            refine ⟨fun _ => ?_, (fun hb => nomatch hb)⟩
            k_extra "start"
            refine T_MethK (m := 1) (at_m_put G) (by decide) (by k_extra "rf") (fun _ _ => rfl) ?_
            k_extra "go"
            refine ⟨x, _, _, _, rfl, j1, ?_⟩
            k_extra "go"
            refine (sp_put G j1 kz).mono ?_
            rintro _ σ₉ ⟨rfl, hp, m₉⟩
            k_extra "go"
            k_extra "asg"
            refine B_add ?_
            k_extra "set"
            have n9 : ∀ {o : AObj} {a : Addr}, tagOf o = none → σ' a = some o → σ₉ a = some o := fun h e => m₉ _ _ e (fun g q => by rw [h] at q; cases q)
            refine ⟨_, ps, z + 1, ?_, by k_extra "sub", hp, ?_, mpe, fun q hq => ⟨?_, KM0.mod (j4 q hq).2 m₉ (fun e => by cases e)⟩, n9 rfl j5, n9 rfl j6, Nat.le_succ_of_le j7, j8.trans (m₉.mono fun g e => by rw [e]), n9 rfl j9⟩
            · rw [c1e, show cC c (some c) = 1 from if_pos rfl, hz']; rfl
            · rw [step]
              have := (j2.mod m₉ (fun _ e => by cases e)).put (k := k) (v := .str new) (b := .leaf (some new)) rfl
              rw [tput_mid hne'] at this
              show RAt _ _ _ _ (_ ++ (k, .leaf (swC c new (some c))) :: _)
              rw [show swC c new (some c) = some new from if_pos rfl]; exact this
            · have : q.k ≠ k := fun e => by
                rw [← e] at hv; rw [(j4 q hq).1] at hv; cases hv
              rw [dget_put, if_neg this]; exact (j4 q hq).1
          · have e : c ≠ old := fun e => of_decide_eq_false hb (by rw [e]; rfl)
            k_extra "go"
            refine ⟨(fun hb => nomatch hb), fun _ => ?_⟩
            k_extra "go"
            exact same (if_neg (fun q => e (by cases q; rfl))) (if_neg (fun q => e (by cases q; rfl))) _ (by k_extra "sub")
      | map rows =>
        obtain ⟨sub, rfl, hsub⟩ := hb
        refine (sp_is_keymap G (tyOf_km hsub) (one_K_K G)).mono ?_
        rintro _ σ' ⟨rfl, rfl⟩
        refine ⟨_, rfl, ?_⟩
        k_extra "yes"
        refine T_ListComp (by intro; rfl) (by k_extra "compok") ?_
        k_extra "go"
        refine B_add_list j6 j5 (by simp) (by rw [List.length_map]; omega) fun lb σ₈ nlb le₈ hlb => ?_
        refine ⟨[("binding", .ref sub)], by k_extra "cap", ?_⟩
        obtain ⟨ds, rs, eps, s1, s2, s3⟩ := id hsub
        have other : ∀ u ∈ (AV.ref x :: ps.map fun q => AV.ref q.sub), ∃ z g d, u = .ref z ∧ σ₈ z = some (.inst g d) ∧ z ≠ sub := fun u hu => by
          rcases List.mem_cons.mp hu with rfl | hu
          · obtain ⟨dx, rx, epx, x1, x2, x3⟩ := id j1
            exact ⟨x, _, _, rfl, le₈ _ _ x1, fun e => by rw [e, s1] at x1; cases x1⟩
          · obtain ⟨q, hq, rfl⟩ := List.mem_map.mp hu
            obtain ⟨dx, rx, epx, x1, x2, x3⟩ := id (j4 q hq).2
            refine ⟨q.sub, _, _, rfl, le₈ _ _ x1, fun e => ?_⟩
            rw [e, s1] at x1
            have : q.k = k := by cases x1; rfl
            have hm : q.k ∈ (mapsOf (T.take i)).map (·.1) := by rw [j3, List.map_map]; exact List.mem_map_of_mem (f := (fun q : SQ => q.k)) hq
            obtain ⟨z, hz, e'⟩ := List.mem_map.mp hm
            exact hne (by rw [← this, ← e']; exact List.mem_map_of_mem (f := (·.1)) (mapsOf_keys hz))
        refine comp_plain (fun i out σ' => out = [] ∧ σ' = σ₈) (iter_list hlb) ⟨rfl, rfl⟩ (by simp; omega) (fun i out σ' _ h => by rw [h.1]; exact Nat.zero_le _) (fun i out σ' h => by rw [h.2]; exact hlb) ?_ ?_
        · rintro i' u hi hu out σ' ⟨rfl, rfl⟩ C
          obtain ⟨z, g, dz, rfl, hz', hne''⟩ := other u (List.mem_of_getElem? hu)
          refine T_tests1 ?_
          k_extra "go"
          refine C_is_ref hz' (le₈ _ _ s1) ⟨_, rfl, ?_⟩
          rw [decide_eq_false hne'']
          exact ⟨(fun hb => nomatch hb), fun _ => ⟨rfl, rfl⟩⟩
        · rintro out σ' ⟨rfl, rfl⟩
          intro a₁ σ₁₀ na le₁₀ ha
          k_extra "go"
          refine ⟨by simp, fun b₁ σ₁₁ nb le₁₁ hb' => C_eq_list0 (le₁₁ _ _ ha) hb' ⟨_, rfl, ?_⟩⟩
          k_extra "yes"
          have l9 := (le₈.trans le₁₀).trans le₁₁
          refine T_MethB (by k_extra "rf") PySem.F.plainAttrs_list PySem.F.slot_list_append PySem.F.type_list_append ?_
          k_extra "go"
          refine ⟨w, _, rfl, l9 _ _ j5, fun h => ty_list h, ?_⟩
          k_extra "go"
          refine L_append (l9 _ _ j5) (by rw [List.length_map]; omega) fun σ₁₂ c₁₂ => ?_
          k_extra "go"
          have kt : KT _ σ₁₂ := fun a o e k => KT.of_chg (l9 _ _ j5) rfl c₁₂ a o (l9 _ _ e) k
          refine ⟨kvs, ps ++ [⟨k, rows, sub⟩], z, ?_, by k_extra "sub", j1.kt kt, ?_, ?_, fun q hq => ?_, ?_, c₁₂.2 _ _ wm (l9 _ _ j6), by rw [List.length_append]; exact Nat.succ_le_succ j7, (j8.trans (Mod.of_le l9)).chg nw c₁₂, c₁₂.2 _ _ law (l9 _ _ j9)⟩
          · rw [show c1 old (T.take (i + 1)) = c1 old (T.take i) by rw [tks, c1_app]; rfl]; exact hz'
          · rw [step]; exact j2.kt kt
          · rw [tks, mapsOf_app, j3, List.map_append]; rfl
          · rcases List.mem_append.mp hq with h | h
            · exact ⟨(j4 q h).1, KM0.kt (j4 q h).2 kt⟩
            · rw [List.mem_singleton.mp h]; exact ⟨hv, KM0.kt hsub kt⟩
          · rw [c₁₂.1, List.map_append]; rfl
    · obtain ⟨kvs, ps, z, hz', hs, j1, j2, j3, j4, j5, j6, j7, j8, j9⟩ := h
      refine weakS hs ?_
      k_extra "go"
      have kl : (kvs₀.map fun p => p.1.av).length = T.length := by rw [List.length_map]; exact hr.length
      rw [kl] at j2 j3 j7
      rw [List.take_length] at j3
      rw [List.take_length, List.drop_length, List.append_nil] at j2
      refine ⟨ps.length, by omega, .snd kvs (swL old new T) ps (c1 old T) z rfl (by rw [kl, List.take_length] at hz'; exact hz') (by k_extra "sub") ⟨j1, j2, by rw [swL_keys]; exact hTn, ?_, ?_, fun q hq => ⟨(j4 q hq).1, (j4 q hq).2, ?_⟩, j5, ⟨_, j6, by show 1 + ps.length ≤ 200; omega⟩, ?_, j8⟩⟩
      · rw [← j3]; exact fillM_all hTn
      · have := mapsOf_nodup hTn; rw [j3, List.map_map] at this; exact this
      · have : q.kr ∈ mapsOf T := by rw [j3]; exact List.mem_map_of_mem hq
        exact hrz _ _ (mapsOf_keys this)
      · rw [← j3]; exact c_split T
  · refine weakS hs ?_
    obtain ⟨vs, hml, vz⟩ := sp.ml
    k_extra "go"
    refine ⟨by simp, fun e σ₄ ne le₄ he => C_ne_list0 (le₄ _ _ sp.wl) he ⟨_, rfl, ?_⟩⟩
    have sp₄ := sp.le le₄
    have hml₄ := le₄ _ _ hml
    rcases List.eq_nil_or_concat ps with rfl | ⟨ps', q, rfl⟩
    · refine ⟨(fun hb => nomatch hb), fun _ => ?_⟩
      k_extra "go"
      refine ⟨?_, ⟨kvs, sp₄.top, ?_⟩, sp₄.md⟩
      · have : m = cT old T := sp.cnt
        rw [hz', this]; rfl
      · have : To = swT old new T := sp.fill
        rw [← this]; exact sp₄.at_
    · rw [List.concat_eq_append] at *
      have hwl : σ₄ w = some (.list (ps'.map (fun q => AV.ref q.sub) ++ [.ref q.sub])) := by have := sp₄.wl; rw [List.map_append] at this; exact this
      have hne' : (!((ps' ++ [q]).map (fun q => AV.ref q.sub)).isEmpty) = true := by simp
      rw [hne']
      have lz : ps'.length + 1 + vs.length ≤ 200 := by rw [List.length_append] at vz; simp at vz; omega
      k_extra "yes"
      k_extra "asg"
      refine T_MethB (by k_extra "rf") PySem.F.plainAttrs_list PySem.F.slot_list_pop PySem.F.type_list_pop ?_
      k_extra "go"
      refine ⟨w, _, rfl, hwl, fun h => ty_list h, ?_⟩
      k_extra "go"
      refine L_pop hwl (by rw [List.length_map]; omega) fun σ₅ c₅ => ?_
      k_extra "set"
      refine T_MethB (by k_extra "rf") PySem.F.plainAttrs_list PySem.F.slot_list_append PySem.F.type_list_append ?_
      k_extra "go"
      have hml₅ := c₅.2 _ _ wm hml₄
      refine ⟨mt, _, rfl, hml₅, fun h => ty_list h, ?_⟩
      k_extra "go"
      refine L_append hml₅ (by omega) fun σ₆ c₆ => ?_
      k_extra "go"
      have kt₅ := KT.of_chg hwl rfl c₅
      have kt₆ : KT σ₄ σ₆ := fun a o e k => KT.of_chg hml₅ rfl c₆ a o (kt₅ a o e k) k
      obtain ⟨qd, qs, qz⟩ := sp₄.pe q (by simp)
      have qs₆ := KM0.kt qs kt₆
      have md₆ : Mod (·.1 = reg) σ σ₆ := (sp₄.md.chg nw c₅).chg nmt₀ c₆
      obtain ⟨nd, nr, nep, n1, n2, n3⟩ := id qs₆
      refine T_nodup n3 fun hnod' => ?_
      have rnod : (q.rows.map (·.1)).Nodup := by unfold lrows at hnod'; rw [List.map_map] at hnod'; exact hnod'
      refine S_ForList (by intro; rfl) (by k_extra "sto") ?_
      k_extra "bi"
      refine T_rows G (by k_extra "rf") ?_
      k_extra "go"
      refine ⟨q.sub, _, _, _, rfl, qs₆, fun d' r' ep' q1 q2 q3 => ?_⟩
      k_extra "go"
      have ll : (lrows q.rows).length = q.rows.length := by unfold lrows; rw [List.length_map]
      refine L_list_dict q3 (by omega) fun la σ₇ nla le₇ hla => ?_
      have hw₆ : σ₆ w = some (.list (ps'.map (fun q => AV.ref q.sub))) := c₆.2 _ _ wm.symm c₅.1
      have law : la ≠ w := fun q => by rw [q, hw₆] at nla; cases nla
      have lam : la ≠ mt := fun q => by rw [q, c₆.1] at nla; cases nla
      have kt₇ : KT σ₄ σ₇ := fun a o e k => le₇ _ _ (kt₆ a o e k)
      refine ⟨la, _, SJ2 σ old new x w mt la reg p kvs To m q ps' vs,
        rfl, hla, ⟨z, hz', by k_extra "sub", sp₄.top.kt kt₇, ?_, KM0.kt qs kt₇, fun q' hq' => ⟨fun e => ?_, KM0.kt (sp₄.pe q' (by simp [hq'])).2.1 kt₇⟩, le₇ _ _ hw₆, le₇ _ _ c₆.1, md₆.trans (Mod.of_le le₇), hla⟩,
        fun i ρ σ' h => by cases h; assumption, fun i u hu ρ σ' h => ?_, fun ρ σ' h => ?_⟩
      · have := (sp₄.at_.kt kt₇).put (k := q.k) (v := .ref q.sub) (b := .map q.rows) ⟨q.sub, rfl, KM0.kt qs kt₇⟩
        rw [kput_same qd] at this; exact this
      · have := sp.pnod
        rw [List.map_append, List.nodup_append] at this
        exact this.2.2 _ (List.mem_map_of_mem (f := (·.k)) hq') q.k (by simp) e
      · obtain ⟨z, hz', hs, j1, j2, j3, j4, j5, j6, j7, j8⟩ := h
        obtain ⟨k, c, hc, rfl⟩ : ∃ k c, q.rows[i]? = some (k, c) ∧ u = k.av := by
          unfold lrows at hu
          rw [List.getElem?_map, List.getElem?_map] at hu
          cases e : q.rows[i]? with
          | none => rw [e] at hu; cases hu
          | some kc => rw [e] at hu; cases hu; exact ⟨kc.1, kc.2, rfl, rfl⟩
        have hlt : i < q.rows.length := by
          rcases Nat.lt_or_ge i q.rows.length with z | z
          · exact z
          · rw [List.getElem?_eq_none z] at hc; cases hc
        have hne : k ∉ (q.rows.take i).map (·.1) := take_new rnod hc
        have hne' : k ∉ (swR old new (q.rows.take i)).map (·.1) := by rw [swR_keys]; exact hne
        have tks : q.rows.take (i + 1) = q.rows.take i ++ [(k, c)] := by rw [List.take_add_one, hc]; rfl
        have step : swR old new (q.rows.take (i + 1)) ++ q.rows.drop (i + 1) = swR old new (q.rows.take i) ++ (k, swC old new c) :: q.rows.drop (i + 1) := by
          rw [tks]; unfold swR; rw [List.map_append, List.append_assoc]; rfl
        have ce : m + cR old (q.rows.take (i + 1)) = m + cR old (q.rows.take i) + cC old c := by rw [tks, cR_app]; show _ + (_ + (cC old c + 0)) = _; omega
        rw [drop_at hc] at j2 j3
        have kz : (lrows (swR old new (q.rows.take i) ++ (k, c) :: q.rows.drop (i + 1))).length ≤ 1000 := by unfold lrows swR; rw [List.length_map, List.length_append, List.length_map, List.length_cons, List.length_take, List.length_drop]; omega
        have same : swC old new c = c → cC old c = 0 → ∀ ρ, Sub [("many", .int z), ("waiting", .ref w), ("met", .ref mt), ("old", .str old), ("new", .str new), ("here", .ref q.sub)] ρ →
            SJ2 σ old new x w mt la reg p kvs To m q ps' vs (i + 1) ρ σ' := fun h1 h2 ρ hs =>
          ⟨z, by rw [ce, h2]; exact hz', hs, j1, by rw [step, h1]; exact j2, by rw [step, h1]; exact j3, j4, j5, j6, j7, j8⟩
        refine weakS (sub_rset hs rfl) ?_
        k_extra "start"
        k_extra "asg"
        refine T_rows G (by k_extra "rf") ?_
        k_extra "go"
        refine ⟨q.sub, _, _, _, rfl, j3, fun d' r' ep' q1 q2 q3 => ?_⟩
        k_extra "go"
        refine I_dict (by intro _ _; rfl) q3 (rget_mid hne') ?_
        k_extra "set"
        refine T_isValue (by k_extra "rf") ?_
        refine T_CallFn (m := 1) (at_is_keymap G) (by decide) rfl (by k_extra "rf") ?_
        k_extra "go"
        cases c with
        | none =>
          refine (sp_is_keymap G (v := .none) rfl (one_NoneType_K G)).mono ?_
          rintro _ σ' ⟨rfl, rfl⟩
          refine ⟨_, rfl, ?_⟩
          k_extra "no"
          refine T_isValue (by k_extra "rf") ?_
          k_extra "bi"
          k_extra "bi"
          refine L_isinst (v := .none) (cls_k G) other_type rfl (one_NoneType_str G) ⟨_, rfl, ?_⟩
          refine ⟨(fun hb => nomatch hb), fun _ => ?_⟩
          refine ⟨(fun hb => nomatch hb), fun _ => ?_⟩
          k_extra "go"
          exact same rfl rfl _ (by k_extra "sub")
        | some c =>
          refine (sp_is_keymap G (v := .str c) rfl (one_str_K G)).mono ?_
          rintro _ σ' ⟨rfl, rfl⟩
          refine ⟨_, rfl, ?_⟩
          k_extra "no"
          refine T_isValue (by k_extra "rf") ?_
          k_extra "bi"
          k_extra "bi"
          refine L_isinst (v := .str c) (cls_k G) other_type rfl (one_str_str G) ⟨_, rfl, ?_⟩
          k_extra "yes"
          refine C_eq trivial trivial ⟨_, rfl, fun hb => ?_, fun hb => ?_⟩
          · have e : c = old := by have := of_decide_eq_true hb; injection this
            subst e
            k_extra "go"
            refine ⟨fun _ => ?_, (fun hb => nomatch hb)⟩
            k_extra "start"
            refine T_MethK (m := 1) (at_m_put G) (by decide) (by k_extra "rf") (fun _ _ => rfl) ?_
            k_extra "go"
            refine ⟨q.sub, _, _, _, rfl, j3, ?_⟩
            k_extra "go"
            refine (sp_put G j3 kz).mono ?_
            rintro _ σ₉ ⟨rfl, hp, m₉⟩
            k_extra "go"
            k_extra "asg"
            refine B_add ?_
            k_extra "set"
            have n9 : ∀ {o : AObj} {a : Addr}, tagOf o = none → σ' a = some o → σ₉ a = some o := fun h e => m₉ _ _ e (fun g q => by rw [h] at q; cases q)
            have hin : KSub σ₉ q.sub (reg, some q.k) (swR c new (q.rows.take (i + 1)) ++ q.rows.drop (i + 1)) := by
              rw [step, show swC c new (some c) = some new from if_pos rfl, ← rput_mid (b := some c) hne']
              unfold KSub; rw [lrows_put]; exact hp
            refine ⟨z + 1, ?_, by k_extra "sub", j1.mod m₉ (fun e => by cases e), ?_, hin, fun q' hq' => ⟨(j4 q' hq').1, KM0.mod (j4 q' hq').2 m₉ (fun e => (j4 q' hq').1 (by injection e with _ e2; injection e2))⟩, n9 rfl j5, n9 rfl j6, j7.trans (m₉.mono fun g e => by rw [e]), n9 rfl j8⟩
            · rw [ce, show cC c (some c) = 1 from if_pos rfl, hz']; rfl
            · have := j2.upd (nodup_put sp.nod _ _) qd m₉ hin
              rw [tput_tput] at this; exact this
          · have e : c ≠ old := fun e => of_decide_eq_false hb (by rw [e]; rfl)
            k_extra "go"
            refine ⟨(fun hb => nomatch hb), fun _ => ?_⟩
            k_extra "go"
            exact same (if_neg (fun q => e (by cases q; rfl))) (if_neg (fun q => e (by cases q; rfl))) _ (by k_extra "sub")
      · obtain ⟨z, hz', hs, j1, j2, j3, j4, j5, j6, j7, j8⟩ := h
        refine weakS hs ?_
        k_extra "go"
        have l2 : ((lrows q.rows).map fun p => p.1.av).length = q.rows.length := by rw [List.length_map]; exact ll
        rw [l2, List.take_length] at hz'
        rw [l2, List.take_length, List.drop_length, List.append_nil] at j2
        refine ⟨ps'.length, by simp, .snd kvs _ ps' (m + cR old q.rows) z rfl hz' (by k_extra "sub") ⟨j1, j2, nodup_put sp.nod _ _, ?_, ?_, fun q' hq' => ⟨(sp.pe q' (by simp [hq'])).1, (j4 q' hq').2, (sp.pe q' (by simp [hq'])).2.2⟩, j5, ⟨_, j6, by rw [List.length_append]; simp; omega⟩, ?_, j7⟩⟩
        · have := sp.fill; rw [List.map_append] at this; rw [← this]; exact (fillM_snoc (q := q.kr)).symm
        · have := sp.pnod; rw [List.map_append, List.nodup_append] at this; exact this.1
        · have := sp.cnt; rw [List.map_append, cM_app] at this
          have e : cM old ([q].map SQ.kr) = cR old q.rows := by show cR old q.rows + 0 = _; omega
          omega
end

section
variable {W : Wd} {n : Nat} {env : Env} {ρ : Rho} {σ : AHeap}
theorem C_le_int {i j : Int} {Q : AV → Rho → AHeap → Prop} (h : Q (.bool (decide (i ≤ j))) ρ σ) : ∀ va vb, ab va = .int i → ab vb = .int j → T W n env ab (compareOp .LtE va vb) Q ρ σ := fun va vb ha hb F A s r S => by
  obtain ⟨t, rfl⟩ := ab_int ha; obtain ⟨u, rfl⟩ := ab_int hb
  exact PyProof.Rows.le_int ⟨ρ, σ, h, S⟩
/-- all but one object is kept -/
def Off (dk : Addr) (σ σ' : AHeap) : Prop := ∀ a o, a ≠ dk → σ a = some o → σ' a = some o
theorem Off.trans {dk : Addr} {σ σ1 σ2 : AHeap} (a : Off dk σ σ1) (b : Off dk σ1 σ2) : Off dk σ σ2 := fun x o n e => b x o n (a x o n e)
theorem Off.of_le {dk : Addr} {σ σ' : AHeap} (h : Le σ σ') : Off dk σ σ' := fun a o _ e => h a o e
theorem Off.of_chg {dk : Addr} {o : AObj} {σ σ' : AHeap} (c : Chg dk o σ σ') : Off dk σ σ' := fun a o n e => c.2 a o n e
structure Deck (σ : AHeap) (dk s : Addr) (i : Nat) : Prop where
  at_ : σ dk = some (.list [.ref s, .int (i : Int)])
  src : ∃ xs : List Int, σ s = some (.list (xs.map .int)) ∧ xs.length ≤ 50
theorem Deck.ne {dk s : Addr} {i : Nat} (h : Deck σ dk s i) : s ≠ dk := fun e => by
  obtain ⟨xs, a, _⟩ := h.src
  rw [e, h.at_] at a
  cases xs with
  | nil => cases a
  | cons x xs => simp at a
theorem Deck.le {dk s : Addr} {i : Nat} {σ' : AHeap} (h : Deck σ dk s i) (m : Le σ σ') : Deck σ' dk s i := ⟨m _ _ h.at_, by obtain ⟨xs, a, b⟩ := h.src; exact ⟨xs, m _ _ a, b⟩⟩
theorem Deck.mod {P : Tag → Prop} {dk s : Addr} {i : Nat} {σ' : AHeap} (h : Deck σ dk s i) (m : Mod P σ σ') : Deck σ' dk s i := ⟨m _ _ h.at_ (fun _ e => nomatch e), by obtain ⟨xs, a, b⟩ := h.src; exact ⟨xs, m _ _ a (fun _ e => nomatch e), b⟩⟩
/-- what may have changed by a draw -/
theorem Off.kt {dk s : Addr} {i : Nat} {σ' : AHeap} (h : Deck σ dk s i) (m : Off dk σ σ') : KT σ σ' := fun a o e k => m a o (fun q => by rw [q, h.at_] at e; cases e; cases k) e
theorem sp_draw (G : Good W) {dk s : Addr} {i many : Nat} (h : Deck σ dk s i) (hi : i < 1000) (hm : 0 < many) (hm' : many ≤ 1000) : Spec W 1 267 [.ref dk, .int (many : Int)] σ (fun r σ' => ∃ j : Nat, r = .int (j : Int) ∧ j < many ∧ Deck σ' dk s (i + 1) ∧ Off dk σ σ') := by
  obtain ⟨hdk, xs, hs, xz⟩ := id h
  have hne := h.ne
  refine enterB (ρ₀ := [("deck", .ref dk), ("many", .int (many : Int))]) ["deck", "many"] (fn_law_draw G) (bind2 fun _ _ => rfl) rfl (by decide) rfl fun L => ?_
  k_extra "start"
  refine S_AssignSub (by k_extra "rf") ?_
  k_extra "go"
  refine I_list (by intro _ _; rfl) hdk (by decide) (by decide) rfl ?_
  k_extra "go"
  refine B_add ?_
  k_extra "go"
  intro vo vi vv eo ei ev
  refine T_setItem_list (i := 1) eo ei hdk (by simp) (by simp) fun σ₁ c₁ => ?_
  rw [ev] at c₁
  k_extra "go"
  have d₁ : σ₁ dk = some (.list [.ref s, .int ((i + 1 : Nat) : Int)]) := c₁.1
  have s₁ := c₁.2 _ _ hne hs
  have fin : ∀ (a : Int), ∃ j : Nat, AV.int (a.fmod (many : Int)) = .int (j : Int) ∧ j < many ∧ Deck σ₁ dk s (i + 1) ∧ Off dk σ σ₁ := fun a => by
    have h1 := Int.fmod_nonneg_of_pos a (b := (many : Int)) (by omega)
    have h2 := Int.fmod_lt_of_pos a (b := (many : Int)) (by omega)
    exact ⟨(a.fmod (many : Int)).toNat, by rw [Int.toNat_of_nonneg h1], by omega, ⟨d₁, xs, s₁, xz⟩, Off.of_chg c₁⟩
  refine I_list (by intro _ _; rfl) d₁ (by decide) (by decide) rfl ?_
  k_extra "bi"
  refine I_list (by intro _ _; rfl) d₁ (by decide) (by decide) rfl ?_
  k_extra "go"
  refine L_len_list s₁ (by rw [List.length_map]; omega) ?_
  refine C_le_int ⟨_, rfl, fun hb => ?_, fun hb => ?_⟩
  · have hb := of_decide_eq_true hb
    rw [List.length_map] at hb
    have hlt : i < xs.length := by omega
    k_extra "go"
    refine I_list (by intro _ _; rfl) d₁ (by decide) (by decide) rfl ?_
    k_extra "go"
    refine I_list (by intro _ _; rfl) d₁ (by decide) (by decide) rfl ?_
    k_extra "go"
    refine B_sub ?_
    refine I_list (v := .int xs[i]) (by intro _ _; rfl) s₁ (by omega) (by omega) ?_ ?_
    · have : (((i + 1 : Nat) : Int) - 1).toNat = i := by omega
      rw [this, List.getElem?_map, List.getElem?_eq_getElem hlt]; rfl
    k_extra "go"
    refine B_mod (by omega) ?_
    exact fin _
  · k_extra "go"
    refine I_list (by intro _ _; rfl) d₁ (by decide) (by decide) rfl ?_
    k_extra "go"
    refine I_list (by intro _ _; rfl) d₁ (by decide) (by decide) rfl ?_
    refine B_mul (.of_left (intBits_le_64 (by omega) (by omega))) ?_
    k_extra "go"
    refine B_mul (.of_right (intBits_le_64 (by omega) (by omega))) ?_
    k_extra "go"
    refine I_list (by intro _ _; rfl) d₁ (by decide) (by decide) rfl ?_
    refine B_mul (.of_left (intBits_le_64 (by omega) (by omega))) ?_
    refine B_add ?_
    k_extra "go"
    k_extra "bi"
    refine I_list (by intro _ _; rfl) d₁ (by decide) (by decide) rfl ?_
    k_extra "go"
    refine L_len_list s₁ (by rw [List.length_map]; omega) ?_
    refine B_mul (.of_left (intBits_le_64 (by omega) (by omega))) ?_
    refine B_add ?_
    k_extra "go"
    refine B_add ?_
    k_extra "go"
    refine B_floordiv (by omega) (PyProof.noPylong_small (by decide)) ?_
    k_extra "go"
    refine B_mod (by omega) ?_
    exact fin _
theorem sp_pick (G : Good W) {dk s it : Addr} {i : Nat} {vs : List AV} (h : Deck σ dk s i) (hi : i < 1000) (hit : σ it = some (.list vs)) (hne : it ≠ dk) (hv : vs ≠ []) (hz : vs.length ≤ 100) :
    Spec W 2 274 [.ref dk, .ref it] σ (fun r σ' => r ∈ vs ∧ Deck σ' dk s (i + 1) ∧ Off dk σ σ') := by
  refine enterB (ρ₀ := [("deck", .ref dk), ("items", .ref it)]) ["deck", "items"] (fn_law_pick G) (bind2 fun _ _ => rfl) rfl (by decide) rfl fun L => ?_
  have vz : 0 < vs.length := List.length_pos_iff.mpr hv
  k_extra "start"
  refine T_CallFn (m := 1) (at_law_draw G) (by decide) rfl (by k_extra "rf") ?_
  k_extra "go"
  k_extra "bi"
  refine L_len_list hit (by omega) ?_
  k_extra "go"
  refine (sp_draw G h hi (many := vs.length) vz (by omega)).mono ?_
  rintro _ σ₁ ⟨j, rfl, hj, d₁, o₁⟩
  refine I_list (v := vs[j]) (by intro _ _; rfl) (o₁ _ _ hne hit) (by omega) (by omega) ?_ ?_
  · rw [Int.toNat_natCast, List.getElem?_eq_getElem hj]
  exact ⟨List.getElem_mem hj, d₁, o₁⟩
def evs : List Key := [.i 97, .i 27, .i 98, .s "f1"]
theorem sp_events (G : Good W) : Spec W 1 281 [] σ (fun r σ' => ∃ l, r = .ref l ∧ σ l = none ∧ Le σ σ' ∧ σ' l = some (.list (evs.map Key.av))) := by
  refine enterB (ρ₀ := []) [] (fn_law_events G) (bind0 rfl) rfl (by decide) rfl fun L => ?_
  k_extra "start"
  exact ⟨by simp, fun l σ₁ nl le₁ hl => ⟨l, rfl, nl, le₁, hl⟩⟩
end

section
variable {W : Wd} {n : Nat} {env : Env} {ρ : Rho} {σ : AHeap}
theorem both {P A B : Prop} {b : Bool} (ha : P → A) (hb : P → B) (h : P) : (b = true → A) ∧ (b = false → B) := ⟨fun _ => ha h, fun _ => hb h⟩
def IOkD (σ : AHeap) : Item → Prop
  | .leaf _ => True
  | .map x => ∃ g kvs ep, σ x = some (.dict g kvs ep)
theorem IOkD.le {σ σ' : AHeap} {it : Item} (h : IOkD σ it) (m : Le σ σ') : IOkD σ' it := by
  cases it with
  | leaf c => trivial
  | map x => obtain ⟨g, kvs, ep, h⟩ := h; exact ⟨g, kvs, ep, m _ _ h⟩
def DCh (σ : AHeap) (a : Addr) (ns : List Node) : Prop := σ a = some (.list (nrefs ns)) ∧ ∀ nd ∈ ns, ∃ ep, σ nd.x = some (.dict nd.g nd.kvs ep)
theorem DCh.le {σ σ' : AHeap} {a : Addr} {ns : List Node} (h : DCh σ a ns) (m : Le σ σ') : DCh σ' a ns := ⟨m _ _ h.1, fun nd hn => by obtain ⟨ep, e⟩ := h.2 nd hn; exact ⟨ep, m _ _ e⟩⟩
def rowA (q : TC) : List AV := q.1.map .ref ++ (match q.2 with | none => [] | some c => [.str c])
inductive RwJ (σ₃ : AHeap) (l : Addr) (its : List Item) (i : Nat) (ρ : Rho) (s : AHeap) : Prop
  | mk (m : List Addr) (hs : Sub [("row", .ref l)] ρ) (le : Le σ₃ s) (hm : s l = some (.list (m.map .ref))) (mz : m.length ≤ i) (e1 : (coll its).1 = m ++ (coll (its.drop i)).1) (e2 : (coll its).2 = (coll (its.drop i)).2) : RwJ σ₃ l its i ρ s
theorem sp_law_row (G : Good W) {a : Addr} {ns : List Node} {k : Key} {its : List Item} (h : DCh σ a ns) (hz : ns.length ≤ 100) (hb : bound ns k = its.map Item.av) (hi : ∀ it ∈ its, IOkD σ it) :
    Spec W 1 291 [.ref a, k.av, .none] σ (fun r σ' => Le σ σ' ∧ ∃ l, r = .ref l ∧ σ' l = some (.list (rowA (firstOf its)))) := by
  have iz : its.length ≤ 100 := by
    have := congrArg List.length hb
    rw [List.length_map] at this
    have h2 : (bound ns k).length ≤ ns.length := List.length_filterMap_le ..
    omega
  refine enterB (ρ₀ := [("chain", .ref a), ("event", k.av), ("default", .none)]) ["chain", "event", "default"] (fn_law_row G) (bind3 fun _ _ _ => rfl) rfl (by decide) rfl fun L => ?_
  k_extra "start"
  refine S_AssignComp (by k_extra "rf") (by intro; rfl) (by k_extra "compok") (by k_extra "sto") ?_
  k_extra "go"
  refine ⟨[("event", k.av)], by k_extra "cap", ?_⟩
  refine comp_plain (fun i out σ' => out = bound (ns.take i) k ∧ out.length ≤ i ∧ σ' = σ) (iter_list h.1) ⟨rfl, Nat.le_refl _, rfl⟩ (by simp [nrefs]; omega) (fun i out σ' _ h => h.2.1) (fun i out σ' h' => by rw [h'.2.2]; exact h.1) ?_ ?_
  · rintro i u hi hu out σ' ⟨rfl, hlen, rfl⟩ C
    unfold nrefs at hu
    rw [List.getElem?_map] at hu
    obtain ⟨nd, hnd, rfl⟩ := Option.map_eq_some_iff.mp hu
    obtain ⟨ep, hk⟩ := h.2 nd (List.mem_of_getElem? hnd)
    have ts : bound (ns.take (i + 1)) k = bound (ns.take i) k ++ (dget nd.kvs k).toList := by
      unfold bound; rw [List.take_add_one, hnd, List.filterMap_append]
      show _ ++ List.filterMap _ [nd] = _
      rw [List.filterMap_cons]; cases dget nd.kvs k <;> rfl
    refine T_tests1 ?_
    k_extra "go"
    refine C_in_dict hk ⟨_, rfl, fun hb => ?_, fun hb => ?_⟩
    · obtain ⟨v, hv⟩ := Option.isSome_iff_exists.mp hb
      k_extra "go"
      refine I_dict (by intro _ _; rfl) hk hv ?_
      exact ⟨by rw [ts, hv]; rfl, by rw [List.length_append]; simp; omega, rfl⟩
    · have hv : dget nd.kvs k = none := by cases e : dget nd.kvs k with | none => rfl | some v => rw [e] at hb; cases hb
      exact ⟨by rw [ts, hv]; simp, by omega, rfl⟩
  · rintro out σ' ⟨rfl, hlen, rfl⟩
    intro f σ₁ nf le₁ hf
    have nl : (nrefs ns).length = ns.length := by simp [nrefs]
    rw [nl, List.take_length, hb] at hf
    k_extra "set"
    refine ⟨by simp, fun e σ₂ ne le₂ he => C_eq_list0 (le₂ _ _ hf) he ⟨_, rfl, ?_⟩⟩
    have hf₂ := le₂ _ _ hf
    have le' := le₁.trans le₂
    apply both
    · intro h
      k_extra "go"
      refine C_isNot_none ⟨_, rfl, (fun hb => nomatch hb), fun _ => ?_⟩
      k_extra "go"
      exact ⟨(fun hb => nomatch hb), fun _ => h⟩
    · intro h
      exact ⟨(fun hb => nomatch hb), fun _ => h⟩
    k_extra "go"
    refine ⟨by simp, fun e σ₃ ne le₃ he => C_eq_list0 (le₃ _ _ hf₂) he ⟨_, rfl, fun hb' => ?_, fun hb' => ?_⟩⟩
    · have hnil : its = [] := by cases its with | nil => rfl | cons _ _ => cases hb'
      subst hnil
      refine ⟨fun _ => ?_, (fun hb => nomatch hb)⟩
      k_extra "start"
      exact ⟨by simp, fun l σ₄ nl le₄ hl => ⟨(le'.trans le₃).trans le₄, l, rfl, hl⟩⟩
    · obtain ⟨it, r, rfl⟩ : ∃ it r, its = it :: r := by cases its with | nil => cases hb' | cons it r => exact ⟨it, r, rfl⟩
      have hf₃ := le₃ _ _ hf₂
      have le₀ := le'.trans le₃
      k_extra "go"
      refine I_list (by intro _ _; rfl) hf₃ (by decide) (by decide) rfl ?_
      k_extra "go"
      refine C_is_none ⟨_, rfl, fun hb => ?_, fun hb => ?_⟩
      · have hit : it = .leaf none := by
          cases it with
          | leaf c => cases c with
            | none => rfl
            | some c => cases hb
          | map x => cases hb
        subst hit
        refine ⟨fun _ => ?_, (fun hb => nomatch hb)⟩
        k_extra "start"
        exact ⟨by simp, fun l σ₄ nl le₄ hl => ⟨le₀.trans le₄, l, rfl, hl⟩⟩
      · have ef : firstOf (it :: r) = coll (it :: r) := by
          cases it with
          | leaf c => cases c with
            | none => cases hb
            | some c => rfl
          | map x => rfl
        rw [ef]
        generalize it :: r = its at *
        k_extra "go"
        refine ⟨(fun hb => nomatch hb), fun _ => ?_⟩
        k_extra "go"
        k_extra "asg"
        refine ⟨by simp, fun l σ₄ nl le₄ hl => ?_⟩
        k_extra "set"
        have nl₃ : ∀ o, σ₃ l ≠ some o := fun o e => by rw [nl] at e; cases e
        have nl₀ : σ' l = none := by
          cases q : σ' l with
          | none => rfl
          | some o => exact absurd (le₀ _ _ q) (nl₃ _)
        refine S_ForList (by intro; rfl) (by k_extra "sto") ?_
        k_extra "go"
        refine ⟨f, _, RwJ σ₃ l its, rfl, le₄ _ _ hf₃, ⟨[], by k_extra "sub", le₄, hl, Nat.le_refl _, rfl, rfl⟩, fun i ρ s h => by cases h with | mk _ _ le => exact le _ _ hf₃, fun i u hu ρ s h' => ?_, fun ρ s h' => ?_⟩
        · obtain ⟨m, hs, le, hm, mz, e1, e2⟩ := h'
          rw [List.getElem?_map] at hu
          obtain ⟨it, hit, rfl⟩ := Option.map_eq_some_iff.mp hu
          have ho := (hi it (List.mem_of_getElem? hit)).le (le₀.trans le)
          have hlt : i < its.length := by
            rcases Nat.lt_or_ge i its.length with q | q
            · exact q
            · rw [List.getElem?_eq_none q] at hit; cases hit
          rw [drop_at hit] at e1 e2
          refine weakS (sub_rset hs rfl) ?_
          k_extra "start"
          cases it with
          | map x =>
            obtain ⟨g, kvs, ep, hk⟩ := ho
            refine C_isNot_none ⟨_, rfl, ?_⟩
            k_extra "yes"
            refine T_MethB (by k_extra "rf") PySem.F.plainAttrs_list PySem.F.slot_list_append PySem.F.type_list_append ?_
            k_extra "go"
            refine ⟨l, _, rfl, hm, fun h => ty_list h, ?_⟩
            k_extra "go"
            refine L_append hm (by rw [List.length_map]; omega) fun s₂ c => ?_
            have lx : x ≠ l := fun q => by rw [q, hm] at hk; cases hk
            k_extra "go"
            refine T_isValue (by k_extra "rf") ?_
            k_extra "bi"
            k_extra "bi"
            refine L_isinst (cls_k G) other_type (tyOf_dict (c.2 _ _ lx hk)) (one_dict_dict G) ⟨_, rfl, ?_⟩
            k_extra "no"
            refine ⟨m ++ [x], by k_extra "sub", le.chg nl c, ?_, by rw [List.length_append]; simp; omega, ?_, e2⟩
            · rw [c.1, List.map_append]; rfl
            · rw [e1, List.append_assoc]; rfl
          | leaf c =>
            cases c with
            | none =>
              refine C_isNot_none ⟨_, rfl, ?_⟩
              k_extra "no"
              exact ⟨m, by k_extra "sub", le, hm, by omega, e1, e2⟩
            | some c =>
              refine C_isNot_none ⟨_, rfl, ?_⟩
              k_extra "yes"
              refine T_MethB (by k_extra "rf") PySem.F.plainAttrs_list PySem.F.slot_list_append PySem.F.type_list_append ?_
              k_extra "go"
              refine ⟨l, _, rfl, hm, fun h => ty_list h, ?_⟩
              k_extra "go"
              refine L_append hm (by rw [List.length_map]; omega) fun s₂ c₂ => ?_
              k_extra "go"
              refine T_isValue (by k_extra "rf") ?_
              k_extra "bi"
              k_extra "bi"
              refine L_isinst (v := .str c) (cls_k G) other_type rfl (one_str_dict G) ⟨_, rfl, ?_⟩
              k_extra "yes"
              refine ⟨le₀.trans (le.chg nl c₂), l, rfl, ?_⟩
              rw [c₂.1]; unfold rowA; rw [e1, e2]
              show _ = some (AObj.list ((m ++ []).map _ ++ [.str c])); rw [List.append_nil]; rfl
        · obtain ⟨m, hs, le, hm, mz, e1, e2⟩ := h'
          refine weakS hs ?_
          rw [List.length_map, List.drop_length] at e1 e2
          k_extra "go"
          refine ⟨le₀.trans le, l, rfl, ?_⟩
          rw [hm]; unfold rowA; rw [e1, e2]
          show _ = some (AObj.list ((m ++ []).map _ ++ [])); rw [List.append_nil, List.append_nil]
end

section
variable {W : Wd} {n : Nat} {env : Env} {ρ : Rho} {σ : AHeap}
/-- each chain of a list tells what stands in the other list -/
def DP (σ : AHeap) (ps : List AV) (k : Key) (all : List TC) : Prop := ps.length = all.length ∧ ∀ (i : Nat) p q, ps[i]? = some p → all[i]? = some q → ∃ (a : Addr) (ns : List Node) (its : List Item), p = .ref a ∧ DCh σ a ns ∧ ns.length ≤ 100 ∧ bound ns k = its.map Item.av ∧ (∀ it ∈ its, IOkD σ it) ∧ firstOf its = q
theorem DP.le {σ σ' : AHeap} {ps : List AV} {k : Key} {all : List TC} (h : DP σ ps k all) (m : Le σ σ') : DP σ' ps k all :=
  ⟨h.1, fun i p q hp hq => by
    obtain ⟨a, ns, its, h0, h1, h2, h3, h4, h5⟩ := h.2 i p q hp hq
    exact ⟨a, ns, its, h0, h1.le m, h2, h3, fun it hit => (h4 it hit).le m, h5⟩⟩
/-- lists of one each -/
def Wrapped (σ : AHeap) (ps : List AV) (m : List Addr) : Prop := ps.length = m.length ∧ ∀ (i : Nat) (x : Addr), m[i]? = some x → ∃ li, ps[i]? = some (.ref li) ∧ σ li = some (.list [.ref x])
theorem Wrapped.le {σ σ' : AHeap} {ps : List AV} {m : List Addr} (h : Wrapped σ ps m) (l : Le σ σ') : Wrapped σ' ps m := ⟨h.1, fun i x e => by obtain ⟨li, a, b⟩ := h.2 i x e; exact ⟨li, a, l _ _ b⟩⟩
theorem Wrapped.nil : Wrapped σ [] [] := ⟨rfl, fun i x e => by cases e⟩
theorem Wrapped.app {ps qs : List AV} {m m' : List Addr} (h : Wrapped σ ps m) (h' : Wrapped σ qs m') : Wrapped σ (ps ++ qs) (m ++ m') := by
  refine ⟨by rw [List.length_append, List.length_append, h.1, h'.1], fun i x e => ?_⟩
  by_cases q : i < m.length
  · rw [List.getElem?_append_left q] at e
    obtain ⟨li, a, b⟩ := h.2 i x e
    exact ⟨li, by rw [List.getElem?_append_left (by rw [h.1]; exact q)]; exact a, b⟩
  · rw [List.getElem?_append_right (by omega)] at e
    obtain ⟨li, a, b⟩ := h'.2 _ x e
    exact ⟨li, by rw [List.getElem?_append_right (by rw [h.1]; omega), h.1]; exact a, b⟩
theorem Wrapped.one {x li : Addr} (h : σ li = some (.list [.ref x])) : Wrapped σ [.ref li] [x] := ⟨rfl, fun i y e => by
  cases i with
  | zero => cases e; exact ⟨li, rfl, h⟩
  | succ i => cases e⟩
def DPs (σ : AHeap) : List AV → List Key → List (List TC) → Prop
  | _, [], [] => True
  | ps, k :: ks, all :: rest => ps.length ≤ 9 ∧ DP σ ps k all ∧ ((comb all).1 ≠ [] → ∀ σ' ps', Le σ σ' → Wrapped σ' ps' (comb all).1 → DPs σ' ps' ks rest)
  | _, _, _ => False
theorem DPs.le {σ σ' : AHeap} (m : Le σ σ') : ∀ {ps : List AV} {ks : List Key} {alls : List (List TC)}, DPs σ ps ks alls → DPs σ' ps ks alls
  | _, [], [], _ => trivial
  | _, [], _ :: _, h => h.elim
  | _, _ :: _, [], h => h.elim
  | _, _ :: _, _ :: _, ⟨h1, h2, h3⟩ => ⟨h1, h2.le m, fun q σ'' ps' l w => h3 q σ'' ps' (m.trans l) w⟩
/-- what the slow reading hands back -/
def slowAt (σ : AHeap) (r : AV) : Res → Prop
  | .none => r = .none
  | .bound c => r = .str c
  | .long _ => r = .str "long"
  | .pre qs => ∃ l vs, r = .ref l ∧ σ l = some (.list vs) ∧ vs.length = qs.length
theorem firstOf_len {its : List Item} : (firstOf its).1.length ≤ its.length := by
  have : ∀ its : List Item, (coll its).1.length ≤ its.length := by
    intro its
    induction its with
    | nil => exact Nat.le_refl _
    | cons it r ih =>
      cases it with
      | map x => exact Nat.succ_le_succ ih
      | leaf c => cases c with
        | none => exact Nat.le_succ_of_le ih
        | some c => exact Nat.zero_le _
  cases its with
  | nil => exact Nat.le_refl _
  | cons it r =>
    cases it with
    | map x => exact this _
    | leaf c => cases c with
      | none => exact Nat.zero_le _
      | some c => exact this _
theorem firstOf_mem {its : List Item} {x : Addr} (h : x ∈ (firstOf its).1) : Item.map x ∈ its := by
  have : ∀ its : List Item, x ∈ (coll its).1 → Item.map x ∈ its := by
    intro its
    induction its with
    | nil => intro h; cases h
    | cons it r ih =>
      cases it with
      | map y =>
        intro h
        rcases List.mem_cons.mp h with rfl | h
        · exact List.mem_cons_self
        · exact List.mem_cons_of_mem _ (ih h)
      | leaf c => cases c with
        | none => intro h; exact List.mem_cons_of_mem _ (ih h)
        | some c => intro h; cases h
  cases its with
  | nil => cases h
  | cons it r =>
    cases it with
    | map y => exact this _ h
    | leaf c => cases c with
      | none => cases h
      | some c => exact this _ h
inductive LR (σ : AHeap) (R0 : Res) (r : AV) (s : AHeap) : Prop
  | mk (l : Le σ s) (h : slowAt s r R0) : LR σ R0 r s
inductive LJ1 (σ : AHeap) (b : Addr) (ks : List Key) (R0 : Res) (i : Nat) (ρ : Rho) (σ' : AHeap) : Prop
  | mk (l : Addr) (ps qs : List AV) (rest : List (List TC)) (hs : Sub [("chains", .ref l), ("keys", .ref b), ("default", .none)] ρ) (m : Le σ σ') (hl : σ' l = some (.list ps)) (hq : ps.length = qs.length) (hF : DPs σ' ps (ks.drop i) rest) (hR : R0 = resL ks.length i qs rest) : LJ1 σ b ks R0 i ρ σ'
inductive LN (σ'' : AHeap) (l b : Addr) (k : Key) (i : Nat) (all : List TC) (ρ : Rho) (s : AHeap) : Prop
  | mk (lm : Addr) (mm : List AV) (hs : Sub [("chains", .ref l), ("keys", .ref b), ("default", .none), ("event", k.av), ("at", .int (i : Nat)), ("maps", .ref lm)] ρ) (ms : Le σ'' s) (hlm : s lm = some (.list mm)) (hw : Wrapped s mm (comb all).1) (hc : (comb all).1 = [] → (comb all).2 = none) : LN σ'' l b k i all ρ s
def LQ (σ σ'' : AHeap) (l b : Addr) (k : Key) (i : Nat) (all : List TC) (R0 : Res) : AFlow → Rho → AHeap → Prop
  | .next, ρ, s => LN σ'' l b k i all ρ s
  | .ret v, _, s => LR σ R0 v s
  | _, _, _ => False
inductive LJ2 (σ'' : AHeap) (l b : Addr) (k : Key) (i : Nat) (all : List TC) (j : Nat) (ρ : Rho) (s : AHeap) : Prop
  | mk (lm : Addr) (mm : List AV) (M : List Addr) (hs : Sub [("chains", .ref l), ("keys", .ref b), ("default", .none), ("event", k.av), ("at", .int (i : Nat)), ("maps", .ref lm)] ρ) (ms : Le σ'' s) (hlm : s lm = some (.list mm)) (hw : Wrapped s mm M) (mz : M.length ≤ 100 * j)
      (e1 : (comb all).1 = M ++ (comb (all.drop j)).1) (e2 : (comb all).2 = (comb (all.drop j)).2) : LJ2 σ'' l b k i all j ρ s
inductive LN2 (s₁ : AHeap) (lr l b lm : Addr) (k : Key) (i : Nat) (qm : List Addr) (qc : Option Str) (ρ : Rho) (s' : AHeap) : Prop
  | mk (hs : Sub [("row", .ref lr), ("chains", .ref l), ("keys", .ref b), ("default", .none), ("event", k.av), ("at", .int (i : Nat)), ("maps", .ref lm)] ρ) (ls : Le s₁ s') (hc : qm ≠ [] ∨ qc = none) : LN2 s₁ lr l b lm k i qm qc ρ s'
inductive LB2 (s₁ : AHeap) (l b lm : Addr) (k : Key) (i : Nat) (M qm : List Addr) (qc : Option Str) (ρ : Rho) (s' : AHeap) : Prop
  | mk (hs : Sub [("chains", .ref l), ("keys", .ref b), ("default", .none), ("event", k.av), ("at", .int (i : Nat)), ("maps", .ref lm)] ρ) (ls : Le s₁ s') (hm : qm = []) (hc : qc ≠ none) (hM : M ≠ []) : LB2 s₁ l b lm k i M qm qc ρ s'
def LQ2 (σ s₁ : AHeap) (lr l b lm : Addr) (k : Key) (i : Nat) (M qm : List Addr) (qc : Option Str) (R0 : Res) : AFlow → Rho → AHeap → Prop
  | .next, ρ, s => LN2 s₁ lr l b lm k i qm qc ρ s
  | .brk, ρ, s => LB2 s₁ l b lm k i M qm qc ρ s
  | .ret v, _, s => LR σ R0 v s
  | _, _, _ => False
inductive LC (s' : AHeap) (qm : List Addr) (i : Nat) (out : List AV) (s₂ : AHeap) : Prop
  | mk (w : Wrapped s₂ out (qm.take i)) (l : Le s' s₂) (oz : out.length ≤ i) : LC s' qm i out s₂
theorem sp_law_slow (G : Good W) {a b : Addr} {ps : List AV} {ks : List Key} {alls : List (List TC)} (ha : σ a = some (.list ps)) (hk : σ b = some (.tup (ks.map Key.av))) (hkz : ks.length ≤ 100) (h : DPs σ ps ks alls) :
    Spec W 2 296 [.ref a, .ref b, .none] σ (LR σ (resL ks.length 0 ps alls)) := by
  generalize hR0 : resL ks.length 0 ps alls = R0
  refine enterB (ρ₀ := [("chains", .ref a), ("keys", .ref b), ("default", .none)]) ["chains", "keys", "default"] (fn_law_slow G) (bind3 fun _ _ _ => rfl) rfl (by decide) rfl fun L => ?_
  k_extra "start"
  refine S_ForEnum (by intro; rfl) (by k_extra "sto") (by k_extra "sto") (by k_extra "rf") ?_
  k_extra "bi"
  refine L_enum hk fun e it σ₃ ne nit hne le₃ he hit => ?_
  have le₀ : Le σ (σ₃.drop [e, it]) := le_drop2 le₃ ne nit
  refine ⟨b, e, it, _, LJ1 σ b ks R0,
    rfl, le₃ _ _ hk, he, hit, hne, ⟨a, ps, ps, alls, by k_extra "sub", le₀, le₀ _ _ ha, rfl, h.le le₀, hR0.symm⟩, fun i ρ σ' h => by cases h with | mk _ _ _ _ _ m => exact m _ _ hk, fun i u hu ρ σ' h σ'' m' => ?_, fun ρ σ' h => ?_⟩
  · obtain ⟨l, ps, qs, rest, hs, m, hl', hq, hF, hR⟩ := h
    rw [List.getElem?_map] at hu
    obtain ⟨k, hki, rfl⟩ := Option.map_eq_some_iff.mp hu
    rw [drop_at hki] at hF
    cases rest with
    | nil => exact hF.elim
    | cons all rest =>
    obtain ⟨pz, hf, hnext⟩ := hF.le m'
    have m₂ := m.trans m'
    have lt : i < ks.length := by
      rcases Nat.lt_or_ge i ks.length with q | q
      · exact q
      · rw [List.getElem?_eq_none q] at hki; cases hki
    unfold resL at hR
    have hl := m' _ _ hl'
    refine weakS (sub_rset (sub_rset hs rfl) rfl) ?_
    k_extra "start"
    k_extra "asg"
    refine ⟨by simp, fun lm σ₁ nlm le₁ hlm => ?_⟩
    k_extra "set"
    refine T.mono (Q := LQ σ σ'' l b k i all R0) ?_ ?_
    · refine S_ForList (by intro; rfl) (by k_extra "sto") ?_
      k_extra "go"
      refine ⟨l, ps, LJ2 σ'' l b k i all,
        rfl, le₁ _ _ hl, ⟨lm, [], [], by k_extra "sub", le₁, hlm, Wrapped.nil, Nat.zero_le _, rfl, rfl⟩, fun j ρ s h => by cases h with | mk _ _ _ _ m => exact m _ _ hl, fun j u hu ρ s h => ?_, fun ρ s h => ?_⟩
      · obtain ⟨lm, mm, M, hs, ms, hlm, hw, mz, e1, e2⟩ := h
        have hlt : j < ps.length := by
          rcases Nat.lt_or_ge j ps.length with q | q
          · exact q
          · rw [List.getElem?_eq_none q] at hu; cases hu
        obtain ⟨q, hq'⟩ : ∃ q, all[j]? = some q := ⟨_, List.getElem?_eq_getElem (by rw [← hf.1]; exact hlt)⟩
        obtain ⟨ca, ns, its, rfl, h1, h2, h3, h4, rfl⟩ := (hf.le ms).2 j u q hu hq'
        rw [drop_at hq'] at e1 e2
        refine weakS (sub_rset hs rfl) ?_
        k_extra "start"
        k_extra "asg"
        refine T_CallFn (m := 1) (at_law_row G) (by decide) rfl (by k_extra "rf") ?_
        k_extra "go"
        refine C_eq_int ⟨_, rfl, ?_⟩
        apply both
        · intro h; k_extra "go"; exact h
        · intro h; k_extra "go"; exact h
        have qz : (firstOf its).1.length ≤ 100 := by
          have := congrArg List.length h3
          rw [List.length_map] at this
          have h2' : (bound ns k).length ≤ ns.length := List.length_filterMap_le ..
          have := firstOf_len (its := its)
          omega
        have hmem : ∀ x ∈ (firstOf its).1, IOkD s (.map x) := fun x hx => h4 _ (firstOf_mem hx)
        refine (sp_law_row G h1 h2 h3 h4).mono ?_
        rintro _ s₁ ⟨ls₁, lr, rfl, hlr⟩
        apply Exists.intro; apply And.intro; k_extra "up"
        generalize firstOf its = q at *
        obtain ⟨qm, qc⟩ := q
        have qz : qm.length ≤ 100 := qz
        have jz : j < 9 := by omega
        refine S_cons ?_
        refine T.mono (Q := LQ2 σ s₁ lr l b lm k i M qm qc R0) ?_ ?_
        · refine S_If ?_
          k_extra "go"
          refine ⟨by simp, fun e s₂ ne le₂ he => C_ne_list0 (le₂ _ _ hlr) he ⟨_, rfl, ?_⟩⟩
          cases qm with
          | cons x r =>
            obtain ⟨g, kvs, ep, hx⟩ := hmem x List.mem_cons_self
            k_extra "yes"
            refine T_isValue (by k_extra "rf") ?_
            k_extra "bi"
            refine I_list (by intro _ _; rfl) (le₂ _ _ hlr) (by decide) (by decide) rfl ?_
            k_extra "go"
            k_extra "bi"
            refine L_isinst (cls_k G) other_type (tyOf_dict (le₂ _ _ (ls₁ _ _ hx))) (one_dict_dict G) ⟨_, rfl, ?_⟩
            refine ⟨(fun hb => nomatch hb), fun _ => ?_⟩
            refine ⟨(fun hb => nomatch hb), fun _ => ?_⟩
            k_extra "go"
            exact ⟨by k_extra "sub", le₂, .inl (by simp)⟩
          | nil =>
            cases qc with
            | none =>
              refine ⟨(fun hb => nomatch hb), fun _ => ?_⟩
              refine ⟨(fun hb => nomatch hb), fun _ => ?_⟩
              k_extra "go"
              exact ⟨by k_extra "sub", le₂, .inr rfl⟩
            | some c =>
              k_extra "yes"
              refine T_isValue (by k_extra "rf") ?_
              k_extra "bi"
              refine I_list (v := .str c) (by intro _ _; rfl) (le₂ _ _ hlr) (by decide) (by decide) rfl ?_
              k_extra "go"
              k_extra "bi"
              refine L_isinst (v := .str c) (cls_k G) other_type rfl (one_str_dict G) ⟨_, rfl, ?_⟩
              refine ⟨fun _ => ?_, (fun hb => nomatch hb)⟩
              k_extra "go"
              refine ⟨fun _ => ?_, (fun hb => nomatch hb)⟩
              k_extra "start"
              refine ⟨by simp, fun e s₃ ne le₃ he => C_eq_list0 (le₃ _ _ (le₂ _ _ (ls₁ _ _ hlm))) he ⟨_, rfl, fun hb => ?_, fun hb => ?_⟩⟩
              · have hmm : mm = [] := List.isEmpty_iff.mp hb
                have hM : M = [] := by have := hw.1; rw [hmm] at this; exact List.length_eq_zero_iff.mp this.symm
                have ec1 : (comb all).1 = [] := by rw [e1, hM]; rfl
                have ec2 : (comb all).2 = some c := e2
                rw [if_neg (by rw [ec1]; exact fun h => h rfl), ec2] at hR
                have ll := ((m₂.trans ms).trans ls₁).trans (le₂.trans le₃)
                k_extra "start"
                k_extra "bi"
                refine L_len_tup (ll _ _ hk) (by rw [List.length_map]; omega) ?_
                k_extra "go"
                refine B_sub ?_
                k_extra "go"
                rw [List.length_map]
                refine C_eq_int ⟨_, rfl, fun hb => ?_, fun hb => ?_⟩
                · rw [beq_iff_eq] at hb
                  k_extra "go"
                  refine I_list (v := .str c) (by intro _ _; rfl) (le₃ _ _ (le₂ _ _ hlr)) (by decide) (by decide) rfl ?_
                  refine ⟨ll, ?_⟩
                  rw [hR]; simp only; rw [if_pos (by omega)]; rfl
                · rw [beq_eq_false_iff_ne] at hb
                  k_extra "go"
                  refine ⟨ll, ?_⟩
                  rw [hR]; simp only; rw [if_neg (by omega)]; rfl
              · k_extra "go"
                exact ⟨by k_extra "sub", le₂.trans le₃, rfl, by simp, fun q => by
                  have := hw.1
                  rw [q] at this
                  rw [List.length_eq_zero_iff.mp this] at hb; cases hb⟩
        · intro fl ρ s' hq
          cases fl with
          | cont => exact hq.elim
          | ret v => exact hq
          | brk =>
            obtain ⟨hs, ls, rfl, hc, hM⟩ := hq
            obtain ⟨c, rfl⟩ : ∃ c, qc = some c := by cases qc with | none => exact absurd rfl hc | some c => exact ⟨c, rfl⟩
            have ec1 : (comb all).1 = M := by rw [e1]; show M ++ [] = M; rw [List.append_nil]
            refine ⟨lm, mm, hs, ms.trans (ls₁.trans ls), ls _ _ (ls₁ _ _ hlm), ?_, fun q => absurd (ec1.symm.trans q) hM⟩
            rw [ec1]; exact hw.le (ls₁.trans ls)
          | next =>
            obtain ⟨hs, ls, hc⟩ := hq
            refine weakS hs ?_
            k_extra "start"
            k_extra "asg"
            refine T_ListComp (by intro; rfl) (by k_extra "compok") ?_
            k_extra "go"
            refine ⟨[], by k_extra "cap", ?_⟩
            have rz : (rowA (qm, qc)).length ≤ 101 := by cases qc <;> (simp [rowA]; omega)
            refine comp_plain (LC s' qm) (iter_list (ls _ _ hlr)) ⟨Wrapped.nil, Le.rfl, Nat.le_refl _⟩ (by omega) (fun i out s₂ _ h => by cases h; assumption) (fun i out s₂ h => by cases h with | mk _ l _ => exact l _ _ (ls _ _ hlr)) ?_ ?_
            · rintro i' u hi' hu' out s₂ ⟨w, l2, oz⟩ C
              refine T_tests1 ?_
              refine T_isValue (by k_extra "rf") ?_
              k_extra "bi"
              k_extra "bi"
              by_cases hx : i' < qm.length
              · obtain ⟨x, hx'⟩ : ∃ x, qm[i']? = some x := ⟨_, List.getElem?_eq_getElem hx⟩
                have ux : u = .ref x := by
                  unfold rowA at hu'
                  rw [List.getElem?_append_left (by rw [List.length_map]; exact hx), List.getElem?_map, hx'] at hu'
                  cases hu'; rfl
                subst ux
                obtain ⟨g, kvs, ep, hd⟩ := hmem x (List.mem_of_getElem? hx')
                refine L_isinst (cls_k G) other_type (tyOf_dict (l2 _ _ (ls _ _ (ls₁ _ _ hd)))) (one_dict_dict G) ⟨_, rfl, ?_⟩
                refine ⟨fun _ => ?_, (fun hb => nomatch hb)⟩
                k_extra "go"
                refine ⟨by simp, fun a₂ s₃ na l3 ha₂ => ⟨?_, l2.trans l3, by rw [List.length_append]; simp; omega⟩⟩
                rw [List.take_add_one, hx']
                exact (w.le l3).app (Wrapped.one ha₂)
              · obtain ⟨c, hc', uc⟩ : ∃ c, qc = some c ∧ u = .str c := by
                  unfold rowA at hu'
                  rw [List.getElem?_append_right (by rw [List.length_map]; exact Nat.not_lt.mp hx)] at hu'
                  cases qc with
                  | none => cases hu'
                  | some c =>
                    have := List.mem_of_getElem? hu'
                    exact ⟨c, rfl, by simpa using this⟩
                subst uc
                refine L_isinst (v := .str c) (cls_k G) other_type rfl (one_str_dict G) ⟨_, rfl, ?_⟩
                refine ⟨(fun hb => nomatch hb), fun _ => ⟨?_, l2, by omega⟩⟩
                have hx : qm.length ≤ i' := Nat.not_lt.mp hx
                have w2 : Wrapped s₂ out qm := by rw [List.take_of_length_le hx] at w; exact w
                show Wrapped s₂ out (qm.take (i' + 1))
                rw [List.take_of_length_le (Nat.le_succ_of_le hx)]
                exact w2
            · rintro out s₂ ⟨w, l2, oz⟩
              have w' : Wrapped s₂ out qm := by
                rw [List.take_of_length_le (by simp [rowA])] at w
                exact w
              intro a₂ s₃ na l3 ha₂
              have lmm : Le s s₃ := ((ls₁.trans ls).trans l2).trans l3
              refine B_add_list (lmm _ _ hlm) ha₂ (by rw [hw.1]; omega) (by rw [w'.1]; omega) fun a₃ s₄ na₃ l4 ha₃ => ?_
              k_extra "set"
              have ec : (comb all).1 = (M ++ qm) ++ (comb (all.drop (j + 1))).1 ∧ (comb all).2 = (comb (all.drop (j + 1))).2 := by
                cases qm with
                | cons x r =>
                  rw [comb_cons (by simp)] at e1 e2
                  exact ⟨by rw [e1, List.append_assoc], e2⟩
                | nil =>
                  rcases hc with h | rfl
                  · exact absurd rfl h
                  · exact ⟨by rw [e1, List.append_nil]; rfl, e2⟩
              exact ⟨a₃, _, M ++ qm, by k_extra "sub", ms.trans (lmm.trans l4), ha₃, (hw.le (lmm.trans l4)).app (w'.le (l3.trans l4)), by rw [List.length_append]; omega, ec.1, ec.2⟩
      · obtain ⟨lm, mm, M, hs, ms, hlm, hw, mz, e1, e2⟩ := h
        refine weakS hs ?_
        rw [hf.1, List.drop_length] at e1 e2
        k_extra "go"
        refine ⟨lm, mm, by k_extra "sub", ms, hlm, ?_, fun _ => e2⟩
        rw [e1]; show Wrapped s mm (M ++ []); rw [List.append_nil]; exact hw
    · intro fl ρ s hq
      cases fl with
      | brk => exact hq.elim
      | cont => exact hq.elim
      | ret v => exact hq
      | next =>
        obtain ⟨lm, mm, hs, ms, hlm, hw, hc⟩ := hq
        refine weakS hs ?_
        k_extra "start"
        refine ⟨by simp, fun e s₂ ne le₂ he => C_eq_list0 (le₂ _ _ hlm) he ⟨_, rfl, fun hb => ?_, fun hb => ?_⟩⟩
        · k_extra "go"
          have hnil : (comb all).1 = [] := by
            have : mm = [] := List.isEmpty_iff.mp hb
            have := hw.1
            rw [‹mm = []›] at this
            exact List.length_eq_zero_iff.mp this.symm
          refine ⟨m₂.trans (ms.trans le₂), ?_⟩
          rw [hR, if_neg (by rw [hnil]; exact fun h => h rfl), hc hnil]; rfl
        · have hne' : (comb all).1 ≠ [] := fun q => by
            have := hw.1
            rw [q] at this
            rw [List.length_eq_zero_iff.mp this] at hb; cases hb
          k_extra "go"
          k_extra "asg"
          k_extra "set"
          rw [if_pos hne'] at hR
          exact ⟨lm, mm, _, rest, by k_extra "sub", m₂.trans (ms.trans le₂), le₂ _ _ hlm, by rw [List.length_map]; exact hw.1, hnext hne' _ _ (ms.trans le₂) (hw.le le₂), hR⟩
  · obtain ⟨l, ps, qs, rest, hs, m, hl', hq, hF, hR⟩ := h
    refine weakS hs ?_
    rw [List.length_map, List.drop_length] at hF
    rw [List.length_map] at hR
    cases rest with
    | cons _ _ => exact hF.elim
    | nil =>
    k_extra "go"
    refine ⟨m, ?_⟩
    rw [hR]; exact ⟨l, ps, rfl, hl', hq⟩
end

section
variable {W : Wd} {n : Nat} {env : Env} {ρ : Rho} {σ : AHeap}
/-- a tuple of one or two events -/
def KTup (σ : AHeap) (u : AV) : Prop := ∃ t k, u = .ref t ∧ k ∈ evs ∧ (σ t = some (.tup [k.av]) ∨ ∃ j ∈ evs, σ t = some (.tup [k.av, j.av]))
theorem KTup.le {σ σ' : AHeap} {u : AV} (h : KTup σ u) (m : Le σ σ') : KTup σ' u := by
  obtain ⟨t, k, e, hk, h | ⟨j, hj, h⟩⟩ := h
  · exact ⟨t, k, e, hk, .inl (m _ _ h)⟩
  · exact ⟨t, k, e, hk, .inr ⟨j, hj, m _ _ h⟩⟩
theorem sp_every (G : Good W) : Spec W 2 301 [] σ (fun r σ' => Le σ σ' ∧ ∃ l vs, r = .ref l ∧ σ' l = some (.list vs) ∧ vs.length ≤ 20 ∧ ∀ u ∈ vs, KTup σ' u) := by
  refine enterB (ρ₀ := []) [] (fn_law_every G) (bind0 rfl) rfl (by decide) rfl fun L => ?_
  k_extra "start"
  refine S_AssignComp (by k_extra "rf") (by intro; rfl) (by k_extra "compok") (by k_extra "sto") ?_
  refine T_CallFn (m := 1) (at_law_events G) (by decide) rfl (by k_extra "rf") (ca_nil ?_)
  refine (sp_events G).mono ?_
  rintro _ σ₁ ⟨l, rfl, nl, le₁, hl⟩
  refine ⟨[], by k_extra "cap", ?_⟩
  refine comp_plain (fun i out σ' => (∀ u ∈ out, KTup σ' u) ∧ out.length ≤ i ∧ Le σ₁ σ') (iter_list hl) ⟨(fun _ h => nomatch h), Nat.le_refl _, Le.rfl⟩ (by decide) (fun i out σ' _ h => h.2.1) (fun i out σ' h => h.2.2 _ _ hl) ?_ ?_
  · rintro i u hi hu out σ' ⟨h1, h2, h3⟩ C
    rw [List.getElem?_map] at hu
    obtain ⟨k, hki, rfl⟩ := Option.map_eq_some_iff.mp hu
    refine T_tests0 ⟨fun _ => ?_, (fun hb => nomatch hb)⟩
    k_extra "go"
    refine ⟨by simp, fun t σ₂ nt le₂ ht => ⟨fun u hu => ?_, by rw [List.length_append]; simp; omega, h3.trans le₂⟩⟩
    rcases List.mem_append.mp hu with h | h
    · exact (h1 u h).le le₂
    · rw [List.mem_singleton.mp h]; exact ⟨t, k, rfl, List.mem_of_getElem? hki, .inl ht⟩
  · rintro out σ₂ ⟨h1, h2, h3⟩
    intro f σ₃ nf le₃ hf
    k_extra "set"
    have hlen : out.length ≤ 4 := h2
    refine S_ForList (by intro; rfl) (by k_extra "sto") ?_
    refine T_CallFn (m := 1) (at_law_events G) (by decide) rfl (by k_extra "rf") (ca_nil ?_)
    refine (sp_events G).mono ?_
    rintro _ σ₄ ⟨l₂, rfl, nl₂, le₄, hl₂⟩
    have le : Le σ σ₃ := le₁.trans (h3.trans le₃)
    refine ⟨l₂, _, fun i ρ σ' => ∃ f vs, Sub [("found", .ref f)] ρ ∧ Le σ₄ σ' ∧ σ' f = some (.list vs) ∧ (∀ u ∈ vs, KTup σ' u) ∧ vs.length ≤ 4 + 4 * i, rfl, hl₂, ⟨f, out, by k_extra "sub", Le.rfl, le₄ _ _ hf, fun u hu => (h1 u hu).le (le₃.trans le₄), hlen⟩, fun i ρ σ' ⟨_, _, _, m, _⟩ => m _ _ hl₂,
      fun i u hu ρ σ' ⟨f, vs, hs, m, hf, hv, vz⟩ => ?_, fun ρ σ' ⟨f, vs, hs, m, hf, hv, vz⟩ => ?_⟩
    · have hi : i < 4 := by
        rcases Nat.lt_or_ge i 4 with q | q
        · exact q
        · rw [List.getElem?_eq_none q] at hu; cases hu
      rw [List.getElem?_map] at hu
      obtain ⟨k, hki, rfl⟩ := Option.map_eq_some_iff.mp hu
      refine weakS (sub_rset hs rfl) ?_
      k_extra "start"
      k_extra "asg"
      refine T_ListComp (by intro; rfl) (by k_extra "compok") ?_
      refine T_CallFn (m := 1) (at_law_events G) (by decide) rfl (by k_extra "rf") (ca_nil ?_)
      refine (sp_events G).mono ?_
      rintro _ σ₅ ⟨l₃, rfl, nl₃, le₅, hl₃⟩
      refine ⟨[("first", k.av)], by k_extra "cap", ?_⟩
      refine comp_plain (fun i out σ' => (∀ u ∈ out, KTup σ' u) ∧ out.length ≤ i ∧ Le σ₅ σ') (iter_list hl₃) ⟨(fun _ h => nomatch h), Nat.le_refl _, Le.rfl⟩ (by decide) (fun i out σ' _ h => h.2.1) (fun i out σ' h => h.2.2 _ _ hl₃) ?_ ?_
      · rintro i' u hi' hu' out σ' ⟨h1, h2, h3⟩ C
        rw [List.getElem?_map] at hu'
        obtain ⟨j, hji, rfl⟩ := Option.map_eq_some_iff.mp hu'
        refine T_tests0 ⟨fun _ => ?_, (fun hb => nomatch hb)⟩
        k_extra "go"
        refine ⟨by simp, fun t σ₆ nt le₆ ht => ⟨fun u hu => ?_, by rw [List.length_append]; simp; omega, h3.trans le₆⟩⟩
        rcases List.mem_append.mp hu with h | h
        · exact (h1 u h).le le₆
        · rw [List.mem_singleton.mp h]; exact ⟨t, k, rfl, List.mem_of_getElem? hki, .inr ⟨j, List.mem_of_getElem? hji, ht⟩⟩
      · rintro out₂ σ₆ ⟨g1, g2, g3⟩
        intro f₂ σ₇ nf₂ le₇ hf₂
        have g2' : out₂.length ≤ 4 := g2
        refine B_add_list (le₇ _ _ (g3 _ _ (le₅ _ _ hf))) hf₂ (by omega) (by omega) fun f₃ σ₈ nf₃ le₈ hf₃ => ?_
        k_extra "set"
        refine ⟨f₃, _, by k_extra "sub", m.trans (le₅.trans (g3.trans (le₇.trans le₈))), hf₃, fun u hu => ?_, by rw [List.length_append]; omega⟩
        rcases List.mem_append.mp hu with h | h
        · exact (hv u h).le (le₅.trans (g3.trans (le₇.trans le₈)))
        · exact (g1 u h).le (le₇.trans le₈)
    · refine weakS hs ?_
      k_extra "go"
      exact ⟨le.trans (le₄.trans m), f, vs, rfl, hf, vz, hv⟩
theorem sp_copied (G : Good W) {t : Addr} {reg : Nat} (reg' : Nat) {T : Tree} (ht : DTree σ t reg T) (hz : T.length ≤ 100) (hrz : ∀ k rows, (k, Bnd.map rows) ∈ T → rows.length ≤ 100) :
    Spec W 1 313 [.ref t] σ (fun r σ' => ∃ d, r = .ref d ∧ DTree σ' d reg' T ∧ Le σ σ') := by
  obtain ⟨kvs, ep, hd, hr⟩ := ht
  refine enterB (ρ₀ := [("tree", .ref t)]) ["tree"] (fn_law_copied G) (bind1 fun _ => rfl) rfl (by decide) rfl fun L => T_nodup hd fun hnod => ?_
  have kl := hr.length
  k_extra "start"
  k_extra "bi"
  refine T_ListComp (by intro; rfl) (by k_extra "compok") ?_
  k_extra "go"
  refine ⟨[("tree", .ref t)], by k_extra "cap", ?_⟩
  refine comp_plain (fun i out σ' => out.length = i ∧ Le σ σ' ∧ ∃ kvs', PairsAt σ' out kvs' ∧ RAt DSub σ' reg' kvs' (T.take i)) (iter_dict hd) ⟨rfl, Le.rfl, [], ⟨rfl, fun i k v h => by cases h⟩, .nil⟩ (by omega) (fun i out σ' _ h => Nat.le_of_eq h.1) (fun i out σ' h => ⟨_, _, h.2.1 _ _ hd, rfl⟩) ?_ ?_
  · rintro i u hi ⟨k, v, hki, rfl⟩ out σ' ⟨h1, h2, kvs', hp, hr'⟩ C
    obtain ⟨b, hTi, hb⟩ := hr.at hki
    have hv := dget_at hnod hki
    have tks : T.take (i + 1) = T.take i ++ [(k, b)] := by rw [List.take_add_one, hTi]; rfl
    have fin : ∀ σ₂ x v', Le σ' σ₂ → σ₂ x = some (.tup [k.av, v']) → BAt DSub σ₂ reg' k v' b → (out ++ [AV.ref x]).length = i + 1 ∧ Le σ σ₂ ∧ ∃ kvs', PairsAt σ₂ (out ++ [.ref x]) kvs' ∧ RAt DSub σ₂ reg' kvs' (T.take (i + 1)) := fun σ₂ x v' l hx hb' => by
      refine ⟨by rw [List.length_append]; simp; omega, h2.trans l, kvs' ++ [(k, v')], ⟨by rw [List.length_append, List.length_append, hp.1]; rfl, fun j k' w hj => ?_⟩, ?_⟩
      · by_cases q : j < kvs'.length
        · rw [List.getElem?_append_left q] at hj
          obtain ⟨t', a, b⟩ := hp.2 j k' w hj
          exact ⟨t', by rw [List.getElem?_append_left (by rw [hp.1]; exact q)]; exact a, l _ _ b⟩
        · rw [List.getElem?_append_right (by omega)] at hj
          have : j - kvs'.length = 0 := by
            rcases Nat.eq_zero_or_pos (j - kvs'.length) with z | z
            · exact z
            · rw [List.getElem?_eq_none z] at hj; cases hj
          rw [this] at hj; cases hj
          exact ⟨x, by rw [List.getElem?_append_right (by rw [hp.1]; omega), hp.1, this]; rfl, hx⟩
      · have m := hr'.mod (P := fun _ => False) (Mod.of_le l) fun _ => id
        rw [tks]
        have : ∀ {kvs : List (Key × AV)} {T : Tree}, RAt DSub σ₂ reg' kvs T → RAt DSub σ₂ reg' (kvs ++ [(k, v')]) (T ++ [(k, b)]) := by
          intro kvs T h
          induction h with
          | nil => exact .cons hb' .nil
          | cons a _ ih => exact .cons a ih
        exact this m
    refine T_tests0 ⟨fun _ => ?_, (fun hb => nomatch hb)⟩
    k_extra "go"
    refine T_isValue (by k_extra "rf") ?_
    k_extra "bi"
    refine I_dict (by intro _ _; rfl) (h2 _ _ hd) hv ?_
    k_extra "go"
    k_extra "bi"
    cases b with
    | leaf c =>
      obtain rfl : v = lav c := hb
      have ty : ∃ t, tyOf W σ' (lav c) = some t ∧ kitOne W.K t (.type "dict") = some false := by
        cases c with
        | none => exact ⟨_, rfl, one_NoneType_dict G⟩
        | some s => exact ⟨_, rfl, one_str_dict G⟩
      obtain ⟨ty, ty1, ty2⟩ := ty
      refine L_isinst (cls_k G) other_type ty1 ty2 ⟨_, rfl, (fun hb => nomatch hb), fun _ => ?_⟩
      k_extra "go"
      refine I_dict (by intro _ _; rfl) (h2 _ _ hd) hv ?_
      k_extra "go"
      refine ⟨by simp, fun x σ₂ nx l hx => fin σ₂ x _ l hx rfl⟩
    | map rows =>
      obtain ⟨sub, rfl, eps, hsub⟩ := hb
      refine L_isinst (cls_k G) other_type (tyOf_dict (h2 _ _ hsub)) (one_dict_dict G) ⟨_, rfl, fun _ => ?_, (fun hb => nomatch hb)⟩
      k_extra "bi"
      refine I_dict (by intro _ _; rfl) (h2 _ _ hd) hv ?_
      k_extra "go"
      refine L_dict_dict (reg', some k) (h2 _ _ hsub) (by unfold lrows; rw [List.length_map]; have := hrz k rows (List.mem_of_getElem? hTi); omega) fun ep' y σ₂ ny l2 hy => ?_
      k_extra "go"
      refine ⟨by simp, fun x σ₃ nx l hx => fin σ₃ x _ (l2.trans l) hx ⟨y, rfl, ep', l _ _ hy⟩⟩
  · rintro out σ₂ ⟨h1, h2, kvs', hp, hr'⟩
    intro a σ₃ na le₃ ha
    rw [kl, List.take_length] at hr'
    have hp₃ : PairsAt σ₃ out kvs' := ⟨hp.1, fun i k v h => by obtain ⟨t, a, b⟩ := hp.2 i k v h; exact ⟨t, a, le₃ _ _ b⟩⟩
    have hk' : kvs'.map (·.1) = kvs.map (·.1) := by rw [hr'.keys, hr.keys]
    k_extra "go"
    refine L_dict_pairs (reg', none) ha hp₃ (by rw [hk']; exact hnod) (by rw [hr'.length]; omega) fun ep' d σ₄ nd le₄ hd' => ?_
    exact ⟨d, rfl, ⟨kvs', ep', hd', hr'.mod (P := fun _ => False) (Mod.of_le (le₃.trans le₄)) fun _ => id⟩, h2.trans (le₃.trans le₄)⟩
end

section
variable {W : Wd} {n : Nat} {env : Env} {ρ : Rho} {σ : AHeap}
theorem dget_keys {kvs : List (Key × AV)} {k : Key} (h : k ∈ kvs.map (·.1)) : (dget kvs k).isSome = true := by
  obtain ⟨p, hp, rfl⟩ := List.mem_map.mp h
  unfold dget
  rw [Option.isSome_map, List.find?_isSome]
  exact ⟨p, hp, by simp⟩
theorem plain_lav (c : Option Str) : Plain (lav c) := by cases c <;> trivial
theorem lav_eq {c : Option Str} {s : Str} : lav c = .str s ↔ c = some s := by
  cases c with
  | none => exact ⟨(fun h => nomatch h), (fun h => nomatch h)⟩
  | some c => exact ⟨fun h => by injection h with h; rw [h], fun h => by injection h with h; rw [h]; rfl⟩
theorem cTapp (old : Str) (a b : Tree) : cT old (a ++ b) = cT old a + cT old b := by
  induction a with
  | nil => show cT old b = 0 + cT old b; omega
  | cons p r ih =>
    obtain ⟨k, u⟩ := p
    cases u with
    | leaf c => show cC old c + cT old (r ++ b) = cC old c + cT old r + cT old b; omega
    | map m => show cR old m + cT old (r ++ b) = cR old m + cT old r + cT old b; omega
theorem kk1 {k : Key} (kvs : List (Key × AV)) (v : AV) : k ∈ kvs.map (·.1) → (kput kvs k v).map (·.1) = kvs.map (·.1) := by
  induction kvs with
  | nil => intro h; cases h
  | cons p r ih =>
    obtain ⟨j, u⟩ := p
    intro h
    show (if j = k then _ else _ : List (Key × AV)).map (·.1) = _
    by_cases e : j = k
    · rw [if_pos e]; rfl
    · rw [if_neg e, List.map_cons, List.map_cons, ih ((List.mem_cons.mp h).resolve_left fun q => e q.symm)]
inductive WdR (σ : AHeap) (reg' : Nat) (T : Tree) (old new : Str) (r : AV) (σ' : AHeap) : Prop
  | mk (a d : Addr) (e : r = .ref a) (ha : σ' a = some (.tup [.ref d, .int (cT old T)])) (hd : DTree σ' d reg' (swT old new T)) (m : Mod (·.1 = reg') σ σ') : WdR σ reg' T old new r σ'
inductive WJ1 (σ : AHeap) (d : Addr) (reg' ep : Nat) (T : Tree) (kvs₀ : List (Key × AV)) (old new : Str) (i : Nat) (ρ : Rho) (σ' : AHeap) : Prop
  | mk (kvs : List (Key × AV)) (z : Int) (hz : z = ((cT old (T.take i) : Nat) : Int)) (hs : Sub [("many", .int z), ("found", .ref d), ("old", .str old), ("new", .str new)] ρ) (j1 : σ' d = some (.dict (reg', none) kvs ep))
      (j2 : kvs.map (·.1) = kvs₀.map (·.1)) (j3 : RAt DSub σ' reg' kvs (swT old new (T.take i) ++ T.drop i)) (j4 : Mod (·.1 = reg') σ σ') : WJ1 σ d reg' ep T kvs₀ old new i ρ σ'
inductive WJ2 (σ : AHeap) (d sub : Addr) (reg' ep eps : Nat) (T : Tree) (kvs : List (Key × AV)) (i : Nat) (k : Key) (rows : Rows) (old new : Str) (j : Nat) (ρ : Rho) (s : AHeap) : Prop
  | mk (z : Int) (hz : z = ((cT old (T.take i) + cR old (rows.take j) : Nat) : Int)) (hs : Sub [("many", .int z), ("found", .ref d), ("old", .str old), ("new", .str new), ("event", k.av)] ρ) (i1 : s d = some (.dict (reg', none) kvs ep))
      (i2 : s sub = some (.dict (reg', some k) (lrows (swR old new (rows.take j) ++ rows.drop j)) eps)) (i3 : RAt DSub s reg' kvs (tput (swT old new (T.take i) ++ (k, .map rows) :: T.drop (i + 1)) k (.map (swR old new (rows.take j) ++ rows.drop j))))
      (i4 : Mod (·.1 = reg') σ s) : WJ2 σ d sub reg' ep eps T kvs i k rows old new j ρ s
theorem sp_swapped (G : Good W) {t : Addr} {reg : Nat} (reg' : Nat) {T : Tree} {old new : Str} (ht : DTree σ t reg T) (hz : T.length ≤ 100) (hrz : ∀ k rows, (k, Bnd.map rows) ∈ T → rows.length ≤ 100) :
    Spec W 2 320 [.ref t, .str old, .str new] σ (WdR σ reg' T old new) := by
  refine enterB (ρ₀ := [("tree", .ref t), ("old", .str old), ("new", .str new)]) ["tree", "old", "new"] (fn_law_swapped G) (bind3 fun _ _ _ => rfl) rfl (by decide) rfl fun L => ?_
  k_extra "start"
  refine S_AssignSwap (by k_extra "rf") (by k_extra "rf") (by k_extra "sto") (by k_extra "sto") ?_
  k_extra "go"
  refine T_CallFn (m := 1) (at_law_copied G) (by decide) rfl (by k_extra "rf") ?_
  k_extra "go"
  refine (sp_copied G reg' ht hz hrz).mono ?_
  rintro _ σ₁ ⟨d, rfl, ⟨kvs₀, ep, hd₁, hr₁⟩, le₁⟩
  k_extra "go"
  refine ⟨by simp, fun a₀ σ₂ na le₂ ha₀ => ⟨a₀, _, _, rfl, ha₀, ?_⟩⟩
  k_extra "set"
  k_extra "set"
  have hd₂ := le₂ _ _ hd₁
  have hr₂ : RAt DSub σ₂ reg' kvs₀ T := hr₁.mod (P := fun _ => False) (Mod.of_le le₂) fun _ => id
  refine T_nodup hd₂ fun hnod => ?_
  have hT : kvs₀.map (·.1) = tkeys T := hr₁.keys
  have hTn : (tkeys T).Nodup := hT ▸ hnod
  refine S_ForDict (by intro; rfl) (by k_extra "sto") ?_
  k_extra "go"
  refine ⟨d, _, kvs₀, ep, WJ1 σ d reg' ep T kvs₀ old new,
    rfl, hd₂, ⟨kvs₀, 0, rfl, by k_extra "sub", hd₂, rfl, hr₂, Mod.of_le (le₁.trans le₂)⟩, fun i ρ σ' h => by cases h with | mk kvs _ _ _ h1 h2 => exact ⟨_, kvs, h1, h2⟩, fun i k u hki ρ σ' h => ?_, fun ρ σ' h => ?_⟩
  · obtain ⟨kvs, z, hz', hs, j1, j2, j3, j4⟩ := h
    obtain ⟨b, hTi, _⟩ := hr₁.at hki
    have hlt : i < T.length := by
      rcases Nat.lt_or_ge i T.length with q | q
      · exact q
      · rw [List.getElem?_eq_none q] at hTi; cases hTi
    have hne : k ∉ tkeys (T.take i) := take_new hTn hTi
    have hne' : k ∉ tkeys (swT old new (T.take i)) := by rw [swT_keys]; exact hne
    have tks : T.take (i + 1) = T.take i ++ [(k, b)] := by rw [List.take_add_one, hTi]; rfl
    have htk : tkeys (swT old new (T.take i) ++ T.drop i) = tkeys T := by
      have e : tkeys T = tkeys (T.take i) ++ tkeys (T.drop i) := by unfold tkeys; rw [← List.map_append, List.take_append_drop]
      rw [e, ← swT_keys (old := old) (new := new) (T.take i)]; unfold tkeys; rw [List.map_append]
    have htn : (tkeys (swT old new (T.take i) ++ T.drop i)).Nodup := by rw [htk]; exact hTn
    rw [drop_at hTi] at j3 htn
    have step : swT old new (T.take (i + 1)) ++ T.drop (i + 1) = swT old new (T.take i) ++ (k, swB old new b) :: T.drop (i + 1) := by
      rw [tks]; unfold swT; rw [List.map_append, List.append_assoc]; rfl
    have kz : kvs.length ≤ 1000 := by
      have := congrArg List.length j2
      rw [List.length_map, List.length_map, hr₁.length] at this; omega
    obtain ⟨v, hv, hb⟩ : ∃ v, dget kvs k = some v ∧ BAt DSub σ' reg' k v b := by
      rcases j3.get k with ⟨_, h⟩ | ⟨v, b', h1, h2, h3⟩
      · rw [tget_mid hne'] at h; cases h
      · rw [tget_mid hne'] at h2; cases h2; exact ⟨v, h1, h3⟩
    refine weakS (sub_rset hs rfl) ?_
    k_extra "start"
    refine T_isValue (by k_extra "rf") ?_
    k_extra "bi"
    refine I_dict (by intro _ _; rfl) j1 hv ?_
    k_extra "go"
    k_extra "bi"
    cases b with
    | leaf c =>
      obtain rfl : v = lav c := hb
      have ce : cT old (T.take (i + 1)) = cT old (T.take i) + cC old c := by rw [tks, cTapp]; rfl
      have ty : ∃ t, tyOf W σ' (lav c) = some t ∧ kitOne W.K t (.type "dict") = some false := by
        cases c with
        | none => exact ⟨_, rfl, one_NoneType_dict G⟩
        | some s => exact ⟨_, rfl, one_str_dict G⟩
      obtain ⟨ty, ty1, ty2⟩ := ty
      refine L_isinst (cls_k G) other_type ty1 ty2 ⟨_, rfl, ?_⟩
      k_extra "no"
      refine I_dict (by intro _ _; rfl) j1 hv ?_
      k_extra "go"
      refine C_eq (plain_lav c) trivial ⟨_, rfl, fun hb => ?_, fun hb => ?_⟩
      · have e : c = some old := lav_eq.mp (of_decide_eq_true hb)
        subst e
        k_extra "start"
        k_extra "as1"
        refine B_add ?_
        k_extra "go"
        refine ⟨by simp, fun t₁ σ₃ nt le₃ ht₁ => ?_⟩
        intro wv ew
        refine T_assign2 (by k_extra "rf") ew (.inl ht₁) fun x y ex ey => ?_
        refine T_assignSub ?_
        k_extra "go"
        intro vo vi eo ei
        refine T_setItem_dict eo ei (le₃ _ _ j1) kz fun σ₄ ep' hep c₄ => ?_
        rw [ex, hep (by rw [hv]; rfl)] at c₄
        refine T_assignName (by k_extra "sto") (by k_extra "up") ?_
        rw [ey]
        k_extra "go"
        have m₄ : Mod (· = (reg', none)) σ₃ σ₄ := Mod.of_chg c₄ (le₃ _ _ j1) rfl rfl
        have kmem : k ∈ kvs.map (·.1) := by rw [j2]; exact List.mem_map.mpr ⟨_, List.mem_of_getElem? hki, rfl⟩
        refine ⟨_, z + 1, ?_, by k_extra "sub", c₄.1, by rw [kk1 _ _ kmem]; exact j2, ?_, (j4.trans (Mod.of_le le₃)).trans (m₄.mono fun g e => by rw [e])⟩
        · rw [ce, show cC old (some old) = 1 from if_pos rfl, hz']; rfl
        · rw [step]
          have := ((j3.mod (P := fun _ => False) (Mod.of_le le₃) fun _ => id).mod m₄ (fun _ e => by cases e)).put (k := k) (v := .str new) (b := .leaf (some new)) rfl
          rw [tput_mid hne'] at this
          show RAt _ _ _ _ (_ ++ (k, .leaf (swC old new (some old))) :: _)
          rw [show swC old new (some old) = some new from if_pos rfl]; exact this
      · have e : c ≠ some old := fun e => of_decide_eq_false hb (lav_eq.mpr e)
        k_extra "go"
        refine ⟨kvs, z, by rw [ce, show cC old c = 0 from if_neg e]; exact hz', by k_extra "sub", j1, j2, ?_, j4⟩
        rw [step]
        show RAt _ _ _ _ (_ ++ (k, .leaf (swC old new c)) :: _)
        rw [show swC old new c = c from if_neg e]; exact j3
    | map rows =>
      obtain ⟨sub, rfl, eps, hsub⟩ := hb
      have ce : cT old (T.take (i + 1)) = cT old (T.take i) + cR old rows := by rw [tks, cTapp]; rfl
      have rz := hrz k rows (List.mem_of_getElem? hTi)
      have ll : (lrows rows).length = rows.length := by unfold lrows; rw [List.length_map]
      refine L_isinst (cls_k G) other_type (tyOf_dict hsub) (one_dict_dict G) ⟨_, rfl, ?_⟩
      k_extra "yes"
      refine T_nodup hsub fun hnod' => ?_
      have rnod : (rows.map (·.1)).Nodup := by unfold lrows at hnod'; rw [List.map_map] at hnod'; exact hnod'
      refine S_ForDict (by intro; rfl) (by k_extra "sto") ?_
      k_extra "go"
      refine I_dict (by intro _ _; rfl) j1 hv ?_
      have j3' : RAt DSub σ' reg' kvs (tput (swT old new (T.take i) ++ (k, .map rows) :: T.drop (i + 1)) k (.map rows)) := by rw [tput_mid hne']; exact j3
      refine ⟨sub, _, lrows rows, eps, WJ2 σ d sub reg' ep eps T kvs i k rows old new,
        rfl, hsub, ⟨z, hz', by k_extra "sub", j1, hsub, j3', j4⟩, fun j ρ s h => ?_, fun j k' u' hkj ρ s h => ?_, fun ρ s h => ?_⟩
      · obtain ⟨_, _, _, _, h, _⟩ := h
        refine ⟨_, _, h, ?_⟩
        have e1 : ∀ r : Rows, (lrows r).map (·.1) = r.map (·.1) := fun r => by unfold lrows; rw [List.map_map]; rfl
        rw [e1, e1, List.map_append, swR_keys, ← List.map_append, List.take_append_drop]
      · obtain ⟨z, hz', hs, i1, i2, i3, i4⟩ := h
        obtain ⟨c, hc⟩ : ∃ c, rows[j]? = some (k', c) := by
          unfold lrows at hkj
          rw [List.getElem?_map] at hkj
          cases e : rows[j]? with
          | none => rw [e] at hkj; cases hkj
          | some kc => rw [e] at hkj; cases hkj; exact ⟨kc.2, rfl⟩
        have hne2 : k' ∉ (rows.take j).map (·.1) := take_new rnod hc
        have hne3 : k' ∉ (swR old new (rows.take j)).map (·.1) := by rw [swR_keys]; exact hne2
        have tks2 : rows.take (j + 1) = rows.take j ++ [(k', c)] := by rw [List.take_add_one, hc]; rfl
        have step2 : swR old new (rows.take (j + 1)) ++ rows.drop (j + 1) = swR old new (rows.take j) ++ (k', swC old new c) :: rows.drop (j + 1) := by
          rw [tks2]; unfold swR; rw [List.map_append, List.append_assoc]; rfl
        have ce2 : cT old (T.take i) + cR old (rows.take (j + 1)) = cT old (T.take i) + cR old (rows.take j) + cC old c := by rw [tks2, cR_app]; show _ + (_ + (cC old c + 0)) = _; omega
        rw [drop_at hc] at i2 i3
        have jl : j < rows.length := by
          rcases Nat.lt_or_ge j rows.length with q | q
          · exact q
          · rw [List.getElem?_eq_none q] at hc; cases hc
        have kz2 : (lrows (swR old new (rows.take j) ++ (k', c) :: rows.drop (j + 1))).length ≤ 1000 := by unfold lrows swR; rw [List.length_map, List.length_append, List.length_map, List.length_cons, List.length_take, List.length_drop]; omega
        refine weakS (sub_rset hs rfl) ?_
        k_extra "start"
        refine I_dict (by intro _ _; rfl) i1 hv ?_
        k_extra "go"
        refine I_dict (by intro _ _; rfl) i2 (rget_mid hne3) ?_
        k_extra "go"
        refine C_eq (plain_lav c) trivial ⟨_, rfl, fun hb => ?_, fun hb => ?_⟩
        · have e : c = some old := lav_eq.mp (of_decide_eq_true hb)
          subst e
          k_extra "start"
          k_extra "as1"
          refine B_add ?_
          k_extra "go"
          refine ⟨by simp, fun t₁ σ₃ nt le₃ ht₁ => ?_⟩
          intro wv ew
          refine T_assign2 (by k_extra "rf") ew (.inl ht₁) fun x y ex ey => ?_
          refine T_assignSub ?_
          k_extra "go"
          refine I_dict (by intro _ _; rfl) (le₃ _ _ i1) hv ?_
          k_extra "go"
          intro vo vi eo ei
          refine T_setItem_dict eo ei (le₃ _ _ i2) kz2 fun σ₄ ep' hep c₄ => ?_
          rw [ex, hep (by rw [rget_mid hne3]; rfl)] at c₄
          refine T_assignName (by k_extra "sto") (by k_extra "up") ?_
          rw [ey]
          k_extra "go"
          have m₄ : Mod (· = (reg', some k)) σ₃ σ₄ := Mod.of_chg c₄ (le₃ _ _ i2) rfl rfl
          have hin : σ₄ sub = some (.dict (reg', some k) (lrows (swR old new (rows.take (j + 1)) ++ rows.drop (j + 1))) eps) := by
            rw [c₄.1, step2, show swC old new (some old) = some new from if_pos rfl, ← rput_mid (b := some old) (b' := some new) hne3, lrows_put]; rfl
          have ne : d ≠ sub := fun q => by rw [q, i2] at i1; cases i1
          refine ⟨z + 1, ?_, by k_extra "sub", c₄.2 _ _ ne (le₃ _ _ i1), hin, ?_, (i4.trans (Mod.of_le le₃)).trans (m₄.mono fun g e => by rw [e])⟩
          · rw [ce2, show cC old (some old) = 1 from if_pos rfl, hz']; rfl
          · have := (i3.mod (P := fun _ => False) (Mod.of_le le₃) fun _ => id).upd (nodup_put htn _ _) hv m₄ ⟨eps, hin⟩
            rw [tput_tput] at this; exact this
        · have e : c ≠ some old := fun e => of_decide_eq_false hb (lav_eq.mpr e)
          k_extra "go"
          refine ⟨z, by rw [ce2, show cC old c = 0 from if_neg e]; exact hz', by k_extra "sub", i1, ?_, ?_, i4⟩
          · rw [step2, show swC old new c = c from if_neg e]; exact i2
          · rw [step2, show swC old new c = c from if_neg e]; exact i3
      · obtain ⟨z, hz', hs, i1, i2, i3, i4⟩ := h
        refine weakS hs ?_
        rw [ll, List.take_length] at hz'
        rw [ll, List.take_length, List.drop_length, List.append_nil, tput_mid hne'] at i3
        k_extra "go"
        refine ⟨kvs, z, by rw [ce]; exact hz', by k_extra "sub", i1, j2, ?_, i4⟩
        rw [step]; exact i3
  · obtain ⟨kvs, z, hz', hs, j1, j2, j3, j4⟩ := h
    refine weakS hs ?_
    have kl := hr₁.length
    rw [kl, List.take_length] at hz'
    rw [kl, List.take_length, List.drop_length, List.append_nil] at j3
    k_extra "go"
    refine ⟨by simp, fun a σ₃ na le₃ ha => ⟨a, d, rfl, by rw [ha, hz'], ⟨kvs, ep, le₃ _ _ j1, j3.mod (P := fun _ => False) (Mod.of_le le₃) fun _ => id⟩, j4.trans (Mod.of_le le₃)⟩⟩
end

section
variable {W : Wd} {n : Nat} {env : Env} {ρ : Rho} {σ : AHeap}
/-- the keymaps and the trees are built in step -/
structure TR (σ : AHeap) (ks ts : Addr) (x t : Nat → Addr) (T : Nat → Tree) (i : Nat) : Prop where
  kl : σ ks = some (.list [.ref (x 0), .ref (x 1)])
  tl : σ ts = some (.list [.ref (t 0), .ref (t 1)])
  km : ∀ j, j < 2 → KTop σ (x j) j .none (T j)
  dt : ∀ j, j < 2 → DTree σ (t j) (2 + j) (T j)
  ok : ∀ j, j < 2 → TOk i (T j)
theorem TR.off {σ' : AHeap} {ks ts dk s : Addr} {x t : Nat → Addr} {T : Nat → Tree} {i di : Nat} (h : TR σ ks ts x t T i) (d : Deck σ dk s di) (o : Off dk σ σ') : TR σ' ks ts x t T i := by
  have kt := o.kt d
  refine ⟨o _ _ (fun q => ?_) h.kl, o _ _ (fun q => ?_) h.tl, fun j hj => (h.km j hj).kt kt, fun j hj => (h.dt j hj).kt kt, h.ok⟩
  · have := d.at_; rw [← q, h.kl] at this; cases this
  · have := d.at_; rw [← q, h.tl] at this; cases this
theorem TR.mono {ks ts : Addr} {x t : Nat → Addr} {T : Nat → Tree} {i i' : Nat} (h : TR σ ks ts x t T i) (hi : i ≤ i') : TR σ ks ts x t T i' := ⟨h.kl, h.tl, h.km, h.dt, fun j hj => (h.ok j hj).mono hi⟩
theorem ref_at {f : Nat → Addr} {j : Nat} (hj : j < 2) : [AV.ref (f 0), AV.ref (f 1)][(j : Int).toNat]? = some (.ref (f j)) := by
  match j, hj with
  | 0, _ => rfl
  | 1, _ => rfl
theorem TR.step {σ' σ'' : AHeap} {ks ts : Addr} {x t : Nat → Addr} {T : Nat → Tree} {i j : Nat} {T' : Tree} (h : TR σ ks ts x t T i) (hj : j < 2) (hok : TOk (i + 1) T') (m : Mod (·.1 = 2 + j) σ σ') (hd : DTree σ' (t j) (2 + j) T')
    (m' : Mod (·.1 = j) σ' σ'') (hk : KTop σ'' (x j) j .none T') : TR σ'' ks ts x t (fun i => if i = j then T' else T i) (i + 1) := by
  have un : ∀ {a : Addr} {vs : List AV}, σ a = some (.list vs) → σ'' a = some (.list vs) := fun e => m' _ _ (m _ _ e fun _ q => nomatch q) fun _ q => nomatch q
  refine ⟨un h.kl, un h.tl, fun i hi => ?_, fun i hi => ?_, fun i hi => ?_⟩
  · by_cases e : i = j
    · subst e; simp only [if_true]; exact hk
    · simp only [if_neg e]; exact ((h.km i hi).mod m (fun _ q => by simp only at q; omega)).mod m' (fun _ q => e q)
  · by_cases e : i = j
    · subst e; simp only [if_true]; exact hd.mod m' (fun _ q => by simp only at q; omega)
    · simp only [if_neg e]; exact ((h.dt i hi).mod m (fun _ q => by simp only at q; omega)).mod m' (fun _ q => by simp only at q; omega)
  · by_cases e : i = j
    · subst e; simp only [if_true]; exact hok
    · simp only [if_neg e]; exact (h.ok i hi).mono (Nat.le_succ _)
theorem cmd_of {b : AV} (h : b ∈ [AV.str "go", AV.str "stay", AV.none, AV.str "leave"]) : ∃ c, b = lav c := by
  simp only [List.mem_cons, List.not_mem_nil, or_false] at h
  rcases h with rfl | rfl | rfl | rfl
  · exact ⟨some "go", rfl⟩
  · exact ⟨some "stay", rfl⟩
  · exact ⟨none, rfl⟩
  · exact ⟨some "leave", rfl⟩
theorem evs_ok : ∀ k ∈ evs, k.ok := by
  intro k hk
  simp only [evs, List.mem_cons, List.not_mem_nil, or_false] at hk
  rcases hk with rfl | rfl | rfl | rfl
  · rfl
  · rfl
  · rfl
  · trivial
theorem Deck.fresh {dk s l : Addr} {i : Nat} (h : Deck σ dk s i) (nl : σ l = none) : l ≠ dk := fun q => by rw [q, h.at_] at nl; cases nl
/-- all that carries no tag is kept, but for the deck -/
def Kp (dk : Addr) (σ σ' : AHeap) : Prop := ∀ b o, b ≠ dk → tagOf o = none → σ b = some o → σ' b = some o
theorem Kp.trans {dk : Addr} {σ σ1 σ2 : AHeap} (a : Kp dk σ σ1) (b : Kp dk σ1 σ2) : Kp dk σ σ2 := fun x o n t e => b x o n t (a x o n t e)
theorem Kp.of_le {dk : Addr} {σ σ' : AHeap} (h : Le σ σ') : Kp dk σ σ' := fun a o _ _ e => h a o e
theorem Kp.of_off {dk : Addr} {σ σ' : AHeap} (h : Off dk σ σ') : Kp dk σ σ' := fun a o n _ e => h a o n e
theorem Kp.of_mod {dk : Addr} {P : Tag → Prop} {σ σ' : AHeap} (h : Mod P σ σ') : Kp dk σ σ' := fun a o _ t e => h a o e fun g q => by rw [t] at q; cases q
inductive TrR (dk s : Addr) (σ : AHeap) (r : AV) (σ' : AHeap) : Prop
  | mk (a ks ts : Addr) (x t : Nat → Addr) (T : Nat → Tree) (di : Nat) (e : r = .ref a) (ha : σ' a = some (.tup [.ref ks, .ref ts])) (tr : TR σ' ks ts x t T 8) (d : Deck σ' dk s di) (hd : di ≤ 80) (k : Kp dk σ σ') : TrR dk s σ r σ'
inductive TJ0 (P : AHeap → Nat → Addr → Prop) (σ₁ : AHeap) (i : Nat) (out : List AV) (σ' : AHeap) : Prop
  | mk (xs : List Addr) (e : out = xs.map .ref) (h1 : xs.length = i) (h2 : Le σ₁ σ') (h3 : ∀ j x, xs[j]? = some x → P σ' j x) : TJ0 P σ₁ i out σ'
inductive TJ1 (dk s ks ts : Addr) (x t : Nat → Addr) (σ : AHeap) (i : Nat) (ρ : Rho) (σ' : AHeap) : Prop
  | mk (T : Nat → Tree) (di : Nat) (hs : Sub [("deck", .ref dk), ("many", .int 2), ("keymaps", .ref ks), ("trees", .ref ts)] ρ) (tr : TR σ' ks ts x t T i) (d : Deck σ' dk s di) (dz : di ≤ 10 * i) (kp : Kp dk σ σ') : TJ1 dk s ks ts x t σ i ρ σ'
inductive TJ2 (dk s : Addr) (di : Nat) (a₆ : AHeap) (i : Nat) (out : List AV) (s' : AHeap) : Prop
  | mk (kl : List Key) (e : out = kl.map Key.av) (h1 : kl.length = i) (h2 : ∀ k ∈ kl, k ∈ evs) (h3 : Deck s' dk s (di + 1 + 1 + 1 + i)) (h4 : Off dk a₆ s') : TJ2 dk s di a₆ i out s'
inductive TQn (dk ks ts ka : Addr) (j : Nat) (c : Option Str) (t : Nat → Addr) (T : Nat → Tree) (kl : List Key) (a₁₀ : AHeap) (ρ : Rho) (s' : AHeap) : Prop
  | mk (hs : Sub [("deck", .ref dk), ("many", .int 2), ("keymaps", .ref ks), ("trees", .ref ts), ("at", .int (j : Nat)), ("binding", lav c), ("keys", .ref ka)] ρ) (hf : tfree (T j) kl) (hd : DTree s' (t j) (2 + j) (tdef (T j) kl c)) (mm : Mod (·.1 = 2 + j) a₁₀ s') : TQn dk ks ts ka j c t T kl a₁₀ ρ s'
inductive TQc (dk ks ts : Addr) (a₁₀ : AHeap) (ρ : Rho) (s' : AHeap) : Prop
  | mk (hs : Sub [("deck", .ref dk), ("many", .int 2), ("keymaps", .ref ks), ("trees", .ref ts)] ρ) (l : Le a₁₀ s') : TQc dk ks ts a₁₀ ρ s'
def TQ (dk ks ts ka : Addr) (j : Nat) (c : Option Str) (t : Nat → Addr) (T : Nat → Tree) (kl : List Key) (a₁₀ : AHeap) : AFlow → Rho → AHeap → Prop
  | .next, ρ, s' => TQn dk ks ts ka j c t T kl a₁₀ ρ s'
  | .cont, ρ, s' => TQc dk ks ts a₁₀ ρ s'
  | _, _, _ => False
theorem sp_trees (G : Good W) {dk s : Addr} (hdk : Deck σ dk s 0) : Spec W 6 286 [.ref dk, .int 2] σ (TrR dk s σ) := by
  refine enterB (ρ₀ := [("deck", .ref dk), ("many", .int 2)]) ["deck", "many"] (fn_law_trees G) (bind2 fun _ _ => rfl) rfl (by decide) rfl fun L => ?_
  k_extra "start"
  refine S_AssignSwap (by k_extra "rf") (by k_extra "rf") (by k_extra "sto") (by k_extra "sto") ?_
  k_extra "go"
  refine T_ListComp (by intro; rfl) (by k_extra "compok") ?_
  k_extra "bi"
  refine L_range1 fun t₁ u₁ v₁ r₁ σ₁ nr₁ le₁ hr₁ => ?_
  refine ⟨[], by k_extra "cap", ?_⟩
  refine comp_plain (TJ0 (fun σ' j x => KTop σ' x j .none []) σ₁) (iter_range (a := 0) (b := 2) hr₁ (by decide) (by decide) (by decide)) ⟨[], rfl, rfl, Le.rfl, fun j x h => by cases h⟩ (by decide) (fun i out σ' _ h => by cases h with | mk xs e h => rw [e, List.length_map, h]; exact Nat.le_refl _) (fun i out σ' h => trivial) ?_ ?_
  · rintro i u hi hu out σ' ⟨xs, rfl, h1, h2, h3⟩ C
    refine T_tests0 ⟨fun _ => ?_, (fun hb => nomatch hb)⟩
    refine T_Keymap0 G (i, none) (by decide) rfl (by k_extra "rf") fun y σ₂ ny le₂ hy => ?_
    refine ⟨xs ++ [y], by rw [List.map_append]; rfl, by rw [List.length_append, h1]; rfl, h2.trans le₂, fun j x hj => ?_⟩
    by_cases q : j < xs.length
    · rw [List.getElem?_append_left q] at hj; exact (h3 j x hj).le le₂
    · rw [List.getElem?_append_right (by omega)] at hj
      have : j - xs.length = 0 := by
        rcases Nat.eq_zero_or_pos (j - xs.length) with z | z
        · exact z
        · rw [List.getElem?_eq_none z] at hj; cases hj
      rw [this] at hj; cases hj
      have : j = i := by omega
      subst this
      exact ⟨[], hy, .nil⟩
  rintro out σ₂ ⟨xs, rfl, h1, h2, h3⟩
  intro ks σ₃ nks le₃ hks
  k_extra "go"
  refine T_ListComp (by intro; rfl) (by k_extra "compok") ?_
  k_extra "bi"
  refine L_range1 fun t₂ u₂ v₂ r₂ σ₄ nr₂ le₄ hr₂ => ?_
  refine ⟨[], by k_extra "cap", ?_⟩
  refine comp_plain (TJ0 (fun σ' j x => DTree σ' x (2 + j) []) σ₄) (iter_range (a := 0) (b := 2) hr₂ (by decide) (by decide) (by decide)) ⟨[], rfl, rfl, Le.rfl, fun j x h => by cases h⟩ (by decide) (fun i out σ' _ h => by cases h with | mk xs e h => rw [e, List.length_map, h]; exact Nat.le_refl _) (fun i out σ' h => trivial) ?_ ?_
  · rintro i u hi hu out σ' ⟨xs, rfl, h1, h2, h3⟩ C
    refine T_tests0 ⟨fun _ => ?_, (fun hb => nomatch hb)⟩
    refine T_Dict0 (2 + i, none) fun y σ₂ ny le₂ hy => ?_
    refine ⟨xs ++ [y], by rw [List.map_append]; rfl, by rw [List.length_append, h1]; rfl, h2.trans le₂, fun j x hj => ?_⟩
    by_cases q : j < xs.length
    · rw [List.getElem?_append_left q] at hj; exact (h3 j x hj).le le₂
    · rw [List.getElem?_append_right (by omega)] at hj
      have : j - xs.length = 0 := by
        rcases Nat.eq_zero_or_pos (j - xs.length) with z | z
        · exact z
        · rw [List.getElem?_eq_none z] at hj; cases hj
      rw [this] at hj; cases hj
      have : j = i := by omega
      subst this
      exact ⟨[], 0, hy, .nil⟩
  rintro out σ₅ ⟨ys, rfl, g1, g2, g3⟩
  intro ts σ₆ nts le₆ hts
  k_extra "go"
  refine ⟨by simp, fun tp σ₇ ntp le₇ htp => ⟨tp, _, _, rfl, htp, ?_⟩⟩
  k_extra "set"
  k_extra "set"
  obtain ⟨x0, x1, rfl⟩ : ∃ x0 x1, xs = [x0, x1] := by
    match xs, h1 with
    | [a, b], _ => exact ⟨a, b, rfl⟩
  obtain ⟨y0, y1, rfl⟩ : ∃ x0 x1, ys = [x0, x1] := by
    match ys, g1 with
    | [a, b], _ => exact ⟨a, b, rfl⟩
  have l37 : Le σ₂ σ₇ := (le₃.trans le₄).trans (g2.trans (le₆.trans le₇))
  have l57 := le₆.trans le₇
  have tr₀ : TR σ₇ ks ts (fun j => if j = 0 then x0 else x1) (fun j => if j = 0 then y0 else y1) (fun _ => []) 0 := by
    refine ⟨(le₄.trans (g2.trans l57)) _ _ hks, le₇ _ _ hts, fun j hj => ?_, fun j hj => ?_, fun j hj => TOk.nil⟩
    · match j, hj with
      | 0, _ => exact (h3 0 x0 rfl).le l37
      | 1, _ => exact (h3 1 x1 rfl).le l37
    · match j, hj with
      | 0, _ => exact (g3 0 y0 rfl).le l57
      | 1, _ => exact (g3 1 y1 rfl).le l57
  generalize (fun j : Nat => if j = 0 then x0 else x1) = x at tr₀
  generalize (fun j : Nat => if j = 0 then y0 else y1) = t at tr₀
  have dk₇ : Deck σ₇ dk s 0 := hdk.le ((le₁.trans h2).trans l37)
  refine S_ForRange (by intro; rfl) (by k_extra "sto") ?_
  k_extra "bi"
  refine B_mul (.of_left (intBits_le_64 (by decide) (by decide))) ?_
  refine B_add ?_
  k_extra "go"
  refine L_range1 fun t₈ u₈ v₈ r₈ σ₈ nr₈ le₈ hr₈ => ?_
  refine ⟨r₈, 0, 8, t₈, u₈, v₈, TJ1 dk s ks ts x t σ, rfl, hr₈, by decide, by decide, ⟨_, 0, by k_extra "sub", tr₀.off dk₇ (Off.of_le le₈), dk₇.le le₈, Nat.le_refl _, Kp.of_le (((le₁.trans h2).trans l37).trans le₈)⟩, fun i hi ρ σ' h => ?_, fun ρ σ' h => ?_⟩
  · obtain ⟨T, di, hs, tr, dk', dz, kp⟩ := h
    refine weakS (sub_rset hs rfl) ?_
    k_extra "start"
    refine S_AssignSwap (by k_extra "rf") (by k_extra "rf") (by k_extra "sto") (by k_extra "sto") ?_
    k_extra "go"
    refine T_CallFn (m := 1) (at_law_draw G) (by decide) rfl (by k_extra "rf") ?_
    k_extra "go"
    refine (sp_draw G dk' (by omega) (many := 2) (by decide) (by decide)).mono ?_
    rintro _ a₁ ⟨j, rfl, hj, dk₁, o₁⟩
    k_extra "go"
    refine T_CallFn (m := 2) (at_law_pick G) (by decide) rfl (by k_extra "rf") ?_
    k_extra "go"
    refine ⟨by simp, fun l a₂ nl b₂ hl => ?_⟩
    k_extra "go"
    refine (sp_pick G (dk₁.le b₂) (by omega) hl (dk₁.fresh nl) (by simp) (by simp)).mono ?_
    rintro b a₃ ⟨hb, dk₃, o₃⟩
    obtain ⟨c, rfl⟩ := cmd_of hb
    k_extra "go"
    refine ⟨by simp, fun tp a₄ ntp b₄ htp => ⟨tp, _, _, rfl, htp, ?_⟩⟩
    k_extra "set"
    k_extra "set"
    have o₄ : Off dk σ' a₄ := ((o₁.trans (Off.of_le b₂)).trans o₃).trans (Off.of_le b₄)
    have dk₄ := dk₃.le b₄
    k_extra "asg"
    k_extra "bi"
    refine T_ListComp (by intro; rfl) (by k_extra "compok") ?_
    k_extra "bi"
    refine T_CallFn (m := 1) (at_law_draw G) (by decide) rfl (by k_extra "rf") ?_
    k_extra "go"
    refine (sp_draw G dk₄ (by omega) (many := 2) (by decide) (by decide)).mono ?_
    rintro _ a₅ ⟨e, rfl, he, dk₅, o₅⟩
    refine B_add ?_
    k_extra "go"
    rw [show (1 : Int) + (e : Int) = ((1 + e : Nat) : Int) by omega]
    refine L_range1 fun tt uu vv rr a₆ nr b₆ hr => ?_
    refine ⟨[("deck", .ref dk)], by k_extra "cap", ?_⟩
    refine comp_plain (TJ2 dk s di a₆) (iter_range (a := 0) (b := 1 + e) hr (by decide) (by omega) (by omega)) ⟨[], rfl, rfl, (fun _ h => nomatch h), dk₅.le b₆, Off.of_le Le.rfl⟩ (by omega) (fun i out s' _ h => by cases h with | mk xs e h => rw [e, List.length_map, h]; exact Nat.le_refl _) (fun i out s' h => trivial) ?_ ?_
    · rintro i' u hi' hu out s' ⟨kl, rfl, h1, h2, h3, h4⟩ C
      refine T_tests0 ⟨fun _ => ?_, (fun hb => nomatch hb)⟩
      refine T_CallFn (m := 2) (at_law_pick G) (by decide) rfl (by k_extra "rf") ?_
      k_extra "go"
      refine T_CallFn (m := 1) (at_law_events G) (by decide) rfl (by k_extra "rf") (ca_nil ?_)
      refine (sp_events G).mono ?_
      rintro _ s₁ ⟨l, rfl, nl, c₁, hl⟩
      k_extra "go"
      refine (sp_pick G (h3.le c₁) (by omega) hl (h3.fresh nl) (by decide) (by decide)).mono ?_
      rintro v s₂ ⟨hv, d₂, o₂⟩
      obtain ⟨k, hk, rfl⟩ := List.mem_map.mp hv
      refine ⟨kl ++ [k], by rw [List.map_append]; rfl, by rw [List.length_append, h1]; rfl, fun k' hk' => ?_, d₂, h4.trans ((Off.of_le c₁).trans o₂)⟩
      rcases List.mem_append.mp hk' with h | h
      · exact h2 _ h
      · rw [List.mem_singleton.mp h]; exact hk
    rintro out a₇ ⟨kl, rfl, k1, k2, dk₇', o₇⟩
    intro la a₈ nla b₈ hla
    have kz : kl.length ≤ 2 := by omega
    k_extra "go"
    refine L_tuple_list hla (by rw [List.length_map]; omega) fun ka a₉ nka b₉ hka => ?_
    k_extra "set"
    have o₉ : Off dk σ' a₉ := (((o₄.trans o₅).trans (Off.of_le b₆)).trans o₇).trans (Off.of_le (b₈.trans b₉))
    have dk₉ := dk₇'.le (b₈.trans b₉)
    have tr₉ := tr.off dk' o₉
    have kok : ∀ k ∈ kl, k.ok := fun k hk => evs_ok k (k2 k hk)
    obtain ⟨k, r, rfl⟩ : ∃ k r, kl = k :: r := by
      cases kl with
      | nil => simp at k1; omega
      | cons k r => exact ⟨k, r, rfl⟩
    refine S_AssignSwap (by k_extra "rf") (by k_extra "rf") (by k_extra "sto") (by k_extra "sto") ?_
    k_extra "go"
    refine I_list (by intro _ _; rfl) tr₉.tl (by omega) (by omega) (ref_at hj) ?_
    k_extra "go"
    refine I_tup (j := 0) (v := k.av) (by intro _ _; rfl) hka (by decide) (by decide) (by unfold seqIndex?; simp) rfl ?_
    k_extra "go"
    refine ⟨by simp, fun tq a₁₀ ntq b₁₀ htq => ⟨tq, _, _, rfl, htq, ?_⟩⟩
    apply Exists.intro; apply And.intro; k_extra "up"
    apply Exists.intro; apply And.intro; k_extra "up"
    have tr₁₀ := tr₉.off dk₉ (Off.of_le b₁₀)
    have dk₁₀ := dk₉.le b₁₀
    have hka₁₀ := b₁₀ _ _ hka
    have o₁₀ : Off dk σ' a₁₀ := o₉.trans (Off.of_le b₁₀)
    have tok := tr₁₀.ok j hj
    have hd₁₀ := tr₁₀.dt j hj
    obtain ⟨kvs, ep, hd, hr'⟩ := id hd₁₀
    have zk : kvs.length ≤ 1000 := by rw [hr'.length]; have := tok.2.1; omega
    refine S_cons ?_
    refine Mine.T.mono (Q := TQ dk ks ts ka j c t T (k :: r) a₁₀) ?_ ?_
    · refine S_If ?_
      k_extra "go"
      k_extra "bi"
      refine L_len_tup hka₁₀ (by rw [List.length_map]; omega) ?_
      k_extra "go"
      refine C_eq_int ⟨_, rfl, ?_⟩
      match r, kz with
      | [], _ =>
        refine ⟨fun _ => ?_, (fun hb => by simp at hb)⟩
        k_extra "go"
        refine S_AssignSub (by k_extra "rf") ?_
        k_extra "go"
        intro vo vi vv eo ei ev
        refine T_setItem_dict eo ei hd zk fun s' ep' _ cc => ?_
        rw [ev] at cc
        have mm : Mod (· = (2 + j, none)) a₁₀ s' := Mod.of_chg cc hd rfl rfl
        k_extra "go"
        exact ⟨by k_extra "sub", trivial, ⟨_, ep', cc.1, (hr'.mod mm (fun _ e => by cases e)).put rfl⟩, mm.mono fun g e => by rw [e]⟩
      | [k'], _ =>
        refine ⟨(fun hb => by simp at hb), fun _ => ?_⟩
        k_extra "go"
        refine T_MethB (by k_extra "rf") PySem.F.plainAttrs_dict PySem.F.slot_dict_get PySem.F.type_dict_get ?_
        k_extra "go"
        refine ⟨t j, _, rfl, hd, fun h => ty_dict h, ?_⟩
        k_extra "go"
        refine L_get hd ?_
        k_extra "go"
        have hcase : ((dget kvs k).getD .none = .none ∧ rowsAt (T j) k = [] ∧ ∀ c, tget (T j) k ≠ some (.leaf (some c))) ∨ (∃ y rows eps, dget kvs k = some (.ref y) ∧ a₁₀ y = some (.dict (2 + j, some k) (lrows rows) eps) ∧ rowsAt (T j) k = rows ∧ ∀ c, tget (T j) k ≠ some (.leaf (some c))) ∨ (∃ c, dget kvs k = some (.str c)) := by
          rcases hr'.get k with ⟨h1, h2⟩ | ⟨v, b, h1, h2, h3⟩
          · left; rw [h1]; unfold rowsAt; rw [h2]; exact ⟨rfl, rfl, fun _ e => nomatch e⟩
          · cases b with
            | leaf c =>
              cases c with
              | none => left; rw [h1, show v = .none from h3]; unfold rowsAt; rw [h2]; exact ⟨rfl, rfl, fun _ e => nomatch e⟩
              | some c => right; right; exact ⟨c, by rw [h1, show v = .str c from h3]⟩
            | map rows =>
              obtain ⟨y, rfl, eps, hy⟩ := h3
              right; left; exact ⟨y, rows, eps, h1, hy, by unfold rowsAt; rw [h2], by rw [h2]; exact fun _ e => nomatch e⟩
        rcases hcase with ⟨hv, hrw, hfr⟩ | ⟨y, rows, eps, hy, hys, hrw, hfr⟩ | ⟨c', hy⟩
        · rw [hv]
          refine C_is_none ⟨_, rfl, ?_⟩
          k_extra "yes"
          refine S_AssignSub (by k_extra "rf") ?_
          refine T_Dict (2 + j, some k) rfl rfl (by simp) (by decide) ?_
          refine P_cons ?_
          k_extra "go"
          refine I_tup (j := 1) (v := k'.av) (by intro _ _; rfl) hka₁₀ (by decide) (by decide) (by unfold seqIndex?; simp) rfl ?_
          k_extra "go"
          refine P_nil ⟨[(k', lav c)], rfl, by simp, fun ep₂ y s₁ ny cs hy => ?_⟩
          k_extra "go"
          intro vo vi vv eo ei ev
          refine T_setItem_dict eo ei (cs _ _ hd) zk fun s' ep' _ cc => ?_
          rw [ev] at cc
          have mm : Mod (· = (2 + j, none)) s₁ s' := Mod.of_chg cc (cs _ _ hd) rfl rfl
          k_extra "go"
          have ne : y ≠ t j := fun q => by rw [q, hd] at ny; cases ny
          refine ⟨by k_extra "sub", hfr, ⟨_, ep', cc.1, ?_⟩, Mod.le cs (mm.mono fun g e => by rw [e])⟩
          have := (((hr'.mod (P := fun _ => False) (Mod.of_le cs) fun _ => id).mod mm (fun _ e => by cases e)).put (k := k) (v := .ref y) (b := .map [(k', c)]) ⟨y, rfl, ep₂, cc.2 _ _ ne hy⟩)
          show RAt _ _ _ _ (tput (T j) k (.map (rput (rowsAt (T j) k) k' c)))
          rw [hrw]; exact this
        · have hv : (dget kvs k).getD .none = .ref y := by rw [hy]; rfl
          rw [hv]
          refine C_is_none ⟨_, rfl, ?_⟩
          k_extra "no"
          refine T_isValue (by k_extra "rf") ?_
          k_extra "bi"
          refine I_dict (by intro _ _; rfl) hd hy ?_
          k_extra "go"
          k_extra "bi"
          refine L_isinst (cls_k G) other_type (tyOf_dict hys) (one_dict_dict G) ⟨_, rfl, ?_⟩
          k_extra "yes"
          refine S_AssignSub (by k_extra "rf") ?_
          k_extra "go"
          refine I_dict (by intro _ _; rfl) hd hy ?_
          k_extra "go"
          refine I_tup (j := 1) (v := k'.av) (by intro _ _; rfl) hka₁₀ (by decide) (by decide) (by unfold seqIndex?; simp) rfl ?_
          intro vo vi vv eo ei ev
          refine T_setItem_dict eo ei hys (by unfold lrows; rw [List.length_map, ← hrw]; have := tok.2.2 k; omega) fun s' ep' _ cc => ?_
          rw [ev] at cc
          have mm : Mod (· = (2 + j, some k)) a₁₀ s' := Mod.of_chg cc hys rfl rfl
          k_extra "go"
          have ne : t j ≠ y := fun q => by rw [q, hys] at hd; cases hd
          refine ⟨by k_extra "sub", hfr, ⟨kvs, ep, cc.2 _ _ ne hd, ?_⟩, mm.mono fun g e => by rw [e]⟩
          show RAt _ _ _ _ (tput (T j) k (.map (rput (rowsAt (T j) k) k' c)))
          rw [hrw]
          exact hr'.upd tok.1 hy mm ⟨ep', by rw [lrows_put]; exact cc.1⟩
        · have hv : (dget kvs k).getD .none = .str c' := by rw [hy]; rfl
          rw [hv]
          refine C_is_none ⟨_, rfl, ?_⟩
          k_extra "no"
          refine T_isValue (by k_extra "rf") ?_
          k_extra "bi"
          refine I_dict (by intro _ _; rfl) hd hy ?_
          k_extra "go"
          k_extra "bi"
          refine L_isinst (v := .str c') (cls_k G) other_type rfl (one_str_dict G) ⟨_, rfl, ?_⟩
          k_extra "no"
          exact ⟨by k_extra "sub", Le.rfl⟩
    · intro fl ρ s' hq
      cases fl with
      | brk => exact hq.elim
      | ret v => exact hq.elim
      | cont =>
        obtain ⟨hs, l'⟩ := hq
        exact ⟨T, _, hs, (tr₁₀.off dk₁₀ (Off.of_le l')).mono (Nat.le_succ _), dk₁₀.le l', by omega, (kp.trans (Kp.of_off o₁₀)).trans (Kp.of_le l')⟩
      | next =>
        obtain ⟨hs, hfr, hdt, mm⟩ := hq
        refine weakS hs ?_
        k_extra "start"
        refine T_CallFn (m := 5) (at_define_key G) (by decide) rfl (by k_extra "rf") ?_
        k_extra "go"
        have hkl : s' ks = some (.list [.ref (x 0), .ref (x 1)]) := mm _ _ tr₁₀.kl fun _ q => nomatch q
        refine I_list (by intro _ _; rfl) hkl (by omega) (by omega) (ref_at hj) ?_
        k_extra "go"
        have hkt := (tr₁₀.km j hj).mod mm (fun _ q => by simp only at q; omega)
        refine (sp_def G (mm _ _ hka₁₀ fun _ q => nomatch q) kok hkt tok (by omega) hfr).mono ?_
        rintro _ s'' ⟨rfl, hk'', m''⟩
        k_extra "go"
        exact ⟨_, _, by k_extra "sub", tr₁₀.step hj (tok.tdef _ _) mm hdt m'' hk'', (dk₁₀.mod mm).mod m'', by omega, ((kp.trans (Kp.of_off o₁₀)).trans (Kp.of_mod mm)).trans (Kp.of_mod m'')⟩
  · obtain ⟨T, di, hs, tr, dk', dz, kp⟩ := h
    refine weakS hs ?_
    k_extra "go"
    refine ⟨by simp, fun a σ₉ na le₉ ha => ⟨a, ks, ts, x, t, T, di, rfl, ha, tr.off dk' (Off.of_le le₉), dk'.le le₉, dz, kp.trans (Kp.of_le le₉)⟩⟩
end

section
variable {W : Wd} {n : Nat} {env : Env} {ρ : Rho} {σ : AHeap}
inductive All2 {α β : Type} (R : α → β → Prop) : List α → List β → Prop where
  | nil : All2 R [] []
  | cons {a b as bs} : R a b → All2 R as bs → All2 R (a :: as) (b :: bs)
theorem All2.app {α β : Type} {R : α → β → Prop} {as cs : List α} {bs ds : List β} (h : All2 R as bs) (h' : All2 R cs ds) : All2 R (as ++ cs) (bs ++ ds) := by
  induction h with
  | nil => exact h'
  | cons a _ ih => exact .cons a ih
theorem All2.length {α β : Type} {R : α → β → Prop} {as : List α} {bs : List β} (h : All2 R as bs) : as.length = bs.length := by
  induction h with
  | nil => rfl
  | cons _ _ ih => simp [ih]
/-- a keymap and a dict of the same rows -/
def RA (σ : AHeap) (x y : Addr) : Prop := ∃ rows g g', KSub σ x g rows ∧ DSub σ y g' rows
def ItRel (σ : AHeap) : Item → Item → Prop
  | .leaf c, .leaf c' => c = c'
  | .map x, .map y => RA σ x y
  | _, _ => False
theorem coll_rel {its its' : List Item} (h : All2 (ItRel σ) its its') : All2 (RA σ) (coll its).1 (coll its').1 ∧ (coll its).2 = (coll its').2 := by
  induction h with
  | nil => exact ⟨.nil, rfl⟩
  | @cons a b as bs hr _ ih =>
    cases a with
    | leaf c =>
      cases b with
      | map y => exact hr.elim
      | leaf c' =>
        have hr : c = c' := hr
        subst hr
        cases c with
        | none => exact ih
        | some c => exact ⟨.nil, rfl⟩
    | map x =>
      cases b with
      | leaf c => exact hr.elim
      | map y => exact ⟨.cons hr ih.1, ih.2⟩
theorem firstOf_rel {its its' : List Item} (h : All2 (ItRel σ) its its') : All2 (RA σ) (firstOf its).1 (firstOf its').1 ∧ (firstOf its).2 = (firstOf its').2 := by
  have cr := coll_rel h
  cases h with
  | nil => exact ⟨.nil, rfl⟩
  | @cons a b as bs hr _ =>
    cases a with
    | leaf c =>
      cases b with
      | map y => exact hr.elim
      | leaf c' =>
        have hr : c = c' := hr
        subst hr
        cases c with
        | none => exact ⟨.nil, rfl⟩
        | some c => exact ⟨.nil, rfl⟩
    | map x =>
      cases b with
      | leaf c => exact hr.elim
      | map y => exact cr
theorem comb_rel {q q' : TC} (h : All2 (RA σ) q.1 q'.1) (h' : q.2 = q'.2) : All2 (RA σ) (comb [q]).1 (comb [q']).1 ∧ (comb [q]).2 = (comb [q']).2 := by
  obtain ⟨m, c⟩ := q
  obtain ⟨m', c'⟩ := q'
  have h' : c = c' := h'
  subst h'
  cases h with
  | nil => cases c with
    | none => exact ⟨.nil, rfl⟩
    | some c => exact ⟨.nil, rfl⟩
  | @cons a b as bs hr ht =>
    refine ⟨?_, rfl⟩
    show All2 _ (a :: as ++ []) (b :: bs ++ [])
    rw [List.append_nil, List.append_nil]; exact .cons hr ht
/-- one tree's answer -/
theorem item_rel {reg reg' : Nat} {kvs kvs' : List (Key × AV)} {T : Tree} (h : RAt KSub σ reg kvs T) (h' : RAt DSub σ reg' kvs' T) (k : Key) :
    (dget kvs k = none ∧ dget kvs' k = none) ∨ ∃ it it', dget kvs k = some it.av ∧ dget kvs' k = some it'.av ∧ ItRel σ it it' ∧ IOk σ it ∧ IOkD σ it' := by
  rcases h.get k with ⟨h1, h2⟩ | ⟨v, b, h1, h2, h3⟩
  · rcases h'.get k with ⟨h1', _⟩ | ⟨v, b, _, h2', _⟩
    · exact .inl ⟨h1, h1'⟩
    · rw [h2] at h2'; cases h2'
  · rcases h'.get k with ⟨_, h2'⟩ | ⟨v', b', h1', h2', h3'⟩
    · rw [h2] at h2'; cases h2'
    · rw [h2] at h2'; cases h2'
      right
      cases b with
      | leaf c => exact ⟨.leaf c, .leaf c, by rw [h1, show v = lav c from h3]; rfl, by rw [h1', show v' = lav c from h3']; rfl, rfl, trivial, trivial⟩
      | map rows =>
        obtain ⟨x, rfl, hx⟩ := h3
        obtain ⟨y, rfl, hy⟩ := h3'
        exact ⟨.map x, .map y, h1, h1', ⟨rows, _, _, hx, hy⟩, ⟨_, _, _, hx⟩, by obtain ⟨ep, e⟩ := hy; exact ⟨_, _, _, e⟩⟩
theorem bound_rel : ∀ {ns ns' : List Node} {k : Key}, All2 (fun a b : Node => ∃ reg reg' T, RAt KSub σ reg a.kvs T ∧ RAt DSub σ reg' b.kvs T) ns ns' →
    ∃ its its', bound ns k = its.map Item.av ∧ bound ns' k = its'.map Item.av ∧ All2 (ItRel σ) its its' ∧ (∀ it ∈ its, IOk σ it) ∧ (∀ it ∈ its', IOkD σ it)
  | _, _, _, .nil => ⟨[], [], rfl, rfl, .nil, (fun _ h => nomatch h), (fun _ h => nomatch h)⟩
  | a :: ns, b :: ns', k, .cons ⟨reg, reg', T, h, h'⟩ ht => by
    obtain ⟨its, its', e, e', r, o, o'⟩ := bound_rel (k := k) ht
    unfold bound at e e' ⊢
    rw [List.filterMap_cons, List.filterMap_cons]
    rcases item_rel h h' k with ⟨n1, n2⟩ | ⟨it, it', s1, s2, hr, ho, ho'⟩
    · rw [n1, n2]; exact ⟨its, its', e, e', r, o, o'⟩
    · rw [s1, s2]
      refine ⟨it :: its, it' :: its', by rw [List.map_cons, ← e], by rw [List.map_cons, ← e'], .cons hr r, fun i hi => ?_, fun i hi => ?_⟩
      · rcases List.mem_cons.mp hi with rfl | q
        · exact ho
        · exact o _ q
      · rcases List.mem_cons.mp hi with rfl | q
        · exact ho'
        · exact o' _ q
inductive ResRel : Res → Res → Prop where
  | none : ResRel .none .none
  | bound (c : Str) : ResRel (.bound c) (.bound c)
  | long (k : Int) : ResRel (.long k) (.long k)
  | pre (ps qs : List AV) : ps.length = qs.length → ps.length ≤ 1000 → ResRel (.pre ps) (.pre qs)
def Tells (σ : AHeap) (x a : Addr) : Prop := ∀ ks : List Key, ((∃ k, ks = [k]) ∨ ∃ k j, ks = [k, j]) → ∃ allsK allsD, FPs σ [.ref x] ks allsK ∧ DPs σ [.ref a] ks allsD ∧ ResRel (resL ks.length 0 [.ref x] allsK) (resL ks.length 0 [.ref a] allsD)
theorem Tells.le {σ' : AHeap} {x a : Addr} (h : Tells σ x a) (m : Le σ σ') : Tells σ' x a := fun ks hk => by
  obtain ⟨p, q, h1, h2, h3⟩ := h ks hk
  exact ⟨p, q, h1.le m, h2.le m, h3⟩
/-- what a sub-map's key tells -/
def subTC (rows : Rows) (j : Key) : TC := ([], ((rows.find? fun p => p.1 = j).map (·.2)).join)
def subIts (rows : Rows) (j : Key) : List Item := match (rows.find? fun p => p.1 = j).map (·.2) with
  | none => []
  | some c => [.leaf c]
theorem sub_bound (rows : Rows) (x : Addr) (g : Tag) (j : Key) : bound [⟨x, g, lrows rows⟩] j = (subIts rows j).map Item.av ∧ firstOf (subIts rows j) = subTC rows j ∧ (∀ it ∈ subIts rows j, ∃ c, it = .leaf c) := by
  unfold bound subIts subTC
  rw [List.filterMap_cons, lrows_get]
  cases (rows.find? fun p => p.1 = j).map (·.2) with
  | none => exact ⟨rfl, rfl, fun _ h => nomatch h⟩
  | some c =>
    refine ⟨rfl, ?_, fun it hit => ⟨c, List.mem_singleton.mp hit⟩⟩
    cases c with
    | none => rfl
    | some c => rfl
theorem all2_rows {ms ms' : List Addr} (h : All2 (RA σ) ms ms') : ∃ rl : List Rows, rl.length = ms.length ∧ ∀ (i : Nat) (x y : Addr), ms[i]? = some x → ms'[i]? = some y → ∃ rows g g', rl[i]? = some rows ∧ KSub σ x g rows ∧ DSub σ y g' rows := by
  induction h with
  | nil => exact ⟨[], rfl, fun i x y h => by cases h⟩
  | @cons a b as bs hr _ ih =>
    obtain ⟨rl, e, hl⟩ := ih
    obtain ⟨rows, g, g', h1, h2⟩ := hr
    refine ⟨rows :: rl, by simp [e], fun i x y hx hy => ?_⟩
    cases i with
    | zero => cases hx; cases hy; exact ⟨rows, g, g', rfl, h1, h2⟩
    | succ i => exact hl i x y (by simpa using hx) (by simpa using hy)
theorem comb_sub {j : Key} {rl : List Rows} : (comb (rl.map fun r => subTC r j)).1 = [] := by
  induction rl with
  | nil => rfl
  | cons r rl ih =>
    show (comb (([], _) :: rl.map fun r => subTC r j)).1 = []
    cases ((r.find? fun p => p.1 = j).map (·.2)).join with
    | none => exact ih
    | some c => rfl
theorem tells_of {x y a t0 t1 : Addr} {reg reg' r r' : Nat} {T T' : Tree} (hx : KTop σ x reg (.ref y) T) (hy : KTop σ y reg' .none T') (ha : σ a = some (.list [.ref t0, .ref t1])) (h0 : DTree σ t0 r T) (h1 : DTree σ t1 r' T') : Tells σ x a := by
  obtain ⟨kx, x1, x2⟩ := hx
  obtain ⟨ky, y1, y2⟩ := hy
  obtain ⟨d0, e0, d1, d2⟩ := h0
  obtain ⟨d0', e0', d1', d2'⟩ := h1
  have hch : Chain σ (.ref x) [⟨x, (reg, none), kx⟩, ⟨y, (reg', none), ky⟩] := ⟨rfl, _, x1, rfl, _, y1, rfl⟩
  have hdc : DCh σ a [⟨t0, (r, none), d0⟩, ⟨t1, (r', none), d0'⟩] := ⟨ha, fun nd hn => by
    rcases List.mem_cons.mp hn with rfl | hn
    · exact ⟨e0, d1⟩
    · rw [List.mem_singleton.mp hn]; exact ⟨e0', d1'⟩⟩
  have lvl0 : ∀ k, ∃ qK qD : TC, FP σ [.ref x] k [qK] ∧ DP σ [.ref a] k [qD] ∧ All2 (RA σ) (comb [qK]).1 (comb [qD]).1 ∧ (comb [qK]).2 = (comb [qD]).2 ∧ (comb [qK]).1.length ≤ 2 := fun k => by
    obtain ⟨its, its', b1, b2, b3, b4, b5⟩ := bound_rel (k := k) (σ := σ) (ns := [⟨x, (reg, none), kx⟩, ⟨y, (reg', none), ky⟩]) (ns' := [⟨t0, (r, none), d0⟩, ⟨t1, (r', none), d0'⟩]) (.cons ⟨_, _, _, x2, d2⟩ (.cons ⟨_, _, _, y2, d2'⟩ .nil))
    have il : its.length ≤ 2 := by
      have := congrArg List.length b1
      rw [List.length_map] at this
      have h2 := List.length_filterMap_le (fun nd : Node => dget nd.kvs k) [⟨x, (reg, none), kx⟩, ⟨y, (reg', none), ky⟩]
      unfold bound at this
      simp only [List.length_cons, List.length_nil] at h2
      omega
    have fl := firstOf_len (its := its)
    obtain ⟨f1, f2⟩ := firstOf_rel b3
    obtain ⟨c1, c2⟩ := comb_rel f1 f2
    refine ⟨firstOf its, firstOf its', ⟨rfl, fun i p q hp hq => ?_⟩, ⟨rfl, fun i p q hp hq => ?_⟩, c1, c2, ?_⟩
    · cases i with
      | zero => cases hp; cases hq; exact ⟨by omega, _, its, hch, by show 2 ≤ 100; decide, b1, b4, rfl⟩
      | succ i => cases hp
    · cases i with
      | zero => cases hp; cases hq; exact ⟨a, _, its', rfl, hdc, by show 2 ≤ 100; decide, b2, b5, rfl⟩
      | succ i => cases hp
    · generalize firstOf its = q at *
      obtain ⟨m, c⟩ := q
      cases m with
      | nil => cases c <;> exact Nat.zero_le _
      | cons z m => show (z :: m ++ []).length ≤ 2; rw [List.append_nil]; simp only at fl; omega
  rintro ks (⟨k, rfl⟩ | ⟨k, j, rfl⟩)
  · obtain ⟨qK, qD, hf, hd, c1, c2, cl⟩ := lvl0 k
    refine ⟨[[qK]], [[qD]], ⟨by simp, hf, fun _ => trivial⟩, ⟨by simp, hd, fun _ _ _ _ _ => trivial⟩, ?_⟩
    show ResRel (if (comb [qK]).1 ≠ [] then .pre ((comb [qK]).1.map .ref) else match (comb [qK]).2 with | .none => .none | some c => if 0 + 1 = 1 then .bound c else _) (if (comb [qD]).1 ≠ [] then .pre ((comb [qD]).1.map .ref) else match (comb [qD]).2 with | .none => .none | some c => if 0 + 1 = 1 then .bound c else _)
    rw [← c2]
    generalize (comb [qK]).1 = m at *
    generalize (comb [qD]).1 = m' at *
    have ml := c1.length
    cases c1 with
    | nil =>
      rw [if_neg (fun h => h rfl)]
      cases (comb [qK]).2 with
      | none => exact .none
      | some c => exact .bound c
    | cons _ _ =>
      rw [if_pos (by simp), if_pos (by simp)]
      exact .pre _ _ (by rw [List.length_map, List.length_map, ml]) (by rw [List.length_map]; omega)
  · obtain ⟨qK, qD, hf, hd, c1, c2, cl⟩ := lvl0 k
    obtain ⟨rl, rlen, hrl⟩ := all2_rows c1
    have ml := c1.length
    refine ⟨[[qK], rl.map fun r => subTC r j], [[qD], rl.map fun r => subTC r j], ⟨by simp, hf, fun _ => ⟨by rw [List.length_map]; omega, ⟨by rw [List.length_map, List.length_map, rlen], fun i p q hp hq => ?_⟩, fun h => absurd comb_sub h⟩⟩, ⟨by simp, hd, fun _ σ' ps' l w => ⟨by rw [w.1]; omega, ⟨by rw [w.1, List.length_map, rlen, ml], fun i p q hp hq => ?_⟩, fun h => absurd comb_sub h⟩⟩, ?_⟩
    · rw [List.getElem?_map] at hp hq
      obtain ⟨z, hz, rfl⟩ := Option.map_eq_some_iff.mp hp
      obtain ⟨rows, hr, rfl⟩ := Option.map_eq_some_iff.mp hq
      have hlt : i < (comb [qK]).1.length := by
        rcases Nat.lt_or_ge i (comb [qK]).1.length with q | q
        · exact q
        · rw [List.getElem?_eq_none q] at hz; cases hz
      obtain ⟨rows', g, g', e1, e2, _⟩ := hrl i z _ hz (List.getElem?_eq_getElem (by rw [← ml]; exact hlt))
      rw [hr] at e1; cases e1
      obtain ⟨s1, s2, s3⟩ := sub_bound rows z g j
      exact ⟨Nat.zero_le _, [⟨z, g, lrows rows⟩], subIts rows j, ⟨rfl, _, e2, rfl⟩, by show 1 ≤ 100; decide, s1, fun it hit => by obtain ⟨c, rfl⟩ := s3 it hit; trivial, s2⟩
    · rw [List.getElem?_map] at hq
      obtain ⟨rows, hr, rfl⟩ := Option.map_eq_some_iff.mp hq
      have hlt : i < (comb [qD]).1.length := by
        rcases Nat.lt_or_ge i (comb [qD]).1.length with q | q
        · exact q
        · rw [List.getElem?_eq_none (by omega)] at hr; cases hr
      have hz := List.getElem?_eq_getElem hlt
      obtain ⟨li, w1, w2⟩ := w.2 i _ hz
      rw [hp] at w1; cases w1
      obtain ⟨rows', g, g', e1, _, ep, e2⟩ := hrl i _ _ (List.getElem?_eq_getElem (by rw [ml]; exact hlt)) hz
      rw [hr] at e1; cases e1
      obtain ⟨s1, s2, s3⟩ := sub_bound rows ((comb [qD]).1[i]) g' j
      refine ⟨li, [⟨_, g', lrows rows⟩], subIts rows j, rfl, ⟨w2, fun nd hn => ?_⟩, by show 1 ≤ 100; decide, s1, fun it hit => by obtain ⟨c, rfl⟩ := s3 it hit; trivial, s2⟩
      rw [List.mem_singleton.mp hn]; exact ⟨ep, l _ _ e2⟩
    · have fin : ∀ ps, resL 2 1 ps [rl.map fun r => subTC r j] = match (comb (rl.map fun r => subTC r j)).2 with | .none => .none | some c => .bound c := fun ps => by
        unfold resL; rw [if_neg (fun h => h comb_sub)]
        cases (comb (rl.map fun r => subTC r j)).2 <;> rfl
      show ResRel (if (comb [qK]).1 ≠ [] then resL 2 1 _ [rl.map fun r => subTC r j] else match (comb [qK]).2 with | .none => .none | some c => if 0 + 1 = 2 then .bound c else .long ((0 : Nat) + 1)) (if (comb [qD]).1 ≠ [] then resL 2 1 _ [rl.map fun r => subTC r j] else match (comb [qD]).2 with | .none => .none | some c => if 0 + 1 = 2 then .bound c else .long ((0 : Nat) + 1))
      rw [fin, fin, ← c2]
      generalize (comb [qK]).1 = m at *
      generalize (comb [qD]).1 = m' at *
      cases c1 with
      | nil =>
        rw [if_neg (fun h => h rfl)]
        cases (comb [qK]).2 with
        | none => exact .none
        | some c => exact .long _
      | cons _ _ =>
        rw [if_pos (by simp), if_pos (by simp)]
        cases (comb (rl.map fun r => subTC r j)).2 with
        | none => exact .none
        | some c => exact .bound c
end

section
variable {W : Wd} {n : Nat} {env : Env} {ρ : Rho} {σ : AHeap}
theorem T_same {α β : Type} {f : α → β} {t : Sem α} {a : β} {Q : β → Rho → AHeap → Prop} (h : T W n env f t (fun v ρ' σ' => v = a ∧ ρ' = ρ ∧ σ' = σ) ρ σ) (k : Q a ρ σ) : T W n env f t Q ρ σ :=
  h.mono fun v ρ' σ' ⟨e1, e2, e3⟩ => by subst e1 e2 e3; exact k
/-- a value, as it is compared -/
def Val (σ : AHeap) (v a : AV) : Prop := (v = .none ∧ a = .none) ∨ (∃ c, v = .str c ∧ a = .str c) ∨ ∃ l vs, v = .ref l ∧ σ l = some (.list vs) ∧ vs.length ≤ 1000 ∧ a = .int (vs.length : Int)
theorem Val.plain {v a : AV} (h : Val σ v a) : Plain a := by
  rcases h with ⟨_, rfl⟩ | ⟨c, _, rfl⟩ | ⟨l, vs, _, _, _, rfl⟩ <;> trivial
theorem Val.le {σ' : AHeap} {v a : AV} (h : Val σ v a) (m : Le σ σ') : Val σ' v a := by
  rcases h with h | h | ⟨l, vs, h1, h2, h3, h4⟩
  · exact .inl h
  · exact .inr (.inl h)
  · exact .inr (.inr ⟨l, vs, h1, m _ _ h2, h3, h4⟩)
def noneLong : List (Key × AV) := [(.s "none", .none), (.s "long", .str "long")]
theorem res_tell {t : Addr} {R R' : Res} {due : AV} (h : resAt σ t R) (h' : slowAt σ due R') (r : ResRel R R') : ∃ (w : Str) (v a : AV), σ t = some (.tup [.str w, v]) ∧ Val σ ((dget noneLong (.s w)).getD v) a ∧ Val σ due a := by
  cases r with
  | none => exact ⟨_, _, .none, h, .inl ⟨by decide, rfl⟩, .inl ⟨h', rfl⟩⟩
  | bound c => exact ⟨_, _, .str c, h, .inr (.inl ⟨c, by rfl, rfl⟩), .inr (.inl ⟨c, h', rfl⟩)⟩
  | long k => exact ⟨_, _, .str "long", h, .inr (.inl ⟨_, by rfl, rfl⟩), .inr (.inl ⟨_, h', rfl⟩)⟩
  | pre ps qs e z =>
    obtain ⟨l, h1, h2⟩ := h
    obtain ⟨l', vs, h3, h4, h5⟩ := h'
    exact ⟨_, _, .int (ps.length : Int), h1, .inr (.inr ⟨l, ps, by rfl, h2, z, rfl⟩), .inr (.inr ⟨l', vs, h3, h4, by omega, by rw [h5, e]⟩)⟩
theorem ktup_cases {u : AV} (h : KTup σ u) : ∃ t ks, u = .ref t ∧ σ t = some (.tup (ks.map Key.av)) ∧ (∀ k ∈ ks, k.ok) ∧ ks.length ≤ 2 ∧ ((∃ k, ks = [k]) ∨ ∃ k j, ks = [k, j]) := by
  obtain ⟨t, k, rfl, hk, h | ⟨j, hj, h⟩⟩ := h
  · exact ⟨t, [k], rfl, h, fun k' hk' => by rw [List.mem_singleton.mp hk']; exact evs_ok _ hk, by simp, .inl ⟨k, rfl⟩⟩
  · exact ⟨t, [k, j], rfl, h, fun k' hk' => by
      rcases List.mem_cons.mp hk' with rfl | hk'
      · exact evs_ok _ hk
      · rw [List.mem_singleton.mp hk']; exact evs_ok _ hj, by simp, .inr ⟨k, j, rfl⟩⟩
theorem sp_tells (G : Good W) {x a : Addr} (h : Tells σ x a) : Spec W 7 308 [.ref x, .ref a] σ (fun r σ' => r = .bool true ∧ Le σ σ') := by
  refine enterB (ρ₀ := [("keymap", .ref x), ("chain", .ref a)]) ["keymap", "chain"] (fn_law_tells G) (bind2 fun _ _ => rfl) rfl (by decide) rfl fun L => ?_
  k_extra "start"
  refine S_ForList (by intro; rfl) (by k_extra "sto") ?_
  refine T_CallFn (m := 2) (at_law_every G) (by decide) rfl (by k_extra "rf") (ca_nil ?_)
  refine ((sp_every G).lift (by decide)).mono ?_
  rintro _ σ₁ ⟨le₁, l, vs, rfl, hl, vz, hv⟩
  refine ⟨l, vs, fun i ρ σ' => Sub [("keymap", .ref x), ("chain", .ref a)] ρ ∧ Le σ₁ σ', rfl, hl, ⟨by k_extra "sub", Le.rfl⟩, fun i ρ σ' h => h.2 _ _ hl, fun i u hu ρ σ' ⟨hs, le⟩ => ?_, fun ρ σ' ⟨hs, le⟩ => ?_⟩
  · obtain ⟨t, ks, rfl, ht, kok, kz, kc⟩ := ktup_cases ((hv u (List.mem_of_getElem? hu)).le le)
    obtain ⟨allsK, allsD, fk, fd, rr⟩ := (h.le (le₁.trans le)) ks kc
    refine weakS (sub_rset hs rfl) ?_
    k_extra "start"
    refine S_AssignSwap (by k_extra "rf") (by k_extra "rf") (by k_extra "sto") (by k_extra "sto") ?_
    k_extra "go"
    refine T_CallFn (m := 2) (at_law_slow G) (by decide) rfl (by k_extra "rf") ?_
    k_extra "go"
    refine ⟨by simp, fun l₁ a₁ nl₁ b₁ hl₁ => ?_⟩
    k_extra "go"
    refine (sp_law_slow G hl₁ (b₁ _ _ ht) (by omega) (fd.le b₁)).mono ?_
    rintro due a₂ ⟨b₂, hdue⟩
    k_extra "go"
    refine T_CallFn (m := 6) (at_lookup_keys G) (by decide) rfl (by k_extra "rf") ?_
    k_extra "go"
    refine ⟨by simp, fun l₃ a₃ nl₃ b₃ hl₃ => ?_⟩
    k_extra "go"
    have m₃ := b₁.trans (b₂.trans b₃)
    refine (sp_lookup2 G hl₃ (by simp) (m₃ _ _ ht) kok (by omega) (fk.le m₃)).mono ?_
    rintro _ a₄ ⟨b₄, tt, rfl, htt⟩
    k_extra "go"
    refine ⟨by simp, fun tp a₅ ntp b₅ htp => ⟨tp, _, _, rfl, htp, ?_⟩⟩
    k_extra "set"
    k_extra "set"
    have hdue₄ : slowAt a₄ due (resL ks.length 0 [.ref a] allsD) := by
      cases q : resL ks.length 0 [.ref a] allsD with
      | none => rw [q] at hdue; exact hdue
      | bound c => rw [q] at hdue; exact hdue
      | long c => rw [q] at hdue; exact hdue
      | pre qs => rw [q] at hdue; obtain ⟨l, vs, h1, h2, h3⟩ := hdue; exact ⟨l, vs, h1, (b₃.trans b₄) _ _ h2, h3⟩
    obtain ⟨w, v, av, htw, v1, v2⟩ := res_tell htt hdue₄ rr
    k_extra "asg"
    refine T_MethB (by k_extra "rf") PySem.F.plainAttrs_dict PySem.F.slot_dict_get PySem.F.type_dict_get ?_
    refine T_Dict (99, none) rfl rfl (by simp) (by decide) ?_
    refine P_cons ?_
    k_extra "go"
    refine P_cons ?_
    k_extra "go"
    refine P_nil ⟨noneLong, rfl, by decide, fun ep d a₆ nd b₆ hd => ⟨d, _, rfl, hd, fun h => ty_dict h, ?_⟩⟩
    k_extra "go"
    refine I_tup (j := 0) (v := .str w) (by intro _ _; rfl) (b₆ _ _ (b₅ _ _ htw)) (by decide) (by decide) (by unfold seqIndex?; simp) rfl ?_
    k_extra "go"
    refine I_tup (j := 1) (v := v) (by intro _ _; rfl) (b₆ _ _ (b₅ _ _ htw)) (by decide) (by decide) (by unfold seqIndex?; simp) rfl ?_
    k_extra "go"
    refine L_get (k := .s w) hd ?_
    have v1 := (v1.le b₅).le b₆
    have v2 := (v2.le b₅).le b₆
    have mm := m₃.trans (b₄.trans (b₅.trans b₆))
    generalize (dget noneLong (.s w)).getD v = fv at *
    apply Exists.intro; apply And.intro; k_extra "up"
    refine S_cons ?_
    refine S_If ?_
    refine T_isCompare (by k_extra "rf") ?_
    refine T_same (a := av) ?_ ?_
    · refine T_IfExp ?_
      refine T_isValue (by k_extra "rf") ?_
      k_extra "bi"
      k_extra "bi"
      rcases v1 with ⟨rfl, rfl⟩ | ⟨c, rfl, rfl⟩ | ⟨l, vs, rfl, h2, h3, rfl⟩
      · refine L_isinst (v := .none) (cls_k G) other_type rfl (one_NoneType_list G) ⟨_, rfl, (fun hb => nomatch hb), fun _ => ?_⟩
        k_extra "go"
        exact ⟨rfl, rfl, rfl⟩
      · refine L_isinst (v := .str c) (cls_k G) other_type rfl (one_str_list G) ⟨_, rfl, (fun hb => nomatch hb), fun _ => ?_⟩
        k_extra "go"
        exact ⟨rfl, rfl, rfl⟩
      · refine L_isinst (cls_k G) other_type (tyOf_list h2) (one_list_list G) ⟨_, rfl, fun _ => ?_, (fun hb => nomatch hb)⟩
        k_extra "bi"
        refine L_len_list h2 (by omega) ?_
        exact ⟨rfl, rfl, rfl⟩
    refine T_same (a := av) ?_ ?_
    · refine T_IfExp ?_
      refine T_isValue (by k_extra "rf") ?_
      k_extra "bi"
      k_extra "bi"
      rcases v2 with ⟨rfl, rfl⟩ | ⟨c, rfl, rfl⟩ | ⟨l, vs, rfl, h2, h3, rfl⟩
      · refine L_isinst (v := .none) (cls_k G) other_type rfl (one_NoneType_list G) ⟨_, rfl, (fun hb => nomatch hb), fun _ => ?_⟩
        k_extra "go"
        exact ⟨rfl, rfl, rfl⟩
      · refine L_isinst (v := .str c) (cls_k G) other_type rfl (one_str_list G) ⟨_, rfl, (fun hb => nomatch hb), fun _ => ?_⟩
        k_extra "go"
        exact ⟨rfl, rfl, rfl⟩
      · refine L_isinst (cls_k G) other_type (tyOf_list h2) (one_list_list G) ⟨_, rfl, fun _ => ?_, (fun hb => nomatch hb)⟩
        k_extra "bi"
        refine L_len_list h2 (by omega) ?_
        exact ⟨rfl, rfl, rfl⟩
    refine C_ne v1.plain v1.plain ⟨_, rfl, ?_⟩
    rw [decide_eq_true rfl]
    k_extra "no"
    exact ⟨by k_extra "sub", le.trans mm⟩
  · refine weakS hs ?_
    k_extra "go"
    exact ⟨rfl, le₁.trans le⟩
end

section
variable {W : Wd} {n : Nat} {env : Env} {ρ : Rho} {σ : AHeap}
/-! the keymap of signs that insert themselves, and a suppressed one ahead of it -/
def lf (T : Tree) (k : Key) : Option (Option Str) := match tget T k with
  | none => some none
  | some (.leaf c) => some c
  | some (.map _) => none
/-- what one map of a list tells -/
def Tell1 (σ : AHeap) (p : AV) (k : Key) (t : TC) : Prop := t.1.length ≤ 100 ∧ ∃ (ns : List Node) (its : List Item), Chain σ p ns ∧ ns.length ≤ 100 ∧ bound ns k = its.map Item.av ∧ (∀ it ∈ its, IOk σ it) ∧ firstOf its = t
theorem fp_one {p : AV} {k : Key} {t : TC} (h : Tell1 σ p k t) : FP σ [p] k [t] := ⟨rfl, fun i p' q hp hq => by
  cases i with
  | zero => cases hp; cases hq; exact h
  | succ i => cases hp⟩
theorem fp_two {p p' : AV} {k : Key} {t t' : TC} (h : Tell1 σ p k t) (h' : Tell1 σ p' k t') : FP σ [p, p'] k [t, t'] := ⟨rfl, fun i q u hp hq => by
  match i, hp, hq with
  | 0, hp, hq => cases hp; cases hq; exact h
  | 1, hp, hq => cases hp; cases hq; exact h'⟩
theorem bound_one {x : Addr} {g : Tag} {kvs : List (Key × AV)} {k : Key} : bound [⟨x, g, kvs⟩] k = (dget kvs k).toList := by
  unfold bound; rw [List.filterMap_cons]; cases dget kvs k <;> rfl
theorem ktop_leaf {x : Addr} {reg : Nat} {T : Tree} (hx : KTop σ x reg .none T) {k : Key} {c : Option Str} (h : lf T k = some c) : Tell1 σ (.ref x) k ([], c) := by
  obtain ⟨kvs, h1, h2⟩ := hx
  refine ⟨Nat.zero_le _, [⟨x, (reg, none), kvs⟩], ?_⟩
  have hc : Chain σ (.ref x) [⟨x, (reg, none), kvs⟩] := ⟨rfl, _, h1, rfl⟩
  unfold lf at h
  rcases h2.get k with ⟨e1, e2⟩ | ⟨v, b, e1, e2, e3⟩
  · rw [e2] at h; cases h
    exact ⟨[], hc, by show 1 ≤ 100; decide, by rw [bound_one, e1]; rfl, (fun _ h => nomatch h), rfl⟩
  · rw [e2] at h
    cases b with
    | map rows => cases h
    | leaf c' =>
      cases h
      exact ⟨[.leaf c], hc, by show 1 ≤ 100; decide, by rw [bound_one, e1, show v = lav c from e3]; rfl, fun it hit => by rw [List.mem_singleton.mp hit]; trivial, by cases c <;> rfl⟩
theorem ktop_map {x : Addr} {reg : Nat} {T : Tree} (hx : KTop σ x reg .none T) {k : Key} {rows : Rows} (h : tget T k = some (.map rows)) : ∃ z, KSub σ z (reg, some k) rows ∧ Tell1 σ (.ref x) k ([z], none) := by
  obtain ⟨kvs, h1, h2⟩ := hx
  have hc : Chain σ (.ref x) [⟨x, (reg, none), kvs⟩] := ⟨rfl, _, h1, rfl⟩
  rcases h2.get k with ⟨e1, e2⟩ | ⟨v, b, e1, e2, e3⟩
  · rw [e2] at h; cases h
  · rw [e2] at h; cases h
    obtain ⟨z, rfl, hz⟩ := e3
    exact ⟨z, hz, by show 1 ≤ 100; decide, [⟨x, (reg, none), kvs⟩], [.map z], hc, by show 1 ≤ 100; decide, by rw [bound_one, e1]; rfl, fun it hit => by rw [List.mem_singleton.mp hit]; exact ⟨_, _, _, hz⟩, rfl⟩
theorem sub_tell {z : Addr} {g : Tag} {rows : Rows} (h : KSub σ z g rows) (j : Key) : Tell1 σ (.ref z) j (subTC rows j) := by
  obtain ⟨s1, s2, s3⟩ := sub_bound rows z g j
  exact ⟨Nat.zero_le _, [⟨z, g, lrows rows⟩], subIts rows j, ⟨rfl, _, h, rfl⟩, by show 1 ≤ 100; decide, s1, fun it hit => by obtain ⟨c, rfl⟩ := s3 it hit; trivial, s2⟩
def codes : List Int := [45, 48, 57, 97]
def bT (i : Nat) : Tree := (codes.take i).foldl (fun T c => tdef T [.i c] (some "self-insert-command")) []
theorem bT_step {i : Nat} {c : Int} (h : codes[i]? = some c) : bT (i + 1) = tdef (bT i) [.i c] (some "self-insert-command") := by
  unfold bT; rw [List.take_add_one, h, List.foldl_append]; rfl
theorem bT_ok (i : Nat) : TOk i (bT i) := by
  induction i with
  | zero => exact TOk.nil
  | succ i ih =>
    cases e : codes[i]? with
    | none =>
      have : bT (i + 1) = bT i := by unfold bT; rw [List.take_add_one, e]; simp
      rw [this]; exact ih.mono (Nat.le_succ _)
    | some c => rw [bT_step e]; exact ih.tdef _ _
def subR : Rows := [(.s "self-insert-command", some "undefined")]
def want0 (d : Bool) (c : Int) : Option Str := if d then (if c = 45 then some "negative-argument" else if c = 97 then none else some "digit-argument") else none
def wants (d : Bool) (c : Int) : Str := if d then (if c = 45 then "negative-argument" else if c = 97 then "undefined" else "digit-argument") else "undefined"
theorem sup_remap (d : Bool) : tget (supT d) (.s "remap") = some (.map subR) := by cases d <;> rfl
theorem sup_code (d : Bool) {c : Int} (hc : c ∈ codes) : lf (supT d) (.i c) = some (want0 d c) := by
  simp only [codes, List.mem_cons, List.not_mem_nil, or_false] at hc
  rcases hc with rfl | rfl | rfl | rfl <;> cases d <;> rfl
theorem base_remap : lf (bT 4) (.s "remap") = some none := by rfl
theorem base_code {c : Int} (hc : c ∈ codes) : lf (bT 4) (.i c) = some (some ("self-insert-command" : Str)) := by
  simp only [codes, List.mem_cons, List.not_mem_nil, or_false] at hc
  rcases hc with rfl | rfl | rfl | rfl <;> rfl
theorem kb_all {p b : Addr} {r1 r2 : Nat} {d : Bool} {c : Int} (hp : KTop σ p r1 .none (supT d)) (hb : KTop σ b r2 .none (bT 4)) (hc : c ∈ codes) :
    ∃ (alls : List (List TC)) (f : Str → List (List TC)), FPs σ [.ref p, .ref b] [.i c] alls ∧ (∀ w, resL [Key.i c].length 0 [.ref p, .ref b] alls = .bound w → FPs σ [.ref p, .ref b] [.s "remap", .s w] (f w)) ∧
      afterK f [.ref p, .ref b] (resL [Key.i c].length 0 [.ref p, .ref b] alls) = .str (wants d c) := by
  obtain ⟨z, hz, ht⟩ := ktop_map hp (sup_remap d)
  refine ⟨[[([], want0 d c), ([], some "self-insert-command")]], fun w => [[([z], none), ([], none)], [subTC subR (.s w)]], ⟨by simp, fp_two (ktop_leaf hp (sup_code d hc)) (ktop_leaf hb (base_code hc)), fun _ => trivial⟩,
    fun w _ => ⟨by simp, fp_two ht (ktop_leaf hb base_remap), fun _ => ⟨by show 1 ≤ 9; decide, fp_one (sub_tell hz _), fun _ => trivial⟩⟩, ?_⟩
  simp only [codes, List.mem_cons, List.not_mem_nil, or_false] at hc
  rcases hc with rfl | rfl | rfl | rfl <;> cases d <;> rfl
/-- a tree's rows are short -/
theorem TOk.rows {m : Nat} {T : Tree} (h : TOk m T) (hm : m ≤ 100) : ∀ k rows, (k, Bnd.map rows) ∈ T → rows.length ≤ 100 := fun k rows hk => by
  have e : tget T k = some (.map rows) := by
    have hn := h.1
    clear h
    unfold tget
    induction T with
    | nil => cases hk
    | cons p r ih =>
      obtain ⟨j, b⟩ := p
      have hn' := List.nodup_cons.mp hn
      rw [List.find?_cons]
      rcases List.mem_cons.mp hk with q | q
      · cases q; simp
      · have ne : j ≠ k := fun e => hn'.1 (e ▸ List.mem_map_of_mem (f := (·.1)) q)
        simp only [ne, decide_false]
        exact ih q hn'.2
  have := h.2.2 k
  unfold rowsAt at this
  rw [e] at this
  exact Nat.le_trans this hm
theorem km_ne {x y : Addr} {g g' : Tag} {p p' : AV} {kvs kvs' : List (Key × AV)} (hx : KM0 σ x g p kvs) (hy : KM0 σ y g' p' kvs') (hg : g ≠ g') : x ≠ y := fun e => by
  obtain ⟨_, _, _, h1, _⟩ := hx
  obtain ⟨_, _, _, h2, _⟩ := hy
  rw [e, h2] at h1
  cases h1
  exact hg rfl
end

section
variable {W : Wd} {n : Nat} {env : Env} {ρ : Rho} {σ : AHeap}
/-- list(script): the script itself is kept as it stands -/
theorem L_list_raw {a : Addr} {o : Obj} {us : List Value} {m : Nat} {Q : AV → Rho → AHeap → Prop} (hl : W.base.get? a = some o) (hc : o.cls = .type "list") (hd : o.data = .seq us.toArray m) (hz : us.length ≤ 1000) (h : New σ (.list (us.map ab)) (fun v σ' => Q v ρ σ')) :
    ∀ ws : List Value, ws.map ab = [.ref a] → T W n env ab (PySem.call (.type "list") ws) Q ρ σ := fun ws e Φ A s r S => by
  obtain ⟨x, rfl, ex⟩ := map_one e
  obtain rfl := ab_ref ex
  have hu : s.heap.get? a = some o := S.sh.keepB _ _ hl
  exact call_list_seq a (.inl rfl) hu hc hd (fun h' c' hk hn => new_at S hk size_none (.list us c' hn) h) (line1000 (by simpa using hz))
/-- what the law's whole walk leaves as it is -/
structure LW (σ : AHeap) (ts dk s x1 t0 t1 : Addr) (T1 : Tree) (di : Nat) : Prop where
  tl : σ ts = some (.list [.ref t0, .ref t1])
  dk : Deck σ dk s di
  k1 : KTop σ x1 1 .none T1
  d1 : DTree σ t1 3 T1
theorem LW.mod {P : Tag → Prop} {σ' : AHeap} {ts dk s x1 t0 t1 : Addr} {T1 : Tree} {di : Nat} (h : LW σ ts dk s x1 t0 t1 T1 di) (m : Mod P σ σ') (n1 : ∀ k, ¬ P (1, k)) (n3 : ∀ k, ¬ P (3, k)) : LW σ' ts dk s x1 t0 t1 T1 di :=
  ⟨m _ _ h.tl (fun _ q => nomatch q), h.dk.mod m, h.k1.mod m n1, h.d1.mod m n3⟩
theorem LW.le {σ' : AHeap} {ts dk s x1 t0 t1 : Addr} {T1 : Tree} {di : Nat} (h : LW σ ts dk s x1 t0 t1 T1 di) (m : Le σ σ') : LW σ' ts dk s x1 t0 t1 T1 di :=
  h.mod (P := fun _ => False) (Mod.of_le m) (fun _ => id) fun _ => id
theorem LW.off {σ' : AHeap} {ts dk s x1 t0 t1 : Addr} {T1 : Tree} {di dj : Nat} (h : LW σ ts dk s x1 t0 t1 T1 di) (m : Off dk σ σ') (d : Deck σ' dk s dj) : LW σ' ts dk s x1 t0 t1 T1 dj := by
  refine ⟨m _ _ (fun q => ?_) h.tl, d, h.k1.kt (Off.kt h.dk m), h.d1.kt (Off.kt h.dk m)⟩
  have := h.tl; rw [q, h.dk.at_] at this; cases this
/-- _law_tells(x, [y, trees[1]]) -/
theorem T_tells (G : Good W) {x y : Str} {p1 p2 p3 p4 p5 p6 p7 p8 : Pos} {k : Nat} {kx t x1 t0 t1 ts dk s : Addr} {di reg r : Nat} {Tk T1 : Tree} {Q : Bool → Rho → AHeap → Prop}
    (hn : 7 ≤ n) (hg : env.globals = mainGlobals) (hk : env.kindOf "_law_tells" = some .globalImplicit) (dx : (x == ("__debug__" : Str)) = false) (dy : (y == ("__debug__" : Str)) = false) (hx : (x, .ref kx) ∈ ρ) (hy : (y, .ref t) ∈ ρ) (ht : (("trees" : Str), AV.ref ts) ∈ ρ)
    (L : LW σ ts dk s x1 t0 t1 T1 di) (h0 : KTop σ kx reg (.ref x1) Tk) (h1 : DTree σ t r Tk) (h : ∀ σ', Le σ σ' → Q true ρ σ') :
    T W n env id (isTrue (.Call (.Name "_law_tells" p1) [.Name x p2, .List [.Name y p3, .Subscript (.Name "trees" p4) (.Constant (.int 1) k p5) p6] p7] [] p8) env (eval (.Call (.Name "_law_tells" p1) [.Name x p2, .List [.Name y p3, .Subscript (.Name "trees" p4) (.Constant (.int 1) k p5) p6] p7] [] p8) env)) Q ρ σ := by
  refine T_isValue rfl ?_
  refine T_CallFn (m := 7) (at_law_tells G) hn hg hk ?_
  refine ca_cons rfl rfl ?_
  refine T_Name_ dx hx ?_
  refine A_cons rfl ?_
  refine T_List ?_
  refine A_cons rfl ?_
  refine T_Name_ dy hy ?_
  refine A_cons rfl ?_
  refine T_Subscript ?_
  refine T_Name_ rfl ht ?_
  refine T_int ?_
  refine I_list (by intro _ _; rfl) L.tl (by decide) (by decide) rfl ?_
  refine A_nil ?_
  refine ⟨by simp, fun l σ₁ nl le₁ hl => ?_⟩
  refine A_nil ?_
  refine (sp_tells G (tells_of (h0.le le₁) (L.k1.le le₁) hl (h1.le le₁) (L.d1.le le₁))).mono ?_
  rintro _ σ₂ ⟨rfl, le₂⟩
  exact ⟨_, rfl, h σ₂ (le₁.trans le₂)⟩
end

section
variable {W : Wd} {n : Nat} {env : Env} {ρ : Rho} {σ : AHeap}
theorem code_ok {c : Int} (hc : c ∈ codes) : (Key.i c).ok := by
  simp only [codes, List.mem_cons, List.not_mem_nil, or_false] at hc
  rcases hc with rfl | rfl | rfl | rfl <;> rfl
theorem code_lt {i : Nat} {c : Int} (h : codes[i]? = some c) : i < 4 := by
  rcases Nat.lt_or_ge i 4 with q | q
  · exact q
  · rw [List.getElem?_eq_none q] at h; cases h
/-- the law's last part: signs that insert themselves -/
theorem law_last (G : Good W) {L : Addr} {ts dk s x1 t0 t1 : Addr} {T1 : Tree} {di j : Nat} (h : LW σ ts dk s x1 t0 t1 T1 di) :
    TS W 8 (callEnvC fd_law L 325) (execs ((bodyOf fd_law).drop 13) (callEnvC fd_law L 325)) (fun fl _ _ => retOf fl = .bool true) [("way", .int (j : Int))] σ := by
  k_extra "start"
  k_extra "asg"
  refine T_Keymap0 G (8, none) (by decide) rfl (by k_extra "rf") fun p σ₁ np le₁ hp => ?_
  k_extra "set"
  have hp₁ : KTop σ₁ p 8 .none [] := ⟨[], hp, .nil⟩
  refine T_CallFn (m := 7) (at_suppress G) (by decide) rfl (by k_extra "rf") ?_
  k_extra "go"
  refine C_gt_int ?_
  k_extra "go"
  generalize hd : decide ((0 : Int) < (j : Int)) = d
  refine (sp_suppress G hp₁).mono ?_
  rintro _ σ₂ ⟨hp₂, m₂⟩
  k_extra "go"
  k_extra "asg"
  refine T_Keymap0 G (9, none) (by decide) rfl (by k_extra "rf") fun b σ₃ nb le₃ hb => ?_
  k_extra "set"
  have hb₃ : KTop σ₃ b 9 .none (bT 0) := ⟨[], hb, .nil⟩
  have hp₃ := hp₂.le le₃
  refine S_ForTup (by intro; rfl) (by k_extra "sto") ?_
  k_extra "go"
  refine ⟨by simp, fun t σ₄ nt le₄ ht => ?_⟩
  refine ⟨t, _, fun i ρ σ' => Sub [("plain_here", .ref p), ("base", .ref b), ("way", .int j)] ρ ∧ KTop σ' b 9 .none (bT i) ∧ Mod (·.1 = 9) σ₄ σ', rfl, ht, ⟨by k_extra "sub", hb₃.le le₄, Mod.of_le Le.rfl⟩, fun i ρ σ' h => h.2.2 _ _ ht (fun _ e => nomatch e), fun i u hu ρ σ' ⟨hs, hb', m'⟩ => ?_, fun ρ σ' ⟨hs, hb', m'⟩ => ?_⟩
  · have hu : (codes.map AV.int)[i]? = some u := hu
    rw [List.getElem?_map] at hu
    obtain ⟨c, hc, rfl⟩ := Option.map_eq_some_iff.mp hu
    have hlt := code_lt hc
    refine weakS (sub_rset hs rfl) ?_
    k_extra "start"
    refine T_CallFn (m := 5) (at_define_key G) (by decide) rfl (by k_extra "rf") ?_
    k_extra "go"
    refine ⟨by simp, fun q σ₅ nq le₅ hq => ?_⟩
    k_extra "go"
    refine (sp_def G (c := some "self-insert-command") (ks := [.i c]) hq (by intro k hk; rw [List.mem_singleton.mp hk]; exact code_ok (List.mem_of_getElem? hc)) (hb'.le le₅) (bT_ok i) (by omega) trivial).mono ?_
    rintro _ σ₆ ⟨rfl, hb₆, m₆⟩
    k_extra "go"
    exact ⟨by k_extra "sub", by rw [bT_step hc]; exact hb₆, (m'.trans (Mod.of_le le₅)).trans m₆⟩
  · refine weakS hs ?_
    have hp₅ := (hp₃.le le₄).mod m' (fun k e => by simp at e)
    have hb₅ : KTop σ' b 9 .none (bT 4) := hb'
    k_extra "go"
    refine S_AssignComp (by k_extra "rf") (by intro; rfl) (by k_extra "compok") (by k_extra "sto") ?_
    k_extra "go"
    refine ⟨by simp, fun t' σ₇ nt' le₇ ht' => ?_⟩
    refine ⟨[("plain_here", .ref p), ("base", .ref b)], by k_extra "cap", ?_⟩
    refine comp_plain (fun i out σ' => out = ((codes.take i).map (fun c => AV.str (wants d c))) ∧ Le σ₇ σ') (iter_tup ht') ⟨rfl, Le.rfl⟩ (by decide) (fun i out σ' hi h => by rw [h.1, List.length_map, List.length_take]; exact Nat.min_le_left _ _) (fun i out σ' h => h.2 _ _ ht') ?_ ?_
    · rintro i u hi hu out σ' ⟨rfl, le⟩ C
      have hu : (codes.map AV.int)[i]? = some u := hu
      rw [List.getElem?_map] at hu
      obtain ⟨c, hc, rfl⟩ := Option.map_eq_some_iff.mp hu
      refine T_tests0 ⟨fun _ => ?_, (fun hb => nomatch hb)⟩
      refine T_CallFn (m := 8) (at_key_binding G) (by decide) rfl (by k_extra "rf") ?_
      k_extra "go"
      refine ⟨by simp, fun l σ₈ nl le₈ hl => ?_⟩
      k_extra "go"
      refine ⟨by simp, fun q σ₉ nq le₉ hq => ?_⟩
      k_extra "go"
      have ll := le₇.trans (le.trans (le₈.trans le₉))
      obtain ⟨alls, f, e1, e2, e3⟩ := kb_all (hp₅.le ll) (hb₅.le ll) (List.mem_of_getElem? hc)
      refine (sp_key_binding G (le₉ _ _ hl) (by simp) (ks := [.i c]) hq (by intro k hk; rw [List.mem_singleton.mp hk]; exact code_ok (List.mem_of_getElem? hc)) (by simp) e1 e2).mono ?_
      rintro _ σ₁₀ ⟨le₁₀, rfl⟩
      rw [e3]
      exact ⟨by rw [List.take_add_one, hc, List.map_append]; rfl, le.trans (le₈.trans (le₉.trans le₁₀))⟩
    · rintro out σ₈ ⟨rfl, le₈⟩
      intro td σ₉ ntd le₉ htd
      k_extra "set"
      k_extra "asg"
      refine C_gt_int ⟨_, rfl, ?_⟩
      rw [hd]
      cases d with
      | true =>
        refine ⟨fun _ => ?_, (fun hb => nomatch hb)⟩
        k_extra "go"
        refine ⟨by simp, fun dl σ₁₀ ndl le₁₀ hdl => ?_⟩
        k_extra "set"
        refine ⟨by simp, fun ul σ₁₁ nul le₁₁ hul => ?_⟩
        refine B_add_list (le₁₁ _ _ hdl) hul (by simp) (by simp) fun sl σ₁₂ nsl le₁₂ hsl => ?_
        refine C_eq_strs (xs := codes.map (wants true)) (ys := ["negative-argument", "digit-argument", "digit-argument", "undefined"]) (by rw [le₁₂ _ _ (le₁₁ _ _ (le₁₀ _ _ htd))]; rfl) hsl ?_
        rw [decide_eq_true (by decide)]; rfl
      | false =>
        refine ⟨(fun hb => nomatch hb), fun _ => ?_⟩
        k_extra "go"
        refine ⟨by simp, fun vl σ₁₀ nvl le₁₀ hvl => ?_⟩
        k_extra "go"
        refine B_mul_list (k := 3) hvl (by decide) (by simp) (by simp) fun dl σ₁₁ ndl le₁₁ hdl => ?_
        k_extra "set"
        refine ⟨by simp, fun ul σ₁₂ nul le₁₂ hul => ?_⟩
        refine B_add_list (le₁₂ _ _ hdl) hul (by simp) (by simp) fun sl σ₁₃ nsl le₁₃ hsl => ?_
        refine C_eq_strs (xs := codes.map (wants false)) (ys := ["undefined", "undefined", "undefined", "undefined"]) (by rw [le₁₃ _ _ (le₁₂ _ _ (le₁₁ _ _ (le₁₀ _ _ htd)))]; rfl) hsl ?_
        rw [decide_eq_true (by decide)]; rfl
end

section
variable {W : Wd} {n : Nat} {env : Env} {ρ : Rho} {σ : AHeap}
theorem PairsAt.le {σ' : AHeap} {vs : List AV} {kvs : List (Key × AV)} (h : PairsAt σ vs kvs) (m : Le σ σ') : PairsAt σ' vs kvs :=
  ⟨h.1, fun i k v e => by obtain ⟨t, a, b⟩ := h.2 i k v e; exact ⟨t, a, m _ _ b⟩⟩
theorem PairsAt.snoc {vs : List AV} {kvs : List (Key × AV)} {x : Addr} {k : Key} {v : AV} (h : PairsAt σ vs kvs) (hx : σ x = some (.tup [k.av, v])) : PairsAt σ (vs ++ [.ref x]) (kvs ++ [(k, v)]) := by
  refine ⟨by rw [List.length_append, List.length_append, h.1]; rfl, fun j k' w hj => ?_⟩
  by_cases q : j < kvs.length
  · rw [List.getElem?_append_left q] at hj
    obtain ⟨t', a, b⟩ := h.2 j k' w hj
    exact ⟨t', by rw [List.getElem?_append_left (by rw [h.1]; exact q)]; exact a, b⟩
  · rw [List.getElem?_append_right (by omega)] at hj
    have : j - kvs.length = 0 := by
      rcases Nat.eq_zero_or_pos (j - kvs.length) with z | z
      · exact z
      · rw [List.getElem?_eq_none z] at hj; cases hj
    rw [this] at hj; cases hj
    exact ⟨x, by rw [List.getElem?_append_right (by rw [h.1]; omega), h.1, this]; rfl, hx⟩
theorem plain_key (k : Key) : Plain k.av := by cases k <;> trivial
theorem kdel_take {kvs : List (Key × AV)} {k k' : Key} {v : AV} {i : Nat} (h : kvs[i]? = some (k', v)) : kdel (kvs.take (i + 1)) k = kdel (kvs.take i) k ++ (if k' ≠ k then [(k', v)] else []) := by
  unfold kdel; rw [List.take_add_one, h, List.filter_append]
  show _ ++ List.filter _ [(k', v)] = _
  rw [List.filter_cons]
  by_cases e : k' = k
  · simp [e]
  · simp [e]
/-- the law behind the change of the twin -/
theorem law_mid (G : Good W) {L : Addr} {ts dk s x0 x1 t0 t1 tw tr sw : Addr} {T1 Tk Tt : Tree} {di j : Nat} (h : LW σ ts dk s x1 t0 t1 T1 di)
    (hk : KTop σ x0 0 (.ref x1) Tk) (hsw : DTree σ sw 6 Tk) (htw : KTop σ tw 4 (.ref x1) Tt) (htr : DTree σ tr 5 Tt) :
    TS W 8 (callEnvC fd_law L 325) (execs ((bodyOf fd_law).drop 12) (callEnvC fd_law L 325)) (fun fl _ _ => retOf fl = .bool true) [("trees", .ref ts), ("keymap", .ref x0), ("twin", .ref tw), ("tree", .ref tr), ("swapped", .ref sw), ("way", .int (j : Int))] σ := by
  k_extra "start"
  refine T_tells G (by decide) rfl (by k_extra "rf") rfl rfl (by k_extra "mem") (by k_extra "mem") (by k_extra "mem") h htw htr fun σ₁ le₁ => ⟨(fun hb => nomatch hb), fun _ => ?_⟩
  k_extra "go"
  refine T_tells G (by decide) rfl (by k_extra "rf") rfl rfl (by k_extra "mem") (by k_extra "mem") (by k_extra "mem") (h.le le₁) (hk.le le₁) (hsw.le le₁) fun σ₂ le₂ => ⟨(fun hb => nomatch hb), fun _ => ?_⟩
  k_extra "go"
  refine ⟨(fun hb => nomatch hb), fun _ => ?_⟩
  refine S_nil ?_
  exact weakS (ρ₀ := [("way", .int (j : Int))]) (by k_extra "sub") (law_last G (h.le (le₁.trans le₂)))
/-- the law from its two draws on: a row taken out of the twin, or put into it -/
theorem law_rest (G : Good W) {L : Addr} {ts dk s x0 x1 t0 t1 tw tr sw : Addr} {T0 T1 Tk : Tree} {di : Nat} (h : LW σ ts dk s x1 t0 t1 T1 di) (dz : di ≤ 900) (tok : TOk 8 T0)
    (hk : KTop σ x0 0 (.ref x1) Tk) (hsw : DTree σ sw 6 Tk) (htw : KTop σ tw 4 (.ref x1) T0) (htr : DTree σ tr 5 T0) :
    TS W 8 (callEnvC fd_law L 325) (execs ((bodyOf fd_law).drop 10) (callEnvC fd_law L 325)) (fun fl _ _ => retOf fl = .bool true) [("deck", .ref dk), ("trees", .ref ts), ("keymap", .ref x0), ("twin", .ref tw), ("tree", .ref tr), ("swapped", .ref sw)] σ := by
  k_extra "start"
  k_extra "as1"
  refine T_CallFn (m := 2) (at_law_pick G) (by decide) rfl (by k_extra "rf") ?_
  k_extra "go"
  refine T_CallFn (m := 1) (at_law_events G) (by decide) rfl (by k_extra "rf") (ca_nil ?_)
  refine (sp_events G).mono ?_
  rintro _ σ₁ ⟨l, rfl, nl, le₁, hl⟩
  k_extra "go"
  have L₁ := h.le le₁
  refine (sp_pick G L₁.dk (by omega) hl (h.dk.fresh nl) (by decide) (by decide)).mono ?_
  rintro v σ₂ ⟨hv, dk₂, o₂⟩
  obtain ⟨k, hkev, rfl⟩ := List.mem_map.mp hv
  have L₂ := L₁.off o₂ dk₂
  k_extra "go"
  refine T_CallFn (m := 1) (at_law_draw G) (by decide) rfl (by k_extra "rf") ?_
  k_extra "go"
  refine (sp_draw G L₂.dk (by omega) (many := 3) (by decide) (by decide)).mono ?_
  rintro _ σ₃ ⟨j, rfl, hj, dk₃, o₃⟩
  have L₃ := L₂.off o₃ dk₃
  k_extra "go"
  refine ⟨by simp, fun tp σ₄ ntp le₄ htp => ?_⟩
  intro w4 ew4
  refine T_assign2 (by k_extra "rf") ew4 (.inl htp) fun p4 q4 ep4 eq4 => ?_
  k_extra "nm"
  k_extra "nm"
  rw [ep4, eq4]
  have kt : KT σ σ₄ := fun a o e q => le₄ _ _ (Off.kt L₂.dk o₃ _ _ (Off.kt L₁.dk o₂ _ _ (le₁ _ _ e) q) q)
  have L₄ := L₃.le le₄
  have k₄ := hk.kt kt
  have sw₄ := hsw.kt kt
  have tw₄ := htw.kt kt
  have tr₄ := htr.kt kt
  have kok := evs_ok k hkev
  clear h hk hsw htw htr L₁ L₂ L₃ kt
  refine C_eq_int ⟨_, rfl, fun hb => ?_, fun hb => ?_⟩
  · k_extra "start"
    refine T_CallFn (m := 5) (at_undefine_key G) (by decide) rfl (by k_extra "rf") ?_
    k_extra "go"
    refine ⟨by simp, fun q σ₅ nq le₅ hq => ?_⟩
    k_extra "go"
    refine (sp_undefine G hq kok (tw₄.le le₅) (Nat.le_trans tok.2.1 (by decide))).mono ?_
    rintro _ σ₆ ⟨rfl, tw₆, m₆⟩
    have L₆ := (L₄.le le₅).mod m₆ (fun k e => by simp at e) (fun k e => by simp at e)
    have k₆ := (k₄.le le₅).mod m₆ (fun k e => by simp at e)
    have sw₆ := (sw₄.le le₅).mod m₆ (fun k e => by simp at e)
    have tr₆ := (tr₄.le le₅).mod m₆ (fun k e => by simp at e)
    k_extra "go"
    obtain ⟨kvs, ep, hd, hr⟩ := tr₆
    refine T_nodup hd fun hnod => ?_
    k_extra "asg"
    k_extra "bi"
    refine T_ListComp (by intro; rfl) (by k_extra "compok") ?_
    k_extra "go"
    refine ⟨[("event", k.av), ("tree", .ref tr)], by k_extra "cap", ?_⟩
    have kl := hr.length
    have tz := tok.2.1
    refine comp_plain (fun i out σ' => Le σ₆ σ' ∧ PairsAt σ' out (kdel (kvs.take i) k)) (iter_dict hd) ⟨Le.rfl, ⟨rfl, fun i k v h => by cases h⟩⟩ (by omega) (fun i out σ' _ h => ?_) (fun i out σ' h => ⟨_, _, h.1 _ _ hd, rfl⟩) ?_ ?_
    · have h1 := h.2.1
      have h2 : (kdel (kvs.take i) k).length ≤ (kvs.take i).length := List.length_filter_le ..
      rw [List.length_take] at h2
      omega
    · rintro i u hi ⟨k', v', hki, rfl⟩ out σ' ⟨le, hp⟩ C
      have tks := kdel_take (k := k) hki
      refine T_tests1 ?_
      k_extra "go"
      refine C_ne (plain_key k') (plain_key k) ⟨_, rfl, fun hb => ?_, fun hb => ?_⟩
      · have ne : k' ≠ k := fun e => by rw [e] at hb; simp at hb
        rw [if_pos ne] at tks
        k_extra "go"
        refine I_dict (by intro _ _; rfl) (le _ _ hd) (dget_at hnod hki) ?_
        k_extra "go"
        refine ⟨by simp, fun x σ₈ nx le₈ hx => ⟨le.trans le₈, ?_⟩⟩
        rw [tks]; exact (hp.le le₈).snoc hx
      · have e : k' = k := Key.av_inj (by simpa using hb)
        rw [if_neg (fun h => h e), List.append_nil] at tks
        exact ⟨le, by rw [tks]; exact hp⟩
    · rintro out σ₇ ⟨le₇, hp⟩
      intro c σ₈ nc le₈ hcc
      rw [List.take_length] at hp
      have dl : (kdel kvs k).length ≤ kvs.length := List.length_filter_le ..
      k_extra "go"
      refine L_dict_pairs (5, none) hcc (hp.le le₈) ((List.filter_sublist.map _).nodup hnod) (by omega) fun ep' d σ₉ nd le₉ hd' => ?_
      apply Exists.intro; apply And.intro; k_extra "up"
      refine S_nil ?_
      have ll := le₇.trans (le₈.trans le₉)
      have trd : DTree σ₉ d 5 (tdel T0 k) := ⟨_, ep', hd', (hr.del k).mod (P := fun _ => False) (Mod.of_le ll) fun _ => id⟩
      exact weakS (ρ₀ := [("trees", .ref ts), ("keymap", .ref x0), ("twin", .ref tw), ("tree", .ref d), ("swapped", .ref sw), ("way", .int (j : Int))]) (by k_extra "sub") (law_mid G (L₆.le ll) (k₆.le ll) (sw₆.le ll) (tw₆.le ll) trd)
  · have val : ∀ {n : Nat} {ρ : Rho} {σ : AHeap} {p1 p2 p3 p4 p5 p6 : Pos} {k1 k2 k3 : Nat}, (("way" : Str), AV.int (j : Int)) ∈ ρ → T W n (callEnvC fd_law L 325) ab (eval (.IfExp (.Compare (.Name "way" p1) [.Eq] [.Constant (.int 1) k1 p2] p3) (.Constant .none k2 p4) (.Constant (.str "other") k3 p5) p6) (callEnvC fd_law L 325)) (fun v ρ' σ' => v = lav (if j = 1 then none else some "other") ∧ ρ' = ρ ∧ σ' = σ) ρ σ := by
      intro n ρ σ p1 p2 p3 p4 p5 p6 k1 k2 k3 hm
      refine T_IfExp ?_
      refine T_isCompare (by k_extra "rf") ?_
      refine T_Name_ rfl hm ?_
      k_extra "go"
      refine C_eq_int ⟨_, rfl, fun hb => ?_, fun hb => ?_⟩
      · have e : j = 1 := by simp at hb; omega
        k_extra "go"
        rw [if_pos e]; exact ⟨rfl, rfl, rfl⟩
      · have e : j ≠ 1 := by simp at hb; omega
        k_extra "go"
        rw [if_neg e]; exact ⟨rfl, rfl, rfl⟩
    generalize (if j = 1 then none else some ("other" : Str)) = cm at val
    k_extra "start"
    refine T_CallFn (m := 5) (at_define_key G) (by decide) rfl (by k_extra "rf") ?_
    k_extra "go"
    refine ⟨by simp, fun q σ₅ nq le₅ hq => ?_⟩
    refine A_cons rfl ?_
    refine T_same (val (by k_extra "mem")) ?_
    k_extra "go"
    refine (sp_def G (c := cm) (ks := [k]) hq (by intro k' hk'; rw [List.mem_singleton.mp hk']; exact kok) (tw₄.le le₅) tok (by decide) trivial).mono ?_
    rintro _ σ₆ ⟨rfl, tw₆, m₆⟩
    have L₆ := (L₄.le le₅).mod m₆ (fun k e => by simp at e) (fun k e => by simp at e)
    have k₆ := (k₄.le le₅).mod m₆ (fun k e => by simp at e)
    have sw₆ := (sw₄.le le₅).mod m₆ (fun k e => by simp at e)
    have tr₆ := (tr₄.le le₅).mod m₆ (fun k e => by simp at e)
    k_extra "go"
    obtain ⟨kvs, ep, hd, hr⟩ := tr₆
    refine S_AssignSub (by k_extra "rf") ?_
    refine T_same (val (by k_extra "mem")) ?_
    k_extra "go"
    intro vo vi vv eo ei ev
    refine T_setItem_dict eo ei hd (by have := hr.length; have := tok.2.1; omega) fun σ₇ ep' _ cc => ?_
    rw [ev] at cc
    have mm : Mod (· = (5, none)) σ₆ σ₇ := Mod.of_chg cc hd rfl rfl
    have nn : ∀ (i : Nat) (k : Option Key), i ≠ 5 → ¬ ((i, k) : Tag) = (5, none) := fun i k h e => h (congrArg Prod.fst e)
    have trd : DTree σ₇ tr 5 (tdef T0 [k] cm) := ⟨_, ep', cc.1, (hr.mod mm (fun _ e => by cases e)).put rfl⟩
    refine S_nil ?_
    exact weakS (ρ₀ := [("trees", .ref ts), ("keymap", .ref x0), ("twin", .ref tw), ("tree", .ref tr), ("swapped", .ref sw), ("way", .int (j : Int))]) (by k_extra "sub") (law_mid G (L₆.mod mm (fun k => nn _ k (by decide)) fun k => nn _ k (by decide)) (k₆.mod mm fun k => nn _ k (by decide)) (sw₆.mod mm fun k => nn _ k (by decide)) (tw₆.mod mm fun k => nn _ k (by decide)) trd)
end

section
variable {W : Wd} {n : Nat} {env : Env} {ρ : Rho} {σ : AHeap}
theorem sp_law (G : Good W) {a : Addr} {o : Obj} {us : List Value} {m : Nat} {xs : List Int} (ha : W.base.get? a = some o) (hc : o.cls = .type "list") (hd : o.data = .seq us.toArray m) (hu : us.map ab = xs.map .int) (hz : xs.length ≤ 63) :
    Spec W 9 325 [.ref a] σ (fun r _ => r = .bool true) := by
  have uz : us.length ≤ 1000 := by have := congrArg List.length hu; rw [List.length_map, List.length_map] at this; omega
  refine enterB (ρ₀ := [("script", .ref a)]) ["script"] (fn_law G) (bind1 fun _ => rfl) rfl (by decide) rfl fun L => ?_
  k_extra "start"
  k_extra "asg"
  k_extra "bi"
  refine L_list_raw ha hc hd uz fun l σ₁ nl le₁ hl => ?_
  refine T_sliceUp ?_
  k_extra "go"
  intro w ew sl σ₂ nsl le₂ hsl
  refine I_listTo (by intro _ _; rfl) (le₂ _ _ hl) hsl ew (by rw [List.length_map]; exact uz) fun s σ₃ ns le₃ hs => ?_
  k_extra "go"
  refine ⟨by simp, fun dk σ₄ ndk le₄ hdk => ?_⟩
  k_extra "set"
  have dk₄ : Deck σ₄ dk s 0 := ⟨hdk, xs.take 50, by rw [le₄ _ _ hs, hu, List.map_take], by rw [List.length_take]; omega⟩
  k_extra "as1"
  refine T_CallFn (m := 6) (at_law_trees G) (by decide) rfl (by k_extra "rf") ?_
  k_extra "go"
  refine (sp_trees G dk₄).mono ?_
  rintro _ σ₅ ⟨a₅, ks, ts, x, t, T, di, rfl, ha₅, tr, dk₅, dz, kp₅⟩
  intro w5 ew5
  refine T_assign2 (by k_extra "rf") ew5 (.inl ha₅) fun p q ep eq => ?_
  k_extra "nm"
  k_extra "nm"
  rw [ep, eq]
  k_extra "as1"
  intro w6 ew6
  refine T_assign2 (by k_extra "rf") ew6 (.inr tr.kl) fun p' q' ep' eq' => ?_
  k_extra "nm"
  k_extra "nm"
  rw [ep', eq']
  obtain ⟨kv0, km0, ra0⟩ := tr.km 0 (by decide)
  obtain ⟨kv1, km1, ra1⟩ := id (tr.km 1 (by decide))
  refine T_CallFn (m := 2) (at_set_parent G) (by decide) rfl (by k_extra "rf") ?_
  k_extra "go"
  refine (sp_set_parent G km0 km1 (km_ne km0 km1 (by decide))).mono ?_
  rintro _ σ₆ ⟨rfl, hk₆, m₆⟩
  have n₆ : ∀ (i : Nat) (k : Option Key), i ≠ 0 → ¬ ((i, k) : Tag) = (0, none) := fun i k h e => h (congrArg Prod.fst e)
  have L₆ : LW σ₆ ts dk s (x 1) (t 0) (t 1) (T 1) di := ⟨m₆ _ _ tr.tl (fun _ e => nomatch e), dk₅.mod m₆, (tr.km 1 (by decide)).mod m₆ fun k => n₆ _ k (by decide), (tr.dt 1 (by decide)).mod m₆ fun k => n₆ _ k (by decide)⟩
  have k₆ : KTop σ₆ (x 0) 0 (.ref (x 1)) (T 0) := ⟨kv0, hk₆, ra0.mod m₆ fun k e => by cases e⟩
  have d₆ : DTree σ₆ (t 0) 2 (T 0) := (tr.dt 0 (by decide)).mod m₆ fun k => n₆ _ k (by decide)
  have tok := tr.ok 0 (by decide)
  have tz : (T 0).length ≤ 100 := Nat.le_trans tok.2.1 (by decide)
  have trz := tok.rows (by decide)
  clear tr km0 km1 ra0 ra1 hk₆ m₆ n₆
  generalize x 0 = x0 at *
  generalize x 1 = x1 at *
  generalize t 0 = t0 at *
  generalize t 1 = t1 at *
  generalize T 0 = T0 at *
  generalize T 1 = T1 at *
  k_extra "go"
  k_extra "as1"
  refine T_CallFn (m := 3) (at_copy_keymap G) (by decide) rfl (by k_extra "rf") ?_
  k_extra "go"
  refine (sp_copy G (reg' := 4) k₆ (fun _ e => nomatch e) (by decide) tz trz).mono ?_
  rintro _ σ₇ ⟨tw, rfl, htw₇, m₇⟩
  have L₇ := L₆.mod m₇ (fun k e => by simp at e) (fun k e => by simp at e)
  have k₇ := k₆.mod m₇ (fun k e => by simp at e)
  have d₇ := d₆.mod m₇ (fun k e => by simp at e)
  k_extra "go"
  refine T_CallFn (m := 1) (at_law_copied G) (by decide) rfl (by k_extra "rf") ?_
  k_extra "go"
  refine I_list (by intro _ _; rfl) L₇.tl (by decide) (by decide) rfl ?_
  k_extra "go"
  refine (sp_copied G 5 d₇ tz trz).mono ?_
  rintro _ σ₈ ⟨tr, rfl, htr₈, le₈⟩
  k_extra "go"
  refine ⟨by simp, fun tp σ₉ ntp le₉ htp => ?_⟩
  intro w9 ew9
  refine T_assign2 (by k_extra "rf") ew9 (.inl htp) fun p9 q9 ep9 eq9 => ?_
  k_extra "nm"
  k_extra "nm"
  rw [ep9, eq9]
  have L₉ := L₇.le (le₈.trans le₉)
  have k₉ := k₇.le (le₈.trans le₉)
  have d₉ := d₇.le (le₈.trans le₉)
  have htw₉ := htw₇.le (le₈.trans le₉)
  have htr₉ := htr₈.le le₉
  clear k₇ d₇ L₇ k₆ d₆ L₆
  refine T_tells G (by decide) rfl (by k_extra "rf") rfl rfl (by k_extra "mem") (by k_extra "mem") (by k_extra "mem") L₉ htw₉ htr₉ fun σ₁₀ le₁₀ => ⟨(fun hb => nomatch hb), fun _ => ?_⟩
  k_extra "go"
  refine T_parent G (by k_extra "rf") ?_
  k_extra "go"
  obtain ⟨kvt, kmt, _⟩ := htw₉.le le₁₀
  refine ⟨tw, _, _, _, rfl, kmt, (fun _ e => nomatch e), ?_⟩
  k_extra "go"
  obtain ⟨kv1, ⟨dx1, rx1, ex1, hx1, _⟩, _⟩ := L₉.k1.le le₁₀
  refine C_isNot_ref hx1 hx1 ⟨_, rfl, ?_⟩
  rw [decide_eq_true rfl]
  refine ⟨(fun hb => nomatch hb), fun _ => ?_⟩
  k_extra "go"
  refine ⟨(fun hb => nomatch hb), fun _ => ?_⟩
  k_extra "go"
  have L₁₀ := L₉.le le₁₀
  have k₁₀ := k₉.le le₁₀
  have d₁₀ := d₉.le le₁₀
  have htw₁₀ := htw₉.le le₁₀
  have htr₁₀ := htr₉.le le₁₀
  clear L₉ k₉ d₉ htw₉ htr₉ kmt hx1
  refine S_AssignSwap (by k_extra "rf") (by k_extra "rf") (by k_extra "sto") (by k_extra "sto") ?_
  k_extra "go"
  refine T_CallFn (m := 2) (at_law_pick G) (by decide) rfl (by k_extra "rf") ?_
  k_extra "go"
  refine ⟨by simp, fun la σ₁₁ nla le₁₁ hla => ?_⟩
  k_extra "go"
  have L₁₁ := L₁₀.le le₁₁
  refine (sp_pick G L₁₁.dk (by omega) hla (L₁₀.dk.fresh nla) (by simp) (by simp)).mono ?_
  rintro vo σ₁₂ ⟨hvo, dk₁₂, o₁₂⟩
  obtain ⟨old, rfl⟩ : ∃ c, vo = .str c := by
    simp only [List.mem_cons, List.not_mem_nil, or_false] at hvo
    rcases hvo with rfl | rfl | rfl <;> exact ⟨_, rfl⟩
  have L₁₂ := L₁₁.off o₁₂ dk₁₂
  k_extra "go"
  refine T_CallFn (m := 2) (at_law_pick G) (by decide) rfl (by k_extra "rf") ?_
  k_extra "go"
  refine ⟨by simp, fun lb σ₁₃ nlb le₁₃ hlb => ?_⟩
  k_extra "go"
  have L₁₃ := L₁₂.le le₁₃
  refine (sp_pick G L₁₃.dk (by omega) hlb (L₁₂.dk.fresh nlb) (by simp) (by simp)).mono ?_
  rintro vn σ₁₄ ⟨hvn, dk₁₄, o₁₄⟩
  obtain ⟨new, rfl⟩ : ∃ c, vn = .str c := by
    simp only [List.mem_cons, List.not_mem_nil, or_false] at hvn
    rcases hvn with rfl | rfl <;> exact ⟨_, rfl⟩
  have L₁₄ := L₁₃.off o₁₄ dk₁₄
  k_extra "go"
  refine ⟨by simp, fun tq σ₁₅ ntq le₁₅ htq => ⟨tq, _, _, rfl, htq, ?_⟩⟩
  k_extra "set"
  k_extra "set"
  have kt : KT σ₁₀ σ₁₅ := fun a o e k => le₁₅ _ _ (Off.kt L₁₃.dk o₁₄ _ _ (le₁₃ _ _ (Off.kt L₁₁.dk o₁₂ _ _ (le₁₁ _ _ e) k)) k)
  have L₁₅ := L₁₄.le le₁₅
  have k₁₅ := k₁₀.kt kt
  have d₁₅ := d₁₀.kt kt
  have htw₁₅ := htw₁₀.kt kt
  have htr₁₅ := htr₁₀.kt kt
  clear L₁₀ L₁₁ L₁₂ L₁₃ L₁₄ k₁₀ d₁₀ htw₁₀ htr₁₀ kt
  k_extra "as1"
  refine T_CallFn (m := 2) (at_law_swapped G) (by decide) rfl (by k_extra "rf") ?_
  k_extra "go"
  refine I_list (by intro _ _; rfl) L₁₅.tl (by decide) (by decide) rfl ?_
  k_extra "go"
  refine (sp_swapped G 6 (old := old) (new := new) d₁₅ tz trz).mono ?_
  rintro _ σ₁₆ ⟨ta, sw, rfl, hta, hsw₁₆, m₁₆⟩
  have L₁₆ := L₁₅.mod m₁₆ (fun k e => by simp at e) (fun k e => by simp at e)
  have k₁₆ := k₁₅.mod m₁₆ (fun k e => by simp at e)
  have htw₁₆ := htw₁₅.mod m₁₆ (fun k e => by simp at e)
  have htr₁₆ := htr₁₅.mod m₁₆ (fun k e => by simp at e)
  intro w16 ew16
  refine T_assign2 (by k_extra "rf") ew16 (.inl hta) fun p16 q16 ep16 eq16 => ?_
  k_extra "nm"
  k_extra "nm"
  rw [ep16, eq16]
  refine T_CallFn (m := 2) (at_substitute G) (by decide) rfl (by k_extra "rf") ?_
  k_extra "go"
  refine (sp_substitute G (old := old) (new := new) k₁₆ tz trz).mono ?_
  rintro _ σ₁₇ ⟨rfl, k₁₇, m₁₇⟩
  have L₁₇ := L₁₆.mod m₁₇ (fun k e => by simp at e) (fun k e => by simp at e)
  have hsw₁₇ := hsw₁₆.mod m₁₇ (fun k e => by simp at e)
  have htw₁₇ := htw₁₆.mod m₁₇ (fun k e => by simp at e)
  have htr₁₇ := htr₁₆.mod m₁₇ (fun k e => by simp at e)
  clear L₁₅ k₁₅ d₁₅ htw₁₅ htr₁₅ L₁₆ k₁₆ hsw₁₆ htw₁₆ htr₁₆
  k_extra "go"
  refine C_ne trivial trivial ⟨_, rfl, ?_⟩
  rw [decide_eq_true rfl]
  refine ⟨(fun hb => nomatch hb), fun _ => ?_⟩
  k_extra "go"
  refine T_tells G (by decide) rfl (by k_extra "rf") rfl rfl (by k_extra "mem") (by k_extra "mem") (by k_extra "mem") L₁₇ k₁₇ hsw₁₇ fun σ₁₈ le₁₈ => ⟨(fun hb => nomatch hb), fun _ => ?_⟩
  k_extra "go"
  refine T_tells G (by decide) rfl (by k_extra "rf") rfl rfl (by k_extra "mem") (by k_extra "mem") (by k_extra "mem") (L₁₇.le le₁₈) (htw₁₇.le le₁₈) (htr₁₇.le le₁₈) fun σ₁₉ le₁₉ => ⟨(fun hb => nomatch hb), fun _ => ?_⟩
  k_extra "go"
  refine ⟨(fun hb => nomatch hb), fun _ => ?_⟩
  refine S_nil ?_
  have ll := le₁₈.trans le₁₉
  exact weakS (ρ₀ := [("deck", .ref dk), ("trees", .ref ts), ("keymap", .ref x0), ("twin", .ref tw), ("tree", .ref tr), ("swapped", .ref sw)]) (by k_extra "sub") (law_rest G (L₁₇.le ll) (by omega) tok (k₁₇.le ll) (hsw₁₇.le ll) (htw₁₇.le ll) (htr₁₇.le ll))
end

theorem boot_here : ∀ w : World, (fencedOpening treeTable pg w 3750).map (fun s => (s.heap, s.gens, s.drawn, s.toks)) = some (boot_heap w.params, Array.mk [], boot_drawn, boot_toks) :=
  boot_open (by kernel_rfl) (by rfl) (fun s => by kernel_rfl)
theorem top_here : ∀ (w : World) (os : OsState), (topFrom treeTable pg w 3750 ⟨boot_heap w.params, Array.mk [], boot_drawn, boot_toks, os⟩).map (fun s => (openSeen view looseN (importedModules pg.main.body) (fun s => xlAt view [] s && recOk [] s) true s, hkObs s)) =
    some (openGood view looseN, hkVal w) := by
  intro w os
  unfold topFrom hkObs hkVal
  first
  | (rw [PySem.W.Fast.te4187177175401517315, PySem.W.Fast.te14082659384304107361, PySem.W.Fast.te8920871248978507458, PySem.W.Fast.te5923862056798008813, PySem.W.Fast.te14364793385576792824]; kernel_rfl)
  | kernel_rfl
/-- the looks at the law, through the library's quick twins, each look apart -/
theorem law_said : OpenLaw.wellSaid PySem.Challenge.rw_np0042_01 = true := by
  first
  | (refine (congrFun PySem.W.Fast.te9446332074065402090 PySem.Challenge.rw_np0042_01).trans ?_
     delta PySem.W.Fast.tw9446332074065402090 PySem.W.Fast.tw17960256430627541270 PySem.W.Fast.tw2436336058641802641 PySem.W.Fast.tw12908688711261696721
     repeat' (with_reducible refine look_both ?_ ?_)
     all_goals as_aux_lemma => kernel_rfl)
  | kernel_rfl
theorem bind_at {α β γ : Type _} {o : Option α} {f : α → Option β} {g : β → γ} {r : Option γ} (h : ∃ a, o = some a ∧ (f a).map g = r) : (o.bind f).map g = r := by
  obtain ⟨a, rfl, h⟩ := h
  exact h
theorem four {s : Shared} {h g d t} (e : (fun s : Shared => (s.heap, s.gens, s.drawn, s.toks)) s = (h, g, d, t)) : s = ⟨h, g, d, t, s.os⟩ := by
  obtain ⟨h', g', d', t', o'⟩ := s
  simp only [Prod.mk.injEq] at e
  obtain ⟨rfl, rfl, rfl, rfl⟩ := e
  rfl
theorem left : LeftO pg view looseN (fun s => xlAt view [] s && recOk [] s) hkObs hkVal 3750 := by
  intro w
  obtain ⟨s, e, e'⟩ := Option.map_eq_some_iff.mp (boot_here w)
  refine bind_at ⟨s, e, ?_⟩
  have q := four e'
  rw [q]
  exact top_here w s.os

/-- what the top leaves, as the walk asks it -/
def Says (w : World) (h : Heap) : Prop := (KM w.params).In h ∧ (∀ a v, KCd.lookup a = some v → codeQ h a = some v) ∧ (∀ x v, KNm.lookup x = some v → h.nsMap mainGlobals (Str.ofString x) = some v) ∧ (∀ x ∈ KNo, h.nsMap mainGlobals (Str.ofString x) = none)
theorem mem_lookup {α β : Type} [BEq α] [LawfulBEq α] {l : List (α × β)} {a : α} {b : β} (h : l.lookup a = some b) : (a, b) ∈ l := by
  induction l with
  | nil => cases h
  | cons p r ih =>
    obtain ⟨c, d⟩ := p
    rw [List.lookup_cons] at h
    cases e : a == c with
    | true => rw [e] at h; cases h; rw [eq_of_beq e]; exact List.mem_cons_self
    | false => rw [e] at h; exact List.mem_cons_of_mem _ (ih h)
theorem says_of (w : World) (s : Shared) (e : hkObs s = hkVal w) : Says w s.heap := by
  have e1 : KAs.map s.heap.get? = (KM w.params).map (fun p => some p.2) := congrArg Prod.fst e
  have e2 : KCd.map (fun c => codeQ s.heap c.1) = KCd.map (fun c => some c.2) := congrArg (fun x => x.2.1) e
  have e3 : (KNm.map fun x => s.heap.nsMap mainGlobals x.1) = KNm.map fun x => some x.2 := congrArg (fun x => x.2.2.1) e
  have e4 : (KNo.map fun (x : String) => s.heap.nsMap mainGlobals x) = KNo.map fun _ => none := congrArg (fun x => x.2.2.2) e
  refine ⟨Frag.in_of (as := KAs) rfl e1, fun a v h => ?_, fun x v h => ?_, fun x h => ?_⟩
  · exact List.map_inj_left.mp e2 (a, v) (mem_lookup h)
  · exact List.map_inj_left.mp e3 (x, v) (mem_lookup h)
  · exact List.map_inj_left.mp e4 x h
theorem says_keep (w : World) (h h' : Heap) (x : Says w h) (k : ∀ b o, h.get? b = some o → h'.get? b = some o) : Says w h' := by
  obtain ⟨x1, x2, x3, x4⟩ := x
  have hm : ∀ y : Str, h'.nsMap mainGlobals y = h.nsMap mainGlobals y := fun y => by
    have := x3 "law" _ rfl
    unfold Heap.nsMap at this ⊢
    cases e : h.get? mainGlobals with
    | none => rw [e] at this; cases this
    | some o => rw [k _ _ e]
  refine ⟨x1.keeps k, fun a v e => ?_, fun y v e => by rw [hm]; exact x3 y v e, fun y e => by rw [hm]; exact x4 y e⟩
  have := x2 a v e
  unfold codeQ at this ⊢
  cases q : h.get? a with
  | none => rw [q] at this; cases this
  | some o => rw [k _ _ q]; rw [q] at this; exact this
theorem ints_ab : ∀ {vs : List Value} {ns : List Int}, IntsAre vs ns → vs.map ab = ns.map .int
  | _, _, .nil => rfl
  | _, _, .cons n t r => by rw [List.map_cons, List.map_cons, ints_ab r]; rfl
theorem law_end {w : World} {s₁ : Shared} {mg mb : Str → Option Value} (g : s₁.heap.Ns mainGlobals mg) (b : s₁.heap.Ns builtinsNs mb) (lim : s₁.heap.NoLimit) (bi : ∀ x : Str, x ≠ "__name__" → mb x = bootBuiltins x) (sys : ∃ o, s₁.heap.get? sysModules = some o) (Y : Says w s₁.heap)
    {l : Addr} {us : List Value} {xs : List Int} (hl : s₁.heap.IsList l us.toArray) (hu : us.map ab = xs.map .int) (hz : xs.length ≤ 63) {Q : Value → Shared → Prop} {E : Value → Shared → Prop}
    (h : ∀ s', (∀ b o, s₁.heap.get? b = some o → s'.heap.get? b = some o) → (∃ h t, s' = { s₁ with heap := h, toks := t }) → Q (.bool true) s') : wpAny (model pg w) callerA (PySem.call (.ref 325) [.ref l]) Q E s₁ := by
  obtain ⟨x1, x2, x3, x4⟩ := Y
  have em := g.eq_nsMap
  have G : Good ⟨pg, w, s₁.heap, mg, mb, KM w.params, 122, s₁, x1, lim, g, b, bi, sys⟩ := ⟨rfl, rfl, x2, fun x v e => by show mg _ = _; rw [em]; exact x3 x v e, fun x e => by show mg _ = _; rw [em]; exact x4 x e⟩
  obtain ⟨o, ho, hc, m, hd⟩ := hl
  have sp := sp_law G (σ := fun _ => none) (a := l) ho hc hd hu hz
  have rm : Room 9 callerA := ⟨rfl, by decide +kernel, by decide +kernel⟩
  refine wpAny_call (codeAny_mono (sp s₁.heap.get? callerA s₁ [.ref l] rfl rm ⟨fun a o e => ⟨e, rfl⟩, fun a o e => e, (fun a o e => nomatch e), s₁.heap, s₁.toks, rfl⟩) ?_)
  rintro r s' ⟨v, σ', rfl, hv, S'⟩
  obtain rfl := ab_bool hv
  exact h s' (fun b o e => (S'.fr b o e).1) S'.same
end Mine
open Mine in
theorem PySem.Challenge.cw_np0042_01_holds : PySem.Challenge.rw_np0042_01.Holds := by
  refine holds_law law_said fun said => ?_
  refine holds_open (q := view) (loose := looseN) (Xt := fun s => xlAt view [] s && recOk [] s) (XP := XL view []) (Yf := hkObs) (Ya := hkVal) (YP := Says) (N := 3750) left says_of says_keep (fun s e => xl_of s (Bool.and_eq_true_iff.mp e).1) XL.keeps (by rfl) (by rfl) (by rfl) (fun s e => recFacts_of (Bool.and_eq_true_iff.mp e).2) (by rfl) (by first | assumption | decide +kernel) (by decide +kernel) ⟨rfl, rfl, rfl, rfl, rfl, by decide +kernel⟩ ?hw ?hc
  case hw => exact ⟨[.list []], by decide +kernel, by decide +kernel⟩
  case hc =>
    intro w s₀ s₁ mg mb G Y fa o pm cd doc dV kV ho hd hcd hD hmg hg args vals as hpre hlay hrd hwl hlo
    wrow_args hpre hlay hrd hwl hlo
    clear hd hcd hD ho
    obtain rfl : fa = 325 := by
      have h1 := Y.2.2.1 "law" _ rfl
      rw [← G.T.g.eq_nsMap] at h1
      have h2 := h1.symm.trans hmg
      simpa using h2.symm
    clear hmg
    rename IntsAre _ _ => hI
    rename Heap.IsList _ _ _ => hL
    rename ¬ _ < _ => hz
    have sys : ∃ o, s₁.heap.get? sysModules = some o := by
      obtain ⟨mm, ⟨o, _, _, ho, _⟩, _⟩ := (G.T.seer (by rfl)).mods
      exact ⟨o, ho⟩
    refine law_end G.T.g G.T.b G.T.nolimit G.T.builtins sys Y hL (ints_ab hI) (by omega) fun s' k hs => ?_
    obtain ⟨h', t', rfl⟩ := hs
    exact GoodW.toG ⟨.inl ⟨.bool true, .bool true, [], rfl, raisesW_false (fun _ h => nomatch h), .bool true, (by wrow_post), fun _ => ⟨List.nodup_nil, fun _ h => nomatch h⟩⟩, k, rfl, hg⟩
