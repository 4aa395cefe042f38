import PyProof.Rows.All
import Wide.All
import OpenK.AllK
import Wide.FinOn
import PyProof.Logic
import PyProof.CompFree
import PyProof.DictKinds
import PyProof.P3Eq
import PyProof.Cells
import PyProof.RangeIter
import PyProof.EnumIter
import PyProof.Rows.Tup
import PyProof.PureInt
import PyProof.StrOps
import PyProof.ForAny
import PyProof.TupleIter
import PyProof.EnumFor
import PyProof.EnumStmt
import PyProof.WalksMore
import PyProof.DefCall
import PyProof.Rows.Globals
import PyProof.P3In
import PyProof.NeData
import PyProof.Rows.RuleB_mod
import PyProof.Rows.RuleB_floordiv
import PyProof.Rows.RuleB_small
import PyProof.Rows.Exc
import PyProof.RangeFor
import PyProof.Rows.News
import PyProof.Rows.SeqMore
import PyProof.Rows.TupAdd
import PyProof.NoPylong
import PyProof.FactsAll.tuple_2
import PyProof.ListIndexNeg
import PyProof.SliceList
import PyProof.SliceMore
import PyProof.Rows.TupSub
import PyProof.Rows.TupMore
import PyProof.Rows.StrTemp
import PyProof.IsiPairs
import PyProof.IsiSeqPairs
import PyProof.IsiHeapPairs
import PyProof.IsiNone
import PyProof.ListCopy
import PyProof.ListRange
import PyProof.CompUse
import PyProof.EnumMake
import OpenK.KWalk
import OpenK.KCall
import PyProof.Rows.SortRuns
import KE.KSortTup
import PyProof.ListOps
import PyProof.CallRoads
import PyProof.SeqI3
import PyProof.WalkInts
import PyProof.TupleOfSeq
import Wide.Bridge
import Wide.Ends
import Open.Pieces
import KE.KSortKey
import PyProof.Rows.CallKwBuiltin
import PySem.Challenge.RW_uf060002_04
set_option Elab.async false
set_option linter.unusedVariables false
namespace Mine
open PySem

theorem runs_size {M : Model} {Γ : Ctx} {p : Pos} {t : Sem Fin} {fs : List Frame} {s s' : Shared} {e : End} (h : Runs M Γ p t fs s e s') : s.heap.objs.size ≤ s'.heap.objs.size := by
  induction h <;> (try simp only [Shared.setGen, Heap.size_after_update, Heap.size_push] at *) <;> lia

theorem wakes_size {M : Model} {Γ : Ctx} {p : Pos} {g : Nat} {r : Resume} {s s' : Shared} {res : GenResult} (h : Wakes M Γ p g r s res s') : s.heap.objs.size ≤ s'.heap.objs.size := by
  unfold Wakes at h
  split at h
  · exact h.elim
  · split at h
    · obtain ⟨e₁, s₁, hr, _, _, rfl⟩ := h; exact (runs_size hr : (s.setGen g .running).heap.objs.size ≤ s₁.heap.objs.size)
    · rw [h.2]; exact Nat.le_refl _
    · rw [h.2]; exact Nat.le_refl _
  · obtain ⟨e₁, s₁, hr, _, _, rfl⟩ := h; exact (runs_size hr : (s.setGen g .running).heap.objs.size ≤ s₁.heap.objs.size)
  · rw [h.2]; exact Nat.le_refl _
  · rw [h.2]; exact Nat.le_refl _

theorem wp_size {α : Type} (M : Model) (Γ : Ctx) (n : Nat) (t : Sem α) : ∀ (Q : α → Pos → Shared → Prop) (E : Value → Pos → Shared → Prop) (p : Pos) (s : Shared), n ≤ s.heap.objs.size → Sem.wp M Γ t Q E p s →
    Sem.wp M Γ t (fun a p' s' => n ≤ s'.heap.objs.size ∧ Q a p' s') (fun e p' s' => n ≤ s'.heap.objs.size ∧ E e p' s') p s := by
  induction t with
  | pure a => intro Q E p s hn h; exact ⟨hn, h⟩
  | raise e => intro Q E p s hn h; exact ⟨hn, h⟩
  | unsupported _ => intro Q E p s _ h; exact h
  | finish _ => intro Q E p s _ h; exact h
  | rule _ k ih => intro Q E p s hn h; exact ih () Q E p s hn h
  | «at» p' k ih => intro Q E p s hn h; exact ih () Q E p' s hn h
  | load a _ k ih => intro Q E p s hn h; obtain ⟨o, ho, h⟩ := h; exact ⟨o, ho, ih o Q E p s hn h⟩
  | update a _ f k ih => intro Q E p s hn h; exact ⟨h.1, ih () Q E p _ (by simpa using hn) h.2⟩
  | loadIfAlive a k ih => intro Q E p s hn h; exact ih _ Q E p s hn h
  | point _ k ih => intro Q E p s hn h; exact ih () Q E p s hn h
  | register _ _ => intro Q E p s _ h; exact h
  | alloc o k ih => intro Q E p s hn h; exact ih _ Q E p _ (by simp; lia) h
  | fresh k ih => intro Q E p s hn h; exact ih _ Q E p { s with toks := s.toks + 1 } hn h
  | ask k ih => intro Q E p s hn h; exact ih _ Q E p s hn h
  | choose src m k ih => intro Q E p s hn h; exact ⟨h.1, ih _ Q E p { s with drawn := s.drawn.bump src } hn h.2⟩
  | os q _ k ih => intro Q E p s hn h; exact ih _ Q E p { s with os := (Os.step s.os q).1 } hn h
  | call c hd _ _ k ih => intro Q E p s hn h; obtain ⟨r, s', hr, h⟩ := h; exact ⟨r, s', hr, ih r Q E p s' (Nat.le_trans hn (runs_size hr)) h⟩
  | handled own k ih => intro Q E p s hn h; exact ih _ Q E p s hn h
  | genState g k ih => intro Q E p s hn h; obtain ⟨st, hs, h⟩ := h; exact ⟨st, hs, ih _ Q E p s hn h⟩
  | newGen c k ih => intro Q E p s hn h; exact ih _ Q E p { s with gens := s.gens.push (.fresh c) } hn h
  | resume g r _ k ih => intro Q E p s hn h; obtain ⟨res, s', hw, h⟩ := h; exact ⟨res, s', hw, ih res Q E p s' (Nat.le_trans hn (wakes_size hw)) h⟩
  | yield _ _ _ _ => intro Q E p s _ h; exact h
  | stack k ih => intro Q E p s hn h; exact ih _ Q E p s hn h
  | fork _ _ => intro Q E p s _ h; exact h
  | thread k ih => intro Q E p s hn h; exact ih _ Q E p s hn h
  | await _ _ _ _ _ => intro Q E p s _ h; exact h

/-- the heap's array only grows -/
theorem with_size {α : Type} {M : Model} {A : Around} {s : Shared} {t : Sem α} {Q : α → Shared → Prop} {E : Value → Shared → Prop}
    (h : wpAny M A t (fun a s' => s.heap.objs.size ≤ s'.heap.objs.size → Q a s') (fun e s' => s.heap.objs.size ≤ s'.heap.objs.size → E e s') s) : wpAny M A t Q E s :=
  fun Γ p hΓ => by
    have := wp_size M Γ s.heap.objs.size t _ _ p s (Nat.le_refl _) (h Γ p hΓ)
    exact Sem.wp_mono M Γ t (fun a _ s' x => x.2 x.1) (fun e _ s' x => x.2 x.1) p s this
theorem code_size {M : Model} {A : Around} {s : Shared} {c : Code} {R : Result → Shared → Prop} (h : codeAny M A c (fun r s' => s.heap.objs.size ≤ s'.heap.objs.size → R r s') s) : codeAny M A c R s :=
  fun Γ p hc hΓ => by obtain ⟨r, s', hr, hR⟩ := h Γ p hc hΓ; exact ⟨r, s', hr, hR (runs_size hr)⟩
end Mine

set_option maxRecDepth 100000
set_option linter.unusedVariables false
namespace Mine
open PySem PyProof.Rows

/-- abstract values -/
inductive AV where
  | none
  | bool (b : Bool)
  | int (i : Int)
  | str (s : Str)
  | tup (xs : List AV)
  | ref (a : Addr)
  | rng (lo hi : Int)
  | exc (c : Addr)
  deriving Inhabited

/-- abstract objects -/
inductive AO where
  | list (xs : List AV)
  | rolist (xs : List AV)
  deriving Inhabited

/-- a mark and a row of marks -/
abbrev Mark := Str × Int
def mkAV (m : Mark) : AV := .tup [.str m.1, .int m.2]
def mkH (w : World) (m : Mark) : Int := reduceHash (Builtin.Tuple.tupleHashOf [hashStr w m.1, hashInt m.2])
abbrev rowAV (ms : List Mark) : AV := .tup (ms.map mkAV)
def rowH (w : World) (ms : List Mark) : Int := reduceHash (Builtin.Tuple.tupleHashOf (ms.map (mkH w)))
def mOk (m : Mark) : Prop := PyData.strOk m.1 = true

abbrev AHeap := Addr → Option AO
def AHeap.set (σ : AHeap) (a : Addr) (o : AO) : AHeap := fun b => if b = a then some o else σ b

def listObj (vs : List Value) (n : Nat) : Obj := { cls := .type "list", data := .seq vs.toArray n }
def rangeObj (lo hi : Int) (t u v : Tok) : Obj := { cls := .type "range", data := .fields #[.int lo t, .int hi u, .int 1 v] }

mutual
inductive RepV (h : Heap) : AV → Value → Prop
  | none : RepV h .none .none
  | bool (b : Bool) : RepV h (.bool b) (.bool b)
  | int (i : Int) (t : Tok) : RepV h (.int i) (.int i t)
  | str (x : Str) (t : Tok) : RepV h (.str x) (.str x t)
  | tup {xs : List AV} {a : Addr} {vs : List Value} : xs.length ≤ 1000000 → IsTup h a vs.toArray → RepVs h xs vs → RepV h (.tup xs) (.ref a)
  | ref (a : Addr) : RepV h (.ref a) (.ref a)
  | rng {lo hi : Int} {a : Addr} {t u v : Tok} : h.get? a = some (rangeObj lo hi t u v) → RepV h (.rng lo hi) (.ref a)
  | exc {a c : Addr} {o : Obj} {vs : Array Value} : h.get? a = some o → o.cls = .ref c → o.data = .fields vs → RepV h (.exc c) (.ref a)
inductive RepVs (h : Heap) : List AV → List Value → Prop
  | nil : RepVs h [] []
  | cons {x : AV} {xs : List AV} {v : Value} {vs : List Value} : RepV h x v → RepVs h xs vs → RepVs h (x :: xs) (v :: vs)
end

/-- the objects that values lean on: tuples, ranges, exceptions -/
def Stays (o : Obj) : Prop := (o.cls = .type "tuple" ∧ ∃ xs n, o.data = .seq xs n) ∨ (o.cls = .type "range" ∧ ∃ vs, o.data = .fields vs) ∨ ∃ c vs, o.cls = .ref c ∧ o.data = .fields vs
def KeepV (h h' : Heap) : Prop := ∀ b o, h.get? b = some o → Stays o → h'.get? b = some o

theorem RepV.mono {h h' : Heap} (k : KeepV h h') {x : AV} {v : Value} (r : RepV h x v) : RepV h' x v := by
  refine RepV.rec (motive_1 := fun x v _ => RepV h' x v) (motive_2 := fun xs vs _ => RepVs h' xs vs) .none .bool .int .str ?_ .ref ?_ ?_ .nil ?_ r
  · intro xs a vs hl ht _ r
    obtain ⟨o, ho, hc, n, hd⟩ := ht
    exact .tup hl ⟨o, k _ _ ho (.inl ⟨hc, _, n, hd⟩), hc, n, hd⟩ r
  · intro lo hi a t u v ho
    exact .rng (k _ _ ho (.inr (.inl ⟨rfl, _, rfl⟩)))
  · intro a c o vs ho hc hd
    exact .exc (k _ _ ho (.inr (.inr ⟨_, _, hc, hd⟩))) hc hd
  · intro x xs v vs _ _ a r
    exact .cons a r
theorem RepVs.mono {h h' : Heap} (k : KeepV h h') {xs : List AV} {vs : List Value} (r : RepVs h xs vs) : RepVs h' xs vs := by
  induction xs generalizing vs with
  | nil => cases r; exact .nil
  | cons x xs ih => cases r with | cons a r => exact .cons (a.mono k) (ih r)

theorem RepVs.length {h : Heap} {xs : List AV} {vs : List Value} (r : RepVs h xs vs) : xs.length = vs.length := by
  induction xs generalizing vs with
  | nil => cases r; rfl
  | cons x xs ih => cases r with | cons a r => rw [List.length_cons, List.length_cons, ih r]
theorem RepVs.append {h : Heap} {xs : List AV} {vs : List Value} {ys : List AV} {us : List Value} (q : RepVs h xs vs) (r : RepVs h ys us) : RepVs h (xs ++ ys) (vs ++ us) := by
  induction xs generalizing vs with
  | nil => cases q; exact r
  | cons x xs ih => cases q with | cons a q => exact .cons a (ih q)
theorem RepVs.get {h : Heap} {xs : List AV} {vs : List Value} (r : RepVs h xs vs) : ∀ {i : Nat} {x : AV}, xs[i]? = some x → ∃ v, vs[i]? = some v ∧ RepV h x v := by
  induction xs generalizing vs with
  | nil => intro i x e; cases e
  | cons y xs ih =>
    cases r with
    | cons a r =>
      intro i x e
      cases i with
      | zero => cases e; exact ⟨_, rfl, a⟩
      | succ i => rw [List.getElem?_cons_succ] at e; exact ih r e
theorem RepVs.take {h : Heap} {xs : List AV} {vs : List Value} (r : RepVs h xs vs) : ∀ n, RepVs h (xs.take n) (vs.take n) := by
  induction xs generalizing vs with
  | nil => intro n; cases r; rw [List.take_nil, List.take_nil]; exact .nil
  | cons y xs ih =>
    cases r with
    | cons a r =>
      intro n
      cases n with
      | zero => exact .nil
      | succ n => exact .cons a (ih r n)
theorem RepVs.drop {h : Heap} {xs : List AV} {vs : List Value} (r : RepVs h xs vs) : ∀ n, RepVs h (xs.drop n) (vs.drop n) := by
  induction xs generalizing vs with
  | nil => intro n; cases r; rw [List.drop_nil, List.drop_nil]; exact .nil
  | cons y xs ih =>
    cases r with
    | cons a r =>
      intro n
      cases n with
      | zero => exact .cons a r
      | succ n => exact ih r n
theorem RepVs.reverse {h : Heap} : ∀ {xs vs}, RepVs h xs vs → RepVs h xs.reverse vs.reverse
  | _, _, .nil => .nil
  | _, _, .cons a r => by simp only [List.reverse_cons]; exact r.reverse.append (.cons a .nil)

/-- the static ground -/
structure Cx where
  prog : Program
  w : World
  h₀ : Heap
  os : OsState
  mg : Str → Option Value
  mb : Str → Option Value

abbrev Cx.M (X : Cx) : Model := model X.prog X.w

structure Cx.Ok (X : Cx) : Prop where
  g : X.h₀.Ns mainGlobals X.mg
  b : X.h₀.Ns builtinsNs X.mb
  nolimit : X.h₀.NoLimit

/-- an abstract object stands at an address -/
def RepA (X : Cx) (h : Heap) (a : Addr) : AO → Prop
  | .list xs => ∃ vs n, h.get? a = some (listObj vs n) ∧ RepVs h xs vs ∧ xs.length ≤ 1000000
  | .rolist xs => ∃ vs, h.IsList a vs.toArray ∧ RepVs h xs vs ∧ xs.length ≤ 1000000


theorem RepA.mono {X : Cx} {h h' : Heap} {a : Addr} {o : AO} (k : KeepV h h') (e : ∀ o, h.get? a = some o → h'.get? a = some o) (r : RepA X h a o) : RepA X h' a o := by
  cases o with
  | list xs => obtain ⟨vs, n, h1, h2, hl⟩ := r; exact ⟨vs, n, e _ h1, h2.mono k, hl⟩
  | rolist xs => obtain ⟨vs, ⟨o, h1, h3⟩, h2, hl⟩ := r; exact ⟨vs, ⟨o, e _ h1, h3⟩, h2.mono k, hl⟩

theorem RepA.some {X : Cx} {h : Heap} {a : Addr} {o : AO} (r : RepA X h a o) : ∃ ob, h.get? a = some ob ∧ ¬ Stays ob := by
  have no : ∀ {ob : Obj} {t : String}, ob.cls = .type t → t ≠ "tuple" → t ≠ "range" → ¬ Stays ob := by
    rintro ob t hc h1 h2 (⟨h, _⟩ | ⟨h, _⟩ | ⟨c, vs, h, _⟩)
    · rw [hc] at h; cases h; exact h1 rfl
    · rw [hc] at h; cases h; exact h2 rfl
    · rw [hc] at h; cases h
  cases o with
  | list xs => obtain ⟨vs, n, h1, _⟩ := r; exact ⟨_, h1, no (t := "list") rfl (by decide) (by decide)⟩
  | rolist xs => obtain ⟨vs, ⟨o, h1, hc, _⟩, _⟩ := r; exact ⟨_, h1, no hc (by decide) (by decide)⟩

def AO.ro : AO → Bool
  | .rolist _ => true
  | _ => false

structure At (X : Cx) (σ : AHeap) (s : Shared) : Prop where
  keep : ∀ b o, X.h₀.get? b = some o → s.heap.get? b = some o
  rep : ∀ a o, σ a = some o → RepA X s.heap a o
  own : ∀ a o, σ a = some o → o.ro = false → X.h₀.get? a = none
  gens : s.gens = #[]
  os : s.os = X.os

theorem At.lt {X : Cx} {σ : AHeap} {s : Shared} (a : At X σ s) {b : Addr} {o : AO} (e : σ b = some o) : b < s.heap.objs.size :=
  let ⟨_, h, _⟩ := (a.rep b o e).some; Heap.lt_size h
theorem At.none_of_size {X : Cx} {σ : AHeap} {s : Shared} (a : At X σ s) {b : Addr} (e : s.heap.objs.size ≤ b) : σ b = none := by
  cases h : σ b with
  | none => rfl
  | some o => exact absurd (a.lt h) (Nat.not_lt.mpr e)
theorem At.stays {X : Cx} {σ : AHeap} {s : Shared} (a : At X σ s) {b : Addr} {o : Obj} (e : s.heap.get? b = some o) (h : Stays o) : σ b = none := by
  cases hs : σ b with
  | none => rfl
  | some ao =>
    obtain ⟨ob, h1, h2⟩ := (a.rep b ao hs).some
    rw [e] at h1; cases h1; exact absurd h h2

structure Step (B : Addr → Prop) (σ : AHeap) (s : Shared) (σ' : AHeap) (s' : Shared) : Prop where
  keep : ∀ b o, s.heap.get? b = some o → σ b = none → ¬ B b → s'.heap.get? b = some o
  fresh : ∀ b, σ' b ≠ none → σ b = none → s.heap.objs.size ≤ b
  size : s.heap.objs.size ≤ s'.heap.objs.size

def E0 : Addr → Prop := fun _ => False

theorem Step.refl (B : Addr → Prop) (σ : AHeap) (s : Shared) : Step B σ s σ s := ⟨fun _ _ e _ _ => e, fun _ h1 h2 => absurd h2 h1, Nat.le_refl _⟩
theorem Step.trans {B : Addr → Prop} {σ σ' σ'' : AHeap} {s s' s'' : Shared} (x : Step B σ s σ' s') (y : Step B σ' s' σ'' s'') : Step B σ s σ'' s'' where
  keep := fun b o e h1 h2 => y.keep b o (x.keep b o e h1 h2) (by
    cases h : σ' b with
    | none => rfl
    | some _ => exact absurd (x.fresh b (by rw [h]; simp) h1) (Nat.not_le.mpr (Heap.lt_size e))) h2
  fresh := fun b h1 h2 => by
    cases h : σ' b with
    | none => exact Nat.le_trans x.size (y.fresh b h1 h)
    | some _ => exact x.fresh b (by rw [h]; simp) h2
  size := Nat.le_trans x.size y.size
theorem Step.weaken {B B' : Addr → Prop} {σ σ' : AHeap} {s s' : Shared} (x : Step B σ s σ' s') (h : ∀ b, B b → B' b) : Step B' σ s σ' s' :=
  ⟨fun b o e h1 h2 => x.keep b o e h1 fun q => h2 (h b q), x.fresh, x.size⟩
/-- what is new since s may change -/
theorem Step.drop {B B' : Addr → Prop} {σ σ' : AHeap} {s s' : Shared} (x : Step B' σ s σ' s') (h : ∀ b, B' b → B b ∨ s.heap.objs.size ≤ b) : Step B σ s σ' s' :=
  ⟨fun b o e h1 h2 => x.keep b o e h1 fun q => (h b q).elim h2 fun q' => absurd (Heap.lt_size e) (Nat.not_lt.mpr q'), x.fresh, x.size⟩

def NoStay (B : Addr → Prop) (h : Heap) : Prop := ∀ b o, B b → h.get? b = some o → ¬ Stays o
theorem NoStay.e0 {h : Heap} : NoStay E0 h := fun _ _ h => h.elim

theorem Step.keepV {X : Cx} {B : Addr → Prop} {σ σ' : AHeap} {s s' : Shared} (x : Step B σ s σ' s') (a : At X σ s) (n : NoStay B s.heap) : KeepV s.heap s'.heap :=
  fun b o e h => x.keep b o e (a.stays e h) fun q => n b o q e h
theorem Step.keepV0 {X : Cx} {σ σ' : AHeap} {s s' : Shared} (x : Step E0 σ s σ' s') (a : At X σ s) : KeepV s.heap s'.heap := x.keepV a .e0

theorem AHeap.set_self (σ : AHeap) (a : Addr) (o : AO) : σ.set a o a = some o := by simp [AHeap.set]
theorem AHeap.set_ne (σ : AHeap) {a b : Addr} (o : AO) (h : b ≠ a) : σ.set a o b = σ b := by simp [AHeap.set, h]

section
variable {X : Cx} {σ σ' : AHeap} {s s' : Shared}

theorem At.toks (a : At X σ s) (t : Nat) : At X σ { s with toks := t } := ⟨a.keep, a.rep, a.own, a.gens, a.os⟩
theorem Step.toks {B : Addr → Prop} (σ : AHeap) (s : Shared) (t : Nat) : Step B σ s σ { s with toks := t } := ⟨fun _ _ e _ _ => e, fun _ h1 h2 => absurd h2 h1, Nat.le_refl _⟩

theorem At.push (a : At X σ s) (o : Obj) (t : Nat) : At X σ { s with heap := s.heap.push o, toks := t } where
  keep := fun b ob e => Heap.get?_push_of_some _ (a.keep b ob e)
  rep := fun b ao e => (a.rep b ao e).mono (fun _ _ h _ => Heap.get?_push_of_some _ h) (fun _ h => Heap.get?_push_of_some _ h)
  own := a.own
  gens := a.gens
  os := a.os
theorem Step.push {B : Addr → Prop} (σ : AHeap) (s : Shared) (o : Obj) (t : Nat) : Step B σ s σ { s with heap := s.heap.push o, toks := t } :=
  ⟨fun _ _ e _ _ => Heap.get?_push_of_some _ e, fun _ h1 h2 => absurd h2 h1, by simp⟩

/-- a new object of the abstract heap -/
theorem At.alloc (a : At X σ s) {o : Obj} {ao : AO} (t : Nat) (hr : RepA X (s.heap.push o) s.heap.objs.size ao) : At X (σ.set s.heap.objs.size ao) { s with heap := s.heap.push o, toks := t } where
  keep := fun b ob e => Heap.get?_push_of_some _ (a.keep b ob e)
  rep := fun b bo e => by
    by_cases hb : b = s.heap.objs.size
    · subst hb; rw [AHeap.set_self] at e; cases e; exact hr
    · rw [AHeap.set_ne _ _ hb] at e
      exact (a.rep b bo e).mono (fun _ _ h _ => Heap.get?_push_of_some _ h) (fun _ h => Heap.get?_push_of_some _ h)
  own := fun b bo e hro => by
    by_cases hb : b = s.heap.objs.size
    · subst hb
      cases h : X.h₀.get? s.heap.objs.size with
      | none => rfl
      | some ob => exact absurd (Heap.lt_size (a.keep _ _ h)) (Nat.lt_irrefl _)
    · rw [AHeap.set_ne _ _ hb] at e; exact a.own b bo e hro
  gens := a.gens
  os := a.os
theorem Step.alloc {B : Addr → Prop} (σ : AHeap) (s : Shared) (o : Obj) (ao : AO) (t : Nat) : Step B σ s (σ.set s.heap.objs.size ao) { s with heap := s.heap.push o, toks := t } :=
  ⟨fun _ _ e _ _ => Heap.get?_push_of_some _ e, fun b h1 h2 => by
    by_cases hb : b = s.heap.objs.size
    · rw [hb]; exact Nat.le_refl _
    · rw [AHeap.set_ne _ _ hb] at h1; exact absurd h2 h1, by simp⟩

/-- an object of the abstract heap is changed -/
theorem At.store (a : At X σ s) {b : Addr} {old ao : AO} {h' : Heap} (t : Nat) (e : σ b = some old) (hro : old.ro = false) (hs : Heap.SameBut b s.heap h') (hr : KeepV s.heap h' → RepA X h' b ao) :
    At X (σ.set b ao) { s with heap := h', toks := t } := by
  have kv : KeepV s.heap h' := fun c o ho st => by
    have hc : c ≠ b := by rintro rfl; rw [a.stays ho st] at e; cases e
    rw [hs.2 c hc]; exact ho
  refine ⟨fun c o ho => ?_, fun c co ec => ?_, fun c co ec hr' => ?_, a.gens, a.os⟩
  · have hc : c ≠ b := by rintro rfl; rw [a.own _ _ e hro] at ho; cases ho
    exact (hs.2 c hc).trans (a.keep c o ho)
  · by_cases hc : c = b
    · subst hc; rw [AHeap.set_self] at ec; cases ec; exact hr kv
    · rw [AHeap.set_ne _ _ hc] at ec
      exact (a.rep c co ec).mono kv fun o ho => (hs.2 c hc).trans ho
  · by_cases hc : c = b
    · subst hc; exact a.own _ _ e hro
    · rw [AHeap.set_ne _ _ hc] at ec; exact a.own c co ec hr'
theorem Step.store {B : Addr → Prop} {b : Addr} {old ao : AO} {h' : Heap} (t : Nat) (e : σ b = some old) (hs : Heap.SameBut b s.heap h') : Step B σ s (σ.set b ao) { s with heap := h', toks := t } :=
  ⟨fun c o ho hc _ => (hs.2 c (by rintro rfl; rw [e] at hc; cases hc)).trans ho, fun c h1 h2 => by
    by_cases hc : c = b
    · subst hc; rw [e] at h2; cases h2
    · rw [AHeap.set_ne _ _ hc] at h1; exact absurd h2 h1, Nat.le_of_eq hs.1.symm⟩

/-- an object outside of the abstract heap and of the ground is changed -/
theorem At.aside (a : At X σ s) {b : Addr} {h' : Heap} (t : Nat) (e : σ b = none) (hb : X.h₀.get? b = none) (hn : ∀ o, s.heap.get? b = some o → ¬ Stays o) (hs : Heap.SameBut b s.heap h') :
    At X σ { s with heap := h', toks := t } := by
  have kv : KeepV s.heap h' := fun c o ho st => by
    have hc : c ≠ b := by rintro rfl; exact hn _ ho st
    rw [hs.2 c hc]; exact ho
  refine ⟨fun c o ho => ?_, fun c co ec => ?_, a.own, a.gens, a.os⟩
  · have hc : c ≠ b := by rintro rfl; rw [hb] at ho; cases ho
    exact (hs.2 c hc).trans (a.keep c o ho)
  · have hc : c ≠ b := by rintro rfl; rw [e] at ec; cases ec
    exact (a.rep c co ec).mono kv fun o ho => (hs.2 c hc).trans ho
theorem Step.aside {B : Addr → Prop} {b : Addr} {h' : Heap} (t : Nat) (hB : B b) (hs : Heap.SameBut b s.heap h') : Step B σ s σ { s with heap := h', toks := t } :=
  ⟨fun c o ho _ hc => (hs.2 c (by rintro rfl; exact hc hB)).trans ho, fun _ h1 h2 => absurd h2 h1, Nat.le_of_eq hs.1.symm⟩
end

/-- locals, by number -/
abbrev Loc := List (Option AV)
def RepO (h : Heap) : Option AV → Option Value → Prop
  | none, none => True
  | some a, some v => RepV h a v
  | _, _ => False
theorem RepO.mono {h h' : Heap} (k : KeepV h h') : ∀ {a v}, RepO h a v → RepO h' a v
  | none, none, _ => trivial
  | some _, some _, r => RepV.mono k r
  | none, some _, r => r.elim
  | some _, none, r => r.elim

structure EnvOk (env : Env) : Prop where
  kind : env.scope.kind = .function
  glob : env.globals = mainGlobals
  bi : env.builtins = builtinsNs
  apart : env.cells.Pairwise fun x y => x.2 ≠ y.2

/-- no two names at one number -/
def NmOk (nm : List (Str × Nat)) (n : Nat) : Prop := (∀ x i, nm.lookup x = some i → i < n) ∧ ∀ x y i, nm.lookup x = some i → nm.lookup y = some i → x = y

def lenOf (nm : List (Str × Nat)) : Nat := nm.foldl (fun n p => max n (p.2 + 1)) 0

/-- the frame's names are at their places -/
structure FR (X : Cx) (env : Env) (nm : List (Str × Nat)) (l : Loc) (σ : AHeap) (h : Heap) : Prop where
  ns : ∃ m, h.Ns env.locals m ∧ ∀ x i, nm.lookup x = some i → env.kindOf x = some .local → RepO h (l.getD i none) (m x)
  cell : ∀ x i, nm.lookup x = some i → env.kindOf x = some .cell → ∃ c v, env.cells.lookup x = some c ∧ h.IsCell c v ∧ RepO h (l.getD i none) v
  out : σ env.locals = none ∧ X.h₀.get? env.locals = none
  nmok : NmOk nm l.length
  len : l.length = lenOf nm
  outc : ∀ x c, (x, c) ∈ env.cells → σ c = none ∧ X.h₀.get? c = none ∧ ∃ v, h.IsCell c v

def FB (env : Env) : Addr → Prop := fun b => b = env.locals ∨ ∃ x, (x, b) ∈ env.cells

section
variable {X : Cx} {env : Env} {nm : List (Str × Nat)} {l : Loc} {σ σ' : AHeap} {s s' : Shared}

theorem noStay_dict {o : Obj} {es n} (hd : o.data = .dict es n) : ¬ Stays o := by
  rintro (⟨_, _, _, h⟩ | ⟨_, _, h⟩ | ⟨_, _, _, h⟩) <;> (rw [hd] at h; cases h)
theorem noStay_cell {o : Obj} {v} (hd : o.data = .cell v) : ¬ Stays o := by
  rintro (⟨_, _, _, h⟩ | ⟨_, _, h⟩ | ⟨_, _, _, h⟩) <;> (rw [hd] at h; cases h)
theorem noStay_ns {h : Heap} {a : Addr} {m} (n : h.Ns a m) : ∀ o, h.get? a = some o → ¬ Stays o := by
  intro o e
  obtain ⟨o', es, ep, ho, hd, _⟩ := n
  rw [e] at ho; cases ho; exact noStay_dict hd
theorem noStay_isCell {h : Heap} {a : Addr} {v} (n : h.IsCell a v) : ∀ o, h.get? a = some o → ¬ Stays o := by
  intro o e
  obtain ⟨o', ho, hd⟩ := n
  rw [e] at ho; cases ho; exact noStay_cell hd
theorem ns_ne_cell {h : Heap} {a b : Addr} {m v} (n : h.Ns a m) (c : h.IsCell b v) : a ≠ b := by
  rintro rfl
  obtain ⟨o', es, ep, ho, hd, _⟩ := n
  obtain ⟨o, ho', hd'⟩ := c
  rw [ho] at ho'; cases ho'; rw [hd] at hd'; cases hd'

theorem FR.noStay (F : FR X env nm l σ s.heap) : NoStay (FB env) s.heap := by
  rintro b o (rfl | ⟨x, hx⟩) e
  · obtain ⟨m, hn, _⟩ := F.ns; exact noStay_ns hn o e
  · obtain ⟨_, _, v, hc⟩ := F.outc x b hx; exact noStay_isCell hc o e

theorem FR.stepB {B : Addr → Prop} (F : FR X env nm l σ s.heap) (a : At X σ s) (st : Step B σ s σ' s') (hB : ∀ b, FB env b → ¬ B b) (hn : NoStay B s.heap) : FR X env nm l σ' s'.heap := by
  have kv := st.keepV a hn
  have keep : ∀ b o, FB env b → s.heap.get? b = some o → σ b = none → s'.heap.get? b = some o := fun b o hb e h => st.keep b o e h (hB b hb)
  have out : ∀ b, σ b = none → b < s.heap.objs.size → σ' b = none := fun b h hb => by
    cases h' : σ' b with
    | none => rfl
    | some _ => exact absurd (st.fresh b (by rw [h']; simp) h) (Nat.not_le.mpr hb)
  obtain ⟨m, ⟨o, es, ep, ho, r⟩, hm⟩ := F.ns
  refine ⟨⟨m, ⟨o, es, ep, keep _ _ (.inl rfl) ho F.out.1, r⟩, fun x i hx hk => (hm x i hx hk).mono kv⟩, fun x i hx hk => ?_, ⟨out _ F.out.1 (Heap.lt_size ho), F.out.2⟩, F.nmok, F.len, fun x c hx => ?_⟩
  · obtain ⟨c, v, hc, ⟨o, ho, hd⟩, hr⟩ := F.cell x i hx hk
    exact ⟨c, v, hc, ⟨o, keep _ _ (.inr ⟨x, mem_of_lookup hc⟩) ho (F.outc x c (mem_of_lookup hc)).1, hd⟩, hr.mono kv⟩
  · obtain ⟨h1, h2, v, ⟨o, ho, hd⟩⟩ := F.outc x c hx
    exact ⟨out _ h1 (Heap.lt_size ho), h2, v, ⟨o, keep _ _ (.inr ⟨x, hx⟩) ho h1, hd⟩⟩
theorem FR.step (F : FR X env nm l σ s.heap) (a : At X σ s) (st : Step E0 σ s σ' s') : FR X env nm l σ' s'.heap := F.stepB a st (fun _ _ h => h) .e0

theorem getD_set (l : Loc) (i j : Nat) (v : Option AV) (hi : i < l.length) : (l.set i v).getD j none = if j = i then v else l.getD j none := by
  simp only [List.getD_eq_getElem?_getD, List.getElem?_set]
  by_cases h : i = j
  · subst h; simp [hi]
  · have : ¬ j = i := fun e => h e.symm
    simp [h, this]

/-- a name is stored: in the frame's dict -/
theorem wp_storeL {M : Model} {A : Around} {E : Value → Shared → Prop} {x : Str} {i : Nat} {av : AV} {v : Value} {Q : Unit → Shared → Prop} (EO : EnvOk env) (F : FR X env nm l σ s.heap) (a : At X σ s)
    (hx : nm.lookup x = some i) (hk : env.kindOf x = some .local) (hv : RepV s.heap av v)
    (h : ∀ s', FR X env nm (l.set i (some av)) σ s'.heap → At X σ s' → Step (fun b => b = env.locals) σ s σ s' → Q () s') : wpAny M A (storeName env x v) Q E s := by
  have N := F.nmok
  obtain ⟨m, hn, hm⟩ := F.ns
  refine wpAny_storeName_local hk hn (fun h' hn' hs' => ?_) (by rw [EO.kind]; rfl)
  have kv : KeepV s.heap h' := fun b o e st => (hs'.2 b (by rintro rfl; exact noStay_ns hn o e st)).trans e
  refine h _ ⟨⟨_, hn', fun y j hy hky => ?_⟩, fun y j hy hky => ?_, F.out, by simpa using N, by simpa using F.len, fun y c hy => ?_⟩ (a.aside _ F.out.1 F.out.2 (noStay_ns hn) hs') (Step.aside _ rfl hs')
  · rw [getD_set _ _ _ _ (N.1 x i hx)]
    by_cases hyx : y = x
    · subst hyx
      rw [hx] at hy; cases hy
      simp only [if_true]; exact hv.mono kv
    · have : j ≠ i := fun e => hyx (N.2 y x i (e ▸ hy) hx)
      simp only [hyx, this, if_false]; exact (hm y j hy hky).mono kv
  · obtain ⟨c, u, hc, hcc, hr⟩ := F.cell y j hy hky
    have hyx : y ≠ x := by rintro rfl; rw [hk] at hky; cases hky
    have hji : j ≠ i := fun e => hyx (N.2 y x i (e ▸ hy) hx)
    rw [getD_set _ _ _ _ (N.1 x i hx), if_neg hji]
    exact ⟨c, u, hc, hcc.sameBut hs' (Ne.symm (ns_ne_cell hn hcc)), hr.mono kv⟩
  · obtain ⟨h1, h2, u, hcc⟩ := F.outc y c hy
    exact ⟨h1, h2, u, hcc.sameBut hs' (Ne.symm (ns_ne_cell hn hcc))⟩

/-- a name is stored -/
theorem wp_store {M : Model} {A : Around} {E : Value → Shared → Prop} {x : Str} {i : Nat} {av : AV} {v : Value} {Q : Unit → Shared → Prop} (EO : EnvOk env) (F : FR X env nm l σ s.heap) (a : At X σ s)
    (hx : nm.lookup x = some i) (hk : env.kindOf x = some .local ∨ env.kindOf x = some .cell) (hv : RepV s.heap av v)
    (h : ∀ s', FR X env nm (l.set i (some av)) σ s'.heap → At X σ s' → Step (FB env) σ s σ s' → Q () s') : wpAny M A (storeName env x v) Q E s := by
  have N := F.nmok
  rcases hk with hk | hk
  · exact wp_storeL EO F a hx hk hv fun s' F' a' st => h s' F' a' (st.weaken fun b hb => .inl hb)
  · obtain ⟨m, hn, hm⟩ := F.ns
    obtain ⟨c, u, hc, hcc, hr⟩ := F.cell x i hx hk
    refine wpAny_storeName_cell EO.kind hk hc hcc fun h' hcc' hs' => ?_
    have kv : KeepV s.heap h' := fun b o e st => (hs'.2 b (by rintro rfl; exact noStay_isCell hcc o e st)).trans e
    have oc := F.outc x c (mem_of_lookup hc)
    refine h { s with heap := h' } ⟨⟨m, hn.sameBut hs' (ns_ne_cell hn hcc), fun y j hy hky => ?_⟩, fun y j hy hky => ?_, F.out, by simpa using N, by simpa using F.len, fun y c' hy => ?_⟩ (a.aside (t := s.toks) (h' := h') oc.1 oc.2.1 (noStay_isCell hcc) hs')
      (Step.aside (t := s.toks) (h' := h') (Or.inr ⟨x, mem_of_lookup hc⟩) hs')
    · have hyx : y ≠ x := by rintro rfl; rw [hk] at hky; cases hky
      have hji : j ≠ i := fun e => hyx (N.2 y x i (e ▸ hy) hx)
      rw [getD_set _ _ _ _ (N.1 x i hx), if_neg hji]
      exact (hm y j hy hky).mono kv
    · rw [getD_set _ _ _ _ (N.1 x i hx)]
      by_cases hyx : y = x
      · subst hyx
        rw [hx] at hy; cases hy
        simp only [if_true]; exact ⟨c, some v, hc, hcc', hv.mono kv⟩
      · have hji : j ≠ i := fun e => hyx (N.2 y x i (e ▸ hy) hx)
        simp only [hji, if_false]
        obtain ⟨c', u', hc', hcc'', hr'⟩ := F.cell y j hy hky
        refine ⟨c', u', hc', hcc''.sameBut hs' ?_, hr'.mono kv⟩
        rintro rfl
        exact hyx (name_of_addr EO.apart (mem_of_lookup hc') (mem_of_lookup hc))
    · obtain ⟨h1, h2, u', hcc''⟩ := F.outc y c' hy
      by_cases hcc3 : c' = c
      · subst hcc3; exact ⟨h1, h2, _, hcc'⟩
      · exact ⟨h1, h2, u', hcc''.sameBut hs' hcc3⟩

/-- a name is loaded -/
theorem wp_load {M : Model} {A : Around} {E : Value → Shared → Prop} {x : Str} {i : Nat} {av : AV} {Q : Value → Shared → Prop} (EO : EnvOk env) (F : FR X env nm l σ s.heap)
    (hx : nm.lookup x = some i) (hk : env.kindOf x = some .local ∨ env.kindOf x = some .cell) (hl : l.getD i none = some av) (h : ∀ v, RepV s.heap av v → Q v s) : wpAny M A (loadName env x) Q E s := by
  rcases hk with hk | hk
  · obtain ⟨m, hn, hm⟩ := F.ns
    have hr := hm x i hx hk
    rw [hl] at hr
    cases hv : m x with
    | none => rw [hv] at hr; exact hr.elim
    | some v => rw [hv] at hr; exact wpAny_loadName_local EO.kind hk hn hv (h v hr)
  · obtain ⟨c, u, hc, hcc, hr⟩ := F.cell x i hx hk
    rw [hl] at hr
    cases u with
    | none => exact hr.elim
    | some v => exact wpAny_loadName_cell EO.kind hk hc hcc (h v hr)
end
end Mine

set_option maxRecDepth 100000
set_option linter.unusedVariables false
namespace Mine
open PySem PyProof.Rows

abbrev Post := AV → AHeap → Prop
abbrev XP := Addr → AHeap → Prop
/-- abstract expressions: depth, locals, what is wanted, what is wanted of a raise, the heap -/
abbrev AE := Nat → Loc → Post → XP → AHeap → Prop

structure Live (d : Nat) (A : Around) : Prop where
  depth : A.depth ≤ 301 + d
  units : A.units ≤ 20 + 8 * d
  handled : A.handled = none
  small : d ≤ 600

theorem Live.in1 {d : Nat} {A : Around} (L : Live d A) : A.in1.handled = none := L.handled
theorem Live.room {d : Nat} {A : Around} (L : Live d A) : A.units + 3000 < cLine := by
  have h1 := L.units; have h2 := L.small
  show A.units + 3000 < 9900
  lia

def ExcAt (s : Shared) (e : Value) (c : Addr) (s' : Shared) : Prop := ∃ x, e = .ref x ∧ s.heap.objs.size ≤ x ∧ RepV s'.heap (.exc c) e

def liftQ (X : Cx) (σ : AHeap) (s : Shared) (Q : Post) : Value → Shared → Prop :=
  fun v s' => ∃ av σ', RepV s'.heap av v ∧ At X σ' s' ∧ Step E0 σ s σ' s' ∧ Q av σ'
def liftX (X : Cx) (σ : AHeap) (s : Shared) (Z : XP) : Value → Shared → Prop :=
  fun e s' => ∃ c σ', ExcAt s e c s' ∧ At X σ' s' ∧ Step E0 σ s σ' s' ∧ Z c σ'
def liftB (X : Cx) (σ : AHeap) (s : Shared) (Q : Bool → AHeap → Prop) : Bool → Shared → Prop :=
  fun b s' => ∃ σ', At X σ' s' ∧ Step E0 σ s σ' s' ∧ Q b σ'
def liftL (X : Cx) (σ : AHeap) (s : Shared) (Q : List AV → AHeap → Prop) : List Value → Shared → Prop :=
  fun vs s' => ∃ avs σ', RepVs s'.heap avs vs ∧ At X σ' s' ∧ Step E0 σ s σ' s' ∧ Q avs σ'

section
variable {X : Cx} {A : Around} {σ σ' : AHeap} {s s' : Shared} {Z : XP}

theorem liftX.back {e : Value} {s'' : Shared} (st : Step E0 σ s σ' s') (h : liftX X σ' s' Z e s'') : liftX X σ s Z e s'' :=
  by obtain ⟨c, σ'', ⟨x, h1, h2, h3⟩, a, st', z⟩ := h; exact ⟨c, σ'', ⟨x, h1, Nat.le_trans st.size h2, h3⟩, a, st.trans st', z⟩
theorem liftQ.back {Q : Post} {v : Value} {s'' : Shared} (st : Step E0 σ s σ' s') (h : liftQ X σ' s' Q v s'') : liftQ X σ s Q v s'' :=
  by obtain ⟨av, σ'', r, a, st', q⟩ := h; exact ⟨av, σ'', r, a, st.trans st', q⟩
theorem liftB.back {Q : Bool → AHeap → Prop} {v : Bool} {s'' : Shared} (st : Step E0 σ s σ' s') (h : liftB X σ' s' Q v s'') : liftB X σ s Q v s'' :=
  by obtain ⟨σ'', a, st', q⟩ := h; exact ⟨σ'', a, st.trans st', q⟩
theorem liftL.back {Q : List AV → AHeap → Prop} {v : List Value} {s'' : Shared} (st : Step E0 σ s σ' s') (h : liftL X σ' s' Q v s'') : liftL X σ s Q v s'' :=
  by obtain ⟨av, σ'', r, a, st', q⟩ := h; exact ⟨av, σ'', r, a, st.trans st', q⟩

/-- one behind the other: the second from where the first ends -/
theorem seqQ {α : Type} {t : Sem Value} {f : Value → Sem α} {Q1 : Post} {R : Value → α → Shared → Prop} (h : wpAny X.M A t (liftQ X σ s Q1) (liftX X σ s Z) s)
    (k : ∀ av v σ1 s1, RepV s1.heap av v → At X σ1 s1 → Step E0 σ s σ1 s1 → Q1 av σ1 → wpAny X.M A (f v) (R v) (liftX X σ s Z) s1) :
    wpAny X.M A t (fun v s1 => wpAny X.M A (f v) (R v) (liftX X σ s Z) s1) (liftX X σ s Z) s :=
  wpAny_mono h (fun v s1 ⟨av, σ1, r, a, st, q⟩ => k av v σ1 s1 r a st q) fun _ _ e => e
theorem backQ {t : Sem Value} {Q : Post} (st : Step E0 σ s σ' s') (h : wpAny X.M A t (liftQ X σ' s' Q) (liftX X σ' s' Z) s') : wpAny X.M A t (liftQ X σ s Q) (liftX X σ s Z) s' :=
  wpAny_mono h (fun _ _ h => h.back st) fun _ _ h => h.back st
theorem backB {t : Sem Bool} {Q : Bool → AHeap → Prop} (st : Step E0 σ s σ' s') (h : wpAny X.M A t (liftB X σ' s' Q) (liftX X σ' s' Z) s') : wpAny X.M A t (liftB X σ s Q) (liftX X σ s Z) s' :=
  wpAny_mono h (fun _ _ h => h.back st) fun _ _ h => h.back st
/-- a value, nothing changed -/
theorem retQ {Q : Post} {av : AV} {v : Value} (a : At X σ s) (r : RepV s.heap av v) (q : Q av σ) : liftQ X σ s Q v s := ⟨av, σ, r, a, .refl .., q⟩
theorem retT {Q : Post} {av : AV} {v : Value} {t : Nat} (a : At X σ s) (r : RepV s.heap av v) (q : Q av σ) : liftQ X σ s Q v { s with toks := t } := ⟨av, σ, r, a.toks t, .toks .., q⟩
end

def SoundE (X : Cx) (env : Env) (nm : List (Str × Nat)) (e : Expr) (m : AE) : Prop :=
  ∀ d A l σ s Q Z, Live d A → At X σ s → FR X env nm l σ s.heap → m d l Q Z σ → wpAny X.M A (eval e env) (liftQ X σ s Q) (liftX X σ s Z) s
def isB (Q : Bool → AHeap → Prop) : Post := fun a σ => ∃ b, a = .bool b ∧ Q b σ
def SoundB (X : Cx) (env : Env) (nm : List (Str × Nat)) (e : Expr) (m : AE) : Prop :=
  ∀ d A l σ s Q Z, Live d A → At X σ s → FR X env nm l σ s.heap → m d l (isB Q) Z σ → wpAny X.M A (isTrue e env (eval e env)) (liftB X σ s Q) (liftX X σ s Z) s

namespace A
def loc (i : Nat) : AE := fun _ l Q _ σ => ∃ a, l.getD i none = some a ∧ Q a σ
def k (a : AV) : AE := fun _ _ Q _ σ => Q a σ
end A

section
variable {X : Cx} {env : Env} {nm : List (Str × Nat)}

theorem sound_loc {x : Str} {pos : Pos} {i : Nat} (EO : EnvOk env) (hx : nm.lookup x = some i) (hk : env.kindOf x = some .local ∨ env.kindOf x = some .cell) (hd : (x == ("__debug__" : Str)) = false) :
    SoundE X env nm (.Name x pos) (A.loc i) := fun d A l σ s Q Z L a F ⟨av, hl, q⟩ =>
  wpAny_Name (wp_load EO F hx hk hl fun v r => retQ a r q) hd

theorem sound_int {i : Int} {k pos} : SoundE X env nm (.Constant (.int i) k pos) (A.k (.int i)) := fun d A l σ s Q Z L a F q =>
  wpAny_Constant_int (retT a (.int _ _) q)
theorem sound_str {x : Str} {k pos} : SoundE X env nm (.Constant (.str x) k pos) (A.k (.str x)) := fun d A l σ s Q Z L a F q => by
  show wpAny X.M A (mkText x) _ _ s
  exact fun _ _ _ => retT a (.str _ _) q
theorem sound_bool {b : Bool} {k pos} : SoundE X env nm (.Constant (.bool b) k pos) (A.k (.bool b)) := fun d A l σ s Q Z L a F q => wpAny_pure (retQ a (.bool b) q)

/-- truth by the value -/
theorem soundB_of {e : Expr} {m : AE} (h : SoundE X env nm e m) (he : ∀ whole, isTrue e env whole = (do let v ← whole; standAt e.pos; holding [v] (truthy v))) : SoundB X env nm e m := fun d A l σ s Q Z L a F q => by
  rw [he]
  refine wpAny_bind (seqQ (h d A l σ s (isB Q) Z L a F q) fun av v σ1 s1 r a1 st hpx => ?_)
  obtain ⟨b, e, q1⟩ := hpx
  subst e
  cases r
  exact wpAny_bind (wpAny_standAt (wpAny_holding (wpAny_truthy_bool ⟨σ1, a1, st, q1⟩)))
end
end Mine

set_option maxRecDepth 100000
set_option linter.unusedVariables false
namespace Mine
open PySem PyProof.Rows

inductive Fl where
  | next
  | ret (v : AV)
abbrev SPost := Fl → Loc → AHeap → Prop
abbrev SXP := Addr → Loc → AHeap → Prop
abbrev AS := Nat → Loc → SPost → SXP → AHeap → Prop

def RepFl (h : Heap) : Fl → Flow → Prop
  | .next, .next => True
  | .ret a, .ret v => RepV h a v
  | _, _ => False

def liftS (X : Cx) (env : Env) (nm : List (Str × Nat)) (σ : AHeap) (s : Shared) (Q : SPost) : Flow → Shared → Prop :=
  fun f s' => ∃ fl l' σ', RepFl s'.heap fl f ∧ At X σ' s' ∧ FR X env nm l' σ' s'.heap ∧ Step (FB env) σ s σ' s' ∧ Q fl l' σ'
def liftSX (X : Cx) (env : Env) (nm : List (Str × Nat)) (σ : AHeap) (s : Shared) (Z : SXP) : Value → Shared → Prop :=
  fun e s' => ∃ c l' σ', ExcAt s e c s' ∧ At X σ' s' ∧ FR X env nm l' σ' s'.heap ∧ Step (FB env) σ s σ' s' ∧ Z c l' σ'

def SoundS (X : Cx) (env : Env) (nm : List (Str × Nat)) (st : Stmt) (m : AS) : Prop :=
  ∀ d A l σ s Q Z, Live d A → At X σ s → FR X env nm l σ s.heap → m d l Q Z σ → wpAny X.M A (exec st env) (liftS X env nm σ s Q) (liftSX X env nm σ s Z) s
def SoundSs (X : Cx) (env : Env) (nm : List (Str × Nat)) (sts : List Stmt) (m : AS) : Prop :=
  ∀ d A l σ s Q Z, Live d A → At X σ s → FR X env nm l σ s.heap → m d l Q Z σ → wpAny X.M A (execs sts env) (liftS X env nm σ s Q) (liftSX X env nm σ s Z) s

namespace A
def nil : AS := fun d l Q Z σ => Q .next l σ
def cons (a b : AS) : AS := fun d l Q Z σ => a d l (fun f l' σ' => match f with | .next => b d l' Q Z σ' | .ret v => Q (.ret v) l' σ') Z σ
def set (i : Nat) (x : AE) : AS := fun d l Q Z σ => x d l (fun a σ' => Q .next (l.set i (some a)) σ') (fun c σ' => Z c l σ') σ
def ret (x : AE) : AS := fun d l Q Z σ => x d l (fun a σ' => Q (.ret a) l σ') (fun c σ' => Z c l σ') σ
def if_ (t : AE) (a b : AS) : AS := fun d l Q Z σ => t d l (isB fun c σ' => if c then a d l Q Z σ' else b d l Q Z σ') (fun c σ' => Z c l σ') σ
end A

section
variable {X : Cx} {env : Env} {nm : List (Str × Nat)} {σ σ' : AHeap} {s s' : Shared}

theorem FB.of_e0 (b : Addr) (h : E0 b) : FB env b := h.elim

theorem liftS.back {Q : SPost} {f : Flow} {s'' : Shared} (st : Step (FB env) σ s σ' s') (h : liftS X env nm σ' s' Q f s'') : liftS X env nm σ s Q f s'' :=
  by obtain ⟨fl, l', σ'', r, a, F, st', q⟩ := h; exact ⟨fl, l', σ'', r, a, F, st.trans st', q⟩
theorem liftSX.back {Z : SXP} {e : Value} {s'' : Shared} (st : Step (FB env) σ s σ' s') (h : liftSX X env nm σ' s' Z e s'') : liftSX X env nm σ s Z e s'' :=
  by obtain ⟨c, l', σ'', ⟨x, h1, h2, h3⟩, a, F, st', q⟩ := h; exact ⟨c, l', σ'', ⟨x, h1, Nat.le_trans st.size h2, h3⟩, a, F, st.trans st', q⟩
theorem liftX.toS {l : Loc} {Z : SXP} {e : Value} {s'' : Shared} (a0 : At X σ s) (F : FR X env nm l σ s.heap) (h : liftX X σ s (fun c σ' => Z c l σ') e s'') : liftSX X env nm σ s Z e s'' :=
  by obtain ⟨c, σ'', h1, a, st', q⟩ := h; exact ⟨c, l, σ'', h1, a, F.step a0 st', st'.weaken FB.of_e0, q⟩

/-- an expression inside a statement -/
theorem inS {α : Type} {A : Around} {l : Loc} {t : Sem Value} {f : Value → Sem α} {Q1 : Post} {Z : SXP} {R : α → Shared → Prop} {E : Value → Shared → Prop} (a0 : At X σ s) (F : FR X env nm l σ s.heap)
    (h : wpAny X.M A t (liftQ X σ s Q1) (liftX X σ s fun c σ' => Z c l σ') s) (hE : ∀ e s', liftSX X env nm σ s Z e s' → E e s')
    (k : ∀ av v σ1 s1, RepV s1.heap av v → At X σ1 s1 → FR X env nm l σ1 s1.heap → Step (FB env) σ s σ1 s1 → Step E0 σ s σ1 s1 → Q1 av σ1 → wpAny X.M A (f v) R E s1) :
    wpAny X.M A t (fun v s1 => wpAny X.M A (f v) R E s1) E s :=
  wpAny_mono h (fun v s1 ⟨av, σ1, r, a, st, q⟩ => k av v σ1 s1 r a (F.step a0 st) (st.weaken FB.of_e0) st q) fun e s' x => hE e s' (x.toS a0 F)

theorem sound_nil : SoundSs X env nm [] A.nil := fun d A l σ s Q Z L a F q => wpAny_execs_nil ⟨.next, l, σ, trivial, a, F, .refl .., q⟩

theorem sound_cons {st : Stmt} {sts : List Stmt} {m ms : AS} (h : SoundS X env nm st m) (hs : SoundSs X env nm sts ms) : SoundSs X env nm (st :: sts) (A.cons m ms) := fun d A l σ s Q Z L a F q => by
  refine wpAny_execs_cons (wpAny_mono (h d A l σ s _ Z L a F q) (fun f s1 hpx => ?_) fun _ _ e => e)
  obtain ⟨fl, l1, σ1, r, a1, F1, st1, q1⟩ := hpx
  cases f with
  | next =>
    cases fl with
    | next => exact wpAny_mono (hs d A l1 σ1 s1 Q Z L a1 F1 q1) (fun _ _ x => x.back st1) fun _ _ x => x.back st1
    | ret v => exact r.elim
  | ret v =>
    cases fl with
    | next => exact r.elim
    | ret av => exact ⟨.ret av, l1, σ1, r, a1, F1, st1, q1⟩
  | brk => cases fl <;> exact r.elim
  | cont => cases fl <;> exact r.elim

theorem sound_ret {e : Expr} {pos : Pos} {m : AE} (h : SoundE X env nm e m) : SoundS X env nm (.Return (some e) pos) (A.ret m) := fun d A l σ s Q Z L a F q =>
  wpAny_Return_some (wpAny_mono (h d A l σ s _ _ L a F q) (fun v s1 ⟨av, σ1, r, a1, st, q1⟩ => ⟨.ret av, l, σ1, r, a1, F.step a st, st.weaken FB.of_e0, q1⟩) fun _ _ x => x.toS a F)
theorem sound_set {x : Str} {pos' pos : Pos} {value : Expr} {m : AE} {i : Nat} (EO : EnvOk env) (h : SoundE X env nm value m) (hx : nm.lookup x = some i) (hk : env.kindOf x = some .local ∨ env.kindOf x = some .cell)
    (hs : swapsWith value (some (.Name x pos')) pos.line env = pure false) : SoundS X env nm (.Assign [.Name x pos'] value pos) (A.set i m) := fun d A l σ s Q Z L a F q =>
  wpAny_Assign_Name (inS a F (h d A l σ s _ _ L a F q) (fun _ _ e => e) fun av v σ1 s1 r a1 F1 st _ q1 =>
    wp_store EO F1 a1 hx hk r fun s2 F2 a2 st2 => ⟨.next, _, σ1, trivial, a2, F2, st.trans st2, q1⟩) hs

theorem sound_if {test : Expr} {body orelse : List Stmt} {pos : Pos} {t : AE} {a b : AS} (ht : SoundB X env nm test t) (ha : SoundSs X env nm body a) (hb : SoundSs X env nm orelse b) :
    SoundS X env nm (.If test body orelse pos) (A.if_ t a b) := fun d A l σ s Q Z L a0 F q => by
  refine wpAny_If (wpAny_mono (ht d A l σ s _ _ L a0 F q) (fun c s1 hpx => ?_) fun _ _ x => x.toS a0 F)
  obtain ⟨σ1, a1, st, q1⟩ := hpx
  have F1 := F.step a0 st
  have st' := st.weaken (B' := FB env) FB.of_e0
  cases c with
  | true => simp only [if_true] at q1 ⊢; exact wpAny_mono (ha d A l σ1 s1 Q Z L a1 F1 q1) (fun _ _ x => x.back st') fun _ _ x => x.back st'
  | false => simp only [Bool.false_eq_true, if_false] at q1 ⊢; exact wpAny_mono (hb d A l σ1 s1 Q Z L a1 F1 q1) (fun _ _ x => x.back st') fun _ _ x => x.back st'

theorem noX {σ : AHeap} {s : Shared} {e : Value} {s' : Shared} {P : Prop} (h : liftX X σ s (fun _ _ => False) e s') : P := by obtain ⟨_, _, _, _, _, z⟩ := h; exact z.elim
theorem noSX {σ : AHeap} {s : Shared} {e : Value} {s' : Shared} {P : Prop} (h : liftSX X env nm σ s (fun _ _ _ => False) e s') : P := by obtain ⟨_, _, _, _, _, _, _, z⟩ := h; exact z.elim

end

/-- targets: a name, or a tuple of names -/
inductive Tgt where
  | one (i : Nat)
  | many (is : List Nat)
def sets : List Nat → List AV → Loc → Loc
  | i :: is, x :: xs, l => sets is xs (l.set i (some x))
  | _, _, l => l
def bindT : Tgt → AV → Loc → Option Loc
  | .one i, x, l => some (l.set i (some x))
  | .many is, .tup xs, l => if xs.length = is.length then some (sets is xs l) else none
  | _, _, _ => none

def SoundT (X : Cx) (env : Env) (nm : List (Str × Nat)) (target : Expr) (t : Tgt) : Prop :=
  ∀ d A l l' σ s x v (Q : Unit → Shared → Prop) E, Live d A → At X σ s → FR X env nm l σ s.heap → RepV s.heap x v → bindT t x l = some l' →
    (∀ s', FR X env nm l' σ s'.heap → At X σ s' → Step (FB env) σ s σ s' → Q () s') → wpAny X.M A (assign target env v) Q E s

theorem soundT_one {X : Cx} {env : Env} {nm : List (Str × Nat)} {x : Str} {pos : Pos} {i : Nat} (EO : EnvOk env) (hx : nm.lookup x = some i) (hk : env.kindOf x = some .local ∨ env.kindOf x = some .cell) :
    SoundT X env nm (.Name x pos) (.one i) := fun d A l l' σ s y v Q E L a F r hb h => by
  cases hb
  exact wpAny_assign_Name (wp_store EO F a hx hk r h)

/-- an iterator over known items -/
structure ItOk (X : Cx) (A : Around) (target : Expr) (it : Value) (I : AHeap → Prop) (xs : List AV) (W : Addr → Prop) (St : Nat → Heap → Prop) : Prop where
  stable : ∀ i h h', St i h → KeepV h h' → (∀ b o, W b → h.get? b = some o → h'.get? b = some o) → St i h'
  there : ∀ i h b, St i h → W b → ∃ o, h.get? b = some o ∧ ¬ Stays o ∧ (∀ es n, o.data ≠ .dict es n) ∧ (∀ v, o.data ≠ .cell v)
  item : ∀ i x σ s (Q : Value → Shared → Prop) (Qn : Option Value → Shared → Prop) E, (∀ v s1, wpAny X.M A (letOwnedTupleGo target it v) (fun _ s' => Q v s') E s1 → Qn (some v) s1) →
    xs[i]? = some x → At X σ s → I σ → St i s.heap → (∀ b, W b → σ b = none ∧ X.h₀.get? b = none) →
    (∀ v s', RepV s'.heap x v → At X σ s' → Step W σ s σ s' → St (i + 1) s'.heap → Q v s') → wpAny X.M A (pyNext it) Qn E s
  done : ∀ σ s (Q : Option Value → Shared → Prop) E, At X σ s → I σ → St xs.length s.heap → (∀ b, W b → σ b = none ∧ X.h₀.get? b = none) →
    (∀ s', At X σ s' → Step W σ s σ s' → Q none s') → wpAny X.M A (pyNext it) Q E s
  self : ∀ i s (Q : Value → Shared → Prop) E, St i s.heap → Q it s → wpAny X.M A (pyIter it) Q E s

def forL (I : AHeap → Prop) (t : Tgt) (body : AS) (d : Nat) (Q : SPost) : List AV → Loc → AHeap → Prop
  | [], l, σ => Q .next l σ
  | x :: xs, l, σ => ∃ l', bindT t x l = some l' ∧ body d l' (fun f l'' σ' => match f with | .next => I σ' ∧ forL I t body d Q xs l'' σ' | .ret v => Q (.ret v) l'' σ') (fun _ _ _ => False) σ

section
variable {X : Cx} {env : Env} {nm : List (Str × Nat)} {A : Around} {σ : AHeap} {s : Shared}

theorem for_loop {d : Nat} {target : Expr} {t : Tgt} {body : List Stmt} {m : AS} {it : Value} {I : AHeap → Prop} {xs : List AV} {W : Addr → Prop} {St : Nat → Heap → Prop} {l : Loc} {Q : SPost} {R : Result → Shared → Prop}
    (L : Live d A) (IT : ItOk X A target it I xs W St) (ht : SoundT X env nm target t) (hb : SoundSs X env nm body m) (hW : ∀ b, W b → σ b = none ∧ X.h₀.get? b = none)
    (a0 : At X σ s) (F : FR X env nm l σ s.heap) (hI : I σ) (hSt : St 0 s.heap) (h : forL I t m d Q xs l σ)
    (hR : ∀ f s', (∃ fl l' σ', RepFl s'.heap fl f ∧ At X σ' s' ∧ FR X env nm l' σ' s'.heap ∧ Step (fun b => FB env b ∨ W b) σ s σ' s' ∧ Q fl l' σ') → R (.ok f) s') :
    codeAny X.M A (.forLoop target it body [] env) R s := by
  refine codeAny_forLoop_any (fun k s1 => ∃ i l1 σ1, k = xs.length + 1 - i ∧ i ≤ xs.length ∧ At X σ1 s1 ∧ FR X env nm l1 σ1 s1.heap ∧ Step (fun b => FB env b ∨ W b) σ s σ1 s1 ∧ I σ1 ∧ St i s1.heap ∧
    (∀ b, W b → σ1 b = none ∧ X.h₀.get? b = none) ∧ forL I t m d Q (xs.drop i) l1 σ1) ?_ (xs.length + 1) ⟨0, l, σ, rfl, Nat.zero_le _, a0, F, .refl .., hI, hSt, hW, h⟩
  rintro k s1 ⟨i, l1, σ1, rfl, hi, a1, F1, st1, hI1, hSt1, hW1, hf⟩
  have noW : NoStay W s1.heap := fun b o hb e => by obtain ⟨o', e', h', _⟩ := IT.there i _ b hSt1 hb; rw [e] at e'; cases e'; exact h'
  have dis : ∀ b, FB env b → ¬ W b := fun b hb hw => by
    obtain ⟨o', e', _, h1, h2⟩ := IT.there i _ b hSt1 hw
    rcases hb with rfl | ⟨x, hx⟩
    · obtain ⟨_, ⟨o, es, ep, ho, hd, _⟩, _⟩ := F1.ns
      rw [ho] at e'; cases e'; exact h1 _ _ hd
    · obtain ⟨_, _, v, o, ho, hd⟩ := F1.outc x b hx
      rw [ho] at e'; cases e'; exact h2 _ hd
  cases hx : xs[i]? with
  | none =>
    have hil : i = xs.length := Nat.le_antisymm hi (List.getElem?_eq_none_iff.mp hx)
    subst hil
    refine IT.done σ1 s1 _ _ a1 hI1 hSt1 hW1 fun s2 a2 st2 => ?_
    refine wpAny_execs_nil (hR _ _ ⟨.next, l1, σ1, trivial, a2, F1.stepB a1 st2 dis noW, st1.trans (st2.weaken fun b hb => .inr hb), ?_⟩)
    rw [List.drop_length] at hf; exact hf
  | some x =>
    have hlt : i < xs.length := (List.getElem?_eq_some_iff.mp hx).1
    have hd : xs.drop i = x :: xs.drop (i + 1) := by
      rw [List.drop_eq_getElem_cons hlt, (List.getElem?_eq_some_iff.mp hx).2]
    rw [hd] at hf
    obtain ⟨l2, hb2, hf⟩ := hf
    refine IT.item i x σ1 s1 _ _ _ (fun v s2 hr => hr) hx a1 hI1 hSt1 hW1 fun v s2 rv a2 st2 hSt2 => ?_
    · have F2 := F1.stepB a1 st2 dis noW
      have noF := F2.noStay
      refine ht d A l1 l2 σ1 s2 x v _ _ L a2 F2 rv hb2 fun s3 F3 a3 st3 => ?_
      have hSt3 : St (i + 1) s3.heap := IT.stable _ _ _ hSt2 (st3.keepV a2 noF) fun b o hb e => st3.keep b o e (hW1 b hb).1 fun q => dis b q hb
      refine wpAny_mono (hb d A l2 σ1 s3 _ _ L a3 F3 hf) (fun f s4 hpx => ?_) fun _ _ x => noSX x
      obtain ⟨fl, l4, σ4, r, a4, F4, st4, q4⟩ := hpx
      have stA : Step (fun b => FB env b ∨ W b) σ s σ4 s4 := st1.trans ((st2.weaken fun b hb => .inr hb).trans ((st3.weaken fun b hb => .inl hb).trans (st4.weaken fun b hb => .inl hb)))
      cases f with
      | next =>
        cases fl with
        | next =>
          obtain ⟨hI4, hf4⟩ := q4
          refine ⟨xs.length + 1 - (i + 1), by lia, i + 1, l4, σ4, rfl, hlt, a4, F4, stA, hI4, IT.stable _ _ _ hSt3 (st4.keepV a3 F3.noStay) fun b o hb e => st4.keep b o e (hW1 b hb).1 fun q => dis b q hb, fun b hb => ⟨?_, (hW1 b hb).2⟩, hf4⟩
          obtain ⟨o, ho, _⟩ := IT.there _ _ b hSt3 hb
          cases h4 : σ4 b with
          | none => rfl
          | some ao => exact absurd (st4.fresh b (by rw [h4]; simp) (hW1 b hb).1) (Nat.not_le.mpr (Heap.lt_size ho))
        | ret v => exact r.elim
      | ret v =>
        cases fl with
        | next => exact r.elim
        | ret av => exact hR _ _ ⟨.ret av, l4, σ4, r, a4, F4, stA, q4⟩
      | brk => cases fl <;> exact r.elim
      | cont => cases fl <;> exact r.elim
end
end Mine

set_option maxRecDepth 100000
set_option linter.unusedVariables false
namespace Mine
open PySem PyProof.Rows

section
variable {X : Cx} {σ : AHeap} {s : Shared} {W : Addr → Prop} {h' : Heap}
theorem At.moved (a : At X σ s) (t : Nat) (hW : ∀ b, W b → σ b = none ∧ X.h₀.get? b = none) (nW : NoStay W s.heap) (hk : ∀ b o, ¬ W b → s.heap.get? b = some o → h'.get? b = some o) :
    At X σ { s with heap := h', toks := t } := by
  have kv : KeepV s.heap h' := fun b o e st => hk b o (fun q => nW b o q e st) e
  refine ⟨fun b o e => hk b o (fun q => ?_) (a.keep b o e), fun b ao e => (a.rep b ao e).mono kv fun o ho => hk b o (fun q => ?_) ho, a.own, a.gens, a.os⟩
  · rw [(hW b q).2] at e; cases e
  · rw [(hW b q).1] at e; cases e
theorem Step.moved (σ : AHeap) (t : Nat) (hk : ∀ b o, ¬ W b → s.heap.get? b = some o → h'.get? b = some o) (hsz : s.heap.objs.size ≤ h'.objs.size) : Step W σ s σ { s with heap := h', toks := t } :=
  ⟨fun b o e _ h => hk b o h e, fun _ h1 h2 => absurd h2 h1, hsz⟩
end

/-- the iterator's object is neither a value's nor a frame's -/
def Plain (o : Obj) : Prop := ¬ Stays o ∧ (∀ es n, o.data ≠ .dict es n) ∧ (∀ v, o.data ≠ .cell v)
theorem Plain.of_fields {o : Obj} {T : String} {vs : Array Value} (hc : o.cls = .type T) (hd : o.data = .fields vs) (h2 : T ≠ "range") : Plain o := by
  refine ⟨?_, fun es n h => ?_, fun v h => ?_⟩
  rotate_left
  · rw [hd] at h; cases h
  · rw [hd] at h; cases h
  rintro (⟨h, _, _, h'⟩ | ⟨h, _⟩ | ⟨c, vs, h, _⟩)
  · rw [hd] at h'; cases h'
  · rw [hc] at h; cases h; exact h2 rfl
  · rw [hc] at h; cases h

section
variable {X : Cx} {A : Around} {target : Expr}

/-- letOwnedTupleGo does nothing beside an iterator of another class -/
theorem wp_let_other {M : Model} {it : Addr} {v : Value} {o : Obj} {T : String} {vs : Array Value} {s : Shared} {Q : Unit → Shared → Prop} {E : Value → Shared → Prop} (ho : s.heap.get? it = some o) (hc : o.cls = .type T) (hd : o.data = .fields vs)
    (hT : ["enumerate", "zip", "dict_itemiterator", "dict_reverseitemiterator", "odict_iterator", "itertools.zip_longest", "itertools.pairwise"].contains T = false) (h : Q () s) :
    wpAny M A (letOwnedTupleGo target (.ref it) v) Q E s := by
  unfold letOwnedTupleGo
  split
  · split
    · rename_i r a heq
      cases heq
      refine wpAny_bind (wpAny_load ho ?_)
      rw [hc, hd]
      dsimp only
      rw [hT]
      simp only [Bool.false_and, Bool.false_eq_true, if_false]
      exact wpAny_pure h
    · exact wpAny_pure h
  · split
    · rename_i r a heq
      cases heq
      refine wpAny_bind (wpAny_load ho ?_)
      rw [hc, hd]
      dsimp only
      rw [hT]
      simp only [Bool.false_and, Bool.false_eq_true, if_false]
      exact wpAny_pure h
    · exact wpAny_pure h
  · exact wpAny_pure h

def listAt (a : Addr) (xs : List AV) (σ : AHeap) : Prop := σ a = some (.list xs) ∨ σ a = some (.rolist xs)
theorem At.isList {σ : AHeap} {s : Shared} (a : At X σ s) {b : Addr} {xs : List AV} (h : listAt b xs σ) : ∃ vs : List Value, s.heap.IsList b vs.toArray ∧ RepVs s.heap xs vs := by
  rcases h with h | h
  · obtain ⟨vs, n, e, r, _⟩ := a.rep b _ h; exact ⟨vs, ⟨_, e, rfl, n, rfl⟩, r⟩
  · obtain ⟨vs, e, r, _⟩ := a.rep b _ h; exact ⟨vs, e, r⟩
theorem At.len {σ : AHeap} {s : Shared} (a : At X σ s) {b : Addr} {xs : List AV} (h : listAt b xs σ) : xs.length ≤ 1000000 := by
  rcases h with h | h
  · obtain ⟨vs, n, e, r, hl⟩ := a.rep b _ h; exact hl
  · obtain ⟨vs, e, r, hl⟩ := a.rep b _ h; exact hl

theorem itOk_list (hh : A.handled = none) (it b : Addr) (xs : List AV) : ItOk X A target (.ref it) (listAt b xs) xs (fun c => c = it) (fun i h => h.IsListIter it b i) where
  stable := fun i h h' ⟨o, ho, r⟩ _ k => ⟨o, k _ _ rfl ho, r⟩
  there := fun i h c ⟨o, ho, hc, hd⟩ e => by subst e; exact ⟨o, ho, Plain.of_fields hc hd (by decide)⟩
  item := fun i x σ s Q Qn E hQn hx a hI hSt hW h => by
    obtain ⟨vs, hl, rv⟩ := a.isList hI
    obtain ⟨v, hv, r⟩ := rv.get hx
    obtain ⟨o, ho, hc, hd⟩ := id hSt
    have nW : NoStay (fun c => c = it) s.heap := fun c o' e e' => by subst e; rw [ho] at e'; cases e'; exact (Plain.of_fields hc hd (by decide)).1
    refine wpAny_pyNext_list_item hSt hl (by simpa using hv) fun h' hit' hs' => hQn v _ ?_
    obtain ⟨o', ho', hc', hd'⟩ := id hit'
    have hk : ∀ c o, ¬ c = it → s.heap.get? c = some o → h'.get? c = some o := fun c o hc e => (hs'.2 c hc).trans e
    have kv : KeepV s.heap h' := fun c o' e st => hk c o' (fun q => nW c o' q e st) e
    exact wp_let_other ho' hc' hd' (by decide) (h v { s with heap := h' } (r.mono kv) (a.moved (t := s.toks) hW nW hk) (Step.moved σ s.toks hk (Nat.le_of_eq hs'.1.symm)) hit')
  done := fun σ s Q E a hI hSt hW h => by
    obtain ⟨vs, hl, rv⟩ := a.isList hI
    obtain ⟨o, ho, hc, hd⟩ := id hSt
    have nW : NoStay (fun c => c = it) s.heap := fun c o' e e' => by subst e; rw [ho] at e'; cases e'; exact (Plain.of_fields hc hd (by decide)).1
    refine with_size (wpAny_pyNext_list_end hh hSt hl (by simp [rv.length]) fun h' he' hsz => ?_)
    have hk : ∀ c o, ¬ c = it → s.heap.get? c = some o → h'.get? c = some o := fun c o hc e => he' c o hc e
    exact h { s with heap := h' } (a.moved (t := s.toks) hW nW hk) (Step.moved σ s.toks hk hsz)
  self := fun i s Q E hSt h => wpAny_pyIter_listiter hSt h

theorem itOk_tuple (hh : A.handled = none) (it b : Addr) (xs : List AV) : ItOk X A target (.ref it) (fun _ => True) xs (fun c => c = it) (fun i h => h.IsTupleIter it b i ∧ ∃ vs : List Value, h.IsTuple b vs.toArray ∧ RepVs h xs vs) where
  stable := fun i h h' ⟨⟨o, ho, r⟩, vs, ⟨o2, ho2, hc2, n2, hd2⟩, rv⟩ kv k => ⟨⟨o, k _ _ rfl ho, r⟩, vs, ⟨o2, kv _ _ ho2 (.inl ⟨hc2, _, n2, hd2⟩), hc2, n2, hd2⟩, rv.mono kv⟩
  there := fun i h c ⟨⟨o, ho, hc, hd⟩, _⟩ e => by subst e; exact ⟨o, ho, Plain.of_fields hc hd (by decide)⟩
  item := fun i x σ s Q Qn E hQn hx a hI hSt hW h => by
    obtain ⟨hit, vs, hl, rv⟩ := hSt
    obtain ⟨v, hv, r⟩ := rv.get hx
    obtain ⟨o, ho, hc, hd⟩ := id hit
    have nW : NoStay (fun c => c = it) s.heap := fun c o' e e' => by subst e; rw [ho] at e'; cases e'; exact (Plain.of_fields hc hd (by decide)).1
    refine wpAny_pyNext_tuple_item hit hl (by simpa using hv) fun h' hit' hs' => hQn v _ ?_
    obtain ⟨o', ho', hc', hd'⟩ := id hit'
    have hk : ∀ c o, ¬ c = it → s.heap.get? c = some o → h'.get? c = some o := fun c o hc e => (hs'.2 c hc).trans e
    have kv : KeepV s.heap h' := fun c o' e st => hk c o' (fun q => nW c o' q e st) e
    obtain ⟨o2, ho2, hc2, n2, hd2⟩ := id hl
    exact wp_let_other ho' hc' hd' (by decide) (h v { s with heap := h' } (r.mono kv) (a.moved (t := s.toks) hW nW hk) (Step.moved σ s.toks hk (Nat.le_of_eq hs'.1.symm))
      ⟨hit', vs, ⟨o2, kv _ _ ho2 (.inl ⟨hc2, _, n2, hd2⟩), hc2, n2, hd2⟩, rv.mono kv⟩)
  done := fun σ s Q E a hI hSt hW h => by
    obtain ⟨hit, vs, hl, rv⟩ := hSt
    obtain ⟨o, ho, hc, hd⟩ := id hit
    have nW : NoStay (fun c => c = it) s.heap := fun c o' e e' => by subst e; rw [ho] at e'; cases e'; exact (Plain.of_fields hc hd (by decide)).1
    refine with_size (wpAny_pyNext_tuple_end hh hit hl (by simp [rv.length]) fun h' he' hsz => ?_)
    have hk : ∀ c o, ¬ c = it → s.heap.get? c = some o → h'.get? c = some o := fun c o hc e => he' c o hc e
    exact h { s with heap := h' } (a.moved (t := s.toks) hW nW hk) (Step.moved σ s.toks hk hsz)
  self := fun i s Q E hSt h => wpAny_pyIter_tupleiter hSt.1 h

/-- the intL from lo on, n of them -/
def intL (lo : Int) : Nat → List AV
  | 0 => []
  | n + 1 => .int lo :: intL (lo + 1) n
theorem intL_length : ∀ (n : Nat) (lo : Int), (intL lo n).length = n
  | 0, _ => rfl
  | n + 1, lo => by simp [intL, intL_length n]
theorem ints_get : ∀ (n : Nat) (lo : Int) (i : Nat), (intL lo n)[i]? = if i < n then some (.int (lo + i)) else none
  | 0, _, i => by simp [intL]
  | n + 1, lo, 0 => by simp [intL]
  | n + 1, lo, i + 1 => by
    simp only [intL, List.getElem?_cons_succ, ints_get n]
    have e : lo + 1 + (i : Int) = lo + ((i + 1 : Nat) : Int) := by lia
    by_cases h : i < n
    · have h' : i + 1 < n + 1 := by lia
      simp only [h, h', if_true, e]
    · have h' : ¬ i + 1 < n + 1 := by lia
      simp only [h, h', if_false]

theorem itOk_range (hh : A.handled = none) (it : Addr) (lo : Int) (n : Nat) : ItOk X A target (.ref it) (fun _ => True) (intL lo n) (fun c => c = it) (fun i h => IsRangeIter h it (lo + i) ((n : Int) - i) 1) where
  stable := fun i h h' ho _ k => k _ _ rfl ho
  there := fun i h c ho e => by subst e; exact ⟨_, ho, Plain.of_fields rfl rfl (by decide)⟩
  item := fun i x σ s Q Qn E hQn hx a hI hSt hW h => by
    rw [ints_get] at hx
    by_cases hi : i < n
    · simp only [hi, if_true, Option.some.injEq] at hx
      subst hx
      have nW : NoStay (fun c => c = it) s.heap := fun c o' e e' => by subst e; rw [hSt] at e'; cases e'; exact (Plain.of_fields (T := "range_iterator") rfl rfl (by decide)).1
      refine wpAny_pyNext_range_item hSt (by lia) fun h' hit' hs' => hQn _ _ ?_
      have hk : ∀ c o, ¬ c = it → s.heap.get? c = some o → h'.get? c = some o := fun c o hc e => (hs'.2 c hc).trans e
      have hit'' : IsRangeIter h' it (lo + ((i + 1 : Nat) : Int)) ((n : Int) - ((i + 1 : Nat) : Int)) 1 := by
        have e1 : lo + ((i + 1 : Nat) : Int) = lo + (i : Int) + 1 := by lia
        have e2 : (n : Int) - ((i + 1 : Nat) : Int) = (n : Int) - (i : Int) - 1 := by lia
        rw [e1, e2]; exact hit'
      exact wp_let_other hit' rfl rfl (by decide) (h _ { s with heap := h', toks := s.toks + 1 } (.int _ _) (a.moved (t := s.toks + 1) hW nW hk) (Step.moved σ (s.toks + 1) hk (Nat.le_of_eq hs'.1.symm)) hit'')
    · simp [hi] at hx
  done := fun σ s Q E a hI hSt hW h => by
    rw [intL_length] at hSt
    have nW : NoStay (fun c => c = it) s.heap := fun c o' e e' => by subst e; rw [hSt] at e'; cases e'; exact (Plain.of_fields (T := "range_iterator") rfl rfl (by decide)).1
    refine with_size (wpAny_pyNext_range_end hh hSt (by lia) fun h' he' hsz => ?_)
    have hk : ∀ c o, ¬ c = it → s.heap.get? c = some o → h'.get? c = some o := fun c o hc e => he' c o hc e
    exact h { s with heap := h' } (a.moved (t := s.toks) hW nW hk) (Step.moved σ s.toks hk hsz)
  self := fun i s Q E hSt h => wpAny_pyIter_rangeiter hSt h

/-- pairs of a place and an item -/
def enumL (k : Nat) : List AV → List AV
  | [] => []
  | x :: xs => .tup [.int k, x] :: enumL (k + 1) xs
theorem enumL_length : ∀ (xs : List AV) (k : Nat), (enumL k xs).length = xs.length
  | [], _ => rfl
  | _ :: xs, k => by simp [enumL, enumL_length xs]
theorem enumL_get : ∀ (xs : List AV) (k i : Nat), (enumL k xs)[i]? = xs[i]?.map fun x => .tup [.int ((k + i : Nat) : Int), x]
  | [], _, i => by simp [enumL]
  | x :: xs, k, 0 => by simp [enumL]
  | x :: xs, k, i + 1 => by
    simp only [enumL, List.getElem?_cons_succ, enumL_get xs]
    have : k + 1 + i = k + (i + 1) := by lia
    rw [this]

theorem itOk_enum (hh : A.handled = none) {elts : List Expr} {x1 : Nat} {pos : Pos} (e it b : Addr) (hne : e ≠ it) (xs : List AV) :
    ItOk X A (.Tuple elts x1 pos) (.ref e) (listAt b xs) (enumL 0 xs) (fun c => c = e ∨ c = it) (fun i h => h.IsListIter it b i ∧ ∃ old, IsEnum h e it i old) where
  stable := fun i h h' ⟨⟨o, ho, r⟩, old, he⟩ _ k => ⟨⟨o, k _ _ (.inr rfl) ho, r⟩, old, k _ _ (.inl rfl) he⟩
  there := fun i h c ⟨⟨o, ho, hc, hd⟩, old, he⟩ q => by
    rcases q with rfl | rfl
    · exact ⟨_, he, Plain.of_fields rfl rfl (by decide)⟩
    · exact ⟨o, ho, Plain.of_fields hc hd (by decide)⟩
  item := fun i x σ s Q Qn E hQn hx a hI hSt hW h => by
    obtain ⟨vs, hl, rv⟩ := a.isList hI
    rw [enumL_get] at hx
    obtain ⟨y, hy, rfl⟩ := Option.map_eq_some_iff.mp hx
    obtain ⟨v, hv, r⟩ := rv.get hy
    obtain ⟨hit, old, he⟩ := hSt
    obtain ⟨o, ho, hc, hd⟩ := id hit
    have nW : NoStay (fun c => c = e ∨ c = it) s.heap := fun c o' q e' => by
      rcases q with rfl | rfl
      · rw [he] at e'; cases e'; exact (Plain.of_fields (T := "enumerate") rfl rfl (by decide)).1
      · rw [ho] at e'; cases e'; exact (Plain.of_fields hc hd (by decide)).1
    refine wpAny_pyNext_enum_item he hit hl (by simpa using hv) hne fun h' he' hit' htup hsz hk => hQn _ _ ?_
    refine wpAny_letOwnedTupleGo_enum he' fun h'' he'' hs'' => ?_
    have hk' : ∀ c o, ¬ (c = e ∨ c = it) → s.heap.get? c = some o → h''.get? c = some o := fun c o hc eo => by
      have h1 : c ≠ e := fun q => hc (.inl q)
      have h2 : c ≠ it := fun q => hc (.inr q)
      exact (hs''.2 c h1).trans (hk c o h1 h2 eo)
    have kv : KeepV s.heap h'' := fun c o' e st => hk' c o' (fun q => nW c o' q e st) e
    have hes : s.heap.objs.size ≠ e := Nat.ne_of_gt (Heap.lt_size he)
    have hit'' : h''.IsListIter it b (i + 1) := by
      obtain ⟨o3, ho3, r3⟩ := hit'
      exact ⟨o3, (hs''.2 it (Ne.symm hne)).trans ho3, r3⟩
    refine h (.ref s.heap.objs.size) { s with heap := h'', toks := s.toks + 1 } (.tup (vs := [.int i s.toks, v]) (by simp) ⟨_, (hs''.2 _ hes).trans htup, rfl, 0, rfl⟩ (.cons ?_ (.cons (r.mono kv) .nil)))
      (a.moved (t := s.toks + 1) hW nW hk') (Step.moved σ (s.toks + 1) hk' (by rw [hs''.1, hsz]; lia)) ⟨hit'', v, ?_⟩
    · have : ((0 + i : Nat) : Int) = (i : Int) := by lia
      rw [this]; exact .int _ _
    · have : ((i + 1 : Nat) : Int) = (i : Int) + 1 := by lia
      rw [this]; exact he''
  done := fun σ s Q E a hI hSt hW h => by
    obtain ⟨vs, hl, rv⟩ := a.isList hI
    rw [enumL_length] at hSt
    obtain ⟨hit, old, he⟩ := hSt
    obtain ⟨o, ho, hc, hd⟩ := id hit
    have nW : NoStay (fun c => c = e ∨ c = it) s.heap := fun c o' q e' => by
      rcases q with rfl | rfl
      · rw [he] at e'; cases e'; exact (Plain.of_fields (T := "enumerate") rfl rfl (by decide)).1
      · rw [ho] at e'; cases e'; exact (Plain.of_fields hc hd (by decide)).1
    refine with_size (wpAny_pyNext_enum_end hh he hit hl (by simp [rv.length]) fun h' he' hsz => ?_)
    have hk : ∀ c o, ¬ (c = e ∨ c = it) → s.heap.get? c = some o → h'.get? c = some o := fun c o hc e => he' c o (fun q => hc (.inr q)) e
    exact h { s with heap := h' } (a.moved (t := s.toks) hW nW hk) (Step.moved σ s.toks hk hsz)
  self := fun i s Q E hSt h => by
    obtain ⟨_, old, he⟩ := hSt
    exact wpAny_pyIter_enum he h
end
end Mine

set_option maxRecDepth 100000
set_option linter.unusedVariables false
namespace Mine
open PySem PyProof.Rows

/-- the cells that a comprehension closes over -/
def clo (cells : List (Str × Addr)) : List (Str × NameKind) → List (Str × Addr) → List (Str × Addr)
  | [], acc => acc
  | (x, k) :: r, acc => if k == .free then (match cells.lookup x with | some c => clo cells r ((x, c) :: acc) | none => clo cells r acc) else clo cells r acc

theorem clo_closure {env : Env} : ∀ (names : List (Str × NameKind)) (acc : List (Str × Addr)) (f : Str × NameKind → List (Str × Addr) → Sem (ForInStep (List (Str × Addr)))),
    (∀ n k cs, f (n, k) cs = if k == .free then (do let c ← cellOf env n; pure (.yield ((n, c) :: cs))) else pure (.yield cs)) →
    (∀ x, (x, NameKind.free) ∈ names → (env.cells.lookup x).isSome = true) → (forIn names acc f : Sem (List (Str × Addr))) = pure (clo env.cells names acc)
  | [], acc, f, hf, h => rfl
  | (x, k) :: r, acc, f, hf, h => by
    rw [List.forIn_cons, hf]
    unfold clo
    by_cases hk : (k == NameKind.free) = true
    · have hk' : k = .free := by simpa using hk
      obtain ⟨c, hc⟩ := Option.isSome_iff_exists.mp (h x (by rw [hk']; exact List.mem_cons_self))
      simp only [hk, if_true, hc]
      have : cellOf env x = pure c := by unfold cellOf; rw [hc]
      rw [this]
      show (forIn r ((x, c) :: acc) f : Sem _) = _
      exact clo_closure r _ f hf fun y hy => h y (List.mem_cons_of_mem _ hy)
    · simp only [hk, Bool.false_eq_true, if_false]
      show (forIn r acc f : Sem _) = _
      exact clo_closure r _ f hf fun y hy => h y (List.mem_cons_of_mem _ hy)

theorem closureFor_clo {scope : Scope} {env : Env} (h : ∀ x, (x, NameKind.free) ∈ scope.names → (env.cells.lookup x).isSome = true) : closureFor scope env = pure (clo env.cells scope.names []) := by
  unfold closureFor
  simp only [bind_pure_comp]
  show (do let r ← forIn scope.names [] _; pure r) = _
  rw [clo_closure (env := env) scope.names [] _ (fun n k cs => ?_) h]
  · rfl
  · simp

theorem clo_mem {cells : List (Str × Addr)} : ∀ (names : List (Str × NameKind)) (acc : List (Str × Addr)) {x : Str} {c : Addr}, (x, c) ∈ clo cells names acc → (x, c) ∈ acc ∨ (cells.lookup x = some c ∧ (x, NameKind.free) ∈ names)
  | [], acc, x, c, h => .inl h
  | (y, k) :: r, acc, x, c, h => by
    unfold clo at h
    by_cases hk : (k == NameKind.free) = true
    · simp only [hk, if_true] at h
      have hk' : k = .free := by simpa using hk
      cases hy : cells.lookup y with
      | none => rw [hy] at h; exact (clo_mem r acc h).imp id fun q => ⟨q.1, List.mem_cons_of_mem _ q.2⟩
      | some d =>
        rw [hy] at h
        rcases clo_mem r _ h with q | q
        · rcases List.mem_cons.mp q with e | q
          · cases e; exact .inr ⟨hy, by rw [hk']; exact List.mem_cons_self⟩
          · exact .inl q
        · exact .inr ⟨q.1, List.mem_cons_of_mem _ q.2⟩
    · simp only [hk, Bool.false_eq_true, if_false] at h
      exact (clo_mem r acc h).imp id fun q => ⟨q.1, List.mem_cons_of_mem _ q.2⟩

theorem clo_sub {cells : List (Str × Addr)} : ∀ (names : List (Str × NameKind)) (acc : List (Str × Addr)) {p : Str × Addr}, p ∈ acc → p ∈ clo cells names acc
  | [], acc, p, h => h
  | (y, k) :: r, acc, p, h => by
    unfold clo
    by_cases hk : (k == NameKind.free) = true
    · simp only [hk, if_true]
      cases hy : cells.lookup y with
      | none => exact clo_sub r acc h
      | some d => exact clo_sub r _ (List.mem_cons_of_mem _ h)
    · simp only [hk, Bool.false_eq_true, if_false]; exact clo_sub r acc h
theorem clo_mem_of {cells : List (Str × Addr)} : ∀ (names : List (Str × NameKind)) (acc : List (Str × Addr)) {x : Str} {c : Addr}, (x, NameKind.free) ∈ names → cells.lookup x = some c → (x, c) ∈ clo cells names acc
  | (y, k) :: r, acc, x, c, h, hc => by
    unfold clo
    rcases List.mem_cons.mp h with e | h
    · cases e
      simp only [beq_self_eq_true, if_true, hc]
      exact clo_sub r _ List.mem_cons_self
    · by_cases hk : (k == NameKind.free) = true
      · simp only [hk, if_true]
        cases hy : cells.lookup y with
        | none => exact clo_mem_of r acc h hc
        | some d => exact clo_mem_of r _ h hc
      · simp only [hk, Bool.false_eq_true, if_false]; exact clo_mem_of r acc h hc

theorem clo_apart {cells : List (Str × Addr)} (hp : cells.Pairwise fun x y => x.2 ≠ y.2) : ∀ (names : List (Str × NameKind)) (acc : List (Str × Addr)), (names.map (·.1)).Nodup → (∀ x c, (x, c) ∈ acc → cells.lookup x = some c ∧ x ∉ names.map (·.1)) →
    (acc.Pairwise fun x y => x.2 ≠ y.2) → (clo cells names acc).Pairwise fun x y => x.2 ≠ y.2
  | [], acc, _, _, h => h
  | (y, k) :: r, acc, hn, ha, h => by
    have hn' := List.nodup_cons.mp hn
    have ha' : ∀ x c, (x, c) ∈ acc → cells.lookup x = some c ∧ x ∉ r.map (·.1) := fun x c hx => ⟨(ha x c hx).1, fun q => (ha x c hx).2 (List.mem_cons_of_mem _ q)⟩
    unfold clo
    by_cases hk : (k == NameKind.free) = true
    · simp only [hk, if_true]
      cases hy : cells.lookup y with
      | none => exact clo_apart hp r acc hn'.2 ha' h
      | some d =>
        refine clo_apart hp r _ hn'.2 (fun x c hx => ?_) (List.pairwise_cons.mpr ⟨fun p hp' e => ?_, h⟩)
        · rcases List.mem_cons.mp hx with e | hx
          · cases e; exact ⟨hy, hn'.1⟩
          · exact ha' x c hx
        · obtain ⟨x, c⟩ := p
          have h1 := (ha x c hp').1
          have e' : d = c := e
          subst e'
          have := name_of_addr hp (mem_of_lookup hy) (mem_of_lookup h1)
          subst this
          exact (ha _ _ hp').2 List.mem_cons_self
    · simp only [hk, Bool.false_eq_true, if_false]; exact clo_apart hp r acc hn'.2 ha' h

/-- how a comprehension's scope hangs together with the names around it -/
structure CompOk (sc : List (Str × NameKind)) (nm : List (Str × Nat)) (N : Nat) (names : List (Str × NameKind)) (nm' : List (Str × Nat)) (k : Nat) : Prop where
  nodup : (names.map (·.1)).Nodup
  kinds : ∀ x kd, (x, kd) ∈ names → kd = .local ∨ kd = .globalImplicit ∨ (kd = .free ∧ sc.lookup x = some .cell ∧ ∃ i, nm.lookup x = some i ∧ nm'.lookup x = some i)
  vars : ∀ x i, nm'.lookup x = some i → (names.lookup x = some .local ∧ N ≤ i ∧ i < N + k) ∨ (names.lookup x = some .free ∧ nm.lookup x = some i)
  inj : ∀ x y i, nm'.lookup x = some i → nm'.lookup y = some i → x = y
  len : lenOf nm' = N + k

theorem mem_of_lookup' {α : Type} : ∀ {l : List (Str × α)} {n : Str} {c : α}, l.lookup n = some c → (n, c) ∈ l := mem_of_lookup
theorem lookup_of_nodup {α : Type} : ∀ {l : List (Str × α)} {n : Str} {c : α}, (l.map (·.1)).Nodup → (n, c) ∈ l → l.lookup n = some c
  | (k, v) :: r, n, c, hn, h => by
    have hn' := List.nodup_cons.mp hn
    rw [List.lookup_cons]
    rcases List.mem_cons.mp h with e | h
    · cases e; simp
    · have : (n == k) = false := by
        cases hb : n == k with
        | false => rfl
        | true => rw [beq_iff_eq.mp hb] at h; exact absurd (List.mem_map_of_mem (f := (·.1)) h) hn'.1
      rw [this]; exact lookup_of_nodup hn'.2 h

section
variable {X : Cx} {env : Env} {nm nm' : List (Str × Nat)} {l : Loc} {σ : AHeap} {s : Shared} {scope : Scope} {N k : Nat}

/-- the kinds of names inside -/
theorem relabel_kind (EO : EnvOk env) (CK : CompOk env.scope.names nm N scope.names nm' k) (cl : List (Str × Addr)) (C : Addr) (x : Str) :
    (scope.names.lookup x = some .local → (compEnvC scope cl C env).kindOf x = some .local) ∧ (scope.names.lookup x = some .free → (compEnvC scope cl C env).kindOf x = some .cell) := by
  have gen : ∀ (names : List (Str × NameKind)), (∀ x, (x, NameKind.free) ∈ names → env.kindOf x = some .cell) →
      (names.lookup x = some .local → (names.map fun (n, k) => if (k == NameKind.free && env.scope.kind == .function && env.kindOf n == some .cell) then (n, NameKind.cell) else (n, k)).lookup x = some .local) ∧
      (names.lookup x = some .free → (names.map fun (n, k) => if (k == NameKind.free && env.scope.kind == .function && env.kindOf n == some .cell) then (n, NameKind.cell) else (n, k)).lookup x = some .cell) := by
    intro names
    induction names with
    | nil => intro _; exact ⟨fun h => by simp at h, fun h => by simp at h⟩
    | cons p r ih =>
      intro hk
      obtain ⟨n, kd⟩ := p
      have ih' := ih fun y hy => hk y (List.mem_cons_of_mem _ hy)
      simp only [List.map_cons, List.lookup_cons]
      by_cases hx : (x == n) = true
      · have hxn := beq_iff_eq.mp hx
        subst hxn
        simp only [beq_self_eq_true]
        refine ⟨fun h => ?_, fun h => ?_⟩
        · cases h; simp
        · cases h
          have := hk x List.mem_cons_self
          simp [EO.kind, this]
      · have hx' : (x == n) = false := by simpa using hx
        simp only [hx']
        by_cases hc : (kd == NameKind.free && env.scope.kind == .function && env.kindOf n == some .cell) = true
        · rw [if_pos hc, List.lookup_cons, hx']; exact ih'
        · rw [if_neg hc, List.lookup_cons, hx']; exact ih'
  refine gen scope.names fun y hy => ?_
  rcases CK.kinds y .free hy with h | h | ⟨_, h, _⟩
  · cases h
  · cases h
  · exact h

theorem CompOk.closure (F : FR X env nm l σ s.heap) (CK : CompOk env.scope.names nm N scope.names nm' k) : ∀ x, (x, NameKind.free) ∈ scope.names → (env.cells.lookup x).isSome = true := fun x hx => by
  rcases CK.kinds x .free hx with h | h | ⟨_, h, i, hi, _⟩
  · cases h
  · cases h
  · obtain ⟨c, v, hc, _⟩ := F.cell x i hi h
    rw [hc]; rfl

theorem envOk_comp (EO : EnvOk env) (CK : CompOk env.scope.names nm N scope.names nm' k) (hk : scope.kind = .function) (C : Addr) : EnvOk (compEnvC scope (clo env.cells scope.names []) C env) where
  kind := hk
  glob := EO.glob
  bi := EO.bi
  apart := clo_apart EO.apart _ _ CK.nodup (fun _ _ h => nomatch h) .nil

/-- the frame inside -/
theorem fr_comp (EO : EnvOk env) (F : FR X env nm l σ s.heap) (hl : l.length = N) (CK : CompOk env.scope.names nm N scope.names nm' k) {h' : Heap} {C : Addr} (hk : ∀ b o, s.heap.get? b = some o → h'.get? b = some o)
    (hC : h'.Ns C fun _ => none) (hσC : σ C = none) (hCnew : X.h₀.get? C = none) :
    FR X (compEnvC scope (clo env.cells scope.names []) C env) nm' (l ++ List.replicate k none) σ h' := by
  have kv : KeepV s.heap h' := fun b o e _ => hk b o e
  refine ⟨⟨_, hC, fun x i hx hkx => ?_⟩, fun x i hx hkx => ?_, ⟨hσC, hCnew⟩, ⟨fun x i hx => ?_, CK.inj⟩, by rw [List.length_append, List.length_replicate, hl, CK.len], fun x c hx => ?_⟩
  · rcases CK.vars x i hx with ⟨_, h1, h2⟩ | ⟨h1, _⟩
    · have : (l ++ List.replicate k none).getD i none = none := by
        rw [List.getD_eq_getElem?_getD, List.getElem?_append_right (by lia), List.getElem?_replicate]
        split <;> rfl
      rw [this]; trivial
    · rw [(relabel_kind EO CK _ C x).2 h1] at hkx; cases hkx
  · rcases CK.vars x i hx with ⟨h1, _⟩ | ⟨h1, h2⟩
    · rw [(relabel_kind EO CK _ C x).1 h1] at hkx; cases hkx
    · have hm := mem_of_lookup' h1
      rcases CK.kinds x .free hm with h | h | ⟨_, h, _⟩
      · cases h
      · cases h
      · obtain ⟨c, v, hc, hcc, hr⟩ := F.cell x i h2 h
        refine ⟨c, v, ?_, hcc.keeps hk, ?_⟩
        · have h3 : (x, c) ∈ clo env.cells scope.names [] := clo_mem_of _ _ hm hc
          cases h4 : (clo env.cells scope.names []).lookup x with
          | none =>
            exfalso
            have := List.lookup_eq_none_iff.mp h4 (x, c) h3
            simp at this
          | some c' =>
            rcases clo_mem _ _ (mem_of_lookup' h4) with q | ⟨q, _⟩
            · cases q
            · rw [hc] at q; cases q; exact h4
        · have hi : i < l.length := F.nmok.1 x i h2
          rw [List.getD_eq_getElem?_getD, List.getElem?_append_left hi, ← List.getD_eq_getElem?_getD]
          exact hr.mono kv
  · rw [List.length_append, List.length_replicate, hl]
    rcases CK.vars x i hx with ⟨_, h1, h2⟩ | ⟨_, h2⟩
    · lia
    · have := F.nmok.1 x i h2; lia
  · rcases clo_mem _ _ hx with q | ⟨q, _⟩
    · cases q
    · obtain ⟨h1, h2, v, h3⟩ := F.outc x c (mem_of_lookup' q)
      exact ⟨h1, h2, v, h3.keeps hk⟩
end
end Mine

set_option maxRecDepth 100000
set_option linter.unusedVariables false
namespace Mine
open PySem PyProof.Rows

/-- the test of a comprehension, if there is one -/
def testA (c : Option AE) (d : Nat) (l : Loc) (Q : Bool → AHeap → Prop) (σ : AHeap) : Prop :=
  match c with
  | none => Q true σ
  | some m => m d l (isB Q) (fun _ _ => False) σ

def compL (I : AHeap → Prop) (t : Tgt) (c : Option AE) (elt : AE) (d : Nat) (Q : List AV → AHeap → Prop) : List AV → List AV → Loc → AHeap → Prop
  | [], acc, l, σ => Q acc σ
  | x :: xs, acc, l, σ => ∃ l', bindT t x l = some l' ∧ testA c d l' (fun ok σ1 => if ok then elt d l' (fun v σ2 => I σ2 ∧ acc.length < 1000000 ∧ compL I t c elt d Q xs (acc ++ [v]) l' σ2) (fun _ _ => False) σ1
      else I σ1 ∧ compL I t c elt d Q xs acc l' σ1) σ

def SoundC (X : Cx) (env : Env) (nm : List (Str × Nat)) : List Expr → Option AE → Prop
  | [], none => True
  | [e], some m => SoundB X env nm e m
  | _, _ => False

theorem noStay_list (vs : List Value) (n : Nat) : ¬ Stays (listObj vs n) := by
  rintro (⟨h, _⟩ | ⟨h, _⟩ | ⟨_, _, h, _⟩) <;> simp [listObj] at h

theorem ltA {h : Heap} {a : Nat} {o : Obj} (e : h.get? a = some o) : a < h.objs.size := Heap.lt_size e
theorem neA {a b : Nat} (h : ¬ a = b) : ¬ a = b := h
theorem leA {a b : Nat} (h : a ≤ b) : a ≤ b := h

section
variable {X : Cx} {A : Around}

theorem code_compLoop {elt target iter : Expr} {ifs : List Expr} {scope : Scope} {pos : Pos} {it acc : Value} {env : Env} {R : Result → Shared → Prop} {s : Shared} (J : Nat → Shared → Prop)
    (turn : ∀ n s, J n s → wpAny X.M A (pyNext it) (fun r s₁ => match r with
      | none => R (.ok .next) s₁
      | some v => wpAny X.M A (letOwnedTupleGo target it v) (fun _ s₁' => wpAny X.M A (assign target env v) (fun _ s₂ =>
          wpAny X.M A (forIn ifs true fun c r => if r = true then do let ok ← isTrue c env (eval c env); pure (ForInStep.yield ok) else pure (ForInStep.yield r)) (fun ok s₃ =>
            if ok = true then wpAny X.M A (eval elt env) (fun x s₄ => wpAny X.M A (call (.builtin "list.append") [acc, x]) (fun _ s₅ => ∃ m, m < n ∧ J m s₅) (fun _ _ => False) s₄) (fun _ _ => False) s₃
            else ∃ m, m < n ∧ J m s₃) (fun _ _ => False) s₂) (fun _ _ => False) s₁') (fun _ _ => False) s₁) (fun _ _ => False) s)
    (n : Nat) (h : J n s) : codeAny X.M A (.compLoop (.ListComp elt [⟨target, iter, ifs, 0⟩] scope pos) 0 it acc env) R s := by
  refine codeAny_loop rfl J (fun n s hI => ?_) n h
  show wpAny _ A ((compTurn (.ListComp elt [⟨target, iter, ifs, 0⟩] scope pos) 0 it acc env).onRaise (fun x => do noteFrame x env; theTreesLotGoes x)) _ _ s
  refine wpAny_noted ?_
  rw [compTurn_list]
  refine wpAny_bind (wpAny_standAt (wpAny_bind (wpAny_mono (turn n s hI) (fun r s₁ h₁ => ?_) fun _ _ h' => h'.elim)))
  cases r with
  | none => exact wpAny_pure h₁
  | some v =>
    refine wpAny_bind (wpAny_mono h₁ (fun _ s₁' h₁' => ?_) fun _ _ h' => h'.elim)
    refine wpAny_bind (wpAny_mono h₁' (fun _ s₂ h₂ => wpAny_bind (wpAny_mono h₂ (fun ok s₃ h₃ => ?_) fun _ _ h' => h'.elim)) fun _ _ h' => h'.elim)
    cases ok with
    | false => exact wpAny_pure ⟨rfl, h₃⟩
    | true =>
      exact wpAny_bind (wpAny_bind (wpAny_mono h₃ (fun x s₄ h₄ => wpAny_bind (wpAny_mono h₄ (fun _ s₅ h₅ => wpAny_pure (wpAny_pure ⟨rfl, h₅⟩)) fun _ _ h' => h'.elim)) fun _ _ h' => h'.elim))

theorem tests_sound {env : Env} {nm : List (Str × Nat)} {ifs : List Expr} {c : Option AE} {d : Nat} {l : Loc} {σ : AHeap} {s : Shared} {Q : Bool → AHeap → Prop} {R : Bool → Shared → Prop} (hc : SoundC X env nm ifs c) (L : Live d A) (a : At X σ s) (F : FR X env nm l σ s.heap)
    (h : testA c d l Q σ) (k : ∀ b s', liftB X σ s Q b s' → R b s') :
    wpAny X.M A (forIn ifs true fun c r => if r = true then do let ok ← isTrue c env (eval c env); pure (ForInStep.yield ok) else pure (ForInStep.yield r)) R (fun _ _ => False) s := by
  match ifs, c, hc with
  | [], none, _ => exact wpAny_tests_nil (k _ _ ⟨σ, a, .refl .., h⟩)
  | [e], some m, hc => exact wpAny_tests_one (wpAny_mono (hc d A l σ s Q (fun _ _ => False) L a F h) (fun b s' x => k b s' x) fun _ _ x => noX x)

/-- in a comprehension stores go to its own names alone -/
def SoundTC (X : Cx) (env : Env) (nm : List (Str × Nat)) (target : Expr) (t : Tgt) : Prop :=
  ∀ d A l l' σ s x v (Q : Unit → Shared → Prop) E, Live d A → At X σ s → FR X env nm l σ s.heap → RepV s.heap x v → bindT t x l = some l' →
    (∀ s', FR X env nm l' σ s'.heap → At X σ s' → Step (fun b => b = env.locals) σ s σ s' → Q () s') → wpAny X.M A (assign target env v) Q E s

theorem comp_core {env : Env} {nm nm' : List (Str × Nat)} {l : Loc} {σ : AHeap} {s : Shared} {N k d : Nat} {elt target iter : Expr} {ifs : List Expr} {scope : Scope} {pos : Pos} {it : Value} {I : AHeap → Prop} {xs : List AV} {W : Addr → Prop}
    {St : Nat → Heap → Prop} {t : Tgt} {c : Option AE} {m : AE} {Q : List AV → AHeap → Prop} {RR : Value → Addr → Result → Shared → Prop} {E : Value → Shared → Prop}
    (EO : EnvOk env) (L : Live d A) (a : At X σ s) (F : FR X env nm l σ s.heap) (hl : l.length = N) (CK : CompOk env.scope.names nm N scope.names nm' k) (hk : scope.kind = .function)
    (IT : ItOk X A target it I xs W St) (hSt : St 0 s.heap) (hW : ∀ b, W b → σ b = none ∧ X.h₀.get? b = none) (hI : I σ)
    (ht : ∀ C, SoundTC X (compEnvC scope (clo env.cells scope.names []) C env) nm' target t) (hc : ∀ C, SoundC X (compEnvC scope (clo env.cells scope.names []) C env) nm' ifs c) (hm : ∀ C, SoundE X (compEnvC scope (clo env.cells scope.names []) C env) nm' elt m)
    (h : compL I t c m d Q xs [] (l ++ List.replicate k none) σ)
    (hRR : ∀ D C s' σ' acc mC, s.heap.objs.size ≤ D → s.heap.objs.size ≤ C → D ≠ C → σ' D = none → σ' C = none → s'.heap.Ns C mC → At X (σ'.set D (.list acc)) s' → Step W σ s (σ'.set D (.list acc)) s' → Q acc σ' → RR (.ref D) C (.ok .next) s') :
    wpAny X.M A (newList []) (fun acc s₃ => wpAny X.M A (newFunctionEnv scope env.globals (clo env.cells scope.names []) [] env.qual none .none (some env)) (fun cenv s₄ =>
      codeAny X.M A (.compStart (.ListComp elt [⟨target, iter, ifs, 0⟩] scope pos) 0 it acc { cenv with scope := relabel scope env }) (RR acc cenv.locals) s₄) E s₃) E s := by
  have hcell : ∀ y ∈ scope.names, y.2 ≠ .cell := fun y hy e => by
    obtain ⟨x, kd⟩ := y
    rcases CK.kinds x kd hy with h | h | ⟨h, _⟩ <;> (dsimp only at e; rw [h] at e; cases e)
  refine wpAny_newObj_type (wpAny_newFunctionEnv hcell (by intro y hy; simp at hy) (fun h₁ hns₁ hsb₁ => ?_) hk)
  dsimp only at hns₁ hsb₁ ⊢
  generalize hH2 : s.heap.push { cls := .type "list", dict := none, data := .seq ([] : List Value).toArray } = H2 at hns₁ hsb₁ ⊢
  generalize hDD : s.heap.objs.size = D
  generalize hCC : H2.objs.size = C at hns₁ hsb₁ ⊢
  have hCD : C = D + 1 := by rw [← hCC, ← hH2, Heap.size_push, hDD]
  have old : ∀ b o, s.heap.get? b = some o → h₁.get? b = some o := fun b o e => by
    have hb := ltA e
    exact hsb₁.extBut b o (neA (by lia)) (Heap.get?_push_of_some _ (hH2 ▸ Heap.get?_push_of_some _ e))
  have hDobj : h₁.get? D = some (listObj [] 0) := by
    refine hsb₁.extBut _ _ (neA (by lia)) (Heap.get?_push_of_some _ ?_)
    rw [← hH2, ← hDD]; exact Heap.get?_push_size _ rfl
  have hσ : ∀ b, D ≤ b → σ b = none := fun b hb => a.none_of_size (by rw [hDD]; exact hb)
  have hh₀ : ∀ b, D ≤ b → X.h₀.get? b = none := fun b hb => by
    cases e : X.h₀.get? b with
    | none => rfl
    | some o => have := ltA (a.keep b o e); lia
  generalize hs1 : ({ s with heap := h₁, toks := s.toks + ([] : List (Str × Value)).length } : Shared) = s1
  have hs1h : s1.heap = h₁ := by rw [← hs1]
  have hsz1 : s1.heap.objs.size = C + 1 := by rw [hs1h, hsb₁.1]; simp [hCC]
  have kv1 : KeepV s.heap s1.heap := fun b o e _ => by rw [hs1h]; exact old b o e
  have a1 : At X σ s1 := by
    refine ⟨fun b o e => by rw [hs1h]; exact old b o (a.keep b o e), fun b ao e => (a.rep b ao e).mono kv1 fun o ho => by rw [hs1h]; exact old b o ho, a.own, ?_, ?_⟩
    · rw [← hs1]; exact a.gens
    · rw [← hs1]; exact a.os
  have F1 := fr_comp (X := X) EO F hl CK (h' := s1.heap) (C := C) (fun b o e => by rw [hs1h]; exact old b o e) (by rw [hs1h]; exact hns₁) (hσ C (by lia)) (hh₀ C (by lia))
  have hSt1 : St 0 s1.heap := IT.stable _ _ _ hSt kv1 fun b o _ e => by rw [hs1h]; exact old b o e
  let W' : Addr → Prop := fun b => W b ∨ D ≤ b
  have st1 : Step W' σ s σ s1 := ⟨fun b o e _ _ => by rw [hs1h]; exact old b o e, fun b h1 h2 => absurd h2 h1, by rw [hsz1, hDD]; lia⟩
  have loop : codeAny X.M A (.compLoop (.ListComp elt [⟨target, iter, ifs, 0⟩] scope pos) 0 it (.ref D) (compEnvC scope (clo env.cells scope.names []) C env)) (RR (.ref D) C) s1 := by
    refine code_compLoop (fun j s2 => ∃ i l2 σ2 acc ys n, j = xs.length + 1 - i ∧ i ≤ xs.length ∧ At X σ2 s2 ∧ FR X (compEnvC scope (clo env.cells scope.names []) C env) nm' l2 σ2 s2.heap ∧ Step W' σ s σ2 s2 ∧ I σ2 ∧ St i s2.heap ∧
      (∀ b, W b → σ2 b = none ∧ X.h₀.get? b = none) ∧ σ2 D = none ∧ s2.heap.get? D = some (listObj ys n) ∧ RepVs s2.heap acc ys ∧ acc.length ≤ 1000000 ∧ C < s2.heap.objs.size ∧ compL I t c m d Q (xs.drop i) acc l2 σ2) ?_ (xs.length + 1)
      ⟨0, _, σ, [], [], 0, rfl, Nat.zero_le _, a1, F1, st1, hI, hSt1, hW, hσ D (Nat.le_refl _), by rw [hs1h]; exact hDobj, .nil, Nat.zero_le _, by lia, h⟩
    rintro j s2 ⟨i, l2, σ2, acc, ys, n, rfl, hi, a2, F2, st2, hI2, hSt2, hW2, hD2, hDo, rys, hacc2, hC2, hf⟩
    have noW : NoStay W s2.heap := fun b o hb e => by obtain ⟨o', e', h', _⟩ := IT.there i _ b hSt2 hb; rw [e] at e'; cases e'; exact h'
    have dis : ∀ b, FB (compEnvC scope (clo env.cells scope.names []) C env) b → ¬ W b := fun b hb hw => by
      obtain ⟨o', e', _, h1, h2⟩ := IT.there i _ b hSt2 hw
      rcases hb with hb | ⟨x, hx⟩
      · obtain ⟨_, ⟨o, es, ep, ho, hd, _⟩, _⟩ := F2.ns
        rw [← hb, e'] at ho; cases ho; exact h1 _ _ hd
      · obtain ⟨_, _, v, o, ho, hd⟩ := F2.outc x b hx
        rw [ho] at e'; cases e'; exact h2 _ hd
    have disD : ¬ W D := fun hw => by
      obtain ⟨o', e', _⟩ := IT.there 0 _ D hSt hw
      have := ltA e'; lia
    have hDF : ¬ FB (compEnvC scope (clo env.cells scope.names []) C env) D := fun hb => by
      rcases hb with h | ⟨x, hx⟩
      · have h : D = C := h
        lia
      · obtain ⟨_, _, v, o, ho, hd⟩ := F2.outc x D hx
        rw [hDo] at ho; cases ho; cases hd
    cases hx : xs[i]? with
    | none =>
      have hil : i = xs.length := Nat.le_antisymm hi (List.getElem?_eq_none_iff.mp hx)
      subst hil
      refine IT.done σ2 s2 _ _ a2 hI2 hSt2 hW2 fun s3 a3 st3 => ?_
      rw [List.drop_length] at hf
      obtain ⟨mC, hmC, _⟩ := (F2.stepB a2 st3 dis noW).ns
      have hDo3 : s3.heap.get? D = some (listObj ys n) := st3.keep _ _ hDo hD2 disD
      have kv3 : KeepV s2.heap s3.heap := st3.keepV a2 noW
      have a3' : At X (σ2.set D (.list acc)) s3 := by
        refine ⟨a3.keep, fun b ao e => ?_, fun b ao e hro => ?_, a3.gens, a3.os⟩
        · by_cases hb : b = D
          · subst hb; rw [AHeap.set_self] at e; cases e; exact ⟨ys, n, hDo3, rys.mono kv3, hacc2⟩
          · rw [AHeap.set_ne _ _ hb] at e; exact a3.rep b ao e
        · by_cases hb : b = D
          · subst hb; exact hh₀ _ (Nat.le_refl _)
          · rw [AHeap.set_ne _ _ hb] at e; exact a3.own b ao e hro
      have st3' : Step W' σ s σ2 s3 := st2.trans (st3.weaken fun b hb => .inl hb)
      have stF : Step W σ s (σ2.set D (.list acc)) s3 := by
        have := st3'.drop (B := W) fun b hb => hb.imp id fun q => by rw [hDD]; exact q
        refine ⟨this.keep, fun b h1 h2 => ?_, this.size⟩
        by_cases hb : b = D
        · rw [hb, hDD]; exact Nat.le_refl _
        · rw [AHeap.set_ne _ _ hb] at h1; exact this.fresh b h1 h2
      exact hRR D C s3 σ2 acc mC (by lia) (by lia) (by lia) hD2 F2.out.1 hmC a3' stF hf
    | some x =>
      have hlt : i < xs.length := (List.getElem?_eq_some_iff.mp hx).1
      have hd : xs.drop i = x :: xs.drop (i + 1) := by rw [List.drop_eq_getElem_cons hlt, (List.getElem?_eq_some_iff.mp hx).2]
      rw [hd] at hf
      obtain ⟨l3, hb3, hf⟩ := hf
      refine IT.item i x σ2 s2 _ _ _ (fun v s3 hr => hr) hx a2 hI2 hSt2 hW2 fun v s3 rv a3 st3 hSt3 => ?_
      have F3 := F2.stepB a2 st3 dis noW
      have hDo3 : s3.heap.get? D = some (listObj ys n) := st3.keep _ _ hDo hD2 disD
      have rys3 := rys.mono (st3.keepV a2 noW)
      refine ht C d A l2 l3 σ2 s3 x v _ _ L a3 F3 rv hb3 fun s4 F4 a4 st4 => ?_
      have noC : NoStay (fun b => b = C) s3.heap := fun b o hb e => F3.noStay b o (.inl hb) e
      have hDo4 : s4.heap.get? D = some (listObj ys n) := st4.keep _ _ hDo3 hD2 (by show ¬ D = C; lia)
      have rys4 := rys3.mono (st4.keepV a3 noC)
      have hSt4 : St (i + 1) s4.heap := IT.stable _ _ _ hSt3 (st4.keepV a3 noC) fun b o hb e => st4.keep b o e (hW2 b hb).1 fun q => dis b (.inl q) hb
      refine tests_sound (hc C) L a4 F4 hf fun ok s5 hpx => ?_
      obtain ⟨σ5, a5, st5, q5⟩ := hpx
      have hD5 : σ5 D = none := by
        cases e : σ5 D with
        | none => rfl
        | some ao => exact absurd (st5.fresh D (by rw [e]; simp) hD2) (Nat.not_le.mpr (Heap.lt_size hDo4))
      have F5 := F4.step a4 st5
      have hDo5 : s5.heap.get? D = some (listObj ys n) := st5.keep _ _ hDo4 hD2 id
      have rys5 := rys4.mono (st5.keepV0 a4)
      have out5 : ∀ b, W b → σ5 b = none ∧ X.h₀.get? b = none := fun b hb => ⟨by
        obtain ⟨o, ho, _⟩ := IT.there _ _ b hSt4 hb
        cases e : σ5 b with
        | none => rfl
        | some ao => exact absurd (st5.fresh b (by rw [e]; simp) (hW2 b hb).1) (Nat.not_le.mpr (Heap.lt_size ho)), (hW2 b hb).2⟩
      have hSt5 : St (i + 1) s5.heap := IT.stable _ _ _ hSt4 (st5.keepV0 a4) fun b o hb e => st5.keep b o e (hW2 b hb).1 id
      have stA5 : Step W' σ s σ5 s5 := st2.trans ((st3.weaken fun b hb => .inl hb).trans ((st4.weaken fun b hb => .inr (leA (by have hb : @Eq Nat b C := hb; lia))).trans (st5.weaken fun b hb => hb.elim)))
      have hC5 : C < s5.heap.objs.size := Nat.lt_of_lt_of_le hC2 (Nat.le_trans st3.size (Nat.le_trans st4.size st5.size))
      cases ok with
      | false =>
        simp only [Bool.false_eq_true, if_false] at q5 ⊢
        exact ⟨xs.length + 1 - (i + 1), by lia, i + 1, l3, σ5, acc, ys, n, rfl, hlt, a5, F5, stA5, q5.1, hSt5, out5, hD5, hDo5, rys5, hacc2, hC5, q5.2⟩
      | true =>
        simp only [if_true] at q5 ⊢
        refine wpAny_mono (hm C d A l3 σ5 s5 _ _ L a5 F5 q5) (fun y s6 hpx => ?_) fun _ _ x => noX x
        obtain ⟨av, σ6, r6, a6, st6, hI6, hsz6, hf6⟩ := hpx
        have hD6 : σ6 D = none := by
          cases e : σ6 D with
          | none => rfl
          | some ao => exact absurd (st6.fresh D (by rw [e]; simp) hD5) (Nat.not_le.mpr (Heap.lt_size hDo5))
        have F6 := F5.step a5 st6
        have hDo6 : s6.heap.get? D = some (listObj ys n) := st6.keep _ _ hDo5 hD5 id
        have rys6 := rys5.mono (st6.keepV0 a5)
        have hSt6 : St (i + 1) s6.heap := IT.stable _ _ _ hSt5 (st6.keepV0 a5) fun b o hb e => st6.keep b o e (out5 b hb).1 id
        have out6 : ∀ b, W b → σ6 b = none ∧ X.h₀.get? b = none := fun b hb => ⟨by
          obtain ⟨o, ho, _⟩ := IT.there _ _ b hSt5 hb
          cases e : σ6 b with
          | none => rfl
          | some ao => exact absurd (st6.fresh b (by rw [e]; simp) (out5 b hb).1) (Nat.not_le.mpr (Heap.lt_size ho)), (hW2 b hb).2⟩
        refine wpAny_list_append_plain (items := ys.toArray) ⟨n, hDo6⟩ (fun h7 ⟨n7, hl7⟩ hs7 => ?_) (by
          have := rys6.length; rw [sizeLine_eq]; simp; lia)
        have kv7 : KeepV s6.heap h7 := fun b o e stb => by
          have hb : b ≠ D := by rintro rfl; rw [hDo6] at e; cases e; exact noStay_list _ _ stb
          exact (hs7.2 b hb).trans e
        have a7 : At X σ6 { s6 with heap := h7 } := a6.aside (t := s6.toks) (h' := h7) hD6 (hh₀ D (Nat.le_refl _)) (fun o e => by rw [hDo6] at e; cases e; exact noStay_list _ _) hs7
        have st7 : Step (fun b => b = D) σ6 s6 σ6 { s6 with heap := h7 } := Step.aside (t := s6.toks) (h' := h7) rfl hs7
        have noD : NoStay (fun b => b = D) s6.heap := fun b o hb e => by subst hb; rw [hDo6] at e; cases e; exact noStay_list _ _
        have F7 := F6.stepB a6 st7 (fun b hb q => hDF (q ▸ hb)) noD
        refine ⟨xs.length + 1 - (i + 1), by lia, i + 1, l3, σ6, acc ++ [av], ys ++ [y], n7, rfl, hlt, a7, F7, stA5.trans ((st6.weaken fun b hb => hb.elim).trans (st7.weaken fun b hb => .inr (leA (by have hb : @Eq Nat b D := hb; lia)))), hI6,
          IT.stable _ _ _ hSt6 kv7 fun b o hb e => (hs7.2 b fun q => disD (q ▸ hb)).trans e, out6, hD6, ?_, (rys6.mono kv7).append (.cons (r6.mono kv7) .nil), by rw [List.length_append]; exact hsz6, ?_, hf6⟩
        · have : (ys.toArray.push y) = (ys ++ [y]).toArray := by simp
          rw [this] at hl7; exact hl7
        · show C < h7.objs.size
          rw [hs7.1]; exact Nat.lt_of_lt_of_le hC5 st6.size
  show codeAny X.M A (.compStart (.ListComp elt [⟨target, iter, ifs, 0⟩] scope pos) 0 it (.ref D) (compEnvC scope (clo env.cells scope.names []) C env)) (RR (.ref D) C) s1
  exact codeAny_compStart_list loop (IT.self 0 s1 _ _ hSt1 loop)
end
end Mine

set_option maxRecDepth 100000
set_option linter.unusedVariables false
namespace Mine
open PySem PyProof.Rows

def resR (X : Cx) (σ : AHeap) (s : Shared) (Q : Post) (Z : XP) : Result → Shared → Prop := fun r s' => match r with
  | .ok (.ret v) => liftQ X σ s Q v s'
  | .ok _ => False
  | .error e => liftX X σ s Z e s'

/-- a call of the function at f -/
def CallOk (X : Cx) (f : Addr) (d : Nat) (args : List AV) (Q : Post) (Z : XP) (σ : AHeap) : Prop :=
  ∀ A s vs, Live d A → At X σ s → RepVs s.heap args vs → codeAny X.M A (.call (.ref f) ⟨vs, []⟩) (resR X σ s Q Z) s

structure FnOk (X : Cx) (f : Addr) (ps : List Str) (body : List Stmt) (scope : Scope) : Prop where
  ex : ∃ o fd, X.h₀.get? f = some o ∧ o.data = .func fd ∧ fd.scope = scope ∧ fd.body = .stmts body ∧ fd.closure = [] ∧ fd.globals = mainGlobals ∧ fd.builtins = builtinsNs ∧ X.h₀.CodeRec fd.code fd.qualname ∧
    ∀ vs, vs.length = ps.length → bindArgs fd ⟨vs, []⟩ = pure (ps.zip vs)

/-- names by number: the parameters first -/
structure NamesOk (names : List (Str × NameKind)) (nm : List (Str × Nat)) (ps : List Str) (N : Nat) : Prop where
  nodup : (names.map (·.1)).Nodup
  kinds : ∀ x i, nm.lookup x = some i → i < N ∧ (names.lookup x = some .local ∨ names.lookup x = some .cell)
  inj : ∀ x y i, nm.lookup x = some i → nm.lookup y = some i → x = y
  par : ∀ x i, nm.lookup x = some i → ∀ p, ps[i]? = some p → p = x
  par' : ∀ (i : Nat) p, ps[i]? = some p → nm.lookup p = some i
  le : ps.length ≤ N
  len : lenOf nm = N
  psnd : ps.Nodup

theorem cellsFrom_has {x : Str} : ∀ (names : List (Str × NameKind)) (n : Nat) (acc : List (Str × Addr)), names.lookup x = some .cell ∨ (acc.lookup x).isSome = true → ((cellsFrom n names acc).lookup x).isSome = true
  | [], _, _, h => h.elim (fun e => by simp at e) id
  | (y, k) :: r, n, acc, h => by
    unfold cellsFrom
    by_cases hk : (k == .cell) = true
    · rw [if_pos hk]
      refine cellsFrom_has r (n + 1) ((y, n) :: acc) ?_
      by_cases hy : (x == y) = true
      · exact .inr (by rw [List.lookup_cons, hy]; rfl)
      · have hy' : (x == y) = false := by simpa using hy
        refine h.imp (fun e => ?_) fun e => ?_
        · rw [List.lookup_cons, hy'] at e; exact e
        · rw [List.lookup_cons, hy']; exact e
    · rw [if_neg hk]
      refine cellsFrom_has r n acc ?_
      by_cases hy : (x == y) = true
      · refine .inr (h.elim (fun e => ?_) id)
        rw [List.lookup_cons, hy] at e
        cases e; simp at hk
      · have hy' : (x == y) = false := by simpa using hy
        refine h.imp (fun e => ?_) id
        rw [List.lookup_cons, hy'] at e; exact e

theorem cellsFrom_keys : ∀ (names : List (Str × NameKind)) (n : Nat) (acc : List (Str × Addr)), (names.map (·.1)).Nodup → (acc.map (·.1)).Nodup → (∀ x, x ∈ acc.map (·.1) → x ∉ names.map (·.1)) → ((cellsFrom n names acc).map (·.1)).Nodup
  | [], _, _, _, h, _ => h
  | (y, k) :: r, n, acc, hn, ha, hd => by
    have hn' := List.nodup_cons.mp hn
    unfold cellsFrom
    split
    · refine cellsFrom_keys r _ _ hn'.2 (List.nodup_cons.mpr ⟨fun q => hd y q List.mem_cons_self, ha⟩) fun x hx q => ?_
      rcases List.mem_cons.mp hx with e | hx
      · subst e; exact hn'.1 q
      · exact hd x hx (List.mem_cons_of_mem _ q)
    · exact cellsFrom_keys r _ _ hn'.2 ha fun x hx q => hd x hx (List.mem_cons_of_mem _ q)

theorem bindL_at {kindOf : Str → Option NameKind} {x : Str} (hx : kindOf x = some .local) : ∀ (binds : List (Str × Value)) (m : Str → Option Value), (binds.map (·.1)).Nodup → bindL kindOf binds m x = (binds.lookup x).or (m x)
  | [], m, _ => by simp [bindL]
  | (y, v) :: r, m, hn => by
    have hn' := List.nodup_cons.mp hn
    unfold bindL
    rw [bindL_at hx r _ hn'.2, List.lookup_cons]
    by_cases hy : (x == y) = true
    · have e := beq_iff_eq.mp hy
      subst e
      have : r.lookup x = none := by
        cases h : r.lookup x with
        | none => rfl
        | some c => exact absurd (List.mem_map_of_mem (f := (·.1)) (mem_of_lookup h)) hn'.1
      rw [this]; simp [hx]
    · have hy' : (x == y) = false := by simpa using hy
      have hne : x ≠ y := by simpa using hy
      simp only [hy']
      split
      · simp [hne]
      · rfl
theorem bindC_at {kindOf : Str → Option NameKind} {x : Str} (hx : kindOf x = some .cell) : ∀ (binds : List (Str × Value)) (m : Str → Option Value), (binds.map (·.1)).Nodup → bindC kindOf binds m x = (binds.lookup x).or (m x)
  | [], m, _ => by simp [bindC]
  | (y, v) :: r, m, hn => by
    have hn' := List.nodup_cons.mp hn
    unfold bindC
    rw [bindC_at hx r _ hn'.2, List.lookup_cons]
    by_cases hy : (x == y) = true
    · have e := beq_iff_eq.mp hy
      subst e
      have : r.lookup x = none := by
        cases h : r.lookup x with
        | none => rfl
        | some c => exact absurd (List.mem_map_of_mem (f := (·.1)) (mem_of_lookup h)) hn'.1
      rw [this]; simp [hx]
    · have hy' : (x == y) = false := by simpa using hy
      have hne : x ≠ y := by simpa using hy
      simp only [hy']
      split
      · rfl
      · simp [hne]

theorem zip_lookup {ps : List Str} : ∀ {vs : List Value} {i : Nat} {x : Str}, ps.Nodup → ps.length = vs.length → ps[i]? = some x → (ps.zip vs).lookup x = vs[i]? := by
  induction ps with
  | nil => intro vs i x _ _ h; cases h
  | cons p ps ih =>
    intro vs i x hn hl h
    cases vs with
    | nil => cases hl
    | cons v vs =>
      cases i with
      | zero => simp at h; subst h; simp
      | succ i =>
        have hn' := List.nodup_cons.mp hn
        rw [List.getElem?_cons_succ] at h
        have hne : (x == p) = false := by
          cases hb : x == p with
          | false => rfl
          | true => rw [beq_iff_eq.mp hb] at h; exact absurd (List.mem_of_getElem? h) hn'.1
        rw [List.zip_cons_cons, List.lookup_cons, hne, List.getElem?_cons_succ]
        exact ih hn'.2 (Nat.succ.inj hl) h
theorem zip_lookup_none : ∀ {ps : List Str} {vs : List Value} {x : Str}, x ∉ ps → (ps.zip vs).lookup x = none
  | [], _, x, _ => by simp
  | p :: ps, [], x, _ => by simp
  | p :: ps, v :: vs, x, h => by
    have hne : (x == p) = false := by
      cases hb : x == p with
      | false => rfl
      | true => rw [beq_iff_eq.mp hb] at h; exact absurd List.mem_cons_self h
    simp only [List.zip_cons_cons, List.lookup_cons, hne]
    exact zip_lookup_none fun q => h (List.mem_cons_of_mem _ q)

def loc0 (args : List AV) (N : Nat) : Loc := args.map some ++ List.replicate (N - args.length) none
theorem loc0_get (args : List AV) (N i : Nat) : (loc0 args N).getD i none = args[i]? := by
  unfold loc0
  rw [List.getD_eq_getElem?_getD]
  by_cases h : i < args.length
  · rw [List.getElem?_append_left (by simpa using h), List.getElem?_map]
    rw [List.getElem?_eq_getElem h]; rfl
  · rw [List.getElem?_append_right (by simpa using Nat.not_lt.mp h), List.getElem?_replicate, List.getElem?_eq_none (Nat.not_lt.mp h)]
    split <;> rfl

def retOf : Fl → AV
  | .next => .none
  | .ret v => v

theorem RepVs.getO {h : Heap} : ∀ {xs vs}, RepVs h xs vs → ∀ (i : Nat), RepO h xs[i]? vs[i]?
  | _, _, .nil, i => by simp; trivial
  | _, _, .cons a _, 0 => a
  | _, _, .cons _ r, i + 1 => by simpa using r.getO i

section
variable {X : Cx}

/-- a call, by its body: nothing is raised -/
theorem callOk_of {f : Addr} {ps : List Str} {body : List Stmt} {scope : Scope} {nm : List (Str × Nat)} {N d : Nat} {m : AS} {args : List AV} {Q : Post} {Z : XP} {σ : AHeap} (XO : X.Ok) (FN : FnOk X f ps body scope) (NO : NamesOk scope.names nm ps N)
    (hk : scope.kind = .function) (hco : scope.isCoroutine = false) (hgen : scope.isGenerator = false) (hs : ∀ env, EnvOk env → env.scope = scope → SoundSs X env nm body m) (hd : d < 600) (hlen : args.length = ps.length)
    (h : m (d + 1) (loc0 args N) (fun fl _ σ' => Q (retOf fl) σ') (fun _ _ _ => False) σ) : CallOk X f d args Q Z σ := by
  intro A s vs L a rv
  obtain ⟨o, fd, ho, hfd, hsc, hbd, hcl, hgl, hbi, hcd, hbind⟩ := FN.ex
  have hvl : vs.length = ps.length := by rw [← rv.length]; exact hlen
  have hps : ps.Nodup := NO.psnd
  have hbn : ((ps.zip vs).map (·.1)).Nodup := by
    have : (ps.zip vs).map (·.1) = ps := by
      rw [List.map_fst_zip]; lia
    rw [this]; exact hps
  subst hsc
  refine codeAny_call_function (fd := fd) (by have := L.depth; have := L.small; show A.depth < 1000; lia) (a.keep _ _ ho) hfd hco hgen hbd (hcd.keeps a.keep) ?_
  rw [hbind vs hvl, hcl, hgl, hbi]
  refine wpAny_pure (wpAny_newFunctionEnv_cells hk (fun x hx => ?_) fun env he s1 IC => ?_)
  · have hm : x.1 ∈ ps := by
      have := List.mem_map_of_mem (f := (·.1)) hx
      rwa [List.map_fst_zip (by lia)] at this
    obtain ⟨i, hi⟩ := List.mem_iff_getElem?.mp hm
    rcases (NO.kinds x.1 i (NO.par' i _ hi)).2 with q | q
    · exact .inl q
    · exact .inr ⟨q, cellsFrom_has _ _ _ (.inl q)⟩
  subst he
  generalize henv : newEnv fd.scope s.heap.objs.size mainGlobals (cellsFrom (s.heap.objs.size + 1) fd.scope.names []) (fd.qualname ++ ".<locals>.") (some f) fd.code none builtinsNs = env at IC ⊢
  have eL : env.locals = s.heap.objs.size := by rw [← henv]; rfl
  have eC : env.cells = cellsFrom (s.heap.objs.size + 1) fd.scope.names [] := by rw [← henv]; rfl
  have eS : env.scope = fd.scope := by rw [← henv]; rfl
  have eK : ∀ x, env.kindOf x = fd.scope.names.lookup x := fun x => by unfold Env.kindOf; rw [eS]
  have EO : EnvOk env := ⟨by rw [eS]; exact hk, by rw [← henv]; rfl, by rw [← henv]; rfl, IC.apart⟩
  have keep := IC.toInCall.keep
  obtain ⟨h1, tk, hs1⟩ := IC.toInCall.same
  have kv : KeepV s.heap s1.heap := fun b o e _ => keep b o e
  have a1 : At X σ s1 := ⟨fun b o e => keep b o (a.keep b o e), fun b ao e => (a.rep b ao e).mono kv fun o ho => keep b o ho, a.own, by rw [hs1]; exact a.gens, by rw [hs1]; exact a.os⟩
  have cnd : (env.cells.map (·.1)).Nodup := by rw [eC]; exact cellsFrom_keys _ _ _ NO.nodup .nil fun x hx => by simp at hx
  have new : ∀ c : Nat, s.heap.objs.size ≤ c → σ c = none ∧ X.h₀.get? c = none := fun c hc => ⟨a.none_of_size hc, by
    cases e : X.h₀.get? c with
    | none => rfl
    | some o => have := ltA (a.keep c o e); lia⟩
  have val : ∀ x i, nm.lookup x = some i → RepO s1.heap ((loc0 args N).getD i none) ((ps.zip vs).lookup x) := fun x i hx => by
    rw [loc0_get]
    by_cases hi : i < ps.length
    · have hp : ps[i]? = some ps[i] := List.getElem?_eq_getElem hi
      have hpx := NO.par x i hx _ hp
      rw [← hpx, zip_lookup hps (by lia) hp]
      exact (rv.getO i).mono kv
    · have : x ∉ ps := fun q => by
        obtain ⟨j, hj⟩ := List.mem_iff_getElem?.mp q
        have h2 := NO.par' j x hj
        rw [hx] at h2; cases h2
        exact hi (List.getElem?_eq_some_iff.mp hj).1
      rw [zip_lookup_none this, List.getElem?_eq_none (by lia)]
      trivial
  have F1 : FR X env nm (loc0 args N) σ s1.heap := by
    refine ⟨⟨_, IC.toInCall.ns, fun x i hx hkx => ?_⟩, fun x i hx hkx => ?_, by rw [eL]; exact new _ (Nat.le_refl _), ⟨fun x i hx => ?_, NO.inj⟩, ?_, fun x c hx => ?_⟩
    · rw [bindL_at hkx _ _ hbn, Option.or_none]; exact val x i hx
    · have hsome := cellsFrom_has (x := x) fd.scope.names (s.heap.objs.size + 1) [] (.inl (by rw [← eK]; exact hkx))
      rw [← eC] at hsome
      obtain ⟨c, hc⟩ := Option.isSome_iff_exists.mp hsome
      refine ⟨c, _, hc, IC.cell x c hc, ?_⟩
      rw [bindC_at hkx _ _ hbn, Option.or_none]; exact val x i hx
    · have := (NO.kinds x i hx).1
      have hle := NO.le
      unfold loc0
      rw [List.length_append, List.length_map, List.length_replicate]; lia
    · have hle := NO.le
      unfold loc0
      rw [List.length_append, List.length_map, List.length_replicate, NO.len]; lia
    · have hc := IC.above x c hx
      rw [eL] at hc
      have hc' : s.heap.objs.size ≤ c := Nat.le_of_lt hc
      exact ⟨(new c hc').1, (new c hc').2, _, IC.cell x c (lookup_of_nodup cnd hx)⟩
  refine ⟨XO.nolimit.keeps fun b o e => keep b o (a.keep b o e), ?_⟩
  refine code_size (codeAny_func ?_)
  have L1 : Live (d + 1) (A.deeper env) := ⟨by have := L.depth; show A.depth + 1 ≤ _; lia, by have := L.units; show A.units + 3 ≤ _; lia, L.handled, hd⟩
  have szL : s.heap.objs.size < s1.heap.objs.size := by
    have := IC.toInCall.ns.lt; rw [eL] at this; exact this
  refine wpAny_mono (hs env EO eS (d + 1) (A.deeper env) _ σ s1 _ _ L1 a1 F1 h) (fun fl s2 ⟨afl, l2, σ2, r2, a2, F2, st2, q2⟩ hsz => ?_) fun _ _ x => noSX x
  have st : Step E0 σ s σ2 s2 := by
    have st0 : Step (FB env) σ s σ s1 := ⟨fun b o e _ _ => keep b o e, fun _ h1 h2 => absurd h2 h1, Nat.le_of_lt szL⟩
    refine (st0.trans st2).drop fun b hb => ?_
    rcases hb with hb | ⟨x, hx⟩
    · rw [eL] at hb; rw [hb]; exact .inr (Nat.le_refl _)
    · have hc := IC.above x b hx
      rw [eL] at hc
      exact .inr (Nat.le_of_lt hc)
  refine ⟨retOf afl, σ2, ?_, a2, st, q2⟩
  cases fl with
  | next => cases afl with
    | next => exact RepV.none
    | ret v => exact r2.elim
  | ret v => cases afl with
    | next => exact r2.elim
    | ret av => exact r2
  | brk => cases afl <;> exact r2.elim
  | cont => cases afl <;> exact r2.elim
end
end Mine

set_option maxRecDepth 100000
set_option linter.unusedVariables false
namespace Mine
open PySem PyProof.Rows

def evalL : List AE → Nat → Loc → (List AV → AHeap → Prop) → XP → AHeap → Prop
  | [], _, _, Q, _, σ => Q [] σ
  | m :: ms, d, l, Q, Z, σ => m d l (fun a σ1 => evalL ms d l (fun as σ2 => Q (a :: as) σ2) Z σ1) Z σ

def notStar : Expr → Bool
  | .Starred .. => false
  | _ => true
theorem starEach_cons {e : Expr} {rest : List Expr} {env : Env} (h : notStar e = true) : starEach (e :: rest) env = (false, eval e env) :: starEach rest env := by
  cases e <;> first | rfl | (simp [notStar] at h)

inductive SoundEs (X : Cx) (env : Env) (nm : List (Str × Nat)) : List Expr → List AE → Prop
  | nil : SoundEs X env nm [] []
  | cons {e es m ms} : notStar e = true → SoundE X env nm e m → SoundEs X env nm es ms → SoundEs X env nm (e :: es) (m :: ms)

section
variable {X : Cx} {env : Env} {nm : List (Str × Nat)}

theorem SoundEs.plain {pos : Pos} {es : List Expr} {ms : List AE} (h : SoundEs X env nm es ms) : (backTo pos (starEach es env)).any (·.1) = false := by
  induction h with
  | nil => rfl
  | cons hs _ r ih =>
    rw [starEach_cons hs]
    show (false || (backTo pos (starEach _ env)).any (·.1)) = false
    rw [ih]; rfl

theorem sound_spliced {pos : Pos} {es ms} (h0 : SoundEs X env nm es ms) : ∀ {d A l σ s Q Z}, Live d A → At X σ s → FR X env nm l σ s.heap → evalL ms d l Q Z σ →
    wpAny X.M A (spliced (backTo pos (starEach es env))) (liftL X σ s Q) (liftX X σ s Z) s := by
  induction h0 with
  | nil => intro d A l σ s Q Z L a F q; exact wpAny_pure ⟨[], σ, .nil, a, .refl .., q⟩
  | @cons e es m ms hs he r ih =>
    intro d A l σ s Q Z L a F q
    rw [starEach_cons hs]
    show wpAny X.M A (spliced ((false, eval e env) :: backTo pos (starEach es env))) _ _ s
    refine Calls.spliced_cons (seqQ (he d A l σ s _ Z L a F q) fun av v σ1 s1 rv a1 st1 q1 => ?_)
    refine wpAny_mono (ih L a1 (F.step a st1) q1) (fun vs s2 x => ?_) fun _ _ x => x.back st1
    obtain ⟨avs, σ2, rvs, a2, st2, q2⟩ := x
    exact ⟨av :: avs, σ2, .cons (rv.mono (st2.keepV0 a1)) rvs, a2, st1.trans st2, q2⟩

/-- arguments -/
theorem sound_args {f : Value} {pos : Pos} {es ms} (h : SoundEs X env nm es ms) {d A l σ s Q Z} (L : Live d A) (a : At X σ s) (F : FR X env nm l σ s.heap) (q : evalL ms d l Q Z σ) {R : Args → Shared → Prop}
    (k : ∀ vs s', liftL X σ s Q vs s' → R ⟨vs, []⟩ s') : wpAny X.M A (evalArgs f true (backTo pos (starEach es env)) []) R (liftX X σ s Z) s := by
  cases h with
  | nil => exact PyProof.Rows.evalArgs_none (k [] s ⟨[], σ, .nil, a, .refl .., q⟩)
  | cons hs he r =>
    have := sound_spliced (pos := pos) (.cons hs he r) L a F q
    rw [starEach_cons hs] at this ⊢
    exact Calls.evalArgs_plain (wpAny_mono this (fun vs s' x => k vs s' x) fun _ _ x => x)
end

namespace A
def tup (xs : List AE) : AE := fun d l Q Z σ => evalL xs d l (fun as σ' => as.length ≤ 1000000 ∧ Q (.tup as) σ') Z σ
def lst (xs : List AE) : AE := fun d l Q Z σ => evalL xs d l (fun as σ' => as.length ≤ 1000000 ∧ ∀ r, σ' r = none → Q (.ref r) (σ'.set r (.list as))) Z σ
/-- a call of a def of the text -/
def call (X : Cx) (g : Str) (args : List AE) : AE := fun d l Q Z σ => ∃ f, X.mg g = some (.ref f) ∧ (∃ o fd, X.h₀.get? f = some o ∧ o.data = .func fd) ∧ evalL args d l (fun as σ' => CallOk X f d as Q Z σ') Z σ
end A

section
variable {X : Cx} {env : Env} {nm : List (Str × Nat)}

theorem newTuple_sound {A : Around} {σ : AHeap} {s : Shared} {Q : Post} {E} {as : List AV} {vs : List Value} (a : At X σ s) (r : RepVs s.heap as vs) (hl : as.length ≤ 1000000) (q : Q (.tup as) σ) : wpAny X.M A (newTuple vs) (liftQ X σ s Q) E s := by
  refine wpAny_newObj_type ?_ (by show vs.toArray.size ≤ sizeLine; rw [List.size_toArray, ← r.length, sizeLine_eq]; lia)
  have kv : KeepV s.heap (s.heap.push { cls := .type "tuple", data := .seq vs.toArray }) := fun b o e _ => Heap.get?_push_of_some _ e
  exact ⟨.tup as, σ, .tup hl ⟨_, Heap.get?_push_size _ rfl, rfl, 0, rfl⟩ (r.mono kv), a.push _ s.toks, Step.push σ s _ s.toks, q⟩
theorem newList_sound {A : Around} {σ : AHeap} {s : Shared} {Q : Post} {E} {as : List AV} {vs : List Value} (a : At X σ s) (r : RepVs s.heap as vs) (hl : as.length ≤ 1000000) (q : ∀ r, σ r = none → Q (.ref r) (σ.set r (.list as))) :
    wpAny X.M A (newList vs) (liftQ X σ s Q) E s := by
  refine wpAny_newObj_type ?_ (by show vs.toArray.size ≤ sizeLine; rw [List.size_toArray, ← r.length, sizeLine_eq]; lia)
  have kv : KeepV s.heap (s.heap.push { cls := .type "list", data := .seq vs.toArray }) := fun b o e _ => Heap.get?_push_of_some _ e
  exact ⟨.ref s.heap.objs.size, _, .ref _, a.alloc (ao := .list as) s.toks ⟨vs, 0, Heap.get?_push_size _ rfl, r.mono kv, hl⟩, Step.alloc σ s _ _ s.toks, q _ (a.none_of_size (Nat.le_refl _))⟩

theorem sound_tup {es : List Expr} {ms : List AE} {k : Nat} {pos : Pos} (h : SoundEs X env nm es ms) : SoundE X env nm (.Tuple es k pos) (A.tup ms) := fun d A l σ s Q Z L a F q =>
  Tuple_ (wpAny_mono (sound_spliced h L a F q) (fun vs s1 ⟨avs, σ1, r, a1, st, hl, q1⟩ => backQ st (newTuple_sound a1 r hl q1)) fun _ _ x => x)
theorem sound_lst {es : List Expr} {ms : List AE} {pos : Pos} (h : SoundEs X env nm es ms) : SoundE X env nm (.List es pos) (A.lst ms) := fun d A l σ s Q Z L a F q =>
  List_ (wpAny_mono (sound_spliced h L a F q) (fun vs s1 ⟨avs, σ1, r, a1, st, hl, q1⟩ => backQ st (newList_sound a1 r hl q1)) fun _ _ x => x)

/-- a global name -/
theorem wp_global {A : Around} {s : Shared} {σ : AHeap} {x : Str} {pos : Pos} {v : Value} {Q : Value → Shared → Prop} {E} (XO : X.Ok) (EO : EnvOk env) (a : At X σ s) (hx : env.kindOf x = some .globalImplicit) (hd : (x == ("__debug__" : Str)) = false)
    (hv : X.mg x = some v) (h : Q v s) : wpAny X.M A (eval (.Name x pos) env) Q E s :=
  Calls.Name_function_global EO.kind hx (Calls.loadGlobal_global (by rw [EO.glob]; exact XO.g.keeps a.keep) hv h) hd
theorem wp_builtin {A : Around} {s : Shared} {σ : AHeap} {x : Str} {pos : Pos} {v : Value} {Q : Value → Shared → Prop} {E} (XO : X.Ok) (EO : EnvOk env) (a : At X σ s) (hx : env.kindOf x = some .globalImplicit) (hd : (x == ("__debug__" : Str)) = false)
    (hn : X.mg x = none) (hv : X.mb x = some v) (h : Q v s) : wpAny X.M A (eval (.Name x pos) env) Q E s :=
  Calls.Name_function_global EO.kind hx (Calls.loadGlobal_builtin (by rw [EO.glob]; exact XO.g.keeps a.keep) hn (by rw [EO.bi]; exact XO.b.keeps a.keep) hv h) hd

theorem CallOk.call {A : Around} {σ : AHeap} {s : Shared} {f : Addr} {d : Nat} {args : List AV} {Q : Post} {Z : XP} {vs : List Value} (h : CallOk X f d args Q Z σ) (L : Live d A) (a : At X σ s) (r : RepVs s.heap args vs) :
    wpAny X.M A (PySem.call (.ref f) vs []) (liftQ X σ s Q) (liftX X σ s Z) s := wpAny_call (codeAny_mono (h A s vs L a r) fun res s' x => x)

theorem sound_call {g : Str} {es : List Expr} {ms : List AE} {gp pos : Pos} (XO : X.Ok) (EO : EnvOk env) (hx : env.kindOf g = some .globalImplicit) (hd : (g == ("__debug__" : Str)) = false) (h : SoundEs X env nm es ms) :
    SoundE X env nm (.Call (.Name g gp) es [] pos) (A.call X g ms) := fun d A l σ s Q Z L a F hq => by
  obtain ⟨f, hf, ⟨o, fd, ho, hfd⟩, q⟩ := hq
  refine Call_ (wp_global XO EO a hx hd hf ?_)
  refine callWith_function_kw (o := o) (fd := fd) (sound_args h L a F q fun vs s1 ⟨avs, σ1, r, a1, st, q1⟩ => ⟨⟨a1.keep _ _ ho, hfd⟩, ?_⟩)
  exact backQ st (q1.call L a1 r)
end
end Mine

set_option maxRecDepth 100000
set_option linter.unusedVariables false
namespace Mine
open PySem PyProof.Rows

/-- one factor is short -/
def MulOk (i j : Int) : Prop := i.natAbs < 2 ^ 60 ∨ j.natAbs < 2 ^ 60

inductive binA : Operator → AV → AV → Post → AHeap → Prop
  | add {i j : Int} {Q : Post} {σ : AHeap} (h : Q (.int (i + j)) σ) : binA .Add (.int i) (.int j) Q σ
  | addT {xs ys : List AV} {Q : Post} {σ : AHeap} (hl : xs.length + ys.length ≤ 1000000) (h : Q (.tup (xs ++ ys)) σ) : binA .Add (.tup xs) (.tup ys) Q σ
  | addL {p q : Addr} {xs ys : List AV} {Q : Post} {σ : AHeap} (h1 : listAt p xs σ) (h2 : listAt q ys σ) (hl : xs.length + ys.length ≤ 1000000) (h : ∀ r, σ r = none → Q (.ref r) (σ.set r (.list (xs ++ ys)))) : binA .Add (.ref p) (.ref q) Q σ
  | sub {i j : Int} {Q : Post} {σ : AHeap} (h : Q (.int (i - j)) σ) : binA .Sub (.int i) (.int j) Q σ
  | mul {i j : Int} {Q : Post} {σ : AHeap} (hm : MulOk i j) (h : Q (.int (i * j)) σ) : binA .Mult (.int i) (.int j) Q σ
  | div {i j : Int} {Q : Post} {σ : AHeap} (h0 : j ≠ 0) (h1 : j.natAbs < 1073741824) (h : Q (.int (i.fdiv j)) σ) : binA .FloorDiv (.int i) (.int j) Q σ
  | mod {i j : Int} {Q : Post} {σ : AHeap} (h0 : j ≠ 0) (h : Q (.int (i.fmod j)) σ) : binA .Mod (.int i) (.int j) Q σ
  | pow {i j : Int} {Q : Post} {σ : AHeap} (h0 : 0 ≤ j) (h1 : j ≤ 1000) (h2 : i.natAbs < 2 ^ 64) (h : Q (.int (i ^ j.toNat)) σ) : binA .Pow (.int i) (.int j) Q σ

section
variable {X : Cx} {A : Around} {σ : AHeap} {s : Shared} {Q : Post} {E : Value → Shared → Prop}

theorem bits_of_natAbs {i : Int} (h : i.natAbs < 2 ^ 60) : Builtin.Int.intBits i ≤ 64 := by
  unfold Builtin.Int.intBits
  split
  · lia
  · rename_i h0
    have : i.natAbs.log2 < 60 := (Nat.log2_lt (by intro e; simp [Int.natAbs_eq_zero] at e; subst e; simp at h0)).mpr h
    lia

theorem bin_sound {op : Operator} {x y : AV} {u v : Value} (a : At X σ s) (rx : RepV s.heap x u) (ry : RepV s.heap y v) (q : binA op x y Q σ) : wpAny X.M A (binaryOp op u v) (liftQ X σ s Q) E s := by
  cases q with
  | add q => cases rx; cases ry; exact P.add_int (retT a (.int _ _) q)
  | addT hq q => cases rx with
    | tup hla ht rs => cases ry with
      | tup hlb ht2 rs2 =>
        rename_i t vs t2 ws
        obtain ⟨⟨cls, dd, data, sl⟩, ho, hc, n, hd⟩ := id ht
        obtain ⟨⟨cls2, dd2, data2, sl2⟩, ho2, hc2, n2, hd2⟩ := id ht2
        simp only at hc hd hc2 hd2
        subst hc hd hc2 hd2
        have l1 := rs.length
        have l2 := rs2.length
        have e : vs.toArray ++ ws.toArray = (vs ++ ws).toArray := by simp
        by_cases hv : vs = []
        · subst hv; cases rs
          exact concat_meets ⟨_, ho, rfl⟩ ⟨_, ho2, rfl⟩ noFill_tuple_add seq_tuple_add PySem.F.slot_tuple_add PySem.F.entry_tuple_add (PySem.F.args_tuple_add_2 _ _)
            (tuple_addW0 t t2 _ ws.toArray n n2 dd dd2 sl sl2 (by simp)) ⟨ho, ho2, retQ a (.tup hlb ht2 rs2) q⟩
        · by_cases hw : ws = []
          · subst hw; cases rs2
            refine concat_meets ⟨_, ho, rfl⟩ ⟨_, ho2, rfl⟩ noFill_tuple_add seq_tuple_add PySem.F.slot_tuple_add PySem.F.entry_tuple_add (PySem.F.args_tuple_add_2 _ _)
              (tuple_addW1 t t2 vs.toArray _ n n2 dd dd2 sl sl2 (by simpa using hv) (by simp)) ⟨ho, ho2, retQ a (.tup hla ht rs) ?_⟩
            rwa [List.append_nil] at q
          · refine concat_meets ⟨_, ho, rfl⟩ ⟨_, ho2, rfl⟩ noFill_tuple_add seq_tuple_add PySem.F.slot_tuple_add PySem.F.entry_tuple_add (PySem.F.args_tuple_add_2 _ _)
              (tuple_addW2 t t2 vs.toArray ws.toArray n n2 dd dd2 sl sl2 (by simpa using hv) (by simpa using hw) (by rw [List.size_toArray, List.size_toArray, sizeLine_eq]; lia)) ⟨ho, ho2, ?_⟩
            rw [e]
            have kv : KeepV s.heap (s.heap.push { cls := .type "tuple", data := .seq (vs ++ ws).toArray }) := fun b o e _ => Heap.get?_push_of_some _ e
            exact ⟨_, σ, .tup (by rw [List.length_append]; exact hq) ⟨_, Heap.get?_push_size _ rfl, rfl, 0, rfl⟩ ((rs.append rs2).mono kv), a.push _ s.toks, Step.push σ s _ s.toks, q⟩
  | @addL p p2 xs ys _ _ hx hy hl q =>
    cases rx; cases ry
    obtain ⟨vs, ht, rs⟩ := a.isList hx
    obtain ⟨ws, ht2, rs2⟩ := a.isList hy
    obtain ⟨⟨cls, dd, data, sl⟩, ho, hc, n, hd⟩ := id ht
    obtain ⟨⟨cls2, dd2, data2, sl2⟩, ho2, hc2, n2, hd2⟩ := id ht2
    simp only at hc hd hc2 hd2
    subst hc hd hc2 hd2
    have l1 := rs.length
    have l2 := rs2.length
    have e : vs.toArray ++ ws.toArray = (vs ++ ws).toArray := by simp
    refine concat_meets ⟨_, ho, rfl⟩ ⟨_, ho2, rfl⟩ noFill_list_add seq_list_add PySem.F.slot_list_add PySem.F.entry_list_add (PySem.F.args_list_add_2 _ _)
      (list_addW p p2 vs.toArray ws.toArray n n2 dd dd2 sl sl2 (by rw [List.size_toArray, List.size_toArray, sizeLine_eq]; lia)) ⟨ho, ho2, ?_⟩
    rw [e]
    have kv : KeepV s.heap (s.heap.push { cls := .type "list", data := .seq (vs ++ ws).toArray }) := fun b o e _ => Heap.get?_push_of_some _ e
    exact ⟨.ref s.heap.objs.size, _, .ref _, a.alloc (ao := .list (xs ++ ys)) s.toks ⟨vs ++ ws, 0, Heap.get?_push_size _ rfl, (rs.append rs2).mono kv, by rw [List.length_append]; exact hl⟩, Step.alloc σ s _ _ s.toks, q _ (a.none_of_size (Nat.le_refl _))⟩
  | sub q => cases rx; cases ry; exact P.sub_int (retT a (.int _ _) q)
  | mul hq q =>
    cases rx; cases ry
    exact P.mul_int (retT a (.int _ _) q) (hq.elim (fun h => IntMulOk.of_left (bits_of_natAbs h)) fun h => IntMulOk.of_right (bits_of_natAbs h))
  | div h0 h1 q =>
    cases rx; cases ry
    exact floordiv_int h0 (retT a (.int _ _) q) (.inl (PyProof.noPylong_small h1))
  | mod h0 q =>
    cases rx; cases ry
    exact mod_int' h0 (retT a (.int _ _) q)
  | pow h0 h1 h2 q =>
    cases rx; cases ry
    exact pow_int_small h0 (by lia) h2 (retT a (.int _ _) q)
end
end Mine

set_option maxRecDepth 100000
set_option linter.unusedVariables false
namespace Mine
open PySem PyProof.Rows PySem.SeqAt

mutual
/-- a value read as a tree -/
inductive Rd (σ : AHeap) : AV → PyData → Prop
  | none : Rd σ .none .none
  | bool (b : Bool) : Rd σ (.bool b) (.bool b)
  | int (i : Int) : Rd σ (.int i) (.int i)
  | str (x : Str) : Rd σ (.str x) (.str x)
  | tup {xs ds} : RdL σ xs ds → Rd σ (.tup xs) (.tuple ds)
  | list {a xs ds} : listAt a xs σ → RdL σ xs ds → Rd σ (.ref a) (.list ds)
inductive RdL (σ : AHeap) : List AV → List PyData → Prop
  | nil : RdL σ [] []
  | cons {x xs d ds} : Rd σ x d → RdL σ xs ds → RdL σ (x :: xs) (d :: ds)
end

theorem Rd.both {X : Cx} {σ : AHeap} {s : Shared} (a : At X σ s) : (∀ {x d}, Rd σ x d → ∀ v, RepV s.heap x v → ∃ as, Reads s.heap v d as) ∧ ∀ {xs ds}, RdL σ xs ds → ∀ vs, RepVs s.heap xs vs → ∃ as, ReadsAll s.heap vs ds as := by
  have c1 : ∀ v, RepV s.heap .none v → ∃ as, Reads s.heap v .none as := fun v r => by cases r; exact ⟨_, .none⟩
  have c2 : ∀ b v, RepV s.heap (.bool b) v → ∃ as, Reads s.heap v (.bool b) as := fun b v r => by cases r; exact ⟨_, .bool b⟩
  have c3 : ∀ i v, RepV s.heap (.int i) v → ∃ as, Reads s.heap v (.int i) as := fun i v r => by cases r; exact ⟨_, .int i _⟩
  have c4 : ∀ x v, RepV s.heap (.str x) v → ∃ as, Reads s.heap v (.str x) as := fun i v r => by cases r; exact ⟨_, .str i _⟩
  have c5 : ∀ xs ds, (∀ vs, RepVs s.heap xs vs → ∃ as, ReadsAll s.heap vs ds as) → ∀ v, RepV s.heap (.tup xs) v → ∃ as, Reads s.heap v (.tuple ds) as := fun xs ds ih v r => by
    cases r with
    | tup _ ht rv =>
      obtain ⟨o, ho, hc, n, hd⟩ := ht
      obtain ⟨as, h⟩ := ih _ rv
      exact ⟨as, .tuple ho hc hd (by simpa using h)⟩
  have c6 : ∀ p xs ds, listAt p xs σ → (∀ vs, RepVs s.heap xs vs → ∃ as, ReadsAll s.heap vs ds as) → ∀ v, RepV s.heap (.ref p) v → ∃ as, Reads s.heap v (.list ds) as := fun p xs ds hl ih v r => by
    cases r
    obtain ⟨vs, ⟨o, ho, hc, n, hd⟩, rv⟩ := a.isList hl
    obtain ⟨as, h⟩ := ih _ rv
    exact ⟨_, .list ho hc hd (by simpa using h)⟩
  have c7 : ∀ vs, RepVs s.heap [] vs → ∃ as, ReadsAll s.heap vs [] as := fun vs r => by cases r; exact ⟨_, .nil⟩
  have c8 : ∀ x xs d ds, (∀ v, RepV s.heap x v → ∃ as, Reads s.heap v d as) → (∀ vs, RepVs s.heap xs vs → ∃ as, ReadsAll s.heap vs ds as) → ∀ vs, RepVs s.heap (x :: xs) vs → ∃ as, ReadsAll s.heap vs (d :: ds) as := fun x xs d ds h1 h2 vs r => by
    cases r with
    | cons rv rvs =>
      obtain ⟨as, g1⟩ := h1 _ rv
      obtain ⟨bs, g2⟩ := h2 _ rvs
      exact ⟨_, .cons g1 g2⟩
  constructor
  · intro x d h
    exact Rd.rec (motive_1 := fun x d _ => ∀ v, RepV s.heap x v → ∃ as, Reads s.heap v d as) (motive_2 := fun xs ds _ => ∀ vs, RepVs s.heap xs vs → ∃ as, ReadsAll s.heap vs ds as)
      c1 c2 c3 c4 (fun {xs ds} _ ih => c5 xs ds ih) (fun {p xs ds} hl _ ih => c6 p xs ds hl ih) c7 (fun {x xs d ds} _ _ h1 h2 => c8 x xs d ds h1 h2) h
  · intro x d h
    exact RdL.rec (motive_1 := fun x d _ => ∀ v, RepV s.heap x v → ∃ as, Reads s.heap v d as) (motive_2 := fun xs ds _ => ∀ vs, RepVs s.heap xs vs → ∃ as, ReadsAll s.heap vs ds as)
      c1 c2 c3 c4 (fun {xs ds} _ ih => c5 xs ds ih) (fun {p xs ds} hl _ ih => c6 p xs ds hl ih) c7 (fun {x xs d ds} _ _ h1 h2 => c8 x xs d ds h1 h2) h
theorem Rd.reads {X : Cx} {σ : AHeap} {s : Shared} (a : At X σ s) {x : AV} {d : PyData} (h : Rd σ x d) {v : Value} (r : RepV s.heap x v) : ∃ as, Reads s.heap v d as := (Rd.both a).1 h v r
theorem RdL.reads {X : Cx} {σ : AHeap} {s : Shared} (a : At X σ s) {xs : List AV} {ds : List PyData} (h : RdL σ xs ds) {vs : List Value} (r : RepVs s.heap xs vs) : ∃ as, ReadsAll s.heap vs ds as := (Rd.both a).2 h vs r

def LtAt (A : Around) (s : Shared) (x y : Value) (t : Bool) : Prop :=
  ∀ (prog : Program) (w : World) (E : Value → Shared → Prop) (Q : Value → Shared → Prop), Q (.bool t) s → wpAny (model prog w) A (richCompare .Lt x y) Q E s

inductive LtL (A : Around) (s : Shared) : List Value → List Value → Bool → Prop
  | nn : LtL A s [] [] false
  | nc {y ys} : LtL A s [] (y :: ys) true
  | cn {x xs} : LtL A s (x :: xs) [] false
  | eq {x y xs ys t} : EqAt A s x y true → LtL A s xs ys t → LtL A s (x :: xs) (y :: ys) t
  | ne {x y xs ys t} : EqAt A s x y false → LtAt A s x y t → LtL A s (x :: xs) (y :: ys) t

theorem tuple_lt_tree (l b : Value) : Builtin.«tuple.__lt__» ⟨[l, b], []⟩ = (do
    if !(← isInstance b (.type "tuple")) then return ← ret .notImplemented
    let xs ← Builtin.Tuple.tupleItemsOf l
    let ys ← Builtin.Tuple.tupleItemsOf b
    for (x, y) in xs.toList.zip ys.toList do
      if !(← eqBool x y) then
        rule "tuple.compare.by-the-first-pair-that-differs"; return ← ret (← richCompare .Lt x y)
    ret (Builtin.Tuple.tupleCompareSizes .Lt xs.size ys.size)) := rfl

theorem lt_tuples {A : Around} {s : Shared} {l b : Addr} {xs ys : List Value} {t : Bool} (hl : IsTup s.heap l xs.toArray) (hb : IsTup s.heap b ys.toArray) (hu : A.units < cLine) (h : LtL A.in1 s xs ys t) : LtAt A s (.ref l) (.ref b) t := by
  intro prog w E Q q
  refine wpAny_richCompare_same_or (op := .Lt) hl.typeIs hb.typeIs F.slot_tuple_lt (wpAny_call_entry F.slot_tuple_lt hl.typeIs F.entry_tuple_lt ?_ (F.args_tuple_lt_2 _ _)) (.inr hu)
  rw [tuple_lt_tree]
  refine wpAny_bind (wpAny_isInstance (T := "tuple") (b := true) hb.typeIs AutoSeq1.sub_tuple_tuple ?_)
  simp only [Bool.not_true, Bool.false_eq_true, if_false]
  refine wpAny_bind (tupleItemsOf_ hl (wpAny_bind (tupleItemsOf_ hb ?_)))
  simp only [List.size_toArray]
  refine wpAny_bind ?_
  refine wpAny_forIn_list _ (fun rest b s' => b = (none, ()) ∧ s' = s ∧ ∃ xs' ys', rest = xs'.zip ys' ∧ LtL A.in1 s xs' ys' t ∧ (xs'.length < ys'.length ↔ xs.length < ys.length)) _ ?_ ?_ _ _ ⟨rfl, rfl, xs, ys, rfl, h, Iff.rfl⟩
  · rintro ⟨x, y⟩ rest b s' ⟨rfl, rfl, xs', ys', hz, hL, hlen⟩
    cases hL with
    | nn => cases hz
    | nc => cases hz
    | cn => cases hz
    | eq he hr =>
      simp only [List.zip_cons_cons, List.cons.injEq, Prod.mk.injEq] at hz
      obtain ⟨⟨rfl, rfl⟩, rfl⟩ := hz
      dsimp only
      refine wpAny_bind (he prog w _ _ ?_)
      simp only [Bool.not_true, Bool.false_eq_true, if_false]
      exact wpAny_pure ⟨rfl, rfl, _, _, rfl, hr, by simpa using hlen⟩
    | ne he hr =>
      simp only [List.zip_cons_cons, List.cons.injEq, Prod.mk.injEq] at hz
      obtain ⟨⟨rfl, rfl⟩, rfl⟩ := hz
      dsimp only
      refine wpAny_bind (he prog w _ _ ?_)
      simp only [Bool.not_false, if_true]
      refine wpAny_bind (wpAny_rule (wpAny_bind (hr prog w _ _ ?_)))
      refine wpAny_bind (wpAny_pure (wpAny_pure ?_))
      exact wpAny_pure ⟨_, rfl, (fun e => nomatch e), q⟩
  · rintro b s' ⟨rfl, rfl, xs', ys', hz, hL, hlen⟩
    refine wpAny_pure ⟨_, rfl, (fun e => nomatch e), ?_⟩
    have : t = decide (xs.length < ys.length) := by
      cases hL with
      | nn => simp at hlen ⊢; lia
      | nc => simp at hlen ⊢; lia
      | cn => simp at hlen ⊢; lia
      | eq _ _ => cases hz
      | ne _ _ => cases hz
    subst this; exact q

mutual
/-- the order of trees, where Python has one -/
def ltD : PyData → PyData → Option Bool
  | .int i, .int j => some (decide (i < j))
  | .str x, .str y => some (decide (x.cps.toList < y.cps.toList))
  | .tuple xs, .tuple ys => ltDL xs ys
  | _, _ => none
def ltDL : List PyData → List PyData → Option Bool
  | [], [] => some false
  | [], _ :: _ => some true
  | _ :: _, [] => some false
  | x :: xs, y :: ys => if PyData.eqv x y then ltDL xs ys else ltD x y
end

mutual
theorem lt_reads {A : Around} {s : Shared} (da db : PyData) {a b : Value} {as bs : List Addr} {t : Bool} (ra : Reads s.heap a da as) (rb : Reads s.heap b db bs) (ha : da.canLay0 = true) (hb : db.canLay0 = true) (hu : A.units + 2 * da.depth + 10 < cLine) (e : ltD da db = some t) : LtAt A s a b t := by
  cases da with
  | int i =>
    cases db with
    | int j =>
      cases ra; cases rb
      simp only [ltD, Option.some.injEq] at e; subst e
      intro prog w E Q q; exact P.lt_int q
    | _ => simp [ltD] at e
  | str x =>
    cases db with
    | str y =>
      cases ra; cases rb
      simp only [ltD, Option.some.injEq] at e; subst e
      intro prog w E Q q; exact P.lt_str q
    | _ => simp [ltD] at e
  | tuple xs =>
    cases db with
    | tuple ys =>
      simp only [ltD] at e
      simp only [PyData.canLay0] at ha hb
      cases ra with
      | @tuple a1 o1 vs n _ _ ho hc hd hr =>
        cases rb with
        | @tuple a2 o2 vs2 n2 _ _ ho2 hc2 hd2 hr2 =>
          refine lt_tuples (xs := vs.toList) (ys := vs2.toList) ⟨_, ho, hc, _, by simpa using hd⟩ ⟨_, ho2, hc2, _, by simpa using hd2⟩ (by lia) (ltL_reads xs ys hr hr2 ha hb ?_ e)
          simp only [PyData.depth] at hu
          rw [Around.in1_units]
          lia
    | _ => simp [ltD] at e
  | _ => simp [ltD] at e
termination_by structural da
theorem ltL_reads {A : Around} {s : Shared} (xs ys : List PyData) {vs ws : List Value} {as bs : List Addr} {t : Bool} (rx : ReadsAll s.heap vs xs as) (ry : ReadsAll s.heap ws ys bs) (ha : PyData.canLayAll0 xs = true) (hb : PyData.canLayAll0 ys = true) (hu : A.units + 2 * PyData.depthAll xs + 10 < cLine)
    (e : ltDL xs ys = some t) : LtL A s vs ws t := by
  cases xs with
  | nil =>
    cases rx
    cases ys with
    | nil => cases ry; simp only [ltDL, Option.some.injEq] at e; subst e; exact .nn
    | cons y ys => cases ry; simp only [ltDL, Option.some.injEq] at e; subst e; exact .nc
  | cons x xs =>
    cases rx with
    | cons h1 h2 =>
      cases ys with
      | nil => cases ry; simp only [ltDL, Option.some.injEq] at e; subst e; exact .cn
      | cons y ys =>
        cases ry with
        | cons k1 k2 =>
          simp only [PyData.canLayAll0, Bool.and_eq_true] at ha hb
          simp only [PyData.depthAll] at hu
          have h5 : x.depth ≤ max x.depth (PyData.depthAll xs) := Nat.le_max_left _ _
          have h6 : PyData.depthAll xs ≤ max x.depth (PyData.depthAll xs) := Nat.le_max_right _ _
          have hmin : min x.depth y.depth ≤ x.depth := Nat.min_le_left _ _
          have heq := eqAt_reads x y A s _ _ _ _ h1 k1 ha.1 hb.1 (by lia)
          simp only [ltDL] at e
          cases hE : PyData.eqv x y with
          | true => rw [hE] at e heq; exact .eq heq (ltL_reads xs ys h2 k2 ha.2 hb.2 (by lia) e)
          | false => rw [hE] at e heq; exact .ne heq (lt_reads x y h1 k1 ha.1 hb.1 (by lia) (by simpa using e))
termination_by structural xs
end
end Mine


set_option maxRecDepth 100000
set_option linter.unusedVariables false
set_option autoImplicit false
namespace Mine
open PySem PyProof.Rows PySem.SeqAt

def DOk (d : PyData) : Prop := d.canLay0 = true ∧ d.depth ≤ 100

def AV.isNone : AV → Bool
  | .none => true
  | _ => false

/-- what «in» asks of: a list or a tuple read as trees; a dict by its keys -/
def inA (X : Cx) (x c : AV) (Q : Bool → AHeap → Prop) (σ : AHeap) : Prop :=
  ∃ ds d, (Rd σ c (.list ds) ∨ Rd σ c (.tuple ds)) ∧ Rd σ x d ∧ DOk (.list ds) ∧ DOk d ∧ Q (ds.any fun y => PyData.eqv y d) σ

inductive cmpA (X : Cx) : CmpOp → AV → AV → Post → AHeap → Prop
  | eq {a b : AV} {x y : PyData} {Q : Post} {σ : AHeap} (h1 : Rd σ a x) (h2 : Rd σ b y) (k1 : DOk x) (k2 : DOk y) (h : Q (.bool (PyData.eqv x y)) σ) : cmpA X .Eq a b Q σ
  | ne {a b : AV} {x y : PyData} {Q : Post} {σ : AHeap} (h1 : Rd σ a x) (h2 : Rd σ b y) (k1 : DOk x) (k2 : DOk y) (h : Q (.bool (!PyData.eqv x y)) σ) : cmpA X .NotEq a b Q σ
  | lt {i j : Int} {Q : Post} {σ : AHeap} (h : Q (.bool (decide (i < j))) σ) : cmpA X .Lt (.int i) (.int j) Q σ
  | ltT {xs ys : List AV} {x y : PyData} {t : Bool} {Q : Post} {σ : AHeap} (h1 : Rd σ (.tup xs) x) (h2 : Rd σ (.tup ys) y) (k1 : DOk x) (k2 : DOk y) (ht : ltD x y = some t) (h : Q (.bool t) σ) : cmpA X .Lt (.tup xs) (.tup ys) Q σ
  | le {i j : Int} {Q : Post} {σ : AHeap} (h : Q (.bool (decide (i ≤ j))) σ) : cmpA X .LtE (.int i) (.int j) Q σ
  | gt {i j : Int} {Q : Post} {σ : AHeap} (h : Q (.bool (decide (i > j))) σ) : cmpA X .Gt (.int i) (.int j) Q σ
  | ge {i j : Int} {Q : Post} {σ : AHeap} (h : Q (.bool (decide (i ≥ j))) σ) : cmpA X .GtE (.int i) (.int j) Q σ
  | inn {a b : AV} {Q : Post} {σ : AHeap} (h : inA X a b (fun t σ' => Q (.bool t) σ') σ) : cmpA X .In a b Q σ
  | notIn {a b : AV} {Q : Post} {σ : AHeap} (h : inA X a b (fun t σ' => Q (.bool (!t)) σ') σ) : cmpA X .NotIn a b Q σ
  | is {a : AV} {Q : Post} {σ : AHeap} (h : Q (.bool a.isNone) σ) : cmpA X .Is a .none Q σ
  | isNot {a : AV} {Q : Post} {σ : AHeap} (h : Q (.bool (!a.isNone)) σ) : cmpA X .IsNot a .none Q σ

section
variable {X : Cx} {A : Around} {σ : AHeap} {s : Shared} {Q : Post} {E : Value → Shared → Prop} {d : Nat}

theorem isSame_none {x : AV} {u : Value} {R : Bool → Shared → Prop} (rx : RepV s.heap x u) (h : R x.isNone s) : wpAny X.M A (isSame u .none) R E s := by
  cases rx <;> exact wpAny_pure h

theorem in_sound {x y : AV} {u v : Value} {R : Bool → AHeap → Prop} (L : Live d A) (a : At X σ s) (rx : RepV s.heap x u) (ry : RepV s.heap y v) (q : inA X x y R σ) :
    wpAny X.M A (compareOp .In u v) (fun w s' => ∃ t, w = .bool t ∧ liftB X σ s R t s') E s ∧ wpAny X.M A (compareOp .NotIn u v) (fun w s' => ∃ t, w = .bool (!t) ∧ liftB X σ s R t s') E s := by
  have room := L.room
  obtain ⟨ds, dd, hc, hx, kc, kd, q⟩ := q
  obtain ⟨as, r1⟩ := hx.reads a rx
  have hd1 : PyData.depthAll ds ≤ 100 := by have := kc.2; simp only [PyData.depth] at this; lia
  have hu : A.units + 1 + min (PyData.depthAll ds) dd.depth < cLine := by
    have : min (PyData.depthAll ds) dd.depth ≤ PyData.depthAll ds := Nat.min_le_left _ _
    lia
  have kc1 : PyData.canLayAll0 ds = true := by have := kc.1; simpa only [PyData.canLay0] using this
  rcases hc with hc | hc
  · obtain ⟨bs, r2⟩ := hc.reads a ry
    exact ⟨in_list_reads r2 r1 kc1 kd.1 hu ⟨_, rfl, σ, a, .refl .., q⟩, notIn_list_reads r2 r1 kc1 kd.1 hu ⟨_, rfl, σ, a, .refl .., q⟩⟩
  · obtain ⟨bs, r2⟩ := hc.reads a ry
    exact ⟨in_tuple_reads r2 r1 kc1 kd.1 hu ⟨_, rfl, σ, a, .refl .., q⟩, notIn_tuple_reads r2 r1 kc1 kd.1 hu ⟨_, rfl, σ, a, .refl .., q⟩⟩

theorem cmp_sound {op : CmpOp} {x y : AV} {u v : Value} (L : Live d A) (a : At X σ s) (rx : RepV s.heap x u) (ry : RepV s.heap y v) (q : cmpA X op x y Q σ) : wpAny X.M A (compareOp op u v) (liftQ X σ s Q) E s := by
  have room := L.room
  cases q with
  | @eq _ _ da db _ _ h1 h2 k1 k2 q =>
    obtain ⟨as, r1⟩ := h1.reads a rx
    obtain ⟨bs, r2⟩ := h2.reads a ry
    have hm : min da.depth db.depth ≤ da.depth := Nat.min_le_left _ _
    exact compareEq_reads r1 r2 k1.1 k2.1 (by have := k1.2; lia) (retQ a (.bool _) q)
  | @ne _ _ da db _ _ h1 h2 k1 k2 q =>
    obtain ⟨as, r1⟩ := h1.reads a rx
    obtain ⟨bs, r2⟩ := h2.reads a ry
    have hm : min da.depth db.depth ≤ da.depth := Nat.min_le_left _ _
    exact compareNe_reads r1 r2 k1.1 k2.1 (by have := k1.2; lia) (retQ a (.bool _) q)
  | lt q => cases rx; cases ry; exact P.lt_int (retQ a (.bool _) q)
  | @ltT _ _ da db t _ _ h1 h2 k1 k2 ht q =>
    obtain ⟨as, r1⟩ := h1.reads a rx
    obtain ⟨bs, r2⟩ := h2.reads a ry
    exact lt_reads da db r1 r2 k1.1 k2.1 (by have := k1.2; lia) ht _ _ _ _ (retQ a (.bool _) q)
  | le q => cases rx; cases ry; exact P.le_int (retQ a (.bool _) q)
  | gt q => cases rx; cases ry; exact P.gt_int (retQ a (.bool _) q)
  | ge q => cases rx; cases ry; exact P.ge_int (retQ a (.bool _) q)
  | inn q =>
    refine wpAny_mono (in_sound L a rx ry q).1 (fun w s' x => ?_) fun _ _ e => e
    obtain ⟨t, e, σ', a', st, q'⟩ := x
    subst e; exact ⟨_, σ', .bool _, a', st, q'⟩
  | notIn q =>
    refine wpAny_mono (in_sound L a rx ry q).2 (fun w s' x => ?_) fun _ _ e => e
    obtain ⟨t, e, σ', a', st, q'⟩ := x
    subst e; exact ⟨_, σ', .bool _, a', st, q'⟩
  | is q =>
    cases ry
    exact wpAny_bind (isSame_none rx (wpAny_pure (retQ a (.bool _) q)))
  | isNot q =>
    cases ry
    exact wpAny_bind (isSame_none rx (wpAny_pure (retQ a (.bool _) q)))
end

namespace A
def bin (op : Operator) (x y : AE) : AE := fun d l Q Z σ => x d l (fun a σ1 => y d l (fun b σ2 => binA op a b Q σ2) Z σ1) Z σ
def neg (x : AE) : AE := fun d l Q Z σ => x d l (fun a σ1 => ∃ i, a = .int i ∧ Q (.int (-i)) σ1) Z σ
def not_ (x : AE) : AE := fun d l Q Z σ => x d l (fun a σ1 => ∃ b, a = .bool b ∧ Q (.bool (!b)) σ1) Z σ
def and_ (x y : AE) : AE := fun d l Q Z σ => x d l (fun a σ1 => ∃ b, a = .bool b ∧ if b then y d l Q Z σ1 else Q (.bool false) σ1) Z σ
def or_ (x y : AE) : AE := fun d l Q Z σ => x d l (fun a σ1 => ∃ b, a = .bool b ∧ if b then Q (.bool true) σ1 else y d l Q Z σ1) Z σ
def chain (X : Cx) (d : Nat) (l : Loc) (Q : Post) (Z : XP) : AV → List (CmpOp × AE) → AHeap → Prop
  | _, [], _ => False
  | a, [(op, y)], σ => y d l (fun b σ1 => cmpA X op a b Q σ1) Z σ
  | a, (op, y) :: r, σ => y d l (fun b σ1 => cmpA X op a b (fun c σ2 => ∃ t, c = .bool t ∧ if t then chain X d l Q Z b r σ2 else Q (.bool false) σ2) σ1) Z σ
def cmp (X : Cx) (x : AE) (ops : List (CmpOp × AE)) : AE := fun d l Q Z σ => x d l (fun a σ1 => chain X d l Q Z a ops σ1) Z σ
end A

section
variable {X : Cx} {env : Env} {nm : List (Str × Nat)}

theorem sound_bin {op : Operator} {e1 e2 : Expr} {m1 m2 : AE} {pos : Pos} (h1 : SoundE X env nm e1 m1) (h2 : SoundE X env nm e2 m2) : SoundE X env nm (.BinOp e1 op e2 pos) (A.bin op m1 m2) := fun d A l σ s Q Z L a F q =>
  wpAny_BinOp (seqQ (h1 d A l σ s _ Z L a F q) fun av v σ1 s1 rv a1 st1 q1 =>
    wpAny_mono (h2 d A l σ1 s1 _ Z L a1 (F.step a st1) q1) (fun v2 s2 ⟨av2, σ2, rv2, a2, st2, q2⟩ => backQ (st1.trans st2) (bin_sound a2 (rv.mono (st2.keepV0 a1)) rv2 q2)) fun _ _ x => x.back st1)

theorem sound_neg {e : Expr} {m : AE} {pos : Pos} (h : SoundE X env nm e m) : SoundE X env nm (.UnaryOp .USub e pos) (A.neg m) := fun d A l σ s Q Z L a F q => by
  show wpAny X.M A (do let v ← eval e env; standAt pos; holding [v] (unaryOp .USub v)) _ _ s
  refine wpAny_bind (seqQ (h d A l σ s _ Z L a F q) fun av v σ1 s1 rv a1 st1 hpx => ?_)
  obtain ⟨i, hi, q1⟩ := hpx
  subst hi; cases rv
  exact wpAny_bind (wpAny_standAt (wpAny_holding (P.neg_int (liftQ.back st1 (retT a1 (.int _ _) q1)))))

theorem sound_not {e : Expr} {m : AE} {pos : Pos} (h : SoundE X env nm e m) : SoundE X env nm (.UnaryOp .Not e pos) (A.not_ m) := fun d A l σ s Q Z L a F q => by
  show wpAny X.M A (do let v ← eval e env; standAt pos; holding [v] (unaryOp .Not v)) _ _ s
  refine wpAny_bind (seqQ (h d A l σ s _ Z L a F q) fun av v σ1 s1 rv a1 st1 hpx => ?_)
  obtain ⟨b, hb, q1⟩ := hpx
  subst hb; cases rv
  refine wpAny_bind (wpAny_standAt (wpAny_holding ?_))
  show wpAny X.M A (holding [Value.bool b] (do return Value.bool (!(← truthy (.bool b))))) _ _ s1
  exact wpAny_holding (wpAny_bind (wpAny_truthy_bool (wpAny_pure (liftQ.back st1 (retQ a1 (.bool _) q1)))))
theorem soundB_not {e : Expr} {m : AE} {pos : Pos} (h : SoundB X env nm e m) : SoundB X env nm (.UnaryOp .Not e pos) (A.not_ m) := fun d A l σ s Q Z L a F q => by
  show wpAny X.M A (do return !(← isTrue e env (eval e env))) _ _ s
  have q' : m d l (isB fun b σ1 => Q (!b) σ1) Z σ := by
    refine (show m d l (isB fun b σ1 => Q (!b) σ1) Z σ from ?_)
    have e : (fun a σ1 => ∃ b, a = AV.bool b ∧ isB Q (.bool (!b)) σ1) = isB fun b σ1 => Q (!b) σ1 := by
      funext a σ1
      unfold isB
      refine propext ⟨?_, ?_⟩
      · rintro ⟨b, rfl, c, hc, q⟩; cases hc; exact ⟨b, rfl, q⟩
      · rintro ⟨b, rfl, q⟩; exact ⟨b, rfl, _, rfl, q⟩
    have q0 : m d l (fun a σ1 => ∃ b, a = AV.bool b ∧ isB Q (.bool (!b)) σ1) Z σ := q
    rw [e] at q0; exact q0
  exact wpAny_bind (wpAny_mono (h d A l σ s _ Z L a F q') (fun b s1 ⟨σ1, a1, st1, q1⟩ => wpAny_pure ⟨σ1, a1, st1, q1⟩) fun _ _ x => x)

def andL : List AE → AE
  | [] => fun _ _ _ _ _ => False
  | [x] => x
  | x :: y :: r => A.and_ x (andL (y :: r))
def orL : List AE → AE
  | [] => fun _ _ _ _ _ => False
  | [x] => x
  | x :: y :: r => A.or_ x (orL (y :: r))

inductive SoundEBs (X : Cx) (env : Env) (nm : List (Str × Nat)) : List Expr → List AE → Prop
  | nil : SoundEBs X env nm [] []
  | cons {e es m ms} : SoundE X env nm e m → SoundB X env nm e m → SoundEBs X env nm es ms → SoundEBs X env nm (e :: es) (m :: ms)

theorem allTrue_cons (op : BoolOp) (x : Expr) (r : List Expr) : allTrue op (x :: r) env = (do
    match op, ← isTrue x env (eval x env) with
    | .And, false => pure false
    | .Or, true => pure true
    | _, _ => allTrue op r env) := rfl

theorem isB_and {Q : Bool → AHeap → Prop} {y : AE} {d : Nat} {l : Loc} {Z : XP} : (fun a σ1 => ∃ b, a = AV.bool b ∧ if b then y d l (isB Q) Z σ1 else isB Q (.bool false) σ1) = isB fun b σ1 => if b then y d l (isB Q) Z σ1 else Q false σ1 := by
  funext a σ1
  unfold isB
  refine propext ⟨?_, ?_⟩
  · rintro ⟨b, rfl, h⟩
    refine ⟨b, rfl, ?_⟩
    cases b with
    | true => exact h
    | false => simp only [Bool.false_eq_true, if_false] at h ⊢; obtain ⟨c, hc, q⟩ := h; cases hc; exact q
  · rintro ⟨b, rfl, h⟩
    refine ⟨b, rfl, ?_⟩
    cases b with
    | true => exact h
    | false => simp only [Bool.false_eq_true, if_false] at h ⊢; exact ⟨_, rfl, h⟩
theorem isB_or {Q : Bool → AHeap → Prop} {y : AE} {d : Nat} {l : Loc} {Z : XP} : (fun a σ1 => ∃ b, a = AV.bool b ∧ if b then isB Q (.bool true) σ1 else y d l (isB Q) Z σ1) = isB fun b σ1 => if b then Q true σ1 else y d l (isB Q) Z σ1 := by
  funext a σ1
  unfold isB
  refine propext ⟨?_, ?_⟩
  · rintro ⟨b, rfl, h⟩
    refine ⟨b, rfl, ?_⟩
    cases b with
    | false => exact h
    | true => simp only [if_true] at h ⊢; obtain ⟨c, hc, q⟩ := h; cases hc; exact q
  · rintro ⟨b, rfl, h⟩
    refine ⟨b, rfl, ?_⟩
    cases b with
    | false => exact h
    | true => simp only [if_true] at h ⊢; exact ⟨_, rfl, h⟩

theorem allTrue_and {es ms} (h0 : SoundEBs X env nm es ms) : ∀ {d A l σ s Q Z}, Live d A → At X σ s → FR X env nm l σ s.heap → andL ms d l (isB Q) Z σ → wpAny X.M A (allTrue .And es env) (liftB X σ s Q) (liftX X σ s Z) s := by
  induction h0 with
  | nil => intro d A l σ s Q Z L a F q; exact q.elim
  | cons h hb r ih =>
    intro d A l σ s Q Z L a F q
    rw [allTrue_cons]
    cases r with
    | nil =>
      refine wpAny_bind (wpAny_mono (hb d A l σ s Q Z L a F q) (fun b s1 x => ?_) fun _ _ x => x)
      cases b with
      | false => exact wpAny_pure x
      | true => exact wpAny_pure x
    | cons h2 hb2 r =>
      have q0 := q
      simp only [andL, Mine.A.and_] at q0
      rw [isB_and] at q0
      refine wpAny_bind (wpAny_mono (hb d A l σ s _ Z L a F q0) (fun b s1 x => ?_) fun _ _ x => x)
      obtain ⟨σ1, a1, st1, q1⟩ := x
      cases b with
      | false => exact wpAny_pure ⟨σ1, a1, st1, by simpa using q1⟩
      | true => exact backB st1 (ih L a1 (F.step a st1) (by simpa using q1))
theorem allTrue_or {es ms} (h0 : SoundEBs X env nm es ms) : ∀ {d A l σ s Q Z}, Live d A → At X σ s → FR X env nm l σ s.heap → orL ms d l (isB Q) Z σ → wpAny X.M A (allTrue .Or es env) (liftB X σ s Q) (liftX X σ s Z) s := by
  induction h0 with
  | nil => intro d A l σ s Q Z L a F q; exact q.elim
  | cons h hb r ih =>
    intro d A l σ s Q Z L a F q
    rw [allTrue_cons]
    cases r with
    | nil =>
      refine wpAny_bind (wpAny_mono (hb d A l σ s Q Z L a F q) (fun b s1 x => ?_) fun _ _ x => x)
      cases b with
      | false => exact wpAny_pure x
      | true => exact wpAny_pure x
    | cons h2 hb2 r =>
      have q0 := q
      simp only [orL, Mine.A.or_] at q0
      rw [isB_or] at q0
      refine wpAny_bind (wpAny_mono (hb d A l σ s _ Z L a F q0) (fun b s1 x => ?_) fun _ _ x => x)
      obtain ⟨σ1, a1, st1, q1⟩ := x
      cases b with
      | true => exact wpAny_pure ⟨σ1, a1, st1, by simpa using q1⟩
      | false => exact backB st1 (ih L a1 (F.step a st1) (by simpa using q1))
theorem soundB_and {pos : Pos} {es : List Expr} {ms : List AE} (h : SoundEBs X env nm es ms) : SoundB X env nm (.BoolOp .And es pos) (andL ms) := fun d A l σ s Q Z L a F q => allTrue_and h L a F q
theorem soundB_or {pos : Pos} {es : List Expr} {ms : List AE} (h : SoundEBs X env nm es ms) : SoundB X env nm (.BoolOp .Or es pos) (orL ms) := fun d A l σ s Q Z L a F q => allTrue_or h L a F q

/-- comparisons, in a row -/
inductive SoundOps (X : Cx) (env : Env) (nm : List (Str × Nat)) : List CmpOp → List Expr → List (CmpOp × AE) → Prop
  | one {op e m} : SoundE X env nm e m → behindInMarks op e = false → SoundOps X env nm [op] [e] [(op, m)]
  | cons {op e m op2 ops es ms} : SoundE X env nm e m → SoundOps X env nm (op2 :: ops) es ms → SoundOps X env nm (op :: op2 :: ops) (e :: es) ((op, m) :: ms)

theorem SoundOps.ne {ops es ms} (h : SoundOps X env nm ops es ms) : ms ≠ [] := by cases h <;> simp

theorem wp_release {M : Model} {A : Around} {vs keep : List Value} {Q : Unit → Shared → Prop} {E : Value → Shared → Prop} {s : Shared} (h : Q () s) : wpAny M A (release vs keep) Q E s := fun Γ p hΓ => by rw [Sem.wp_release]; exact h

theorem chain_sound {pos : Pos} {ops es ms} (h0 : SoundOps X env nm ops es ms) : ∀ {d A l σ s Q Z av v}, Live d A → At X σ s → FR X env nm l σ s.heap → RepV s.heap av v → Mine.A.chain X d l Q Z av ms σ →
    wpAny X.M A (compareChain pos v ops (markedEach ops es (evalEach es env))) (liftQ X σ s Q) (liftX X σ s Z) s := by
  induction h0 with
  | @one op e m h hm =>
    intro d A l σ s Q Z av v L a F rv q
    show wpAny X.M A (do let rv ← holding [v] (markedBehindIn op e (eval e env)); standAt pos; operate [v, rv] (compareOp op v rv)) _ _ s
    rw [markedBehindIn_of_false hm]
    refine wpAny_bind (wpAny_holding (seqQ (h d A l σ s _ Z L a F q) fun av2 v2 σ1 s1 rv2 a1 st1 q1 => ?_))
    refine wpAny_bind (wpAny_standAt ?_)
    refine backQ st1 ?_
    unfold operate
    refine wpAny_bind (wpAny_holding (wpAny_mono (cmp_sound L a1 (rv.mono (st1.keepV0 a)) rv2 q1) (fun r s2 x => ?_) fun _ _ x => x))
    exact wpAny_bind (wp_release (wpAny_pure x))
  | @cons op e m op2 ops es ms h hr ih =>
    intro d A l σ s Q Z av v L a F rv q
    obtain ⟨e2, es2, hes⟩ : ∃ e2 es2, es = e2 :: es2 := by cases hr <;> exact ⟨_, _, rfl⟩
    obtain ⟨m2, ms2, hms⟩ : ∃ m2 ms2, ms = m2 :: ms2 := by
      cases ms with
      | nil => exact absurd rfl hr.ne
      | cons m2 ms2 => exact ⟨m2, ms2, rfl⟩
    have e1 : markedEach (op :: op2 :: ops) (e :: es) (evalEach (e :: es) env) = eval e env :: markedEach (op2 :: ops) es (evalEach es env) := by subst hes; rfl
    rw [e1]
    have q' : m d l (fun b σ1 => cmpA X op av b (fun c σ2 => ∃ t, c = .bool t ∧ if t then Mine.A.chain X d l Q Z b ms σ2 else Q (.bool false) σ2) σ1) Z σ := by subst hms; exact q
    have e3 : compareChain pos v (op :: op2 :: ops) (eval e env :: markedEach (op2 :: ops) es (evalEach es env)) = (do
        let rv ← holding [v] (eval e env)
        standAt pos
        let c ← holding [v, rv] (compareOp op v rv)
        release [v, rv] [c]
        if ← holding [c, rv] (truthy c) then compareChain pos rv (op2 :: ops) (markedEach (op2 :: ops) es (evalEach es env)) else pure c) := by
      subst hes
      cases ops <;> cases es2 <;> rfl
    rw [e3]
    refine wpAny_bind (wpAny_holding (seqQ (h d A l σ s _ Z L a F q') fun av2 v2 σ1 s1 rv2 a1 st1 q1 => ?_))
    refine wpAny_bind (wpAny_standAt ?_)
    refine backQ st1 ?_
    refine wpAny_bind (wpAny_holding (wpAny_mono (cmp_sound L a1 (rv.mono (st1.keepV0 a)) rv2 q1) (fun c s2 x => ?_) fun _ _ x => x))
    obtain ⟨ac, σ2, rc, a2, st2, t, ht, q2⟩ := x
    subst ht; cases rc
    refine wpAny_bind (wp_release ?_)
    refine wpAny_bind (wpAny_holding (wpAny_truthy_bool ?_))
    cases t with
    | false => exact wpAny_pure (liftQ.back st2 (retQ a2 (.bool _) (by simpa using q2)))
    | true =>
      refine backQ st2 ?_
      exact ih L a2 ((F.step a st1).step a1 st2) (rv2.mono (st2.keepV0 a1)) (by simpa using q2)

theorem sound_cmp {pos : Pos} {e : Expr} {m : AE} {ops es ms} (h : SoundE X env nm e m) (hr : SoundOps X env nm ops es ms) : SoundE X env nm (.Compare e ops es pos) (A.cmp X m ms) := fun d A l σ s Q Z L a F q => by
  show wpAny X.M A (do compareChain pos (← eval e env) ops (markedEach ops es (evalEach es env))) _ _ s
  refine wpAny_bind (seqQ (h d A l σ s _ Z L a F q) fun av v σ1 s1 rv a1 st1 q1 => ?_)
  exact backQ st1 (chain_sound hr L a1 (F.step a st1) rv q1)
end
end Mine

set_option maxRecDepth 100000
set_option linter.unusedVariables false
set_option autoImplicit false
namespace Mine
open PySem PyProof.Rows PySem.SeqAt

section
variable {X : Cx} {env : Env} {nm : List (Str × Nat)}

theorem testChain_sound {pos : Pos} {ops es ms} (h0 : SoundOps X env nm ops es ms) : ∀ {d A l σ s Q Z av v}, Live d A → At X σ s → FR X env nm l σ s.heap → RepV s.heap av v → Mine.A.chain X d l (isB Q) Z av ms σ →
    wpAny X.M A (testChain pos v ops (markedEach ops es (evalEach es env))) (liftB X σ s Q) (liftX X σ s Z) s := by
  induction h0 with
  | @one op e m h hm =>
    intro d A l σ s Q Z av v L a F rv q
    show wpAny X.M A (do let rv ← holding [v] (markedBehindIn op e (eval e env)); standAt pos; let c ← operate [v, rv] (compareOp op v rv); holding [c] (truthy c)) _ _ s
    rw [markedBehindIn_of_false hm]
    refine wpAny_bind (wpAny_holding (seqQ (h d A l σ s _ Z L a F q) fun av2 v2 σ1 s1 rv2 a1 st1 q1 => ?_))
    refine wpAny_bind (wpAny_standAt ?_)
    refine backB st1 ?_
    unfold operate
    refine wpAny_bind (wpAny_bind (wpAny_holding (wpAny_mono (cmp_sound L a1 (rv.mono (st1.keepV0 a)) rv2 q1) (fun r s2 hpx => ?_) fun _ _ x => x)))
    obtain ⟨ac, σ2, rc, a2, st2, t, ht, q2⟩ := hpx
    subst ht; cases rc
    exact wpAny_bind (wp_release (wpAny_pure (wpAny_holding (wpAny_truthy_bool ⟨σ2, a2, st2, q2⟩))))
  | @cons op e m op2 ops es ms h hr ih =>
    intro d A l σ s Q Z av v L a F rv q
    obtain ⟨e2, es2, hes⟩ : ∃ e2 es2, es = e2 :: es2 := by cases hr <;> exact ⟨_, _, rfl⟩
    obtain ⟨m2, ms2, hms⟩ : ∃ m2 ms2, ms = m2 :: ms2 := by
      cases ms with
      | nil => exact absurd rfl hr.ne
      | cons m2 ms2 => exact ⟨m2, ms2, rfl⟩
    have e1 : markedEach (op :: op2 :: ops) (e :: es) (evalEach (e :: es) env) = eval e env :: markedEach (op2 :: ops) es (evalEach es env) := by subst hes; rfl
    rw [e1]
    have q' : m d l (fun b σ1 => cmpA X op av b (fun c σ2 => ∃ t, c = .bool t ∧ if t then Mine.A.chain X d l (isB Q) Z b ms σ2 else isB Q (.bool false) σ2) σ1) Z σ := by subst hms; exact q
    have e3 : testChain pos v (op :: op2 :: ops) (eval e env :: markedEach (op2 :: ops) es (evalEach es env)) = (do
        let rv ← holding [v] (eval e env)
        standAt pos
        let c ← holding [v, rv] (compareOp op v rv)
        release [v, rv] [c]
        if ← holding [c, rv] (truthy c) then testChain pos rv (op2 :: ops) (markedEach (op2 :: ops) es (evalEach es env)) else pure false) := by
      subst hes
      cases ops <;> cases es2 <;> rfl
    rw [e3]
    refine wpAny_bind (wpAny_holding (seqQ (h d A l σ s _ Z L a F q') fun av2 v2 σ1 s1 rv2 a1 st1 q1 => ?_))
    refine wpAny_bind (wpAny_standAt ?_)
    refine backB st1 ?_
    refine wpAny_bind (wpAny_holding (wpAny_mono (cmp_sound L a1 (rv.mono (st1.keepV0 a)) rv2 q1) (fun c s2 hpx => ?_) fun _ _ x => x))
    obtain ⟨ac, σ2, rc, a2, st2, t, ht, q2⟩ := hpx
    subst ht; cases rc
    refine wpAny_bind (wp_release ?_)
    refine wpAny_bind (wpAny_holding (wpAny_truthy_bool ?_))
    cases t with
    | false =>
      simp only [Bool.false_eq_true, if_false] at q2 ⊢
      obtain ⟨b, hb, q3⟩ := q2; cases hb
      exact wpAny_pure ⟨σ2, a2, st2, q3⟩
    | true =>
      refine backB st2 ?_
      exact ih L a2 ((F.step a st1).step a1 st2) (rv2.mono (st2.keepV0 a1)) (by simpa using q2)

theorem soundB_cmp {pos : Pos} {e : Expr} {m : AE} {ops es ms} (h : SoundE X env nm e m) (hr : SoundOps X env nm ops es ms) : SoundB X env nm (.Compare e ops es pos) (A.cmp X m ms) := fun d A l σ s Q Z L a F q => by
  show wpAny X.M A (do testChain pos (← eval e env) ops (markedEach ops es (evalEach es env))) _ _ s
  refine wpAny_bind (seqQ (h d A l σ s _ Z L a F q) fun av v σ1 s1 rv a1 st1 q1 => ?_)
  exact backB st1 (testChain_sound hr L a1 (F.step a st1) rv q1)
end
end Mine

set_option maxRecDepth 100000
set_option linter.unusedVariables false
set_option autoImplicit false
namespace Mine
open PySem PyProof.Rows PySem.SeqAt

def atIdx {α : Type} (xs : List α) (k : Int) : Option α := if 0 ≤ k then xs[k.toNat]? else if -(xs.length : Int) ≤ k then xs[(k + xs.length).toNat]? else none

/-- hook for dicts -/

inductive idxA (X : Cx) : AV → AV → Post → AHeap → Prop
  | tup {xs : List AV} {k : Int} {x : AV} {Q : Post} {σ : AHeap} (e : atIdx xs k = some x) (h : Q x σ) : idxA X (.tup xs) (.int k) Q σ
  | list {p : Addr} {xs : List AV} {k : Int} {x : AV} {Q : Post} {σ : AHeap} (hp : listAt p xs σ) (e : atIdx xs k = some x) (h : Q x σ) : idxA X (.ref p) (.int k) Q σ

def cut (xs : List AV) (lo hi : Option Int) : List AV := (xs.drop (lo.elim 0 (clipAt xs.length))).take (hi.elim xs.length (clipAt xs.length) - lo.elim 0 (clipAt xs.length))
section
variable {X : Cx} {A : Around} {σ : AHeap} {s : Shared} {Q : Post} {E : Value → Shared → Prop} {d : Nat}

theorem atIdx_rep {h : Heap} {xs : List AV} {vs : List Value} {k : Int} {x : AV} (r : RepVs h xs vs) (e : atIdx xs k = some x) : ∃ v, RepV h x v ∧ ((0 ≤ k ∧ vs[k.toNat]? = some v) ∨ (k < 0 ∧ -(vs.length : Int) ≤ k ∧ vs[(k + vs.length).toNat]? = some v)) := by
  unfold atIdx at e
  split at e
  · obtain ⟨v, h1, h2⟩ := r.get e; exact ⟨v, h2, .inl ⟨by assumption, h1⟩⟩
  · split at e
    · obtain ⟨v, h1, h2⟩ := r.get e
      rw [r.length] at h1
      rename_i h3 h4
      rw [r.length] at h4
      exact ⟨v, h2, .inr ⟨by lia, h4, h1⟩⟩
    · cases e

theorem getItem_sound {x i : AV} {u v : Value} {dp : Nat} (L : Live dp A) (a : At X σ s) (rx : RepV s.heap x u) (ri : RepV s.heap i v) (q : idxA X x i Q σ) :
    wpAny X.M A (getItem u v) (liftQ X σ s Q) E s ∧ ∃ T id, s.TypeIs u T ∧ typeLookup (.type T) "__getitem__" = pure (some (.builtin id)) := by
  cases q with
  | @tup xs k y _ _ hy q =>
    cases rx with
    | @tup _ t vs hl ht rs =>
      cases ri
      obtain ⟨w, rw_, hw⟩ := atIdx_rep rs hy
      have hlen := rs.length
      refine ⟨?_, "tuple", _, ht.typeIs, slot_tuple_getitem.lookup⟩
      rcases hw with ⟨h1, h2⟩ | ⟨h1, h2, h3⟩
      · have h4 : k.toNat < vs.length := (List.getElem?_eq_some_iff.mp h2).1
        exact getItem_tuple ht (by lia) (by lia) (seqIndex_of h1 (by simp; lia)) (by simpa using h2) (retQ a rw_ q)
      · exact getItem_tuple ht (by lia) (by lia) (seqIndex_neg h1 (by simpa using h2)) (by simpa using h3) (retQ a rw_ q)
  | @list p xs k y _ _ hp hy q =>
      cases rx; cases ri
      obtain ⟨vs, hl, rs⟩ := a.isList hp
      obtain ⟨w, rw_, hw⟩ := atIdx_rep rs hy
      have hlen := rs.length
      have hm := a.len hp
      refine ⟨?_, "list", _, hl.typeIs, slot_list_getitem.lookup⟩
      rcases hw with ⟨h1, h2⟩ | ⟨h1, h2, h3⟩
      · have h4 : k.toNat < vs.length := (List.getElem?_eq_some_iff.mp h2).1
        exact wpAny_getItem_list hl h1 (by lia) (by simpa using h2) (retQ a rw_ q)
      · exact wpAny_getItem_list_neg hl h1 (by simpa using h2) (by lia) (by simpa using h3) (retQ a rw_ q)

theorem RepVs.cut {h : Heap} {xs : List AV} {vs : List Value} (r : RepVs h xs vs) (lo hi : Option Int) : RepVs h (cut xs lo hi) (slicePick vs.toArray lo hi none).toList := by
  rw [slicePick_plain]
  unfold Mine.cut
  simp only [List.size_toArray, r.length]
  exact (r.drop _).take _

end

def notSlice : Expr → Bool
  | .Slice .. => false
  | _ => true
theorem subscripted_plain {e : Expr} (h : notSlice e = true) (o i : Value) : subscripted e false o i = operate [o, i] (getItem o i) := by
  cases e <;> first | rfl | (simp [notSlice] at h)

namespace A
def idx (X : Cx) (x i : AE) : AE := fun d l Q Z σ => x d l (fun a σ1 => i d l (fun b σ2 => idxA X a b Q σ2) Z σ1) Z σ
end A

section
variable {X : Cx} {env : Env} {nm : List (Str × Nat)}

theorem sound_idx {e i : Expr} {m mi : AE} {pos : Pos} (h : SoundE X env nm e m) (hi : SoundE X env nm i mi) (hn : notSlice i = true) : SoundE X env nm (.Subscript e i pos) (A.idx X m mi) := fun d A l σ s Q Z L a F q => by
  refine Subscript_ (seqQ (h d A l σ s _ Z L a F q) fun av v σ1 s1 rv a1 st1 q1 => ?_)
  refine wpAny_mono (hi d A l σ1 s1 _ Z L a1 (F.step a st1) q1) (fun v2 s2 hpx => ?_) fun _ _ x => x.back st1
  obtain ⟨av2, σ2, rv2, a2, st2, q2⟩ := hpx
  obtain ⟨h1, T, id, hT, hl⟩ := getItem_sound (A := A) (E := liftX X σ2 s2 Z) L a2 (rv.mono (st2.keepV0 a1)) rv2 q2
  exact backQ (st1.trans st2) (tail_any hT hl h1 (subscripted_plain hn _ _))

end
end Mine

set_option maxRecDepth 100000
set_option linter.unusedVariables false
set_option autoImplicit false
namespace Mine
open PySem PyProof.Rows PySem.SeqAt

abbrev Prim := List AV → Post → AHeap → Prop
def SoundPrim (X : Cx) (f : Value) (p : Prim) : Prop :=
  ∀ d A σ s as vs Q E, Live d A → At X σ s → RepVs s.heap as vs → p as Q σ → wpAny X.M A (PySem.call f vs) (liftQ X σ s Q) E s

namespace A
def prim (p : Prim) (args : List AE) : AE := fun d l Q Z σ => evalL args d l (fun as σ' => p as Q σ') Z σ
end A

section
variable {X : Cx} {env : Env} {nm : List (Str × Nat)}

theorem sound_prim {x : Str} {f : Value} {p : Prim} {es : List Expr} {ms : List AE} {gp pos : Pos} (XO : X.Ok) (EO : EnvOk env) (hx : env.kindOf x = some .globalImplicit) (hd : (x == ("__debug__" : Str)) = false) (hn : X.mg x = none) (hv : X.mb x = some f)
    (hf : (∃ id, f = .builtin id) ∨ ∃ T, f = .type T) (hp : SoundPrim X f p) (h : SoundEs X env nm es ms) : SoundE X env nm (.Call (.Name x gp) es [] pos) (A.prim p ms) := fun d A l σ s Q Z L a F q => by
  refine Call_ (wp_builtin XO EO a hx hd hn hv ?_)
  rcases hf with ⟨id, rfl⟩ | ⟨T, rfl⟩
  · refine Calls.callWith_builtin h.plain (sound_args h L a F q fun vs s1 hpx => ?_)
    obtain ⟨avs, σ1, r, a1, st, q1⟩ := hpx
    exact backQ st (hp d A σ1 s1 avs vs Q _ L a1 r q1)
  · refine PyProof.Rows.callWith_type h.plain (sound_args h L a F q fun vs s1 hpx => ?_)
    obtain ⟨avs, σ1, r, a1, st, q1⟩ := hpx
    exact backQ st (hp d A σ1 s1 avs vs Q _ L a1 r q1)
end

inductive pLen : List AV → Post → AHeap → Prop
  | tup {xs : List AV} {Q : Post} {σ : AHeap} (h : Q (.int xs.length) σ) : pLen [.tup xs] Q σ
  | list {p : Addr} {xs : List AV} {Q : Post} {σ : AHeap} (hp : listAt p xs σ) (h : Q (.int xs.length) σ) : pLen [.ref p] Q σ
inductive pRange : List AV → Post → AHeap → Prop
  | one {n : Int} {Q : Post} {σ : AHeap} (h : Q (.rng 0 n) σ) : pRange [.int n] Q σ
  | two {a b : Int} {Q : Post} {σ : AHeap} (h : Q (.rng a b) σ) : pRange [.int a, .int b] Q σ
/-- the intL of a range -/
def rngL (lo hi : Int) : List AV := intL lo (hi - lo).toNat
inductive pList : List AV → Post → AHeap → Prop
  | list {p : Addr} {xs : List AV} {Q : Post} {σ : AHeap} (hp : listAt p xs σ) (h : ∀ r, σ r = none → Q (.ref r) (σ.set r (.list xs))) : pList [.ref p] Q σ
  | tup {xs : List AV} {Q : Post} {σ : AHeap} (h : ∀ r, σ r = none → Q (.ref r) (σ.set r (.list xs))) : pList [.tup xs] Q σ

section
variable {X : Cx}

theorem repVs1 {h : Heap} {x : AV} {vs : List Value} (r : RepVs h [x] vs) : ∃ v, vs = [v] ∧ RepV h x v := by
  cases r with
  | cons a r => cases r; exact ⟨_, rfl, a⟩
theorem repVs2 {h : Heap} {x y : AV} {vs : List Value} (r : RepVs h [x, y] vs) : ∃ v w, vs = [v, w] ∧ RepV h x v ∧ RepV h y w := by
  cases r with
  | cons a r => cases r with
    | cons b r => cases r; exact ⟨_, _, rfl, a, b⟩

theorem sound_len : SoundPrim X (.builtin "len") pLen := fun d A σ s as vs Q E L a r q => by
  cases q with
  | tup q =>
    obtain ⟨v, rfl, rv⟩ := repVs1 r
    cases rv with
    | @tup xs t vs hl ht rs =>
      have hlen := rs.length
      refine len_tuple ht (by simp; lia) ?_
      have e : (vs.toArray.size : Int) = vs.length := by simp
      rw [e, ← hlen]; exact retT a (.int _ _) q
  | @list p xs _ _ hp q =>
    obtain ⟨v, rfl, rv⟩ := repVs1 r
    cases rv
    obtain ⟨vs, hl, rs⟩ := a.isList hp
    have hlen := rs.length
    have hm := a.len hp
    refine Calls.call_len_list hl (by simp; lia) ?_
    have e : (vs.toArray.size : Int) = xs.length := by simp [hlen]
    rw [e]; exact retT a (.int _ _) q

theorem sound_range : SoundPrim X (.type "range") pRange := fun d A σ s as vs Q E L a r q => by
  cases q with
  | one q =>
    obtain ⟨v, rfl, rv⟩ := repVs1 r
    cases rv
    exact call_range_1 ⟨_, σ, .rng (Heap.get?_push_size _ rfl), a.push _ _, Step.push σ s _ _, q⟩
  | two q =>
    obtain ⟨v, w, rfl, rv, rw_⟩ := repVs2 r
    cases rv; cases rw_
    exact call_range_2 ⟨_, σ, .rng (Heap.get?_push_size _ rfl), a.push _ _, Step.push σ s _ _, q⟩

theorem newListAt {σ : AHeap} {s : Shared} {h' : Heap} {t : Nat} {xs : List AV} {vs : List Value} {n : Nat} {Q : Post} (a : At X σ s) (hk : ∀ b o, s.heap.get? b = some o → h'.get? b = some o) (hn : h'.get? s.heap.objs.size = some (listObj vs n)) (r : RepVs h' xs vs)
    (hl : xs.length ≤ 1000000) (hsz : s.heap.objs.size ≤ h'.objs.size) (q : ∀ r, σ r = none → Q (.ref r) (σ.set r (.list xs))) : liftQ X σ s Q (.ref s.heap.objs.size) { s with heap := h', toks := t } := by
  have kv : KeepV s.heap h' := fun b o e _ => hk b o e
  have hσ := a.none_of_size (b := s.heap.objs.size) (Nat.le_refl _)
  refine ⟨.ref _, σ.set s.heap.objs.size (.list xs), .ref _, ⟨fun b o e => hk b o (a.keep b o e), fun b ao e => ?_, fun b ao e hro => ?_, a.gens, a.os⟩, ⟨fun b o e _ _ => hk b o e, fun b h1 h2 => ?_, hsz⟩, q _ hσ⟩
  · by_cases hb : b = s.heap.objs.size
    · subst hb; rw [AHeap.set_self] at e; cases e; exact ⟨vs, n, hn, r, hl⟩
    · rw [AHeap.set_ne _ _ hb] at e; exact (a.rep b ao e).mono kv fun o ho => hk b o ho
  · by_cases hb : b = s.heap.objs.size
    · subst hb
      cases h : X.h₀.get? s.heap.objs.size with
      | none => rfl
      | some ob => exact absurd (Heap.lt_size (a.keep _ _ h)) (Nat.lt_irrefl _)
    · rw [AHeap.set_ne _ _ hb] at e; exact a.own b ao e hro
  · by_cases hb : b = s.heap.objs.size
    · rw [hb]; exact Nat.le_refl _
    · rw [AHeap.set_ne _ _ hb] at h1; exact absurd h2 h1

theorem sound_list : SoundPrim X (.type "list") pList := fun d A σ s as vs Q E L a r q => by
  cases q with
  | list hp q =>
    obtain ⟨v, rfl, rv⟩ := repVs1 r
    cases rv
    obtain ⟨vs, ⟨o, ho, hc, n, hd⟩, rs⟩ := a.isList hp
    have hlen := rs.length
    have hm := a.len hp
    refine with_size (call_list_seq _ (.inl rfl) ho hc hd (fun h' c' hk hn hsz => ?_) (by simp [sizeLine_eq]; lia))
    exact newListAt (t := s.toks) a hk hn (rs.mono fun b o e _ => hk b o e) hm hsz q
  | tup q =>
    obtain ⟨v, rfl, rv⟩ := repVs1 r
    cases rv with
    | @tup xs t vs hl ht rs =>
      obtain ⟨o, ho, hc, n, hd⟩ := ht
      have hlen := rs.length
      refine with_size (call_list_seq _ (.inr rfl) ho hc hd (fun h' c' hk hn hsz => ?_) (by simp [sizeLine_eq]; lia))
      exact newListAt (t := s.toks) a hk hn (rs.mono fun b o e _ => hk b o e) hl hsz q
end

/-- kinds that the text asks for -/
inductive PyT where
  | tuple | str | int | bool | list | dict
  deriving DecidableEq
def PyT.name : PyT → String
  | .tuple => "tuple" | .str => "str" | .int => "int" | .bool => "bool" | .list => "list" | .dict => "dict"
/-- whether a value is of a kind -/
def isA (T : PyT) (x : AV) (σ : AHeap) : Option Bool := match x with
  | .none => some false
  | .bool _ => some (T == .bool || T == .int)
  | .int _ => some (T == .int)
  | .str _ => some (T == .str)
  | .tup _ => some (T == .tuple)
  | .ref p => match σ p with
    | some (.list _) => some (T == .list)
    | some (.rolist _) => some (T == .list)
    | _ => none
  | _ => none

theorem meta_T (T : PyT) : typeOf (.type T.name) = pure (.type "type") := by cases T <;> (unfold PyT.name; kernel_rfl)

theorem sub_T (K : String) (hK : K = "int" ∨ K = "bool" ∨ K = "str" ∨ K = "tuple" ∨ K = "list" ∨ K = "dict" ∨ K = "NoneType") (T : PyT) :
    isSubtype (.type K) (.type T.name) = pure (K == T.name || (K == "bool" && T.name == "int")) := by
  rcases hK with rfl | rfl | rfl | rfl | rfl | rfl | rfl <;> cases T <;> (unfold PyT.name; rw [isSubtype_type]; kernel_rfl)

def pIsA (T : PyT) (x : AV) (Q : Post) (σ : AHeap) : Prop := ∃ b, isA T x σ = some b ∧ Q (.bool b) σ

section
variable {X : Cx} {A : Around} {σ : AHeap} {s : Shared} {Q : Post} {E : Value → Shared → Prop}

theorem isa_sound {T : PyT} {x : AV} {v : Value} (a : At X σ s) (rx : RepV s.heap x v) (q : pIsA T x Q σ) : wpAny X.M A (PySem.call (.builtin "isinstance") [v, .type T.name]) (liftQ X σ s Q) E s := by
  obtain ⟨b, hb, q⟩ := q
  have tt : ∀ {K : String} (hK : K = "int" ∨ K = "bool" ∨ K = "str" ∨ K = "tuple" ∨ K = "list" ∨ K = "dict" ∨ K = "NoneType"), s.TypeIs v K → (K == T.name || (K == "bool" && T.name == "int")) = true → Q (.bool true) σ →
      wpAny X.M A (PySem.call (.builtin "isinstance") [v, .type T.name]) (liftQ X σ s Q) E s := fun {K} hK hT e q' =>
    call_isinstance (isinstance_true (Tx := K) (meta_T T) (by rw [sub_T K hK, e])) ⟨hT, retQ a (.bool _) q'⟩
  have nb : ∀ {K : String}, (K == T.name || (K == "bool" && T.name == "int")) = false → (Value.type K == Value.type T.name) = false := fun {K} h => by
    simp only [Bool.or_eq_false_iff] at h
    have h1 : K ≠ T.name := by simpa using h.1
    simpa using h1
  have nsb : ∀ {K : String} (hK : K = "int" ∨ K = "bool" ∨ K = "str" ∨ K = "tuple" ∨ K = "list" ∨ K = "dict" ∨ K = "NoneType"), (K == T.name || (K == "bool" && T.name == "int")) = false → isSubtype (.type K) (.type T.name) = pure false :=
    fun {K} hK h => by rw [sub_T K hK, h]
  have fin : liftQ X σ s Q (.bool b) { s with toks := s.toks + 1 } := retT a (.bool _) q
  cases rx with
  | none =>
    simp only [isA, Option.some.injEq] at hb; subst hb
    have h0 : ("NoneType" == T.name || ("NoneType" == "bool" && T.name == "int")) = false := by cases T <;> decide
    exact call_isinstance (isinstance_false_none (nb h0) (meta_T T) (nsb (by simp) h0)) fin
  | bool c =>
    simp only [isA, Option.some.injEq] at hb
    have h0 : ("bool" == T.name || ("bool" == "bool" && T.name == "int")) = b := by rw [← hb]; cases T <;> decide
    cases b with
    | true => exact tt (K := "bool") (by simp) rfl h0 q
    | false => exact call_isinstance (isinstance_false_bool (nb h0) (meta_T T) (nsb (by simp) h0)) fin
  | int c t =>
    simp only [isA, Option.some.injEq] at hb
    have h0 : ("int" == T.name || ("int" == "bool" && T.name == "int")) = b := by rw [← hb]; cases T <;> decide
    cases b with
    | true => exact tt (K := "int") (by simp) rfl h0 q
    | false => exact call_isinstance (isinstance_false_int (nb h0) (meta_T T) (nsb (by simp) h0)) fin
  | str c t =>
    simp only [isA, Option.some.injEq] at hb
    have h0 : ("str" == T.name || ("str" == "bool" && T.name == "int")) = b := by rw [← hb]; cases T <;> decide
    cases b with
    | true => exact tt (K := "str") (by simp) rfl h0 q
    | false => exact call_isinstance (isinstance_false_str (nb h0) (meta_T T) (nsb (by simp) h0)) fin
  | tup hl ht rs =>
    simp only [isA, Option.some.injEq] at hb
    have h0 : ("tuple" == T.name || ("tuple" == "bool" && T.name == "int")) = b := by rw [← hb]; cases T <;> decide
    cases b with
    | true => exact tt (K := "tuple") (by simp) ht.typeIs h0 q
    | false =>
      obtain ⟨o, ho, hc, _⟩ := ht
      exact call_isinstance (isinstance_false_tuple (nb h0) (meta_T T) (nsb (by simp) h0)) ⟨⟨o, ho, hc⟩, fin⟩
  | ref p =>
    unfold isA at hb
    dsimp only at hb
    split at hb
    · rename_i xs hp
      simp only [Option.some.injEq] at hb
      obtain ⟨vs, ⟨o, ho, hc, n, hd⟩, rs⟩ := a.isList (.inl hp)
      have h0 : ("list" == T.name || ("list" == "bool" && T.name == "int")) = b := by rw [← hb]; cases T <;> decide
      cases b with
      | true => exact tt (K := "list") (by simp) ⟨o, ho, hc⟩ h0 q
      | false => exact call_isinstance (isinstance_false_list (nb h0) (meta_T T) (nsb (by simp) h0)) ⟨⟨o, ho, hc⟩, fin⟩
    · rename_i xs hp
      simp only [Option.some.injEq] at hb
      obtain ⟨vs, ⟨o, ho, hc, n, hd⟩, rs⟩ := a.isList (.inr hp)
      have h0 : ("list" == T.name || ("list" == "bool" && T.name == "int")) = b := by rw [← hb]; cases T <;> decide
      cases b with
      | true => exact tt (K := "list") (by simp) ⟨o, ho, hc⟩ h0 q
      | false => exact call_isinstance (isinstance_false_list (nb h0) (meta_T T) (nsb (by simp) h0)) ⟨⟨o, ho, hc⟩, fin⟩
    · cases hb
  | rng _ => simp [isA] at hb
  | exc _ _ _ => simp [isA] at hb
end

namespace A
def isa (T : PyT) (x : AE) : AE := fun d l Q Z σ => x d l (fun a σ1 => pIsA T a Q σ1) Z σ
end A

section
variable {X : Cx} {env : Env} {nm : List (Str × Nat)}
theorem sound_isa {T : PyT} {Tn : Str} {e : Expr} {m : AE} {gp tp pos : Pos} (XO : X.Ok) (EO : EnvOk env) (hx : env.kindOf "isinstance" = some .globalImplicit) (hn : X.mg "isinstance" = none) (hv : X.mb "isinstance" = some (.builtin "isinstance"))
    (hxT : env.kindOf Tn = some .globalImplicit) (hd : (Tn == ("__debug__" : Str)) = false) (hnT : X.mg Tn = none) (hvT : X.mb Tn = some (.type T.name)) (hs : notStar e = true) (h : SoundE X env nm e m) :
    SoundE X env nm (.Call (.Name "isinstance" gp) [e, .Name Tn tp] [] pos) (A.isa T m) := fun d A l σ s Q Z L a F q => by
  refine Call_ (wp_builtin XO EO a hx (by decide) hn hv ?_)
  refine Calls.callWith_builtin ?_ ?_
  · rw [starEach_cons hs]; rfl
  rw [starEach_cons hs]
  refine Calls.evalArgs_plain ?_
  show wpAny X.M A (spliced ((false, eval e env) :: backTo pos (starEach [.Name Tn tp] env))) _ _ s
  refine Calls.spliced_cons (seqQ (h d A l σ s _ Z L a F q) fun av v σ1 s1 rv a1 st1 q1 => ?_)
  show wpAny X.M A (spliced ((false, eval (.Name Tn tp) env) :: [])) _ _ s1
  refine Calls.spliced_cons (wp_builtin XO EO a1 hxT hd hnT hvT (Calls.spliced_nil ?_))
  exact backQ st1 (isa_sound a1 rv q1)
end
end Mine

set_option maxRecDepth 100000
set_option linter.unusedVariables false
set_option autoImplicit false
namespace Mine
open PySem PyProof.Rows PySem.SeqAt

section
variable {X : Cx} {env : Env} {nm : List (Str × Nat)}

/-- names of a tuple target, each with its number -/
inductive Names (env : Env) (nm : List (Str × Nat)) : List Expr → List Nat → Prop
  | nil : Names env nm [] []
  | cons {x pos es i is} : nm.lookup x = some i → (env.kindOf x = some .local ∨ env.kindOf x = some .cell) → Names env nm es is → Names env nm (.Name x pos :: es) (i :: is)

theorem Names.length {env : Env} {nm : List (Str × Nat)} {es is} (h : Names env nm es is) : es.length = is.length := by
  induction h with
  | nil => rfl
  | cons _ _ r ih => rw [List.length_cons, List.length_cons, ih]

theorem assignEach_cons (x : Str) (pos : Pos) (es : List Expr) : assignEach (.Name x pos :: es) env = (false, assign (.Name x pos) env) :: assignEach es env := rfl
theorem assignEach_length {nm : List (Str × Nat)} : ∀ {es is}, Names env nm es is → (assignEach es env).length = es.length ∧ (assignEach es env).findIdx? (·.1) = none
  | _, _, .nil => ⟨rfl, rfl⟩
  | _, _, .cons (x := x) (pos := pos) (es := es) _ _ r => by
    rw [assignEach_cons]
    have h := assignEach_length r
    refine ⟨by simp [h.1], ?_⟩
    rw [List.findIdx?_cons]
    simp [h.2]

/-- the same inside a comprehension: its own names alone -/
inductive NamesL (env : Env) (nm : List (Str × Nat)) : List Expr → List Nat → Prop
  | nil : NamesL env nm [] []
  | cons {x pos es i is} : nm.lookup x = some i → env.kindOf x = some .local → NamesL env nm es is → NamesL env nm (.Name x pos :: es) (i :: is)
theorem NamesL.toNames {env : Env} {nm : List (Str × Nat)} {es is} (h : NamesL env nm es is) : Names env nm es is := by
  induction h with
  | nil => exact .nil
  | cons h k r ih => exact .cons h (.inl k) ih

theorem soundTC_one {x : Str} {pos : Pos} {i : Nat} (EO : EnvOk env) (hx : nm.lookup x = some i) (hk : env.kindOf x = some .local) : SoundTC X env nm (.Name x pos) (.one i) := fun d A l l' σ s y v Q E L a F r hb h => by
  cases hb
  exact wpAny_assign_Name (wp_storeL EO F a hx hk r h)

theorem assignAllL_sound (EO : EnvOk env) {es is} (N0 : NamesL env nm es is) : ∀ {A : Around} {l : Loc} {σ : AHeap} {s : Shared} {xs : List AV} {vs : List Value} {Q : Unit → Shared → Prop} {E : Value → Shared → Prop}, At X σ s → FR X env nm l σ s.heap → RepVs s.heap xs vs →
    (∀ s', FR X env nm (sets is xs l) σ s'.heap → At X σ s' → Step (fun b => b = env.locals) σ s σ s' → Q () s') → wpAny X.M A (assignInOrder ((assignEach es env).map (·.2)) vs) Q E s := by
  induction N0 with
  | nil =>
    intro A l σ s xs vs Q E a F r h
    have : assignInOrder ([] : List (Value → Sem Unit)) vs = pure () := by cases vs <;> rfl
    show wpAny X.M A (assignInOrder [] vs) Q E s
    rw [this]
    exact wpAny_pure (h s (by cases xs <;> exact F) a (.refl ..))
  | @cons x pos es i is hx hk nr ih =>
    intro A l σ s xs vs Q E a F r h
    rw [assignEach_cons]
    cases r with
    | nil => exact wpAny_pure (h s F a (.refl ..))
    | @cons y ys v ws ry rs =>
      show wpAny X.M A (do holding ws (assign (.Name x pos) env v); assignInOrder ((assignEach es env).map (·.2)) ws) Q E s
      refine wpAny_bind (wpAny_holding (wpAny_assign_Name (wp_storeL EO F a hx hk ry fun s1 F1 a1 st1 => ?_)))
      have no : NoStay (fun b => b = env.locals) s.heap := fun b o hb e => F.noStay b o (.inl hb) e
      refine ih a1 F1 (rs.mono (st1.keepV a no)) fun s2 F2 a2 st2 => h s2 F2 a2 (st1.trans st2)

theorem soundTC_many {es : List Expr} {is : List Nat} {k : Nat} {pos : Pos} (EO : EnvOk env) (N : NamesL env nm es is) : SoundTC X env nm (.Tuple es k pos) (.many is) := fun d A l l' σ s x v Q E L a F r hb h => by
  unfold bindT at hb
  split at hb
  · cases ‹Tgt.many is = Tgt.one _›
  · rename_i is' xs' l0 heq
    cases heq
    split at hb
    · rename_i hlen
      cases hb
      cases r with
      | @tup xs t vs hl ht rs =>
        have e := assignEach_length N.toNames
        have hvl := rs.length
        show wpAny X.M A (do standAt pos; unpack (.ref t) (assignEach es env)) _ _ s
        refine wpAny_bind (wpAny_standAt ?_)
        unfold unpack
        have en : (assignEach es env).length = vs.toArray.size := by rw [e.1, N.toNames.length, ← hlen, hvl]; simp
        rw [e.2, en]
        refine wpAny_bind (wpAny_holding (with_size (wpAny_unpackItems_tuple L.handled ht fun h' he' hsz => ?_)))
        have hk : ∀ b o, ¬ b = s.heap.objs.size → s.heap.get? b = some o → h'.get? b = some o := fun b o hb eo => he' b o hb eo
        have nW : NoStay (fun b => b = s.heap.objs.size) s.heap := fun b o hb eo => by subst hb; exact absurd (Heap.lt_size eo) (Nat.lt_irrefl _)
        have hW : ∀ b, b = s.heap.objs.size → σ b = none ∧ X.h₀.get? b = none := fun b hb => by
          subst hb
          refine ⟨a.none_of_size (Nat.le_refl _), ?_⟩
          cases h : X.h₀.get? s.heap.objs.size with
          | none => rfl
          | some ob => exact absurd (Heap.lt_size (a.keep _ _ h)) (Nat.lt_irrefl _)
        have a1 : At X σ { s with heap := h' } := a.moved (t := s.toks) hW nW hk
        have st1 : Step E0 σ s σ { s with heap := h' } := (Step.moved (W := fun b => b = s.heap.objs.size) σ s.toks hk hsz).drop fun b hb => .inr (by rw [hb]; exact Nat.le_refl _)
        have rs1 := rs.mono (st1.keepV0 a)
        have : vs.toArray.toList = vs := by simp
        rw [this]
        exact assignAllL_sound EO N a1 (F.step a st1) rs1 fun s2 F2 a2 st2 => h s2 F2 a2 ((st1.weaken fun b hb => hb.elim).trans st2)
    · cases hb
  · cases hb
end
end Mine

set_option maxRecDepth 100000
set_option linter.unusedVariables false
set_option autoImplicit false
namespace Mine
open PySem PyProof.Rows PySem.SeqAt

def itemsA (v : AV) (σ : AHeap) (K : (AHeap → Prop) → List AV → Prop) : Prop := match v with
  | .ref p => ∃ xs, listAt p xs σ ∧ K (listAt p xs) xs
  | .tup xs => K (fun _ => True) xs
  | .rng lo hi => -1000000000000 < lo ∧ lo < 1000000000000 ∧ -1000000000000 < hi ∧ hi < 1000000000000 ∧ K (fun _ => True) (rngL lo hi)
  | _ => False

structure IterAt (X : Cx) (A : Around) (target : Expr) (σ : AHeap) (s : Shared) (K : (AHeap → Prop) → List AV → Prop) (it : Value) (s' : Shared) : Prop where
  ex : ∃ I xs W St, ItOk X A target it I xs W St ∧ St 0 s'.heap ∧ (∀ b, W b → σ b = none ∧ X.h₀.get? b = none ∧ s.heap.objs.size ≤ b) ∧ I σ ∧ K I xs
  at_ : At X σ s'
  step : Step E0 σ s σ s'

section
variable {X : Cx} {A : Around} {σ : AHeap} {s : Shared} {E : Value → Shared → Prop} {d : Nat} {target : Expr}

theorem new_out (a : At X σ s) {b : Nat} (hb : s.heap.objs.size ≤ b) : σ b = none ∧ X.h₀.get? b = none ∧ s.heap.objs.size ≤ b := ⟨a.none_of_size hb, by
  cases h : X.h₀.get? b with
  | none => rfl
  | some ob => exact absurd (Heap.lt_size (a.keep _ _ h)) (Nat.not_lt.mpr hb), hb⟩

theorem iter_sound {v : AV} {u : Value} {K : (AHeap → Prop) → List AV → Prop} (L : Live d A) (a : At X σ s) (r : RepV s.heap v u) (h : itemsA v σ K) : wpAny X.M A (pyIter u) (IterAt X A target σ s K) E s := by
  unfold itemsA at h
  split at h
  · cases r
    obtain ⟨xs, hp, k⟩ := h
    obtain ⟨vs, hl, rs⟩ := a.isList hp
    refine wpAny_pyIter_list hl ⟨⟨_, xs, _, _, itOk_list L.handled s.heap.objs.size _ xs, ⟨_, Heap.get?_push_size _ rfl, rfl, rfl⟩, fun b hb => by subst hb; exact new_out a (Nat.le_refl _), hp, k⟩, a.push _ s.toks, Step.push σ s _ s.toks⟩
  · cases r with
    | @tup xs t vs hl ht rs =>
      refine wpAny_pyIter_tuple ht ⟨⟨_, _, _, _, itOk_tuple L.handled s.heap.objs.size t _, ⟨⟨_, Heap.get?_push_size _ rfl, rfl, rfl⟩, vs, ?_, ?_⟩, fun b hb => by subst hb; exact new_out a (Nat.le_refl _), trivial, h⟩, a.push _ s.toks, Step.push σ s _ s.toks⟩
      · obtain ⟨o, ho, q⟩ := ht; exact ⟨o, Heap.get?_push_of_some _ ho, q⟩
      · exact rs.mono fun b o e _ => Heap.get?_push_of_some _ e
  · rename_i lo hi
    cases r with
    | @rng _ _ t x y z ho =>
      obtain ⟨h1, h2, h3, h4, k⟩ := h
      have hsz : Builtin.Range.rangeSize lo hi 1 = (((hi - lo).toNat : Nat) : Int) := by
        rw [rangeSize_one]; split <;> lia
      have fl : ∀ z : Int, -1000000000000000 < z → z < 1000000000000000 → Builtin.Range.rangeFitsLong z = true := fun z hz1 hz2 => by
        unfold Builtin.Range.rangeFitsLong
        simp only [Bool.and_eq_true, decide_eq_true_eq]
        constructor <;> lia
      have hsmall : Builtin.Range.small lo hi 1 = true := by
        unfold Builtin.Range.small
        rw [hsz, fl lo (by lia) (by lia), fl hi (by lia) (by lia), fl 1 (by lia) (by lia), fl _ (by lia) (by lia)]
        simp only [Bool.true_and, Bool.and_true]
        have : (1 : Int) > 0 := by lia
        simp only [this, if_true]
        rw [show hi + (1 - 1) = hi by lia, fl hi (by lia) (by lia)]
        simp
      refine wpAny_pyIter_range (t := x) (u := y) (v := z) ho hsmall ?_
      refine ⟨⟨_, rngL lo hi, _, _, itOk_range L.handled s.heap.objs.size lo (hi - lo).toNat, ?_, fun b hb => by subst hb; exact new_out a (Nat.le_refl _), trivial, k⟩, a.push _ s.toks, Step.push σ s _ s.toks⟩
      show (s.heap.push _).get? s.heap.objs.size = some _
      rw [Heap.get?_push_size _ rfl, hsz]
      simp [rawInt]
  · exact h.elim
end

def notSet : Expr → Bool
  | .Set .. => false
  | _ => true
theorem folded_plain {e : Expr} {env : Env} (h : notSet e = true) (x : Value) : foldedSetIterable e env x = pure x := by
  cases e <;> first | rfl | (simp [notSet] at h)

namespace A
def fin (Q : Post) : List AV → AHeap → Prop := fun acc σ' => ∀ r, σ' r = none → Q (.ref r) (σ'.set r (.list acc))
def comp (t : Tgt) (k : Nat) (iter : AE) (c : Option AE) (elt : AE) : AE := fun d l Q Z σ => iter d l (fun v σ1 => itemsA v σ1 fun I xs => compL I t c elt d (fin Q) xs [] (l ++ List.replicate k none) σ1) Z σ
end A

section
variable {X : Cx} {env : Env} {nm : List (Str × Nat)}

/-- the iterable as the statement's head gives it: an iterator, and what is wanted of its items -/
def SoundI (X : Cx) (env : Env) (nm : List (Str × Nat)) (target iter : Expr) (m : Nat → Loc → (AHeap → (AHeap → Prop) → List AV → Prop) → XP → AHeap → Prop) : Prop :=
  ∀ d A l σ s K Z (R : Value → Shared → Prop) E, Live d A → At X σ s → FR X env nm l σ s.heap → m d l K Z σ → (∀ e s', liftX X σ s Z e s' → E e s') →
    (∀ σ1 s1 it s2, At X σ1 s1 → Step E0 σ s σ1 s1 → IterAt X A target σ1 s1 (K σ1) it s2 → R it s2) →
    wpAny X.M A (eval iter env) (fun x s1 => wpAny X.M A (pyIter x) R E s1) E s

theorem soundI_plain {target iter : Expr} {m : AE} (h : SoundE X env nm iter m) : SoundI X env nm target iter (fun d l K Z σ => m d l (fun v σ1 => itemsA v σ1 fun I xs => K σ1 I xs) Z σ) := fun d A l σ s K Z R E L a F q hE hR =>
  wpAny_mono (h d A l σ s _ Z L a F q) (fun x s1 ⟨av, σ1, rv, a1, st1, q1⟩ => wpAny_mono (iter_sound (target := target) L a1 rv q1) (fun it s2 x => hR σ1 s1 it s2 a1 st1 x) fun _ _ (e : False) => e.elim) fun e s' x => hE e s' x

theorem soundI_enum {elts : List Expr} {x1 : Nat} {tp gp pos : Pos} {e : Expr} {m : AE} (XO : X.Ok) (EO : EnvOk env) (hx : env.kindOf "enumerate" = some .globalImplicit) (hn : X.mg "enumerate" = none) (hv : X.mb "enumerate" = some (.type "enumerate")) (hs : notStar e = true) (h : SoundE X env nm e m) :
    SoundI X env nm (.Tuple elts x1 tp) (.Call (.Name "enumerate" gp) [e] [] pos) (fun d l K Z σ => m d l (fun v σ1 => ∃ p xs, v = .ref p ∧ listAt p xs σ1 ∧ K σ1 (listAt p xs) (enumL 0 xs)) Z σ) := fun d A l σ s K Z R E L a F q hE hR => by
  refine Call_ (wp_builtin XO EO a hx (by decide) hn hv ?_)
  refine PyProof.Rows.callWith_type ?_ ?_
  · rw [starEach_cons hs]; rfl
  rw [starEach_cons hs]
  refine Calls.evalArgs_plain ?_
  show wpAny X.M A (spliced ((false, eval e env) :: [])) _ _ s
  refine Calls.spliced_cons (wpAny_mono (h d A l σ s _ Z L a F q) (fun v s1 ⟨av, σ1, rv, a1, st1, p, xs, hp', hp, q1⟩ => Calls.spliced_nil ?_) fun e s' x => hE e s' x)
  subst hp'; cases rv
  obtain ⟨vs, hl, rs⟩ := a1.isList hp
  refine with_size (call_enumerate_list hl fun h' he hit hsz hk hsz' => ?_)
  have a2 : At X σ1 { s1 with heap := h' } := ⟨fun b o e => hk b o (a1.keep b o e), fun b ao e => (a1.rep b ao e).mono (fun b o e _ => hk b o e) fun o ho => hk b o ho, a1.own, a1.gens, a1.os⟩
  have st2 : Step E0 σ1 s1 σ1 { s1 with heap := h' } := ⟨fun b o e _ _ => hk b o e, fun _ h1 h2 => absurd h2 h1, hsz'⟩
  refine wpAny_pyIter_enum he ?_
  refine hR σ1 s1 _ _ a1 st1 ⟨⟨_, _, _, _, itOk_enum L.handled (s1.heap.objs.size + 1) s1.heap.objs.size p (neA (by lia)) xs, ⟨hit, _, he⟩, fun b hb => ?_, hp, q1⟩, a2, st2⟩
  rcases hb with rfl | rfl
  · exact new_out a1 (Nat.le_succ _)
  · exact new_out a1 (Nat.le_refl _)

theorem sound_for {target iter : Expr} {body : List Stmt} {pos : Pos} {t : Tgt} {b : AS} {m : Nat → Loc → (AHeap → (AHeap → Prop) → List AV → Prop) → XP → AHeap → Prop} (hn : notSet iter = true) (hi : SoundI X env nm target iter m) (ht : SoundT X env nm target t) (hb : SoundSs X env nm body b) :
    SoundS X env nm (.For target iter body [] pos) (fun d l Q Z σ => m d l (fun σ1 I xs => forL I t b d Q xs l σ1) (fun c σ' => Z c l σ') σ) := fun d A l σ s Q Z L a F q => by
  refine wpAny_For (hi d A l σ s _ _ _ _ L a F q (fun e s' x => x.toS a F) fun σ1 s1 it s2 a1 st1 IA => ?_) (folded_plain hn)
  obtain ⟨I, xs, W, St, IT, hSt, hW, hI, q1⟩ := IA.ex
  have F2 := (F.step a st1).step a1 IA.step
  refine for_loop (σ := σ1) (Q := Q) L IT ht hb (fun b hb => ⟨(hW b hb).1, (hW b hb).2.1⟩) IA.at_ F2 hI hSt q1 fun f s' hpx => ?_
  obtain ⟨fl, l', σ', r, a', F', st', q'⟩ := hpx
  refine ⟨fl, l', σ', r, a', F', ?_, q'⟩
  have st12 : Step (fun b => FB env b ∨ W b) σ1 s1 σ1 s2 := IA.step.weaken fun b hb => hb.elim
  have := (st12.trans st').drop (B := FB env) fun b hb => hb.imp id fun hb => (hW b hb).2.2
  exact (st1.weaken FB.of_e0).trans this

/-- a comprehension's parts -/
structure SoundLC (X : Cx) (env : Env) (nm : List (Str × Nat)) (N : Nat) (elt target iter : Expr) (ifs : List Expr) (scope : Scope) (nm' : List (Str × Nat)) (k : Nat) (t : Tgt) (c : Option AE) (e : AE)
    (m : Nat → Loc → (AHeap → (AHeap → Prop) → List AV → Prop) → XP → AHeap → Prop) : Prop where
  ns : notSet iter = true
  ck : CompOk env.scope.names nm N scope.names nm' k
  kind : scope.kind = .function
  iter : SoundI X env nm target iter m
  tgt : ∀ C, SoundTC X (compEnvC scope (clo env.cells scope.names []) C env) nm' target t
  test : ∀ C, SoundC X (compEnvC scope (clo env.cells scope.names []) C env) nm' ifs c
  elt : ∀ C, SoundE X (compEnvC scope (clo env.cells scope.names []) C env) nm' elt e

theorem names_local {sc : List (Str × NameKind)} {N : Nat} {names : List (Str × NameKind)} {nm' : List (Str × Nat)} {k : Nat} (CK : CompOk sc nm N names nm' k) : ∀ x ∈ names, x.2 = .local → names.lookup x.1 = some .local := fun x hx h => by
  have := lookup_of_nodup CK.nodup (n := x.1) (c := x.2) hx
  rw [h] at this; exact this

theorem sound_comp {elt target iter : Expr} {ifs : List Expr} {scope : Scope} {pos : Pos} {nm' : List (Str × Nat)} {N k : Nat} {t : Tgt} {c : Option AE} {e : AE} {m : Nat → Loc → (AHeap → (AHeap → Prop) → List AV → Prop) → XP → AHeap → Prop}
    (EO : EnvOk env) (hN : lenOf nm = N) (S : SoundLC X env nm N elt target iter ifs scope nm' k t c e m) :
    SoundE X env nm (.ListComp elt [⟨target, iter, ifs, 0⟩] scope pos) (fun d l Q Z σ => m d l (fun σ1 I xs => compL I t c e d (A.fin Q) xs [] (l ++ List.replicate k none) σ1) Z σ) := fun d A l σ s Q Z L a F q => by
  rw [eval_ListComp]
  refine wpAny_comprehension_free (use := none) rfl (folded_plain S.ns) (closureFor_clo (S.ck.closure F)) S.kind (names_local S.ck) ?_
  refine S.iter d A l σ s _ Z _ _ L a F q (fun e s' x => x) fun σ1 s1 it s2 a1 st1 IA => ?_
  obtain ⟨I, xs, W, St, IT, hSt, hW, hI, q1⟩ := IA.ex
  have F2 := (F.step a st1).step a1 IA.step
  refine comp_core (RR := fun acc C => compPost X.M A (liftX X σ s Z) none (liftQ X σ s Q) acc C) EO L IA.at_ F2 (F.len.trans hN) S.ck S.kind IT hSt (fun b hb => ⟨(hW b hb).1, (hW b hb).2.1⟩) hI S.tgt S.test S.elt q1 ?_
  intro D C s' σ' acc mC hD hC hDC hσD hσC hns a3 st3 q3
  refine ⟨mC, hns, fun h' hs' => ?_⟩
  have hC0 : X.h₀.get? C = none := (new_out IA.at_ hC).2.1
  have hCσ : (σ'.set D (.list acc)) C = none := by rw [AHeap.set_ne _ _ (Ne.symm hDC)]; exact hσC
  have a4 : At X (σ'.set D (.list acc)) { s' with heap := h' } := a3.aside (t := s'.toks) (h' := h') hCσ hC0 (noStay_ns hns) hs'
  have st4 : Step (fun b => W b ∨ s1.heap.objs.size ≤ b) σ1 s1 (σ'.set D (.list acc)) { s' with heap := h' } := by
    have x1 : Step (fun b => W b ∨ s1.heap.objs.size ≤ b) σ1 s1 σ1 s2 := IA.step.weaken fun b hb => hb.elim
    have x2 : Step (fun b => W b ∨ s1.heap.objs.size ≤ b) σ1 s2 (σ'.set D (.list acc)) s' := st3.weaken fun b hb => .inl hb
    have x3 : Step (fun b => W b ∨ s1.heap.objs.size ≤ b) (σ'.set D (.list acc)) s' (σ'.set D (.list acc)) { s' with heap := h' } := Step.aside (t := s'.toks) (h' := h') (.inr (Nat.le_trans IA.step.size hC)) hs'
    exact x1.trans (x2.trans x3)
  refine ⟨.ref D, _, .ref D, a4, st1.trans (st4.drop fun b hb => .inr (hb.elim (fun hb => (hW b hb).2.2) id)), q3 D hσD⟩
end
end Mine

set_option maxRecDepth 100000
set_option linter.unusedVariables false
set_option autoImplicit false
namespace Mine
open PySem PyProof.Rows PySem.SeqAt

section
variable {X : Cx} {env : Env} {nm : List (Str × Nat)}

theorem FB.lt {l : Loc} {σ : AHeap} {s : Shared} (F : FR X env nm l σ s.heap) {b : Nat} (h : FB env b) : b < s.heap.objs.size := by
  rcases h with h | ⟨x, hx⟩
  · obtain ⟨m, hn, _⟩ := F.ns; rw [h]; exact hn.lt
  · obtain ⟨_, _, v, hc⟩ := F.outc x b hx; exact hc.lt

theorem sound_setComp {elt target iter : Expr} {ifs : List Expr} {scope : Scope} {cpos py pos : Pos} {y : Str} {i : Nat} {nm' : List (Str × Nat)} {N k : Nat} {t : Tgt} {c : Option AE} {e : AE} {m : Nat → Loc → (AHeap → (AHeap → Prop) → List AV → Prop) → XP → AHeap → Prop}
    (EO : EnvOk env) (hN : lenOf nm = N) (S : SoundLC X env nm N elt target iter ifs scope nm' k t c e m) (hy : nm.lookup y = some i) (hky : env.kindOf y = some .local ∨ env.kindOf y = some .cell) :
    SoundS X env nm (.Assign [.Name y py] (.ListComp elt [⟨target, iter, ifs, 0⟩] scope cpos) pos) (A.set i (fun d l Q Z σ => m d l (fun σ1 I xs => compL I t c e d (A.fin Q) xs [] (l ++ List.replicate k none) σ1) Z σ)) := by
  have hsw : swapsWith (.ListComp elt [⟨target, iter, ifs, 0⟩] scope cpos) (some (.Name y py)) pos.line env = pure (env.blockKind == .function && env.kindOf y == some .local && py.line == cpos.line && !(scope.names.any fun (n, k) => n == y && (k == .local || k == .cell))) := rfl
  cases hb : (env.blockKind == .function && env.kindOf y == some .local && py.line == cpos.line && !(scope.names.any fun (n, k) => n == y && (k == .local || k == .cell))) with
  | false => rw [hb] at hsw; exact sound_set EO (sound_comp EO hN S) hy hky hsw
  | true =>
    rw [hb] at hsw
    intro d A l σ s Q Z L a F q
    rw [exec_Assign_Name_used _ _ _ _ hsw]
    refine wpAny_bind (wpAny_standAt (wpAny_bind ?_))
    show wpAny X.M A (do let _ ← comprehension (.ListComp elt [⟨target, iter, ifs, 0⟩] scope cpos) scope env _ (newList []) false (eval iter env) (some (assign (.Name y py) env))) _ _ s
    refine wpAny_bind (wpAny_mono (wpAny_comprehension_free (use := some (assign (.Name y py) env)) (Q := fun _ s' => liftS X env nm σ s Q .next s') rfl (folded_plain S.ns) (closureFor_clo (S.ck.closure F)) S.kind (names_local S.ck) ?_) (fun _ s' hq => wpAny_pure (wpAny_pure hq)) fun _ _ e => e)
    refine S.iter d A l σ s _ _ _ _ L a F q (fun e s' x => x.toS a F) fun σ1 s1 it s2 a1 st1 IA => ?_
    obtain ⟨I, xs, W, St, IT, hSt, hW, hI, q1⟩ := IA.ex
    have F1 := F.step a st1
    have F2 := F1.step a1 IA.step
    refine comp_core (RR := fun acc C => compPost X.M A (liftSX X env nm σ s Z) (some (assign (.Name y py) env)) (fun _ s' => liftS X env nm σ s Q .next s') acc C) EO L IA.at_ F2 (F.len.trans hN) S.ck S.kind IT hSt (fun b hb => ⟨(hW b hb).1, (hW b hb).2.1⟩) hI S.tgt S.test S.elt q1 ?_
    intro D C s' σ' acc mC hD hC hDC hσD hσC hns a3 st3 q3
    have noW : NoStay W s2.heap := fun b o hb e => by obtain ⟨o', e', h', _⟩ := IT.there 0 _ b hSt hb; rw [e] at e'; cases e'; exact h'
    have dis : ∀ b, FB env b → ¬ W b := fun b hb hw => absurd (FB.lt F1 hb) (Nat.not_lt.mpr (hW b hw).2.2)
    have F3 := F2.stepB IA.at_ st3 dis noW
    show wpAny X.M A (assign (.Name y py) env (.ref D)) _ _ s'
    refine wpAny_assign_Name (wp_store EO F3 a3 hy hky (.ref D) fun s4 F4 a4 st4 => ?_)
    have hCF : ¬ FB env C := fun hb => absurd (FB.lt F2 hb) (Nat.not_lt.mpr hC)
    have hCσ : (σ'.set D (.list acc)) C = none := by rw [AHeap.set_ne _ _ (Ne.symm hDC)]; exact hσC
    obtain ⟨oC, es, ep, hoC, hdC, hr⟩ := id hns
    have hoC4 : s4.heap.get? C = some oC := st4.keep C oC hoC hCσ hCF
    refine ⟨mC, ⟨oC, es, ep, hoC4, hdC, hr⟩, fun h' hs' => ?_⟩
    have hC0 : X.h₀.get? C = none := (new_out IA.at_ hC).2.1
    have nC : ∀ o, s4.heap.get? C = some o → ¬ Stays o := fun o ho => by rw [hoC4] at ho; cases ho; exact noStay_dict hdC
    have a5 : At X (σ'.set D (.list acc)) { s4 with heap := h' } := a4.aside (t := s4.toks) (h' := h') hCσ hC0 nC hs'
    have st5 : Step (fun b => b = C) (σ'.set D (.list acc)) s4 (σ'.set D (.list acc)) { s4 with heap := h' } := Step.aside (t := s4.toks) (h' := h') rfl hs'
    have F5 := F4.stepB a4 st5 (fun b hb e => hCF (e ▸ hb)) (fun b o hb e => by subst hb; exact nC o e)
    have stA : Step (fun b => FB env b ∨ s1.heap.objs.size ≤ b) σ1 s1 (σ'.set D (.list acc)) { s4 with heap := h' } := by
      have x1 : Step (fun b => FB env b ∨ s1.heap.objs.size ≤ b) σ1 s1 σ1 s2 := IA.step.weaken fun b hb => hb.elim
      have x2 : Step (fun b => FB env b ∨ s1.heap.objs.size ≤ b) σ1 s2 (σ'.set D (.list acc)) s' := st3.weaken fun b hb => .inr (hW b hb).2.2
      have x3 : Step (fun b => FB env b ∨ s1.heap.objs.size ≤ b) (σ'.set D (.list acc)) s' (σ'.set D (.list acc)) s4 := st4.weaken fun b hb => .inl hb
      have x4 : Step (fun b => FB env b ∨ s1.heap.objs.size ≤ b) (σ'.set D (.list acc)) s4 (σ'.set D (.list acc)) { s4 with heap := h' } := st5.weaken fun b hb => .inr (by rw [hb]; exact Nat.le_trans IA.step.size hC)
      exact x1.trans (x2.trans (x3.trans x4))
    exact ⟨.next, _, _, trivial, a5, F5, (st1.weaken FB.of_e0).trans (stA.drop fun b hb => hb), q3 D hσD⟩
end
end Mine

set_option maxRecDepth 100000
set_option linter.unusedVariables false
set_option autoImplicit false
namespace Mine
open PySem PyProof.Rows PySem.SeqAt PySem.W

/-- the ground: the heap that the top leaves, as a table -/
structure Gd (X : Cx) (K : Frag) : Prop where
  ok : X.Ok
  inn : K.In X.h₀
  bi : ∀ x : Str, x ≠ "__name__" → X.mb x = bootBuiltins x

structure EK (env : Env) (names : List (Str × NameKind)) : Prop where
  eo : EnvOk env
  nm : env.scope.names = names
def isVar (names : List (Str × NameKind)) (x : Str) : Bool := names.lookup x == some .local || names.lookup x == some .cell
def isGlob (names : List (Str × NameKind)) (x : Str) : Bool := names.lookup x == some .globalImplicit && !(x == ("__debug__" : Str))

section
variable {X : Cx} {K : Frag} {env : Env} {nm : List (Str × Nat)} {names : List (Str × NameKind)}

theorem EK.var (E : EK env names) {x : Str} (h : isVar names x = true) : env.kindOf x = some .local ∨ env.kindOf x = some .cell := by
  unfold Env.kindOf; rw [E.nm]
  unfold isVar at h
  simpa using h
theorem EK.glob (E : EK env names) {x : Str} (h : isGlob names x = true) : env.kindOf x = some .globalImplicit ∧ (x == ("__debug__" : Str)) = false := by
  unfold Env.kindOf; rw [E.nm]
  unfold isGlob at h
  simp only [Bool.and_eq_true, beq_iff_eq, Bool.not_eq_true'] at h
  exact h

/-- a builtin's name: hidden by no global -/
def isBi (K : Frag) (x : Str) (v : Value) : Prop := nsIn K mainGlobals x = some none ∧ bootBuiltins x = some v ∧ x ≠ "__name__"
theorem Gd.none (G : Gd X K) {x : Str} {v : Value} (h : isBi K x v) : X.mg x = none := mg_none_of G.inn G.ok.g h.1
theorem Gd.some (G : Gd X K) {x : Str} {v : Value} (h : isBi K x v) : X.mb x = some v := (G.bi x h.2.2).trans h.2.1

/-! comprehensions: names by number -/
def relab (names ns : List (Str × NameKind)) : List (Str × NameKind) := ns.map fun (n, k) => if (k == NameKind.free && true && names.lookup n == some NameKind.cell) then (n, NameKind.cell) else (n, k)
def compNm (nm : List (Str × Nat)) : Nat → List (Str × NameKind) → List (Str × Nat)
  | _, [] => []
  | n, (x, .local) :: r => (x, n) :: compNm nm (n + 1) r
  | n, (x, .free) :: r => (match nm.lookup x with | some i => (x, i) :: compNm nm n r | none => compNm nm n r)
  | n, _ :: r => compNm nm n r
def locsOf (ns : List (Str × NameKind)) : Nat := (ns.filter fun p => p.2 == .local).length
def nodupB : List Str → Bool
  | [] => true
  | x :: r => !r.contains x && nodupB r
theorem nodup_of : ∀ {l : List Str}, nodupB l = true → l.Nodup
  | [], _ => .nil
  | x :: r, h => by
    unfold nodupB at h
    simp only [Bool.and_eq_true, Bool.not_eq_true'] at h
    have h1 := h.1
    refine List.nodup_cons.mpr ⟨fun q => ?_, nodup_of h.2⟩
    rw [List.contains_iff_mem.mpr q] at h1; cases h1
def injB : List (Str × Nat) → Bool
  | [] => true
  | p :: r => r.all (fun q => !(q.2 == p.2)) && injB r
theorem inj_of : ∀ {l : List (Str × Nat)}, injB l = true → ∀ x y i, (x, i) ∈ l → (y, i) ∈ l → x = y
  | [], _, _, _, _, h, _ => nomatch h
  | p :: r, h, x, y, i, h1, h2 => by
    unfold injB at h
    simp only [Bool.and_eq_true, List.all_eq_true, Bool.not_eq_true', beq_eq_false_iff_ne, ne_eq] at h
    rcases List.mem_cons.mp h1 with e1 | h1 <;> rcases List.mem_cons.mp h2 with e2 | h2
    · rw [← e1] at e2; cases e2; rfl
    · rw [← e1] at h; exact absurd rfl (h.1 (y, i) h2)
    · rw [← e2] at h; exact absurd rfl (h.1 (x, i) h1)
    · exact inj_of h.2 x y i h1 h2
def compB (names : List (Str × NameKind)) (nm : List (Str × Nat)) (N : Nat) (ns : List (Str × NameKind)) : Bool :=
  nodupB (ns.map (·.1)) && ns.all (fun p => p.2 == .local || p.2 == .globalImplicit || (p.2 == .free && names.lookup p.1 == some .cell && (nm.lookup p.1).isSome)) &&
  (compNm nm N ns).all (fun p => (ns.lookup p.1 == some .local && N ≤ p.2 && p.2 < N + locsOf ns) || (ns.lookup p.1 == some .free && nm.lookup p.1 == some p.2)) && injB (compNm nm N ns) && lenOf (compNm nm N ns ++ nm) == N + locsOf ns &&
  ns.all (fun p => !(p.2 == .free) || (compNm nm N ns ++ nm).lookup p.1 == nm.lookup p.1) && lenOf (compNm nm N ns) == N + locsOf ns
theorem compOk_of {N : Nat} {ns : List (Str × NameKind)} (h : compB names nm N ns = true) : CompOk names nm N ns (compNm nm N ns) (locsOf ns) := by
  unfold compB at h
  simp only [Bool.and_eq_true, List.all_eq_true, beq_iff_eq, Bool.or_eq_true, decide_eq_true_eq, Bool.not_eq_true', beq_eq_false_iff_ne, ne_eq] at h
  obtain ⟨⟨⟨⟨⟨⟨h1, h2⟩, h3⟩, h4⟩, h5⟩, h6⟩, h7⟩ := h
  have nd := nodup_of h1
  have fr : ∀ (n : Nat) (l : List (Str × NameKind)) x i, (x, NameKind.free) ∈ l → nm.lookup x = some i → (x, i) ∈ compNm nm n l := by
    intro n l
    induction l generalizing n with
    | nil => intro x i hx; cases hx
    | cons p r ih =>
      intro x i hx hi
      obtain ⟨y, k⟩ := p
      rcases List.mem_cons.mp hx with e | hx'
      · cases e; unfold compNm; rw [hi]; exact List.mem_cons_self
      · clear hx
        cases k <;> unfold compNm
        all_goals first
          | exact ih _ x i hx' hi
          | exact List.mem_cons_of_mem _ (ih _ x i hx' hi)
          | (split
             · exact List.mem_cons_of_mem _ (ih _ x i hx' hi)
             · exact ih _ x i hx' hi)
  have nd' : ∀ (l : List (Str × NameKind)) (n : Nat), (l.map (·.1)).Nodup → ((compNm nm n l).map (·.1)).Nodup ∧ ∀ x, x ∈ (compNm nm n l).map (·.1) → x ∈ l.map (·.1) := by
    intro l
    induction l with
    | nil => intro n _; exact ⟨.nil, fun x hx => by simp [compNm] at hx⟩
    | cons p r ih =>
      intro n hn
      obtain ⟨y, k⟩ := p
      have hn' := List.nodup_cons.mp hn
      have stay : ∀ m, ((compNm nm m r).map (·.1)).Nodup ∧ ∀ x, x ∈ (compNm nm m r).map (·.1) → x ∈ ((y, k) :: r).map (·.1) := fun m => ⟨(ih m hn'.2).1, fun x hx => List.mem_cons_of_mem _ ((ih m hn'.2).2 x hx)⟩
      have more : ∀ m i, (((y, i) :: compNm nm m r).map (·.1)).Nodup ∧ ∀ x, x ∈ ((y, i) :: compNm nm m r).map (·.1) → x ∈ ((y, k) :: r).map (·.1) := fun m i =>
        ⟨List.nodup_cons.mpr ⟨fun q => hn'.1 ((ih m hn'.2).2 y q), (ih m hn'.2).1⟩, fun x hx => by
          rcases List.mem_cons.mp hx with e | hx
          · rw [e]; exact List.mem_cons_self
          · exact List.mem_cons_of_mem _ ((ih m hn'.2).2 x hx)⟩
      cases k <;> unfold compNm
      all_goals first
        | exact stay _
        | exact more _ _
        | (split
           · exact more _ _
           · exact stay _)
  refine ⟨nd, fun x kd hx => ?_, fun x i hx => ?_, fun x y i hx hy => inj_of h4 x y i (mem_of_lookup hx) (mem_of_lookup hy), h7⟩
  · rcases h2 (x, kd) hx with (q | q) | ⟨⟨q1, q2⟩, q3⟩
    · exact .inl q
    · exact .inr (.inl q)
    · obtain ⟨i, hi⟩ := Option.isSome_iff_exists.mp q3
      simp only at q1; subst q1
      exact .inr (.inr ⟨rfl, q2, i, hi, lookup_of_nodup (nd' _ _ nd).1 (fr _ _ _ _ hx hi)⟩)
  · rcases h3 (x, i) (mem_of_lookup hx) with ⟨⟨q1, q2⟩, q3⟩ | ⟨q1, q2⟩
    · exact .inl ⟨q1, q2, q3⟩
    · exact .inr ⟨q1, q2⟩

theorem EK.comp (E : EK env names) {N : Nat} {scope : Scope} (hc : compB names nm N scope.names = true) (hk : scope.kind = .function) (C : Addr) : EK (compEnvC scope (clo env.cells scope.names []) C env) (relab names scope.names) := by
  have CK : CompOk env.scope.names nm N scope.names (compNm nm N scope.names) (locsOf scope.names) := by rw [E.nm]; exact compOk_of hc
  refine ⟨envOk_comp E.eo CK hk C, ?_⟩
  show List.map _ scope.names = relab names scope.names
  unfold relab
  have : ∀ n, env.kindOf n = names.lookup n := fun n => by unfold Env.kindOf; rw [E.nm]
  simp only [this, E.eo.kind]
  rfl

namespace A
def lc (m : Nat → Loc → (AHeap → (AHeap → Prop) → List AV → Prop) → XP → AHeap → Prop) (t : Tgt) (k : Nat) (c : Option AE) (e : AE) : AE := fun d l Q Z σ => m d l (fun σ1 I xs => compL I t c e d (A.fin Q) xs [] (l ++ List.replicate k none) σ1) Z σ
def fr (m : Nat → Loc → (AHeap → (AHeap → Prop) → List AV → Prop) → XP → AHeap → Prop) (t : Tgt) (b : AS) : AS := fun d l Q Z σ => m d l (fun σ1 I xs => forL I t b d Q xs l σ1) (fun c σ' => Z c l σ') σ
def itP (m : AE) : Nat → Loc → (AHeap → (AHeap → Prop) → List AV → Prop) → XP → AHeap → Prop := fun d l K Z σ => m d l (fun v σ1 => itemsA v σ1 fun I xs => K σ1 I xs) Z σ
def itE (m : AE) : Nat → Loc → (AHeap → (AHeap → Prop) → List AV → Prop) → XP → AHeap → Prop := fun d l K Z σ => m d l (fun v σ1 => ∃ p xs, v = .ref p ∧ listAt p xs σ1 ∧ K σ1 (listAt p xs) (enumL 0 xs)) Z σ
def callF (X : Cx) (f : Addr) (args : List AE) : AE := fun d l Q Z σ => evalL args d l (fun as σ' => CallOk X f d as Q Z σ') Z σ
end A

theorem lcOk {elt target iter : Expr} {ifs : List Expr} {scope : Scope} {N : Nat} {t : Tgt} {c : Option AE} {e : AE} {m : Nat → Loc → (AHeap → (AHeap → Prop) → List AV → Prop) → XP → AHeap → Prop}
    (E : EK env names) (hc : compB names nm N scope.names = true) (hk : scope.kind = .function) (hn : notSet iter = true) (hi : SoundI X env nm target iter m)
    (ht : ∀ env', EK env' (relab names scope.names) → SoundTC X env' (compNm nm N scope.names) target t) (hcc : ∀ env', EK env' (relab names scope.names) → SoundC X env' (compNm nm N scope.names) ifs c)
    (he : ∀ env', EK env' (relab names scope.names) → SoundE X env' (compNm nm N scope.names) elt e) : SoundLC X env nm N elt target iter ifs scope (compNm nm N scope.names) (locsOf scope.names) t c e m :=
  ⟨hn, by rw [E.nm]; exact compOk_of hc, hk, hi, fun C => ht _ (E.comp hc hk C), fun C => hcc _ (E.comp hc hk C), fun C => he _ (E.comp hc hk C)⟩

/-! the rules, each with what it looks at -/
theorem w_comp {elt target iter : Expr} {ifs : List Expr} {scope : Scope} {pos : Pos} {t : Tgt} {c : Option AE} {e : AE} {m : Nat → Loc → (AHeap → (AHeap → Prop) → List AV → Prop) → XP → AHeap → Prop}
    (E : EK env names) (hc : compB names nm (lenOf nm) scope.names = true) (hk : scope.kind = .function) (hn : notSet iter = true) (hi : SoundI X env nm target iter m)
    (ht : ∀ env', EK env' (relab names scope.names) → SoundTC X env' (compNm nm (lenOf nm) scope.names) target t) (hcc : ∀ env', EK env' (relab names scope.names) → SoundC X env' (compNm nm (lenOf nm) scope.names) ifs c)
    (he : ∀ env', EK env' (relab names scope.names) → SoundE X env' (compNm nm (lenOf nm) scope.names) elt e) : SoundE X env nm (.ListComp elt [⟨target, iter, ifs, 0⟩] scope pos) (A.lc m t (locsOf scope.names) c e) :=
  sound_comp E.eo rfl (lcOk E hc hk hn hi ht hcc he)
theorem w_setComp {elt target iter : Expr} {ifs : List Expr} {scope : Scope} {cpos py pos : Pos} {y : Str} {i : Nat} {t : Tgt} {c : Option AE} {e : AE} {m : Nat → Loc → (AHeap → (AHeap → Prop) → List AV → Prop) → XP → AHeap → Prop}
    (E : EK env names) (hy : nm.lookup y = some i) (hv : isVar names y = true) (hc : compB names nm (lenOf nm) scope.names = true) (hk : scope.kind = .function) (hn : notSet iter = true) (hi : SoundI X env nm target iter m)
    (ht : ∀ env', EK env' (relab names scope.names) → SoundTC X env' (compNm nm (lenOf nm) scope.names) target t) (hcc : ∀ env', EK env' (relab names scope.names) → SoundC X env' (compNm nm (lenOf nm) scope.names) ifs c)
    (he : ∀ env', EK env' (relab names scope.names) → SoundE X env' (compNm nm (lenOf nm) scope.names) elt e) :
    SoundS X env nm (.Assign [.Name y py] (.ListComp elt [⟨target, iter, ifs, 0⟩] scope cpos) pos) (A.set i (A.lc m t (locsOf scope.names) c e)) :=
  sound_setComp E.eo rfl (lcOk E hc hk hn hi ht hcc he) hy (E.var hv)
theorem w_cNone {env : Env} {nm : List (Str × Nat)} : SoundC X env nm [] none := trivial
theorem w_cSome {env : Env} {nm : List (Str × Nat)} {e : Expr} {m : AE} (h : SoundB X env nm e m) : SoundC X env nm [e] (some m) := h
theorem w_tOne {x : Str} {pos : Pos} {i : Nat} (E : EK env names) (hx : nm.lookup x = some i) (hv : isVar names x = true) : SoundT X env nm (.Name x pos) (.one i) := soundT_one E.eo hx (E.var hv)
theorem EK.loc (E : EK env names) {x : Str} (h : (names.lookup x == some .local) = true) : env.kindOf x = some .local := by
  unfold Env.kindOf; rw [E.nm]; exact beq_iff_eq.mp h
theorem w_tcOne {x : Str} {pos : Pos} {i : Nat} (E : EK env names) (hx : nm.lookup x = some i) (hv : (names.lookup x == some .local) = true) : SoundTC X env nm (.Name x pos) (.one i) := soundTC_one E.eo hx (E.loc hv)
theorem w_tcMany {es : List Expr} {is : List Nat} {k : Nat} {pos : Pos} (E : EK env names) (N : NamesL env nm es is) : SoundTC X env nm (.Tuple es k pos) (.many is) := soundTC_many E.eo N
theorem w_nlNil {env : Env} {nm : List (Str × Nat)} : NamesL env nm [] [] := .nil
theorem w_nlCons {x : Str} {pos : Pos} {es : List Expr} {i : Nat} {is : List Nat} (E : EK env names) (hx : nm.lookup x = some i) (hv : (names.lookup x == some .local) = true) (r : NamesL env nm es is) : NamesL env nm (.Name x pos :: es) (i :: is) := .cons hx (E.loc hv) r

theorem w_loc {x : Str} {pos : Pos} {i : Nat} (E : EK env names) (hx : nm.lookup x = some i) (hv : isVar names x = true) (hd : (x == ("__debug__" : Str)) = false) : SoundE X env nm (.Name x pos) (A.loc i) := sound_loc E.eo hx (E.var hv) hd
theorem w_set {x : Str} {pos' pos : Pos} {value : Expr} {m : AE} {i : Nat} (E : EK env names) (hx : nm.lookup x = some i) (hv : isVar names x = true) (h : SoundE X env nm value m)
    (hs : swapsWith value (some (.Name x pos')) pos.line env = pure false) : SoundS X env nm (.Assign [.Name x pos'] value pos) (A.set i m) := sound_set E.eo h hx (E.var hv) hs
theorem w_prim {x : Str} {f : Value} {p : Prim} {es : List Expr} {ms : List AE} {gp pos : Pos} (G : Gd X K) (E : EK env names) (hb : isBi K x f) (hf : (∃ id, f = .builtin id) ∨ ∃ T, f = .type T) (hp : SoundPrim X f p) (hg : isGlob names x = true) (h : SoundEs X env nm es ms) :
    SoundE X env nm (.Call (.Name x gp) es [] pos) (A.prim p ms) := sound_prim G.ok E.eo (E.glob hg).1 (E.glob hg).2 (G.none hb) (G.some hb) hf hp h
theorem w_len {es : List Expr} {ms : List AE} {gp pos : Pos} (G : Gd X K) (E : EK env names) (hb : isBi K "len" (.builtin "len")) (hg : isGlob names "len" = true) (h : SoundEs X env nm es ms) :
    SoundE X env nm (.Call (.Name "len" gp) es [] pos) (A.prim pLen ms) := w_prim G E hb (.inl ⟨_, rfl⟩) sound_len hg h
theorem w_range {es : List Expr} {ms : List AE} {gp pos : Pos} (G : Gd X K) (E : EK env names) (hb : isBi K "range" (.type "range")) (hg : isGlob names "range" = true) (h : SoundEs X env nm es ms) :
    SoundE X env nm (.Call (.Name "range" gp) es [] pos) (A.prim pRange ms) := w_prim G E hb (.inr ⟨_, rfl⟩) sound_range hg h
theorem w_list {es : List Expr} {ms : List AE} {gp pos : Pos} (G : Gd X K) (E : EK env names) (hb : isBi K "list" (.type "list")) (hg : isGlob names "list" = true) (h : SoundEs X env nm es ms) :
    SoundE X env nm (.Call (.Name "list" gp) es [] pos) (A.prim pList ms) := w_prim G E hb (.inr ⟨_, rfl⟩) sound_list hg h
theorem w_isa {Tn : Str} (T : PyT) {e : Expr} {m : AE} {gp tp pos : Pos} (G : Gd X K) (E : EK env names) (hb : isBi K "isinstance" (.builtin "isinstance")) (hg : isGlob names "isinstance" = true) (hbT : isBi K Tn (.type T.name)) (hgT : isGlob names Tn = true) (hs : notStar e = true) (h : SoundE X env nm e m) :
    SoundE X env nm (.Call (.Name "isinstance" gp) [e, .Name Tn tp] [] pos) (A.isa T m) := sound_isa G.ok E.eo (E.glob hg).1 (G.none hb) (G.some hb) (E.glob hgT).1 (E.glob hgT).2 (G.none hbT) (G.some hbT) hs h
theorem w_enum {elts : List Expr} {x1 : Nat} {tp gp pos : Pos} {e : Expr} {m : AE} (G : Gd X K) (E : EK env names) (hb : isBi K "enumerate" (.type "enumerate")) (hg : isGlob names "enumerate" = true) (hs : notStar e = true) (h : SoundE X env nm e m) :
    SoundI X env nm (.Tuple elts x1 tp) (.Call (.Name "enumerate" gp) [e] [] pos) (A.itE m) := soundI_enum G.ok E.eo (E.glob hg).1 (G.none hb) (G.some hb) hs h
theorem w_it {target iter : Expr} {m : AE} (h : SoundE X env nm iter m) : SoundI X env nm target iter (A.itP m) := soundI_plain h
theorem w_for {target iter : Expr} {body : List Stmt} {pos : Pos} {t : Tgt} {b : AS} {m : Nat → Loc → (AHeap → (AHeap → Prop) → List AV → Prop) → XP → AHeap → Prop} (hn : notSet iter = true) (hi : SoundI X env nm target iter m) (ht : SoundT X env nm target t) (hb : SoundSs X env nm body b) :
    SoundS X env nm (.For target iter body [] pos) (A.fr m t b) := sound_for hn hi ht hb
/-- a def of the text -/
def isFn (K : Frag) (f : Addr) : Prop := ∃ o fd, K.lookup f = some o ∧ o.data = .func fd
theorem w_call {g : Str} {f : Addr} {es : List Expr} {ms : List AE} {gp pos : Pos} (G : Gd X K) (E : EK env names) (hf : nsIn K mainGlobals g = some (some (.ref f))) (hF : isFn K f) (hg : isGlob names g = true) (h : SoundEs X env nm es ms) :
    SoundE X env nm (.Call (.Name g gp) es [] pos) (A.callF X f ms) := fun d A l σ s Q Z L a F q =>
  sound_call G.ok E.eo (E.glob hg).1 (E.glob hg).2 h d A l σ s Q Z L a F ⟨f, mg_of G.inn G.ok.g hf, let ⟨o, fd, h1, h2⟩ := hF; ⟨o, fd, G.inn _ _ h1, h2⟩, q⟩
theorem w_es0 {env : Env} {nm : List (Str × Nat)} : SoundEs X env nm [] [] := .nil
theorem w_es1 {e : Expr} {es : List Expr} {m : AE} {ms : List AE} (hs : notStar e = true) (h : SoundE X env nm e m) (r : SoundEs X env nm es ms) : SoundEs X env nm (e :: es) (m :: ms) := .cons hs h r

/-! a call, by the table -/
def namesB (names : List (Str × NameKind)) (nm : List (Str × Nat)) (ps : List Str) : Bool :=
  nodupB (names.map (·.1)) && nm.all (fun p => names.lookup p.1 == some .local || names.lookup p.1 == some .cell) && injB nm && nodupB (nm.map (·.1)) && (nm.take ps.length == ps.zipIdx) && nodupB ps
theorem mem_lt_lenOf {nm : List (Str × Nat)} {x : Str} {i : Nat} (h : (x, i) ∈ nm) : i < lenOf nm := by
  unfold lenOf
  have gen : ∀ (l : List (Str × Nat)) (n : Nat), n ≤ l.foldl (fun n p => max n (p.2 + 1)) n ∧ ∀ x i, (x, i) ∈ l → i < l.foldl (fun n p => max n (p.2 + 1)) n := by
    intro l
    induction l with
    | nil => intro n; exact ⟨Nat.le_refl _, fun _ _ h => nomatch h⟩
    | cons p r ih =>
      intro n
      rw [List.foldl_cons]
      have := ih (max n (p.2 + 1))
      refine ⟨by lia, fun x i hx => ?_⟩
      rcases List.mem_cons.mp hx with e | hx
      · rw [← e] at this ⊢; simp only at this ⊢; lia
      · exact this.2 x i hx
  exact (gen nm 0).2 x i h
theorem namesOk_of {ps : List Str} (h : namesB names nm ps = true) : NamesOk names nm ps (lenOf nm) := by
  unfold namesB at h
  simp only [Bool.and_eq_true, List.all_eq_true, beq_iff_eq, Bool.or_eq_true] at h
  obtain ⟨⟨⟨⟨⟨h1, h2⟩, h3⟩, h4⟩, h5⟩, h6⟩ := h
  have nd := nodup_of h4
  have hz : ∀ (i : Nat) p, ps[i]? = some p → (p, i) ∈ nm := fun i p hp => by
    have : (p, i) ∈ ps.zipIdx := List.mk_mem_zipIdx_iff_getElem?.mpr hp
    rw [← h5] at this
    exact List.mem_of_mem_take this
  refine ⟨nodup_of h1, fun x i hx => ⟨mem_lt_lenOf (mem_of_lookup hx), h2 _ (mem_of_lookup hx)⟩, fun x y i hx hy => inj_of h3 x y i (mem_of_lookup hx) (mem_of_lookup hy), fun x i hx p hp => inj_of h3 p x i (hz i p hp) (mem_of_lookup hx),
    fun i p hp => lookup_of_nodup nd (hz i p hp), ?_, rfl, nodup_of h6⟩
  rcases Nat.eq_zero_or_pos ps.length with e | e
  · rw [e]; exact Nat.zero_le _
  · have : (ps[ps.length - 1], ps.length - 1) ∈ nm := hz _ _ (List.getElem?_eq_getElem (by lia))
    have := mem_lt_lenOf this; lia

theorem len1 {α : Type} {l : List α} {n : Nat} (h : l.length = n + 1) : ∃ a r, l = a :: r ∧ r.length = n := by
  cases l with
  | nil => simp at h
  | cons a r => exact ⟨a, r, rfl, by simpa using h⟩
theorem bind1 {fd : FuncData} {p : Str} (h : ∀ a0, bindArgs fd ⟨[a0], []⟩ = pure [(p, a0)]) (vs : List Value) (hl : vs.length = [p].length) : bindArgs fd ⟨vs, []⟩ = pure ([p].zip vs) := by
  obtain ⟨a0, v0, rfl, h0⟩ := len1 hl
  have e := List.length_eq_zero_iff.mp h0
  subst e
  exact h a0
theorem bind2 {fd : FuncData} {p q : Str} (h : ∀ a0 a1, bindArgs fd ⟨[a0, a1], []⟩ = pure [(p, a0), (q, a1)]) (vs : List Value) (hl : vs.length = [p, q].length) : bindArgs fd ⟨vs, []⟩ = pure ([p, q].zip vs) := by
  obtain ⟨a0, v0, rfl, h0⟩ := len1 hl
  obtain ⟨a1, v1, rfl, h1⟩ := len1 h0
  have e := List.length_eq_zero_iff.mp h1
  subst e
  exact h a0 a1
theorem bind3 {fd : FuncData} {p q r : Str} (h : ∀ a0 a1 a2, bindArgs fd ⟨[a0, a1, a2], []⟩ = pure [(p, a0), (q, a1), (r, a2)]) (vs : List Value) (hl : vs.length = [p, q, r].length) : bindArgs fd ⟨vs, []⟩ = pure ([p, q, r].zip vs) := by
  obtain ⟨a0, v0, rfl, h0⟩ := len1 hl
  obtain ⟨a1, v1, rfl, h1⟩ := len1 h0
  obtain ⟨a2, v2, rfl, h2⟩ := len1 h1
  have e := List.length_eq_zero_iff.mp h2
  subst e
  exact h a0 a1 a2
theorem bind4 {fd : FuncData} {p q r t : Str} (h : ∀ a0 a1 a2 a3, bindArgs fd ⟨[a0, a1, a2, a3], []⟩ = pure [(p, a0), (q, a1), (r, a2), (t, a3)]) (vs : List Value) (hl : vs.length = [p, q, r, t].length) : bindArgs fd ⟨vs, []⟩ = pure ([p, q, r, t].zip vs) := by
  obtain ⟨a0, v0, rfl, h0⟩ := len1 hl
  obtain ⟨a1, v1, rfl, h1⟩ := len1 h0
  obtain ⟨a2, v2, rfl, h2⟩ := len1 h1
  obtain ⟨a3, v3, rfl, h3⟩ := len1 h2
  have e := List.length_eq_zero_iff.mp h3
  subst e
  exact h a0 a1 a2 a3
/-- what a call of the def at f comes to -/
theorem callK {f : Addr} {oc : Value} {od : Option Addr} {fd : FuncData} {osl : Array (Option Value)} {body : List Stmt} (ps : List Str) (nm : List (Str × Nat)) {d : Nat} {m : AS} {args : List AV} {Q : Post} {Z : XP} {σ : AHeap} (G : Gd X K)
    (ho : K.lookup f = some ⟨oc, od, .func fd, osl⟩) (hb : fd.body = .stmts body) (hbind : ∀ vs, vs.length = ps.length → bindArgs fd ⟨vs, []⟩ = pure (ps.zip vs)) (hc : fd.closure = []) (hg : fd.globals = mainGlobals) (hbi : fd.builtins = builtinsNs) (hcd : codeIn K fd.code fd.qualname = true)
    (hN : namesB fd.scope.names nm ps = true) (hk : fd.scope.kind = .function) (hco : fd.scope.isCoroutine = false) (hgen : fd.scope.isGenerator = false)
    (hs : ∀ env, EK env fd.scope.names → SoundSs X env nm body m) (hd : d < 600) (hlen : args.length = ps.length)
    (h : m (d + 1) (loc0 args (lenOf nm)) (fun fl _ σ' => Q (retOf fl) σ') (fun _ _ _ => False) σ) : CallOk X f d args Q Z σ :=
  callOk_of G.ok (scope := fd.scope) ⟨_, fd, G.inn _ _ ho, rfl, rfl, hb, hc, hg, hbi, codeRec_of G.inn hcd, hbind⟩ (namesOk_of hN) hk hco hgen (fun env EO es => hs env ⟨EO, by rw [es]⟩) hd hlen h
end
end Mine
namespace Mine
open PySem
end Mine

set_option maxRecDepth 100000
set_option linter.unusedVariables false
set_option autoImplicit false
namespace Mine
open PySem PyProof.Rows

/-! ## the model's sort, for any run and any order by rank -/
structure SB (κ : SortKind) (a₀ : Array Keyed) (st : SortSt) : Prop where
  perm : (arrOf st).Perm a₀
  kind : kindOf st = κ
  failed : failedOf st = none

/-- the rank at a place -/
def Rk (ρ : Keyed → Nat) (xs : Array Keyed) (i : Nat) : Nat := match xs[i]? with | some p => ρ p | none => 0
def Srt (ρ : Keyed → Nat) (xs : Array Keyed) (a b : Nat) : Prop := ∀ i j, a ≤ i → i ≤ j → j < b → Rk ρ xs i ≤ Rk ρ xs j
def Dsc (ρ : Keyed → Nat) (xs : Array Keyed) (a b : Nat) : Prop := ∀ i j, a ≤ i → i ≤ j → j < b → Rk ρ xs j ≤ Rk ρ xs i
/-- nothing outside of a..b is touched -/
def Out (xs ys : Array Keyed) (a b : Nat) : Prop := ∀ k, (k < a ∨ b ≤ k) → ys[k]? = xs[k]?

theorem Rk_congr {ρ : Keyed → Nat} {xs ys : Array Keyed} {i j : Nat} (h : xs[i]? = ys[j]?) : Rk ρ xs i = Rk ρ ys j := by unfold Rk; rw [h]
theorem Rk_bubble {ρ : Keyed → Nat} {xs : Array Keyed} {src d : Nat} (hs : src < xs.size) (hd : d ≤ src) (k : Nat) :
    Rk ρ (bubble xs src d) k = if k = src - d then Rk ρ xs src else if src - d < k ∧ k ≤ src then Rk ρ xs (k - 1) else Rk ρ xs k := by
  have e := getElem?_bubble hs d hd k
  split at e
  · rw [if_pos (by assumption)]; exact Rk_congr e
  · rw [if_neg (by assumption)]
    split at e
    · rw [if_pos (by assumption)]; exact Rk_congr e
    · rw [if_neg (by assumption)]; exact Rk_congr e
theorem Rk_mirror {ρ : Keyed → Nat} {xs : Array Keyed} {i j : Nat} (hj : j ≤ xs.size) (k : Nat) :
    Rk ρ (mirror xs i j ((j - i) / 2)) k = if i ≤ k ∧ k < j then Rk ρ xs (i + j - 1 - k) else Rk ρ xs k := by
  have e := getElem?_mirror_all (i := i) hj k
  split at e
  · rw [if_pos (by assumption)]; exact Rk_congr e
  · rw [if_neg (by assumption)]; exact Rk_congr e
theorem Rk_mirror_eq {ρ : Keyed → Nat} {xs : Array Keyed} {i j : Nat} (hj : j ≤ xs.size) (he : ∀ k, i ≤ k → k < j → Rk ρ xs k = Rk ρ xs (j - 1)) (k : Nat) : Rk ρ (mirror xs i j ((j - i) / 2)) k = Rk ρ xs k := by
  rw [Rk_mirror hj]
  split
  · rw [he _ (by lia) (by lia), he k (by lia) (by lia)]
  · rfl

theorem Out.refl (xs : Array Keyed) (a b : Nat) : Out xs xs a b := fun _ _ => rfl
theorem Out.trans {xs ys zs : Array Keyed} {a b : Nat} (h : Out xs ys a b) (h' : Out ys zs a b) : Out xs zs a b := fun k hk => (h' k hk).trans (h k hk)
theorem Out.wide {xs ys : Array Keyed} {a b a' b' : Nat} (h : Out xs ys a b) (h1 : a' ≤ a) (h2 : b ≤ b') : Out xs ys a' b' := fun k hk => h k (by lia)
theorem out_mirror {xs : Array Keyed} {i j : Nat} (hj : j ≤ xs.size) : Out xs (mirror xs i j ((j - i) / 2)) i j := fun k hk => by
  rw [getElem?_mirror_all hj, if_neg (by lia)]
theorem out_bubble {xs : Array Keyed} {src d : Nat} (hs : src < xs.size) (hd : d ≤ src) : Out xs (bubble xs src d) (src - d) (src + 1) := fun k hk => by
  rw [getElem?_bubble hs d hd, if_neg (by lia), if_neg (by lia)]

theorem SB.size {κ : SortKind} {a₀ : Array Keyed} {st : SortSt} (h : SB κ a₀ st) : (arrOf st).size = a₀.size := h.perm.size_eq
theorem SB.setArr {κ : SortKind} {a₀ : Array Keyed} {st : SortSt} (h : SB κ a₀ st) {xs : Array Keyed} (hp : xs.Perm (arrOf st)) : SB κ a₀ (PyProof.Rows.setArr st xs) := ⟨hp.trans h.perm, h.kind, h.failed⟩
theorem SB.at_ {κ : SortKind} {a₀ : Array Keyed} {st : SortSt} (h : SB κ a₀ st) {i : Nat} (hi : i < a₀.size) : ∃ p, (arrOf st)[i]? = some p ∧ p ∈ a₀.toList := by
  have hi' : i < (arrOf st).size := by rw [h.size]; exact hi
  exact ⟨(arrOf st)[i], getElem?_pos _ i hi', (Array.perm_iff_toList_perm.mp h.perm).mem_iff.mp (by simp)⟩

/-- what the comparison of keys answers, in the state s -/
def CmpOk (prog : Program) (w : World) (A : Around) (s : Shared) (κ : SortKind) (ρ : Keyed → Nat) (a₀ : Array Keyed) : Prop :=
  ∀ p q, p ∈ a₀.toList → q ∈ a₀.toList → ∀ (Q : Bool → Shared → Prop) (E : Value → Shared → Prop), Q (decide (ρ p < ρ q)) s → wpAny (model prog w) A (keyLt' κ p.1 q.1) Q E s

section
variable {prog : Program} {w : World} {A : Around} {E : Value → Shared → Prop} {s : Shared} {a₀ : Array Keyed} {κ : SortKind} {ρ : Keyed → Nat}

theorem s_lt (H : CmpOk prog w A s κ ρ a₀) {st : SortSt} (hB : SB κ a₀ st) {p q : Keyed} (hp : p ∈ a₀.toList) (hq : q ∈ a₀.toList) {Q : Option Bool → SortSt → Prop} (h : Q (some (decide (ρ p < ρ q))) st) : wpS (model prog w) A E s (lt' p q) Q st := by
  rw [lt'_eq]
  refine wpS_bind (wpS_get ?_)
  rw [hB.kind]
  refine wpS_bind (wpS_lift (wpAny_attempt (H p q hp hq _ _ ⟨rfl, ?_⟩)))
  exact wpS_pure h
theorem s_elem {arr : Array Keyed} {i : Nat} {p : Keyed} {st : SortSt} {Q : Keyed → SortSt → Prop} (hp : arr[i]? = some p) (h : Q p st) : wpS (model prog w) A E s (elem' arr i) Q st := by
  rw [elem'_eq, hp]; exact wpS_pure h
theorem s_ltAt (H : CmpOk prog w A s κ ρ a₀) {st : SortSt} (hB : SB κ a₀ st) {i j : Nat} (hi : i < a₀.size) (hj : j < a₀.size) {Q : Option Bool → SortSt → Prop} (h : Q (some (decide (Rk ρ (arrOf st) i < Rk ρ (arrOf st) j))) st) :
    wpS (model prog w) A E s (ltAt' i j) Q st := by
  obtain ⟨p, e1, h1⟩ := hB.at_ hi
  obtain ⟨q, e2, h2⟩ := hB.at_ hj
  rw [ltAt'_eq]
  refine wpS_bind (wpS_get ?_)
  refine wpS_bind (s_elem e1 (wpS_bind (s_elem e2 (s_lt H hB h1 h2 ?_))))
  unfold Rk at h; rw [e1, e2] at h; exact h
theorem s_reverse {st : SortSt} {i j : Nat} {Q : Unit → SortSt → Prop} (h : Q () (setArr st (mirror (arrOf st) i j ((j - i) / 2)))) : wpS (model prog w) A E s (reverseSlice' i j) Q st := by
  rw [reverseSlice'_eq]; exact wpS_modify h
end

def upL (lo a nrem : Nat) : StateT SortSt Sem AscSt :=
  forIn [a:nrem] ((none, a) : AscSt) fun _ r => do
    let x ← ltAt' (lo + r.snd) (lo + r.snd - 1)
    match x with
    | some smaller => if smaller = true then pure (ForInStep.done (none, r.snd)) else pure (ForInStep.yield (none, r.snd + 1))
    | _ => pure (ForInStep.done (some none, r.snd))
def endL (lo n nrem : Nat) : StateT SortSt Sem (Option Nat) := do
  reverseSlice' lo (lo + n)
  let r ← upL lo n nrem
  match r.fst with
  | some r => pure r
  | none => pure (some r.snd)
def downL (lo n nrem : Nat) : StateT SortSt Sem DescSt :=
  forIn [n:nrem] ((none, n, 0) : DescSt) fun _ r => do
    let x ← ltAt' (lo + r.snd.fst) (lo + r.snd.fst - 1)
    match x with
    | some smaller =>
      if smaller = true then
        if r.snd.snd > 0 then do
          reverseSlice' (lo + r.snd.fst - (r.snd.snd + 1)) (lo + r.snd.fst)
          pure (ForInStep.yield (none, r.snd.fst + 1, 0))
        else pure (ForInStep.yield (none, r.snd.fst + 1, 0))
      else do
        let x ← ltAt' (lo + r.snd.fst - 1) (lo + r.snd.fst)
        match x with
        | some larger =>
          if larger = true then pure (ForInStep.done (none, r.snd.fst, r.snd.snd))
          else pure (ForInStep.yield (none, r.snd.fst + 1, r.snd.snd + 1))
        | _ => pure (ForInStep.done (some none, r.snd.fst, r.snd.snd))
    | _ => pure (ForInStep.done (some none, r.snd.fst, r.snd.snd))
def downP (lo n nrem : Nat) : StateT SortSt Sem (Option Nat) := do
  liftM (rule "list.sort.descending-run")
  let r ← downL lo (n + 1) nrem
  match r.fst with
  | some r => pure r
  | none =>
    if r.snd.snd > 0 then do
      reverseSlice' (lo + r.snd.fst - (r.snd.snd + 1)) (lo + r.snd.fst)
      endL lo r.snd.fst nrem
    else endL lo r.snd.fst nrem

theorem countRun_eq (lo nrem : Nat) : countRun' lo nrem = (do
    let r ← upL lo 1 nrem
    match r.fst with
    | some r => pure r
    | none =>
      if (r.snd == nrem) = true then pure (some r.snd)
      else if r.snd > 1 then do
        let x ← ltAt' lo (lo + r.snd - 1)
        match x with
        | some rose => if rose = true then pure (some r.snd) else do
            reverseSlice' lo (lo + r.snd)
            downP lo r.snd nrem
        | _ => pure none
      else downP lo r.snd nrem) := by
  rw [countRun'_eq]
  unfold downP endL downL upL
  dsimp only
  congr 1
  funext r
  obtain ⟨r, n⟩ := r
  cases r with
  | some r => rfl
  | none =>
    dsimp only
    split
    · rfl
    · split
      · congr 1
        funext x
        cases x with
        | none => rfl
        | some rose =>
          dsimp only
          split
          · rfl
          · congr 1
            funext _r
            congr 1; funext _u; congr 1; congr 1; funext s2; obtain ⟨r2, n2, q2⟩ := s2
            cases r2 with
            | some r2 => rfl
            | none =>
              dsimp only
              split
              · congr 1; funext _v; congr 1; funext _w; congr 1; funext s3; obtain ⟨r3, n3⟩ := s3; cases r3 <;> rfl
              · congr 1; funext _w; congr 1; funext s3; obtain ⟨r3, n3⟩ := s3; cases r3 <;> rfl
      · congr 1; funext _u; congr 1; congr 1; funext s2; obtain ⟨r2, n2, q2⟩ := s2
        cases r2 with
        | some r2 => rfl
        | none =>
          dsimp only
          split
          · congr 1; funext _v; congr 1; funext _w; congr 1; funext s3; obtain ⟨r3, n3⟩ := s3; cases r3 <;> rfl
          · congr 1; funext _w; congr 1; funext s3; obtain ⟨r3, n3⟩ := s3; cases r3 <;> rfl

section
variable {prog : Program} {w : World} {A : Around} {E : Value → Shared → Prop} {s : Shared} {a₀ : Array Keyed} {κ : SortKind} {ρ : Keyed → Nat}

theorem Srt.snoc {xs : Array Keyed} {lo x : Nat} (h : Srt ρ xs lo (lo + x)) (hx : 1 ≤ x) (h' : Rk ρ xs (lo + x - 1) ≤ Rk ρ xs (lo + x)) : Srt ρ xs lo (lo + (x + 1)) := fun i j hi hij hj => by
  by_cases hjx : j < lo + x
  · exact h i j hi hij hjx
  · have e : j = lo + x := by lia
    subst e
    by_cases hi' : i = lo + x
    · rw [hi']; exact Nat.le_refl _
    · exact Nat.le_trans (h i (lo + x - 1) hi (by lia) (by lia)) h'
theorem Dsc.snoc {xs : Array Keyed} {lo x : Nat} (h : Dsc ρ xs lo (lo + x)) (hx : 1 ≤ x) (h' : Rk ρ xs (lo + x) ≤ Rk ρ xs (lo + x - 1)) : Dsc ρ xs lo (lo + (x + 1)) := fun i j hi hij hj => by
  by_cases hjx : j < lo + x
  · exact h i j hi hij hjx
  · have e : j = lo + x := by lia
    subst e
    by_cases hi' : i = lo + x
    · rw [hi']; exact Nat.le_refl _
    · exact Nat.le_trans h' (h i (lo + x - 1) hi (by lia) (by lia))

theorem s_upL (H : CmpOk prog w A s κ ρ a₀) {st : SortSt} {lo a nrem : Nat} {Q : AscSt → SortSt → Prop} (hn : lo + nrem ≤ a₀.size) (ha : 1 ≤ a) (han : a ≤ nrem) (hB : SB κ a₀ st) (hs : Srt ρ (arrOf st) lo (lo + a))
    (h : ∀ n, a ≤ n → n ≤ nrem → Srt ρ (arrOf st) lo (lo + n) → (n = nrem ∨ Rk ρ (arrOf st) (lo + n) < Rk ρ (arrOf st) (lo + n - 1)) → Q (none, n) st) : wpS (model prog w) A E s (upL lo a nrem) Q st := by
  unfold upL
  refine wpS_forRange (I := fun x c st' => st' = st ∧ c = (none, x) ∧ Srt ρ (arrOf st) lo (lo + x)) ?step ?fin ⟨rfl, rfl, hs⟩
  case fin =>
    rintro c st' ⟨rfl, rfl, hs'⟩
    rw [show max a nrem = nrem by lia] at hs' ⊢
    exact h nrem han (Nat.le_refl _) hs' (.inl rfl)
  case step =>
    rintro x c st' hax hxn ⟨rfl, rfl, hs'⟩
    dsimp only
    refine wpS_bind (s_ltAt H hB (by lia) (by lia) ?_)
    by_cases hl : Rk ρ (arrOf st') (lo + x) < Rk ρ (arrOf st') (lo + x - 1)
    · simp only [hl, decide_true, if_true]
      exact wpS_pure (h x hax (by lia) hs' (.inr hl))
    · simp only [hl, decide_false, Bool.false_eq_true, if_false]
      exact wpS_pure ⟨rfl, rfl, hs'.snoc (by lia) (by lia)⟩

/-- what a run's search leaves -/
structure RunOk (κ : SortKind) (ρ : Keyed → Nat) (a₀ : Array Keyed) (st : SortSt) (lo nrem m : Nat) (st' : SortSt) : Prop where
  sb : SB κ a₀ st'
  m1 : 1 ≤ m
  le : m ≤ nrem
  srt : Srt ρ (arrOf st') lo (lo + m)
  out : Out (arrOf st) (arrOf st') lo (lo + nrem)
  pend : pendingOf st' = pendingOf st

theorem s_endL (H : CmpOk prog w A s κ ρ a₀) {st st₀ : SortSt} {lo n nrem : Nat} {Q : Option Nat → SortSt → Prop} (hn : lo + nrem ≤ a₀.size) (h1 : 1 ≤ n) (hnn : n ≤ nrem) (hB : SB κ a₀ st) (hs : Dsc ρ (arrOf st) lo (lo + n))
    (ho : Out (arrOf st₀) (arrOf st) lo (lo + nrem)) (hp : pendingOf st = pendingOf st₀) (h : ∀ m st', RunOk κ ρ a₀ st₀ lo nrem m st' → Q (some m) st') : wpS (model prog w) A E s (endL lo n nrem) Q st := by
  unfold endL
  have hsz : lo + n ≤ (arrOf st).size := by rw [hB.size]; lia
  refine wpS_bind (s_reverse ?_)
  have hB' : SB κ a₀ (setArr st (mirror (arrOf st) lo (lo + n) ((lo + n - lo) / 2))) := hB.setArr (mirror_perm _ _ _ _)
  refine wpS_bind (s_upL H hn h1 hnn hB' ?_ fun m hm1 hm2 hsm _ => wpS_pure (h m _ ⟨hB', by lia, hm2, hsm, ho.trans ((out_mirror hsz).wide (Nat.le_refl _) (by lia)), hp⟩))
  intro i j hi hij hj
  show Rk ρ (mirror (arrOf st) lo (lo + n) ((lo + n - lo) / 2)) i ≤ Rk ρ (mirror (arrOf st) lo (lo + n) ((lo + n - lo) / 2)) j
  rw [Rk_mirror hsz, Rk_mirror hsz, if_pos (by lia), if_pos (by lia)]
  exact hs _ _ (by lia) (by lia) (by lia)

theorem s_downL (H : CmpOk prog w A s κ ρ a₀) {st st₀ : SortSt} {lo n nrem : Nat} {Q : DescSt → SortSt → Prop} (hn : lo + nrem ≤ a₀.size) (h1 : 1 ≤ n) (hnn : n ≤ nrem) (hB : SB κ a₀ st) (hs : Dsc ρ (arrOf st) lo (lo + n))
    (ho : Out (arrOf st₀) (arrOf st) lo (lo + nrem)) (hp : pendingOf st = pendingOf st₀)
    (h : ∀ m neq st', SB κ a₀ st' → n ≤ m → m ≤ nrem → Dsc ρ (arrOf st') lo (lo + m) → neq + 1 ≤ m → (∀ i, lo + m - (neq + 1) ≤ i → i < lo + m → Rk ρ (arrOf st') i = Rk ρ (arrOf st') (lo + m - 1)) →
      Out (arrOf st₀) (arrOf st') lo (lo + nrem) → pendingOf st' = pendingOf st₀ → Q (none, m, neq) st') : wpS (model prog w) A E s (downL lo n nrem) Q st := by
  unfold downL
  refine wpS_forRange (I := fun x c st' => ∃ neq, c = (none, x, neq) ∧ SB κ a₀ st' ∧ Dsc ρ (arrOf st') lo (lo + x) ∧ neq + 1 ≤ x ∧
      (∀ i, lo + x - (neq + 1) ≤ i → i < lo + x → Rk ρ (arrOf st') i = Rk ρ (arrOf st') (lo + x - 1)) ∧ Out (arrOf st₀) (arrOf st') lo (lo + nrem) ∧ pendingOf st' = pendingOf st₀) ?step ?fin
    ⟨0, rfl, hB, hs, by lia, fun i h1 h2 => by congr 1; lia, ho, hp⟩
  case fin =>
    rintro c st' ⟨neq, rfl, hB', hs', hq, he, ho', hp'⟩
    rw [show max n nrem = nrem by lia] at hs' hq he ⊢
    exact h nrem neq st' hB' hnn (Nat.le_refl _) hs' hq he ho' hp'
  case step =>
    rintro x c st' hax hxn ⟨neq, rfl, hB', hs', hq, he, ho', hp'⟩
    dsimp only
    have hsz : lo + x ≤ (arrOf st').size := by rw [hB'.size]; lia
    refine wpS_bind (s_ltAt H hB' (by lia) (by lia) ?_)
    by_cases hl : Rk ρ (arrOf st') (lo + x) < Rk ρ (arrOf st') (lo + x - 1)
    · simp only [hl, decide_true, if_true]
      by_cases hneq : neq > 0
      · rw [if_pos hneq]
        refine wpS_bind (s_reverse (wpS_pure ⟨0, rfl, hB'.setArr (mirror_perm _ _ _ _), ?_, by lia, fun i h1 h2 => by congr 1; lia, ho'.trans ((out_mirror hsz).wide (by lia) (by lia)), hp'⟩))
        have e := Rk_mirror_eq (ρ := ρ) (i := lo + x - (neq + 1)) hsz he
        refine Dsc.snoc (fun i j hi hij hj => ?_) (by lia) ?_
        · show Rk ρ (mirror _ _ _ _) j ≤ Rk ρ (mirror _ _ _ _) i
          rw [e, e]; exact hs' i j hi hij hj
        · show Rk ρ (mirror _ _ _ _) _ ≤ Rk ρ (mirror _ _ _ _) _
          rw [e, e]; lia
      · rw [if_neg hneq]
        exact wpS_pure ⟨0, rfl, hB', hs'.snoc (by lia) (by lia), by lia, fun i h1 h2 => by congr 1; lia, ho', hp'⟩
    · simp only [hl, decide_false, Bool.false_eq_true, if_false]
      refine wpS_bind (s_ltAt H hB' (by lia) (by lia) ?_)
      by_cases hg : Rk ρ (arrOf st') (lo + x - 1) < Rk ρ (arrOf st') (lo + x)
      · simp only [hg, decide_true, if_true]
        exact wpS_pure (h x neq st' hB' hax (by lia) hs' hq he ho' hp')
      · simp only [hg, decide_false, Bool.false_eq_true, if_false]
        have hx : Rk ρ (arrOf st') (lo + x) = Rk ρ (arrOf st') (lo + x - 1) := by lia
        refine wpS_pure ⟨neq + 1, rfl, hB', hs'.snoc (by lia) (by lia), by lia, fun i h1 h2 => ?_, ho', hp'⟩
        rw [show lo + (x + 1) - 1 = lo + x by lia]
        by_cases hix : i = lo + x
        · rw [hix]
        · rw [hx]; exact he i (by lia) (by lia)

theorem s_downP (H : CmpOk prog w A s κ ρ a₀) {st st₀ : SortSt} {lo n nrem : Nat} {Q : Option Nat → SortSt → Prop} (hn : lo + nrem ≤ a₀.size) (hnn : n + 1 ≤ nrem) (hB : SB κ a₀ st) (hs : Dsc ρ (arrOf st) lo (lo + (n + 1)))
    (ho : Out (arrOf st₀) (arrOf st) lo (lo + nrem)) (hp : pendingOf st = pendingOf st₀) (h : ∀ m st', RunOk κ ρ a₀ st₀ lo nrem m st' → Q (some m) st') : wpS (model prog w) A E s (downP lo n nrem) Q st := by
  unfold downP
  refine wpS_bind (wpS_lift (wpAny_rule ⟨rfl, ?_⟩))
  refine wpS_bind (s_downL H hn (by lia) hnn hB hs ho hp fun m neq st' hB' hm1 hm2 hs' hq he ho' hp' => ?_)
  dsimp only
  have hsz : lo + m ≤ (arrOf st').size := by rw [hB'.size]; lia
  by_cases hneq : neq > 0
  · rw [if_pos hneq]
    have e := Rk_mirror_eq (ρ := ρ) (i := lo + m - (neq + 1)) hsz he
    refine wpS_bind (s_reverse (s_endL H hn (by lia) hm2 (hB'.setArr (mirror_perm _ _ _ _)) ?_ (ho'.trans ((out_mirror hsz).wide (by lia) (by lia))) hp' h))
    intro i j hi hij hj
    show Rk ρ (mirror _ _ _ _) j ≤ Rk ρ (mirror _ _ _ _) i
    rw [e, e]; exact hs' i j hi hij hj
  · rw [if_neg hneq]
    exact s_endL H hn (by lia) hm2 hB' hs' ho' hp' h

theorem s_countRun (H : CmpOk prog w A s κ ρ a₀) {st : SortSt} {lo nrem : Nat} {Q : Option Nat → SortSt → Prop} (hn : lo + nrem ≤ a₀.size) (h1 : 1 ≤ nrem) (hB : SB κ a₀ st)
    (h : ∀ m st', RunOk κ ρ a₀ st lo nrem m st' → Q (some m) st') : wpS (model prog w) A E s (countRun' lo nrem) Q st := by
  rw [countRun_eq]
  refine wpS_bind (s_upL H hn (Nat.le_refl 1) h1 hB (fun i j hi hij hj => by rw [show i = j by lia]; exact Nat.le_refl _) fun n hn1 hn2 hsn hor => ?_)
  dsimp only
  by_cases hnn : n = nrem
  · rw [if_pos (by simpa using hnn)]
    exact wpS_pure (h n st ⟨hB, hn1, hn2, hsn, Out.refl _ _ _, rfl⟩)
  · rw [if_neg (by simpa using hnn)]
    have hlt := hor.resolve_left hnn
    by_cases hgt : n > 1
    · rw [if_pos hgt]
      refine wpS_bind (s_ltAt H hB (by lia) (by lia) ?_)
      by_cases hr : Rk ρ (arrOf st) lo < Rk ρ (arrOf st) (lo + n - 1)
      · simp only [hr, decide_true, if_true]
        exact wpS_pure (h n st ⟨hB, hn1, hn2, hsn, Out.refl _ _ _, rfl⟩)
      · simp only [hr, decide_false, Bool.false_eq_true, if_false]
        have hsz : lo + n ≤ (arrOf st).size := by rw [hB.size]; lia
        have hall : ∀ k, lo ≤ k → k < lo + n → Rk ρ (arrOf st) k = Rk ρ (arrOf st) (lo + n - 1) := by
          intro k hk1 hk2
          have a1 := hsn lo k (by lia) hk1 hk2
          have a2 := hsn k (lo + n - 1) hk1 (by lia) (by lia)
          lia
        have e := Rk_mirror_eq (ρ := ρ) (i := lo) hsz hall
        refine wpS_bind (s_reverse (s_downP H hn (by lia) (hB.setArr (mirror_perm _ _ _ _)) ?_ ((out_mirror hsz).wide (Nat.le_refl _) (by lia)) rfl h))
        refine Dsc.snoc (fun i j hi hij hj => ?_) (by lia) ?_
        · show Rk ρ (mirror _ _ _ _) j ≤ Rk ρ (mirror _ _ _ _) i
          rw [e, e, hall i (by lia) (by lia), hall j (by lia) (by lia)]; exact Nat.le_refl _
        · show Rk ρ (mirror _ _ _ _) _ ≤ Rk ρ (mirror _ _ _ _) _
          rw [e, e]; lia
    · rw [if_neg hgt]
      have hn1' : n = 1 := by lia
      subst hn1'
      refine s_downP H hn (by lia) hB (Dsc.snoc (fun i j hi hij hj => by rw [show i = j by lia]; exact Nat.le_refl _) (Nat.le_refl _) (by lia)) (Out.refl _ _ _) rfl h

theorem s_binarySort (H : CmpOk prog w A s κ ρ a₀) {st : SortSt} {lo n ok : Nat} {Q : Bool → SortSt → Prop} (hn : lo + n ≤ a₀.size) (hn1 : 1 ≤ n) (hok : ok ≤ n) (hB : SB κ a₀ st) (hs : Srt ρ (arrOf st) lo (lo + ok))
    (h : ∀ st', RunOk κ ρ a₀ st lo n n st' → Q true st') : wpS (model prog w) A E s (binarySort' lo n ok) Q st := by
  rw [binarySort'_eq]
  refine wpS_bind (wpS_mono (wpS_forRange (I := fun k c st' => c = (none, ()) ∧ SB κ a₀ st' ∧ Srt ρ (arrOf st') lo (lo + min k n) ∧ Out (arrOf st) (arrOf st') lo (lo + n) ∧ pendingOf st' = pendingOf st)
    (Q := fun c st' => c = (none, ()) ∧ RunOk κ ρ a₀ st lo n n st') ?step ?fin ?init) ?post)
  case post =>
    rintro c st' ⟨rfl, hR⟩
    exact wpS_pure (h st' hR)
  case init =>
    refine ⟨rfl, hB, fun i j hi hij hj => ?_, Out.refl _ _ _, rfl⟩
    by_cases h1 : ok = 0
    · rw [show i = j by lia]; exact Nat.le_refl _
    · exact hs i j hi hij (by lia)
  case fin =>
    rintro c st' ⟨hc, hB', hs', ho', hp'⟩
    rw [show min (max (max ok 1) n) n = n by lia] at hs'
    exact ⟨hc, hB', hn1, Nat.le_refl _, hs', ho', hp'⟩
  case step =>
    rintro k c st' hak hkn ⟨rfl, hB', hs', ho', hp'⟩
    rw [show min k n = k by lia] at hs'
    have hk : lo + k < a₀.size := by lia
    refine wpS_bind (wpS_mono (wpS_forRange (I := fun x c st'' => st'' = st' ∧ ∃ l r, c = (none, l, r) ∧ l ≤ r ∧ r ≤ k ∧ r - l ≤ k - x ∧
        (∀ i, i < l → Rk ρ (arrOf st') (lo + i) ≤ Rk ρ (arrOf st') (lo + k)) ∧ (∀ i, r ≤ i → i < k → Rk ρ (arrOf st') (lo + k) < Rk ρ (arrOf st') (lo + i)))
      (Q := fun c st'' => st'' = st' ∧ ∃ l r, c = (none, l, r) ∧ l ≤ k ∧
        (∀ i, i < l → Rk ρ (arrOf st') (lo + i) ≤ Rk ρ (arrOf st') (lo + k)) ∧ (∀ i, l ≤ i → i < k → Rk ρ (arrOf st') (lo + k) < Rk ρ (arrOf st') (lo + i))) ?istep ?ifin ?iinit) ?ipost)
    case iinit => exact ⟨rfl, 0, k, rfl, by lia, by lia, by lia, fun i hi => by lia, fun i h1 h2 => by lia⟩
    case ifin =>
      rintro c st'' ⟨rfl, l, r, rfl, hlr, hrk, hm, hlo, hhi⟩
      have : l = r := by lia
      subst this
      exact ⟨rfl, l, l, rfl, hrk, hlo, hhi⟩
    case istep =>
      rintro x c st'' _ hxk ⟨rfl, l, r, rfl, hlr, hrk, hm, hlo, hhi⟩
      dsimp only
      by_cases hge : l ≥ r
      · rw [if_pos hge]
        have : l = r := by lia
        subst this
        exact wpS_pure ⟨rfl, l, l, rfl, hrk, hlo, hhi⟩
      · rw [if_neg hge]
        refine wpS_bind (s_ltAt H hB' hk (by lia) ?_)
        by_cases hless : Rk ρ (arrOf st'') (lo + k) < Rk ρ (arrOf st'') (lo + (l + r) / 2)
        · simp only [hless, decide_true, if_true]
          refine wpS_pure ⟨rfl, l, (l + r) / 2, rfl, by lia, by lia, by lia, hlo, fun i h1 h2 => ?_⟩
          exact Nat.lt_of_lt_of_le hless (hs' _ _ (by lia) (by lia) (by lia))
        · simp only [hless, decide_false, Bool.false_eq_true, if_false]
          refine wpS_pure ⟨rfl, (l + r) / 2 + 1, r, rfl, by lia, by lia, by lia, fun i h1 => ?_, hhi⟩
          exact Nat.le_trans (hs' (lo + i) (lo + (l + r) / 2) (by lia) (by lia) (by lia)) (Nat.not_lt.mp hless)
    case ipost =>
      rintro c st'' ⟨rfl, l, r, rfl, hlk, hlo, hhi⟩
      show wpS _ _ _ _ (do moveDown' (lo + k) (lo + l); pure (ForInStep.yield (none, ()))) _ _
      rw [moveDown'_eq]
      have hks : lo + k < (arrOf st'').size := by rw [hB'.size]; exact hk
      have hd : lo + k - (lo + l) ≤ lo + k := by lia
      refine wpS_bind (wpS_modify (wpS_pure ⟨rfl, hB'.setArr (bubble_perm _ _ _), ?_, ho'.trans ((out_bubble hks hd).wide (by lia) (by lia)), hp'⟩))
      rw [show min (k + 1) n = k + 1 by lia]
      intro i j hi hij hj
      show Rk ρ (bubble (arrOf st'') (lo + k) (lo + k - (lo + l))) i ≤ Rk ρ (bubble (arrOf st'') (lo + k) (lo + k - (lo + l))) j
      rw [Rk_bubble hks hd, Rk_bubble hks hd, show lo + k - (lo + k - (lo + l)) = lo + l by lia]
      have hlo' : ∀ i, lo ≤ i → i < lo + l → Rk ρ (arrOf st'') i ≤ Rk ρ (arrOf st'') (lo + k) := fun i h1 h2 => by have := hlo (i - lo) (by lia); rwa [show lo + (i - lo) = i by lia] at this
      have hhi' : ∀ i, lo + l ≤ i → i < lo + k → Rk ρ (arrOf st'') (lo + k) < Rk ρ (arrOf st'') i := fun i h1 h2 => by have := hhi (i - lo) (by lia) (by lia); rwa [show lo + (i - lo) = i by lia] at this
      repeat' split
      all_goals first
        | (exfalso; lia)
        | exact Nat.le_refl _
        | exact hlo' _ (by lia) (by lia)
        | exact Nat.le_of_lt (hhi' _ (by lia) (by lia))
        | exact hs' _ _ (by lia) (by lia) (by lia)
end
theorem srt_pair {ρ : Keyed → Nat} {a : Array Keyed} (SA : Srt ρ a 0 a.size) : a.toList.Pairwise fun x y => ρ x ≤ ρ y := by
  rw [List.pairwise_iff_getElem]
  intro i j hi hj hij
  have h1 : i < a.size := by simpa using hi
  have h2 : j < a.size := by simpa using hj
  have := SA i j (Nat.zero_le _) (by lia) h2
  have e1 : Rk ρ a i = ρ a.toList[i] := by unfold Rk; rw [getElem?_pos a i h1]; simp
  have e2 : Rk ρ a j = ρ a.toList[j] := by unfold Rk; rw [getElem?_pos a j h2]; simp
  rw [e1, e2] at this; exact this
end Mine

set_option maxRecDepth 100000
set_option linter.unusedVariables false
set_option autoImplicit false
namespace Mine
open PySem PyProof.Rows

def gallop' : Bool → Keyed → Array Keyed → Nat → Nat → Nat → StateT SortSt Sem (Option Nat) := sortPriv% PySem.Builtin.gallop
def beyond' (left : Bool) (key : Keyed) (arr : Array Keyed) (base i : Nat) : StateT SortSt Sem (Option Bool) := do
  let x ← elem' arr (base + i)
  if left then lt' x key else return (← lt' key x).map (!·)
theorem gallop'_eq (left : Bool) (key : Keyed) (arr : Array Keyed) (base n hint : Nat) : gallop' left key arr base n hint = (do
  let mut lastofs := 0
  let mut ofs := 1
  let mut lo := 0
  let mut hi := 0
  let some right ← beyond' left key arr base hint | return none
  if right then
    let maxofs := n - hint
    for _ in [0:n] do
      if ofs ≥ maxofs then break
      let some more ← beyond' left key arr base (hint + ofs) | return none
      if !more then break
      lastofs := ofs
      ofs := 2 * ofs + 1
    lo := hint + lastofs + 1
    hi := hint + min ofs maxofs
  else
    let maxofs := hint + 1
    for _ in [0:n] do
      if ofs ≥ maxofs then break
      let some found ← beyond' left key arr base (hint - ofs) | return none
      if found then break
      lastofs := ofs
      ofs := 2 * ofs + 1
    lo := hint + 1 - min ofs maxofs
    hi := hint - lastofs
  for _ in [0:n] do
    if lo ≥ hi then break
    let m := lo + (hi - lo) / 2
    let some more ← beyond' left key arr base m | return none
    if more then lo := m + 1 else hi := m
  return some hi) := rfl

section
variable {prog : Program} {w : World} {A : Around} {E : Value → Shared → Prop} {s : Shared} {a₀ : Array Keyed} {κ : SortKind} {ρ : Keyed → Nat}

/-- what a step of the gallop asks -/
def byd (left : Bool) (ρ : Keyed → Nat) (key : Keyed) (arr : Array Keyed) (base i : Nat) : Bool := if left then decide (Rk ρ arr (base + i) < ρ key) else !decide (ρ key < Rk ρ arr (base + i))
theorem s_beyond (H : CmpOk prog w A s κ ρ a₀) {st : SortSt} (hB : SB κ a₀ st) {left : Bool} {key : Keyed} {arr : Array Keyed} {base i : Nat} (hk : key ∈ a₀.toList) (ha : ∀ p ∈ arr.toList, p ∈ a₀.toList) (hi : base + i < arr.size) {Q : Option Bool → SortSt → Prop}
    (h : Q (some (byd left ρ key arr base i)) st) : wpS (model prog w) A E s (beyond' left key arr base i) Q st := by
  have e : arr[base + i]? = some arr[base + i] := getElem?_pos arr (base + i) hi
  have hm : arr[base + i] ∈ a₀.toList := ha _ (by simp)
  have er : Rk ρ arr (base + i) = ρ arr[base + i] := by unfold Rk; rw [e]
  unfold byd at h
  rw [er] at h
  unfold beyond'
  refine wpS_bind (s_elem e ?_)
  cases left with
  | true => simp only [if_true] at h ⊢; exact s_lt H hB hm hk h
  | false =>
    simp only [Bool.false_eq_true, if_false] at h ⊢
    exact wpS_bind (s_lt H hB hk hm (wpS_pure h))

/-- the place that a gallop finds -/
theorem s_gallop (H : CmpOk prog w A s κ ρ a₀) {st : SortSt} (hB : SB κ a₀ st) {left : Bool} {key : Keyed} {arr : Array Keyed} {base n hint : Nat} (hk : key ∈ a₀.toList) (ha : ∀ p ∈ arr.toList, p ∈ a₀.toList) (hn : base + n ≤ arr.size) (hh : hint < n) (hs : Srt ρ arr base (base + n))
    {Q : Option Nat → SortSt → Prop} (h : ∀ p, p ≤ n → (∀ i, i < p → byd left ρ key arr base i = true) → (∀ i, p ≤ i → i < n → byd left ρ key arr base i = false) → Q (some p) st) : wpS (model prog w) A E s (gallop' left key arr base n hint) Q st := by
  have mono : ∀ i j, i ≤ j → j < n → byd left ρ key arr base j = true → byd left ρ key arr base i = true := fun i j hij hj => by
    have := hs (base + i) (base + j) (by lia) (by lia) (by lia)
    unfold byd
    cases left
    · simp only [Bool.false_eq_true, if_false, Bool.not_eq_true', decide_eq_false_iff_not]; lia
    · simp only [if_true, decide_eq_true_eq]; lia
  have mono' : ∀ i j, i ≤ j → j < n → byd left ρ key arr base i = false → byd left ρ key arr base j = false := fun i j hij hj hi => by
    cases hb : byd left ρ key arr base j with
    | false => rfl
    | true => rw [mono i j hij hj hb] at hi; cases hi
  have bin : ∀ (lo hi : Nat), lo ≤ hi → hi ≤ n → (∀ i, i < lo → byd left ρ key arr base i = true) → (∀ i, hi ≤ i → i < n → byd left ρ key arr base i = false) → ∀ {Q' : (Option (Option Nat) × Nat × Nat) → SortSt → Prop},
      (∀ p q, p ≤ n → (∀ i, i < p → byd left ρ key arr base i = true) → (∀ i, p ≤ i → i < n → byd left ρ key arr base i = false) → Q' (none, q, p) st) →
      wpS (model prog w) A E s (forIn [0:n] ((none, lo, hi) : Option (Option Nat) × Nat × Nat) fun _ r => do
        if r.2.1 ≥ r.2.2 then pure (ForInStep.done (none, r.2.1, r.2.2)) else do
          let x ← beyond' left key arr base (r.2.1 + (r.2.2 - r.2.1) / 2)
          match x with
          | some more => if more = true then pure (ForInStep.yield (none, r.2.1 + (r.2.2 - r.2.1) / 2 + 1, r.2.2)) else pure (ForInStep.yield (none, r.2.1, r.2.1 + (r.2.2 - r.2.1) / 2))
          | _ => pure (ForInStep.done (some none, r.2.1, r.2.2))) Q' st := by
    intro lo hi hlh hhn hlo hhi Q' hQ
    refine wpS_forRange (I := fun x c st' => st' = st ∧ ∃ l r, c = (none, l, r) ∧ l ≤ r ∧ r ≤ n ∧ r - l ≤ n - x ∧ (∀ i, i < l → byd left ρ key arr base i = true) ∧ (∀ i, r ≤ i → i < n → byd left ρ key arr base i = false)) ?step ?fin ⟨rfl, lo, hi, rfl, hlh, hhn, by lia, hlo, hhi⟩
    case fin =>
      rintro c st' ⟨rfl, l, r, rfl, h1, h2, h3, h4, h5⟩
      have : l = r := by lia
      subst this
      exact hQ l l h2 h4 h5
    case step =>
      rintro x c st' _ hx ⟨rfl, l, r, rfl, h1, h2, h3, h4, h5⟩
      dsimp only
      by_cases hge : l ≥ r
      · rw [if_pos hge]
        have : l = r := by lia
        subst this
        exact wpS_pure (hQ l l h2 h4 h5)
      · rw [if_neg hge]
        refine wpS_bind (s_beyond H hB hk ha (by lia) ?_)
        dsimp only
        cases hb : byd left ρ key arr base (l + (r - l) / 2) with
        | true =>
          simp only [if_true]
          exact wpS_pure ⟨rfl, _, r, rfl, by lia, h2, by lia, fun i hi => mono i _ (by lia) (by lia) hb, h5⟩
        | false =>
          simp only [Bool.false_eq_true, if_false]
          exact wpS_pure ⟨rfl, l, _, rfl, by lia, by lia, by lia, h4, fun i h6 h7 => mono' _ i h6 h7 hb⟩
  rw [gallop'_eq]
  refine wpS_bind (s_beyond H hB hk ha (by lia) ?_)
  dsimp only
  cases hb : byd left ρ key arr base hint with
  | true =>
    simp only [if_true]
    refine wpS_bind (wpS_mono (wpS_forRange (I := fun x c st' => st' = st ∧ ∃ a b, c = (none, a, b) ∧ a < b ∧ x + 1 ≤ b ∧ hint + a < n ∧ byd left ρ key arr base (hint + a) = true)
      (Q := fun c st' => st' = st ∧ ∃ a b, c = (none, a, b) ∧ a < b ∧ hint + a < n ∧ byd left ρ key arr base (hint + a) = true ∧ (b ≥ n - hint ∨ byd left ρ key arr base (hint + b) = false)) ?step ?fin ⟨rfl, 0, 1, rfl, by lia, by lia, by lia, by simpa using hb⟩) ?post)
    case fin =>
      rintro c st' ⟨rfl, a, b, rfl, h1, h2, h3, h4⟩
      exact ⟨rfl, a, b, rfl, h1, h3, h4, .inl (by lia)⟩
    case step =>
      rintro x c st' _ hx ⟨rfl, a, b, rfl, h1, h2, h3, h4⟩
      dsimp only
      by_cases hge : b ≥ n - hint
      · rw [if_pos hge]; exact wpS_pure ⟨rfl, a, b, rfl, h1, h3, h4, .inl hge⟩
      · rw [if_neg hge]
        refine wpS_bind (s_beyond H hB hk ha (by lia) ?_)
        dsimp only
        cases hb' : byd left ρ key arr base (hint + b) with
        | true => simp only [Bool.not_true, Bool.false_eq_true, if_false]; exact wpS_pure ⟨rfl, b, _, rfl, by lia, by lia, by lia, hb'⟩
        | false => simp only [Bool.not_false, if_true]; exact wpS_pure ⟨rfl, a, b, rfl, h1, h3, h4, .inr hb'⟩
    case post =>
      rintro c st' ⟨rfl, a, b, rfl, h1, h3, h4, h5⟩
      dsimp only
      refine wpS_bind (bin _ _ (by lia) (by lia) (fun i hi => mono i (hint + a) (by lia) h3 h4) (fun i h6 h7 => ?_) fun p q hp hq1 hq2 => wpS_pure (h p hp hq1 hq2))
      rcases h5 with h5 | h5
      · lia
      · rcases Nat.lt_or_ge b (n - hint) with h8 | h8
        · exact mono' (hint + b) i (by lia) h7 h5
        · lia
  | false =>
    simp only [Bool.false_eq_true, if_false]
    refine wpS_bind (wpS_mono (wpS_forRange (I := fun x c st' => st' = st ∧ ∃ a b, c = (none, a, b) ∧ a < b ∧ x + 1 ≤ b ∧ a ≤ hint ∧ byd left ρ key arr base (hint - a) = false)
      (Q := fun c st' => st' = st ∧ ∃ a b, c = (none, a, b) ∧ a < b ∧ a ≤ hint ∧ byd left ρ key arr base (hint - a) = false ∧ (b ≥ hint + 1 ∨ byd left ρ key arr base (hint - b) = true)) ?step2 ?fin2 ⟨rfl, 0, 1, rfl, by lia, by lia, by lia, by simpa using hb⟩) ?post2)
    case fin2 =>
      rintro c st' ⟨rfl, a, b, rfl, h1, h2, h3, h4⟩
      exact ⟨rfl, a, b, rfl, h1, h3, h4, .inl (by lia)⟩
    case step2 =>
      rintro x c st' _ hx ⟨rfl, a, b, rfl, h1, h2, h3, h4⟩
      dsimp only
      by_cases hge : b ≥ hint + 1
      · rw [if_pos hge]; exact wpS_pure ⟨rfl, a, b, rfl, h1, h3, h4, .inl hge⟩
      · rw [if_neg hge]
        refine wpS_bind (s_beyond H hB hk ha (by lia) ?_)
        dsimp only
        cases hb' : byd left ρ key arr base (hint - b) with
        | true => simp only [if_true]; exact wpS_pure ⟨rfl, a, b, rfl, h1, h3, h4, .inr hb'⟩
        | false => simp only [Bool.false_eq_true, if_false]; exact wpS_pure ⟨rfl, b, _, rfl, by lia, by lia, by lia, hb'⟩
    case post2 =>
      rintro c st' ⟨rfl, a, b, rfl, h1, h3, h4, h5⟩
      dsimp only
      refine wpS_bind (bin _ _ (by lia) (by lia) (fun i hi => ?_) (fun i h6 h7 => mono' (hint - a) i h6 h7 h4) fun p q hp hq1 hq2 => wpS_pure (h p hp hq1 hq2))
      rcases h5 with h5 | h5
      · lia
      · rcases Nat.lt_or_ge b (hint + 1) with h8 | h8
        · exact mono i (hint - b) (by lia) (by lia) h5
        · lia
end
end Mine

set_option maxRecDepth 100000
set_option linter.unusedVariables false
set_option autoImplicit false
namespace Mine
open PySem PyProof.Rows

def setG' : Nat → StateT SortSt Sem Unit := sortPriv% PySem.Builtin.setMinGallop
abbrev setGal (st : SortSt) (g : Nat) : SortSt := SortSt.mk' (kindOf st) (arrOf st) (pendingOf st) g (failedOf st)
theorem setG'_eq (g : Nat) : setG' g = modify fun s => setGal s g := rfl
def mergeLo' : Array Keyed → Array Keyed → StateT SortSt Sem (Array Keyed) := sortPriv% PySem.Builtin.mergeLo
def mergeHi' : Array Keyed → Array Keyed → StateT SortSt Sem (Array Keyed) := sortPriv% PySem.Builtin.mergeHi
/-! the invariant of a merge from below -/
structure MI (ρ : Keyed → Nat) (a b out : Array Keyed) (ia ib : Nat) : Prop where
  la : ia ≤ a.size
  lb : ib ≤ b.size
  perm : (out.toList ++ a.toList.drop ia ++ b.toList.drop ib).Perm (a.toList ++ b.toList)
  srt : out.toList.Pairwise fun x y => ρ x ≤ ρ y
  oa : ∀ x ∈ out.toList, ∀ y ∈ a.toList.drop ia, ρ x ≤ ρ y
  ob : ∀ x ∈ out.toList, ∀ y ∈ b.toList.drop ib, ρ x ≤ ρ y
/-- a merge's end -/
structure MR (ρ : Keyed → Nat) (a b r : Array Keyed) : Prop where
  perm : r.toList.Perm (a.toList ++ b.toList)
  srt : r.toList.Pairwise fun x y => ρ x ≤ ρ y

theorem mem_dropA {ρ : Keyed → Nat} {a : Array Keyed} {i : Nat} {y : Keyed} (h : y ∈ a.toList.drop i) : ∃ j, i ≤ j ∧ j < a.size ∧ a[j]? = some y ∧ Rk ρ a j = ρ y := by
  obtain ⟨k, hk⟩ := List.mem_iff_getElem?.mp h
  rw [List.getElem?_drop] at hk
  have hk' : a[i + k]? = some y := by rw [← Array.getElem?_toList]; exact hk
  have hlt : i + k < a.size := by
    have := (List.getElem?_eq_some_iff.mp hk).1
    simpa using this
  exact ⟨i + k, by lia, hlt, hk', by unfold Rk; rw [hk']⟩
theorem mem_takeA {ρ : Keyed → Nat} {a : Array Keyed} {i : Nat} {y : Keyed} (h : y ∈ a.toList.take i) : ∃ j, j < i ∧ j < a.size ∧ a[j]? = some y ∧ Rk ρ a j = ρ y := by
  obtain ⟨k, hk⟩ := List.mem_iff_getElem?.mp h
  rw [List.getElem?_take] at hk
  split at hk
  · have hk' : a[k]? = some y := by rw [← Array.getElem?_toList]; exact hk
    have hlt : k < a.size := by
      have := (List.getElem?_eq_some_iff.mp hk).1
      simpa using this
    exact ⟨k, by lia, hlt, hk', by unfold Rk; rw [hk']⟩
  · cases hk
theorem drop_at {a : Array Keyed} {i : Nat} {x : Keyed} (h : a[i]? = some x) : a.toList.drop i = x :: a.toList.drop (i + 1) := by
  have h' : a.toList[i]? = some x := by rw [Array.getElem?_toList]; exact h
  obtain ⟨hi, e⟩ := List.getElem?_eq_some_iff.mp h'
  rw [List.drop_eq_getElem_cons hi, e]
theorem take_at {a : Array Keyed} {i : Nat} {x : Keyed} (h : a[i]? = some x) : a.toList.take (i + 1) = a.toList.take i ++ [x] := by
  have h' : a.toList[i]? = some x := by rw [Array.getElem?_toList]; exact h
  rw [List.take_add_one, h']; rfl

section
variable {ρ : Keyed → Nat} {a b out : Array Keyed} {ia ib : Nat}
theorem MI.pushB (M : MI ρ a b out ia ib) (SA : Srt ρ a 0 a.size) (SBb : Srt ρ b 0 b.size) {x : Keyed} (hx : b[ib]? = some x) (hib : ib < b.size) (hle : ia < a.size → ρ x ≤ Rk ρ a ia) : MI ρ a b (out.push x) ia (ib + 1) := by
  have ex : Rk ρ b ib = ρ x := by unfold Rk; rw [hx]
  have hd := drop_at hx
  refine ⟨M.la, by lia, ?_, ?_, ?_, ?_⟩
  · refine List.Perm.trans ?_ M.perm
    rw [hd, Array.toList_push]
    simp only [List.append_assoc, List.singleton_append]
    refine List.Perm.append_left _ ?_
    exact (List.perm_middle (l₁ := List.drop ia a.toList)).symm
  · rw [Array.toList_push, List.pairwise_append]
    exact ⟨M.srt, List.pairwise_singleton _ _, fun y hy z hz => by rw [List.mem_singleton.mp hz]; exact M.ob y hy x (by rw [hd]; exact List.mem_cons_self)⟩
  · intro y hy z hz
    rw [Array.toList_push, List.mem_append, List.mem_singleton] at hy
    rcases hy with hy | rfl
    · exact M.oa y hy z hz
    · obtain ⟨j, h1, h2, _, h3⟩ := mem_dropA (ρ := ρ) hz
      have := SA ia j (Nat.zero_le _) h1 h2
      have := hle (by lia); lia
  · intro y hy z hz
    rw [Array.toList_push, List.mem_append, List.mem_singleton] at hy
    rcases hy with hy | rfl
    · exact M.ob y hy z (by rw [hd]; exact List.mem_cons_of_mem _ hz)
    · obtain ⟨j, h1, h2, _, h3⟩ := mem_dropA (ρ := ρ) hz
      have := SBb ib j (Nat.zero_le _) (by lia) h2
      lia
theorem MI.pushA (M : MI ρ a b out ia ib) (SA : Srt ρ a 0 a.size) (SBb : Srt ρ b 0 b.size) {x : Keyed} (hx : a[ia]? = some x) (hia : ia < a.size) (hle : ib < b.size → ρ x ≤ Rk ρ b ib) : MI ρ a b (out.push x) (ia + 1) ib := by
  have ex : Rk ρ a ia = ρ x := by unfold Rk; rw [hx]
  have hd := drop_at hx
  refine ⟨by lia, M.lb, ?_, ?_, ?_, ?_⟩
  · refine List.Perm.trans ?_ M.perm
    rw [hd, Array.toList_push]
    simp only [List.append_assoc, List.cons_append]
    exact List.Perm.refl _
  · rw [Array.toList_push, List.pairwise_append]
    exact ⟨M.srt, List.pairwise_singleton _ _, fun y hy z hz => by rw [List.mem_singleton.mp hz]; exact M.oa y hy x (by rw [hd]; exact List.mem_cons_self)⟩
  · intro y hy z hz
    rw [Array.toList_push, List.mem_append, List.mem_singleton] at hy
    rcases hy with hy | rfl
    · exact M.oa y hy z (by rw [hd]; exact List.mem_cons_of_mem _ hz)
    · obtain ⟨j, h1, h2, _, h3⟩ := mem_dropA (ρ := ρ) hz
      have := SA ia j (Nat.zero_le _) (by lia) h2
      lia
  · intro y hy z hz
    rw [Array.toList_push, List.mem_append, List.mem_singleton] at hy
    rcases hy with hy | rfl
    · exact M.ob y hy z hz
    · obtain ⟨j, h1, h2, _, h3⟩ := mem_dropA (ρ := ρ) hz
      have := SBb ib j (Nat.zero_le _) h1 h2
      have := hle (by lia); lia
theorem extract_push {a : Array Keyed} {i k : Nat} (h : i + k < a.size) : a.extract i (i + (k + 1)) = (a.extract i (i + k)).push a[i + k] := by
  apply Array.ext'
  have e : a[i + k]? = some a[i + k] := getElem?_pos a (i + k) h
  have e' : a.toList[i + k]? = some a[i + k] := by rw [Array.getElem?_toList]; exact e
  rw [Array.toList_push, Array.toList_extract, Array.toList_extract]
  simp only [List.extract_eq_take_drop, Nat.add_sub_cancel_left]
  rw [List.take_add_one, List.getElem?_drop, e']; rfl
theorem ext_self (a : Array Keyed) (i : Nat) : a.extract i i = #[] := by
  apply Array.ext'
  rw [Array.toList_extract]
  simp
theorem append_push (u v : Array Keyed) (x : Keyed) : u ++ v.push x = (u ++ v).push x := by rw [Array.append_push]
theorem MI.chunkA (SA : Srt ρ a 0 a.size) (SBb : Srt ρ b 0 b.size) (M : MI ρ a b out ia ib) : ∀ k, ia + k ≤ a.size → (∀ i, i < k → ib < b.size → Rk ρ a (ia + i) ≤ Rk ρ b ib) → MI ρ a b (out ++ a.extract ia (ia + k)) (ia + k) ib
  | 0, _, _ => by simpa [ext_self] using M
  | k + 1, hk, hle => by
    have ih := MI.chunkA SA SBb M k (by lia) fun i hi => hle i (by lia)
    have e : a[ia + k]? = some a[ia + k] := getElem?_pos a (ia + k) (by lia)
    have er : Rk ρ a (ia + k) = ρ a[ia + k] := by unfold Rk; rw [e]
    rw [extract_push (by lia), append_push]
    exact ih.pushA SA SBb e (by lia) fun h => by have := hle k (by lia) h; lia
theorem MI.chunkB (SA : Srt ρ a 0 a.size) (SBb : Srt ρ b 0 b.size) (M : MI ρ a b out ia ib) : ∀ k, ib + k ≤ b.size → (∀ i, i < k → ia < a.size → Rk ρ b (ib + i) ≤ Rk ρ a ia) → MI ρ a b (out ++ b.extract ib (ib + k)) ia (ib + k)
  | 0, _, _ => by simpa [ext_self] using M
  | k + 1, hk, hle => by
    have ih := MI.chunkB SA SBb M k (by lia) fun i hi => hle i (by lia)
    have e : b[ib + k]? = some b[ib + k] := getElem?_pos b (ib + k) (by lia)
    have er : Rk ρ b (ib + k) = ρ b[ib + k] := by unfold Rk; rw [e]
    rw [extract_push (by lia), append_push]
    exact ih.pushB SA SBb e (by lia) fun h => by have := hle k (by lia) h; lia
theorem ext_drop (a : Array Keyed) (i : Nat) : (a.extract i a.size).toList = a.toList.drop i := by
  rw [Array.toList_extract, List.extract_eq_take_drop]
  exact List.take_of_length_le (by simp)
theorem MI.done (M : MI ρ a b out ia ib) (SA : Srt ρ a 0 a.size) (SBb : Srt ρ b 0 b.size) (h : ia = a.size ∨ ib = b.size) : MR ρ a b (out ++ a.extract ia a.size ++ b.extract ib b.size) := by
  refine ⟨by rw [Array.toList_append, Array.toList_append, ext_drop, ext_drop]; exact M.perm, ?_⟩
  rw [Array.toList_append, Array.toList_append, ext_drop, ext_drop, List.pairwise_append, List.pairwise_append]
  refine ⟨⟨M.srt, (srt_pair SA).drop, fun x hx y hy => M.oa x hx y hy⟩, (srt_pair SBb).drop, fun x hx y hy => ?_⟩
  rcases List.mem_append.mp hx with hx | hx
  · exact M.ob x hx y hy
  · rcases h with h | h
    · rw [List.drop_eq_nil_of_le (by simp [h])] at hx; cases hx
    · rw [List.drop_eq_nil_of_le (by simp [h])] at hy; cases hy
theorem MI.lastA (M : MI ρ a b out ia ib) (SA : Srt ρ a 0 a.size) (SBb : Srt ρ b 0 b.size) (h : ia + 1 = a.size) (hl : ∀ i, i < b.size → Rk ρ b i ≤ Rk ρ a (a.size - 1)) : MR ρ a b (out ++ b.extract ib b.size ++ a.extract ia a.size) := by
  refine ⟨?_, ?_⟩
  · refine List.Perm.trans ?_ M.perm
    simp only [Array.toList_append, ext_drop, List.append_assoc]
    exact List.Perm.append_left _ List.perm_append_comm
  · rw [Array.toList_append, Array.toList_append, ext_drop, ext_drop, List.pairwise_append, List.pairwise_append]
    refine ⟨⟨M.srt, (srt_pair SBb).drop, fun x hx y hy => M.ob x hx y hy⟩, (srt_pair SA).drop, fun x hx y hy => ?_⟩
    rcases List.mem_append.mp hx with hx | hx
    · exact M.oa x hx y hy
    · obtain ⟨j, h1, h2, _, h3⟩ := mem_dropA (ρ := ρ) hx
      obtain ⟨j', h1', h2', _, h3'⟩ := mem_dropA (ρ := ρ) hy
      have := hl j h2
      rw [show j' = a.size - 1 by lia] at h3'
      lia
end
end Mine

set_option maxRecDepth 100000
set_option linter.unusedVariables false
set_option autoImplicit false
namespace Mine
open PySem PyProof.Rows

structure Gl (st st' : SortSt) : Prop where
  arr : arrOf st' = arrOf st
  kind : kindOf st' = kindOf st
  pend : pendingOf st' = pendingOf st
  failed : failedOf st' = failedOf st
theorem Gl.refl (st : SortSt) : Gl st st := ⟨rfl, rfl, rfl, rfl⟩
theorem Gl.trans {x y z : SortSt} (h : Gl x y) (h' : Gl y z) : Gl x z := ⟨h'.arr.trans h.arr, h'.kind.trans h.kind, h'.pend.trans h.pend, h'.failed.trans h.failed⟩
theorem Gl.gal (st : SortSt) (g : Nat) : Gl st (setGal st g) := ⟨rfl, rfl, rfl, rfl⟩
theorem SB.gl {κ : SortKind} {a₀ : Array Keyed} {st st' : SortSt} (h : SB κ a₀ st) (g : Gl st st') : SB κ a₀ st' := ⟨by rw [g.arr]; exact h.perm, by rw [g.kind]; exact h.kind, by rw [g.failed]; exact h.failed⟩

abbrev St1 := Option (Array Keyed) × Array Keyed × Nat × Nat × Nat × Nat
abbrev St2 := Option (Array Keyed) × Array Keyed × Nat × Nat × Nat × Nat × Nat
abbrev St0 := Option (Array Keyed) × Array Keyed × Nat × Nat × Nat

def t2 (a b out : Array Keyed) (ia ib mg ac bc : Nat) : StateT SortSt Sem (ForInStep St2) := do
  let x ← elem' a ia
  if (ia + 1 + 1 == a.size) = true then pure (.done (some (out.push x ++ b.extract ib b.size ++ a.extract (ia + 1) a.size), out.push x, ia + 1, ib, mg, ac, bc))
  else if (decide (ac < 7) && decide (bc < 7)) = true then pure (.done (none, out.push x, ia + 1, ib, mg, ac, bc)) else pure (.yield (none, out.push x, ia + 1, ib, mg, ac, bc))
def t1 (a b out : Array Keyed) (ia ib mg ac bc : Nat) : StateT SortSt Sem (ForInStep St2) := do
  let x ← elem' b ib
  if (ib + 1 == b.size) = true then pure (.done (some (out.push x ++ a.extract ia a.size ++ b.extract (ib + 1) b.size), out.push x, ia, ib + 1, mg, ac, bc))
  else do
    let y ← elem' a ia
    let r ← gallop' true y b (ib + 1) (b.size - (ib + 1)) 0
    match r with
    | some k =>
      if k > 0 then
        if (ib + 1 + k == b.size) = true then pure (.done (some (out.push x ++ b.extract (ib + 1) (ib + 1 + k) ++ a.extract ia a.size ++ b.extract (ib + 1 + k) b.size), out.push x ++ b.extract (ib + 1) (ib + 1 + k), ia, ib + 1 + k, mg, ac, k))
        else t2 a b (out.push x ++ b.extract (ib + 1) (ib + 1 + k)) ia (ib + 1 + k) mg ac k
      else t2 a b (out.push x) ia (ib + 1) mg ac k
    | _ => pure (.done (some (out.push x ++ a.extract ia a.size ++ b.extract (ib + 1) b.size), out.push x, ia, ib + 1, mg, ac, bc))
def g2 (a b out : Array Keyed) (ia ib mg ac bc : Nat) : StateT SortSt Sem (ForInStep St2) := do
  setG' mg
  let x ← elem' b ib
  let r ← gallop' false x a ia (a.size - ia) 0
  match r with
  | some k =>
    if k > 0 then
      if (ia + k + 1 == a.size) = true then pure (.done (some (out ++ a.extract ia (ia + k) ++ b.extract ib b.size ++ a.extract (ia + k) a.size), out ++ a.extract ia (ia + k), ia + k, ib, mg, k, bc))
      else if (ia + k == a.size) = true then pure (.done (some (out ++ a.extract ia (ia + k) ++ a.extract (ia + k) a.size ++ b.extract ib b.size), out ++ a.extract ia (ia + k), ia + k, ib, mg, k, bc))
      else t1 a b (out ++ a.extract ia (ia + k)) (ia + k) ib mg k bc
    else t1 a b out ia ib mg k bc
  | _ => pure (.done (some (out ++ a.extract ia a.size ++ b.extract ib b.size), out, ia, ib, mg, ac, bc))
def b2 (a b : Array Keyed) (c : St2) : StateT SortSt Sem (ForInStep St2) :=
  if c.2.2.2.2.1 > 1 then g2 a b c.2.1 c.2.2.1 c.2.2.2.1 (c.2.2.2.2.1 - 1) c.2.2.2.2.2.1 c.2.2.2.2.2.2 else g2 a b c.2.1 c.2.2.1 c.2.2.2.1 c.2.2.2.2.1 c.2.2.2.2.2.1 c.2.2.2.2.2.2
def b1 (a b : Array Keyed) (mg : Nat) (c : St1) : StateT SortSt Sem (ForInStep St1) := do
  let x ← elem' b c.2.2.2.1
  let y ← elem' a c.2.2.1
  let r ← lt' x y
  match r with
  | some w =>
    if w = true then do
      let x ← elem' b c.2.2.2.1
      if (c.2.2.2.1 + 1 == b.size) = true then pure (.done (some (c.2.1.push x ++ a.extract c.2.2.1 a.size ++ b.extract (c.2.2.2.1 + 1) b.size), c.2.1.push x, c.2.2.1, c.2.2.2.1 + 1, 0, c.2.2.2.2.2 + 1))
      else if c.2.2.2.2.2 + 1 ≥ mg then pure (.done (none, c.2.1.push x, c.2.2.1, c.2.2.2.1 + 1, 0, c.2.2.2.2.2 + 1)) else pure (.yield (none, c.2.1.push x, c.2.2.1, c.2.2.2.1 + 1, 0, c.2.2.2.2.2 + 1))
    else do
      let x ← elem' a c.2.2.1
      if (c.2.2.1 + 1 + 1 == a.size) = true then pure (.done (some (c.2.1.push x ++ b.extract c.2.2.2.1 b.size ++ a.extract (c.2.2.1 + 1) a.size), c.2.1.push x, c.2.2.1 + 1, c.2.2.2.1, c.2.2.2.2.1 + 1, 0))
      else if c.2.2.2.2.1 + 1 ≥ mg then pure (.done (none, c.2.1.push x, c.2.2.1 + 1, c.2.2.2.1, c.2.2.2.2.1 + 1, 0)) else pure (.yield (none, c.2.1.push x, c.2.2.1 + 1, c.2.2.2.1, c.2.2.2.2.1 + 1, 0))
  | _ => pure (.done (some (c.2.1 ++ a.extract c.2.2.1 a.size ++ b.extract c.2.2.2.1 b.size), c.2.1, c.2.2.1, c.2.2.2.1, c.2.2.2.2.1, c.2.2.2.2.2))
def b0 (a b : Array Keyed) (c : St0) : StateT SortSt Sem (ForInStep St0) := do
  let r ← forIn [0:a.size + b.size] ((none, c.2.1, c.2.2.1, c.2.2.2.1, 0, 0) : St1) fun _ r => b1 a b c.2.2.2.2 r
  match r.1 with
  | some v => pure (.done (some v, r.2.1, r.2.2.1, r.2.2.2.1, c.2.2.2.2))
  | none => do
    liftM (rule "list.sort.gallop")
    let q ← forIn [0:a.size + b.size] ((none, r.2.1, r.2.2.1, r.2.2.2.1, c.2.2.2.2 + 1, r.2.2.2.2.1, r.2.2.2.2.2) : St2) fun _ q => b2 a b q
    match q.1 with
    | some v => pure (.done (some v, q.2.1, q.2.2.1, q.2.2.2.1, q.2.2.2.2.1))
    | none => do
      setG' (q.2.2.2.2.1 + 1)
      pure (.yield (none, q.2.1, q.2.2.1, q.2.2.2.1, q.2.2.2.2.1 + 1))
def mLo (a b : Array Keyed) : StateT SortSt Sem (Array Keyed) := do
  liftM (rule "list.sort.merge-lo")
  let x ← elem' b 0
  if (1 == b.size) = true then pure (#[x] ++ a.extract 0 a.size ++ b.extract 1 b.size)
  else if (0 + 1 == a.size) = true then pure (#[x] ++ b.extract 1 b.size ++ a.extract 0 a.size)
  else do
    let g ← get
    let q ← forIn [0:a.size + b.size] ((none, #[x], 0, 1, gallopOf g) : St0) fun _ q => b0 a b q
    match q.1 with
    | some v => pure v
    | none => liftM (unsupported "internal:list.sort.merge-bound" : Sem (Array Keyed))
theorem mLo_eq (a b : Array Keyed) : mergeLo' a b = mLo a b := by kernel_rfl

section
variable {prog : Program} {w : World} {A : Around} {E : Value → Shared → Prop} {s : Shared} {a₀ : Array Keyed} {κ : SortKind} {ρ : Keyed → Nat} {a b : Array Keyed}

theorem s_setG {st : SortSt} {g : Nat} {Q : Unit → SortSt → Prop} (h : Q () (setGal st g)) : wpS (model prog w) A E s (setG' g) Q st := by
  rw [setG'_eq]; exact wpS_modify h

/-- what both merges lean on -/
structure MG (prog : Program) (w : World) (A : Around) (s : Shared) (κ : SortKind) (ρ : Keyed → Nat) (a₀ a b : Array Keyed) : Prop where
  H : CmpOk prog w A s κ ρ a₀
  ha : ∀ p ∈ a.toList, p ∈ a₀.toList
  hb : ∀ p ∈ b.toList, p ∈ a₀.toList
  SA : Srt ρ a 0 a.size
  SBb : Srt ρ b 0 b.size
  first : ∀ i, i < a.size → Rk ρ b 0 ≤ Rk ρ a i
  last : ∀ i, i < b.size → Rk ρ b i ≤ Rk ρ a (a.size - 1)

theorem srt_from {x : Array Keyed} (h : Srt ρ x 0 x.size) (i : Nat) (hi : i ≤ x.size) : Srt ρ x i (i + (x.size - i)) := fun u v h1 h2 h3 => h u v (Nat.zero_le _) h2 (by lia)
theorem at_some {x : Array Keyed} {i : Nat} (h : i < x.size) : ∃ p, x[i]? = some p ∧ p ∈ x.toList ∧ Rk ρ x i = ρ p := by
  have e : x[i]? = some x[i] := getElem?_pos x i h
  exact ⟨x[i], e, by simp, by unfold Rk; rw [e]⟩

def InP (ρ : Keyed → Nat) (a b : Array Keyed) (r0 : Nat) (out : Array Keyed) (ia ib : Nat) : Prop := MI ρ a b out ia ib ∧ ia + 1 < a.size ∧ ib < b.size ∧ (a.size - ia) + (b.size - ib) ≤ r0
def Fin2 (ρ : Keyed → Nat) (a b : Array Keyed) (r0 : Nat) (c : St2) : Prop := (∃ r, c.1 = some r ∧ MR ρ a b r) ∨ (c.1 = none ∧ InP ρ a b r0 c.2.1 c.2.2.1 c.2.2.2.1)
def Leaf2 (ρ : Keyed → Nat) (a b : Array Keyed) (r0 : Nat) (st : SortSt) (r : ForInStep St2) (st' : SortSt) : Prop := Gl st st' ∧ match r with
  | .done c => Fin2 ρ a b r0 c
  | .yield c => c.1 = none ∧ InP ρ a b r0 c.2.1 c.2.2.1 c.2.2.2.1

theorem s_t2 (M : MG prog w A s κ ρ a₀ a b) {st st0 : SortSt} (g : Gl st0 st) {out : Array Keyed} {ia ib mg ac bc r0 : Nat} (I : InP ρ a b r0 out ia ib) (hle : Rk ρ a ia ≤ Rk ρ b ib) : wpS (model prog w) A E s (t2 a b out ia ib mg ac bc) (Leaf2 ρ a b r0 st0) st := by
  obtain ⟨x, hx, hm, hr⟩ := at_some (ρ := ρ) (x := a) (i := ia) (by have := I.2.1; lia)
  have I1 := I.1.pushA M.SA M.SBb hx (by have := I.2.1; lia) fun _ => by lia
  obtain ⟨_, h1, h2, h3⟩ := I
  unfold t2
  refine wpS_bind (s_elem hx ?_)
  by_cases he : ia + 1 + 1 = a.size
  · rw [if_pos (by simpa using he)]
    exact wpS_pure ⟨g, .inl ⟨_, rfl, I1.lastA M.SA M.SBb he M.last⟩⟩
  · rw [if_neg (by simpa using he)]
    have I2 : InP ρ a b r0 (out.push x) (ia + 1) ib := ⟨I1, by lia, h2, by lia⟩
    split
    · exact wpS_pure ⟨g, .inr ⟨rfl, I2⟩⟩
    · exact wpS_pure ⟨g, rfl, I2⟩

theorem s_t1 (M : MG prog w A s κ ρ a₀ a b) {st st0 : SortSt} (hB : SB κ a₀ st) (g : Gl st0 st) {out : Array Keyed} {ia ib mg ac bc r0 : Nat} (I : InP ρ a b r0 out ia ib) (hle : Rk ρ b ib ≤ Rk ρ a ia) : wpS (model prog w) A E s (t1 a b out ia ib mg ac bc) (Leaf2 ρ a b r0 st0) st := by
  obtain ⟨I0, h1, h2, h3⟩ := I
  obtain ⟨x, hx, hm, hr⟩ := at_some (ρ := ρ) (x := b) (i := ib) h2
  obtain ⟨y, hy, hmy, hry⟩ := at_some (ρ := ρ) (x := a) (i := ia) (by lia)
  have I1 := I0.pushB M.SA M.SBb hx h2 fun _ => by lia
  unfold t1
  refine wpS_bind (s_elem hx ?_)
  by_cases he : ib + 1 = b.size
  · rw [if_pos (by simpa using he)]
    exact wpS_pure ⟨g, .inl ⟨_, rfl, I1.done M.SA M.SBb (.inr he)⟩⟩
  · rw [if_neg (by simpa using he)]
    refine wpS_bind (s_elem hy ?_)
    refine wpS_bind (s_gallop M.H hB (M.ha y hmy) M.hb (by lia) (by lia) (srt_from M.SBb _ (by lia)) fun k hk hlt hge => ?_)
    have hlt' : ∀ i, i < k → Rk ρ b (ib + 1 + i) < ρ y := fun i hi => by have := hlt i hi; unfold byd at this; simpa using this
    have hge' : ∀ i, k ≤ i → i < b.size - (ib + 1) → ρ y ≤ Rk ρ b (ib + 1 + i) := fun i h4 h5 => by have := hge i h4 h5; unfold byd at this; simpa using this
    dsimp only
    by_cases hk0 : k > 0
    · rw [if_pos hk0]
      have I2 := MI.chunkB M.SA M.SBb I1 k (by lia) fun i hi _ => by have := hlt' i hi; lia
      by_cases he2 : ib + 1 + k = b.size
      · rw [if_pos (by simpa using he2)]
        exact wpS_pure ⟨g, .inl ⟨_, rfl, I2.done M.SA M.SBb (.inr he2)⟩⟩
      · rw [if_neg (by simpa using he2)]
        refine s_t2 M g ⟨I2, h1, by lia, by lia⟩ ?_
        have := hge' k (Nat.le_refl _) (by lia)
        lia
    · rw [if_neg hk0]
      have hk1 : k = 0 := by lia
      subst hk1
      refine s_t2 M g ⟨I1, h1, by lia, by lia⟩ ?_
      have := hge' 0 (Nat.le_refl _) (by lia)
      simp only [Nat.add_zero] at this
      lia

theorem s_g2 (M : MG prog w A s κ ρ a₀ a b) {st st0 : SortSt} (hB : SB κ a₀ st) (g : Gl st0 st) {out : Array Keyed} {ia ib mg ac bc r0 : Nat} (I : InP ρ a b r0 out ia ib) : wpS (model prog w) A E s (g2 a b out ia ib mg ac bc) (Leaf2 ρ a b r0 st0) st := by
  obtain ⟨I0, h1, h2, h3⟩ := I
  obtain ⟨x, hx, hm, hr⟩ := at_some (ρ := ρ) (x := b) (i := ib) h2
  unfold g2
  refine wpS_bind (s_setG ?_)
  have g' := g.trans (Gl.gal st mg)
  have hB' := hB.gl (Gl.gal st mg)
  refine wpS_bind (s_elem hx ?_)
  refine wpS_bind (s_gallop M.H hB' (M.hb x hm) M.ha (by lia) (by lia) (srt_from M.SA _ (by lia)) fun k hk hlt hge => ?_)
  have hlt' : ∀ i, i < k → Rk ρ a (ia + i) ≤ ρ x := fun i hi => by have := hlt i hi; unfold byd at this; simpa using this
  have hge' : ∀ i, k ≤ i → i < a.size - ia → ρ x < Rk ρ a (ia + i) := fun i h4 h5 => by have := hge i h4 h5; unfold byd at this; simpa using this
  dsimp only
  by_cases hk0 : k > 0
  · rw [if_pos hk0]
    have I2 := MI.chunkA M.SA M.SBb I0 k (by lia) fun i hi _ => by have := hlt' i hi; lia
    by_cases he2 : ia + k + 1 = a.size
    · rw [if_pos (by simpa using he2)]
      exact wpS_pure ⟨g', .inl ⟨_, rfl, I2.lastA M.SA M.SBb he2 M.last⟩⟩
    · rw [if_neg (by simpa using he2)]
      by_cases he3 : ia + k = a.size
      · rw [if_pos (by simpa using he3)]
        exact wpS_pure ⟨g', .inl ⟨_, rfl, I2.done M.SA M.SBb (.inl he3)⟩⟩
      · rw [if_neg (by simpa using he3)]
        refine s_t1 M hB' g' ⟨I2, by lia, h2, by lia⟩ ?_
        have := hge' k (Nat.le_refl _) (by lia)
        lia
  · rw [if_neg hk0]
    have hk1 : k = 0 := by lia
    subst hk1
    refine s_t1 M hB' g' ⟨I0, by lia, h2, by lia⟩ ?_
    have := hge' 0 (Nat.le_refl _) (by lia)
    simp only [Nat.add_zero] at this
    lia

theorem s_b2 (M : MG prog w A s κ ρ a₀ a b) {st st0 : SortSt} (hB : SB κ a₀ st) (g : Gl st0 st) {c : St2} {r0 : Nat} (I : InP ρ a b r0 c.2.1 c.2.2.1 c.2.2.2.1) : wpS (model prog w) A E s (b2 a b c) (Leaf2 ρ a b r0 st0) st := by
  unfold b2
  split
  · exact s_g2 M hB g I
  · exact s_g2 M hB g I

theorem s_b1 (M : MG prog w A s κ ρ a₀ a b) {st : SortSt} (hB : SB κ a₀ st) {c : St1} {mg r0 x : Nat} (I : InP ρ a b (r0 - x) c.2.1 c.2.2.1 c.2.2.2.1) (hx0 : x ≤ r0) {Q : ForInStep St1 → SortSt → Prop}
    (hd : ∀ r, MR ρ a b r → ∀ rest, Q (.done (some r, rest)) st) (hn : ∀ c' : St1, c'.1 = none → InP ρ a b (r0 - (x + 1)) c'.2.1 c'.2.2.1 c'.2.2.2.1 → Q (.done c') st ∧ Q (.yield c') st) : wpS (model prog w) A E s (b1 a b mg c) Q st := by
  obtain ⟨I0, h1, h2, h3⟩ := I
  obtain ⟨x', hx, hm, hr⟩ := at_some (ρ := ρ) (x := b) (i := c.2.2.2.1) h2
  obtain ⟨y, hy, hmy, hry⟩ := at_some (ρ := ρ) (x := a) (i := c.2.2.1) (by lia)
  unfold b1
  refine wpS_bind (s_elem hx (wpS_bind (s_elem hy (wpS_bind (s_lt M.H hB (M.hb _ hm) (M.ha _ hmy) ?_)))))
  dsimp only
  by_cases hw : ρ x' < ρ y
  · rw [decide_eq_true hw, if_pos rfl]
    have I1 := I0.pushB M.SA M.SBb hx h2 fun _ => by lia
    refine wpS_bind (s_elem hx ?_)
    by_cases he : c.2.2.2.1 + 1 = b.size
    · rw [if_pos (by simpa using he)]
      exact wpS_pure (hd _ (I1.done M.SA M.SBb (.inr he)) _)
    · rw [if_neg (by simpa using he)]
      have := hn (none, c.2.1.push x', c.2.2.1, c.2.2.2.1 + 1, 0, c.2.2.2.2.2 + 1) rfl ⟨I1, h1, by dsimp only; lia, by dsimp only; lia⟩
      split
      · exact wpS_pure this.1
      · exact wpS_pure this.2
  · rw [decide_eq_false hw, if_neg (by simp)]
    have I1 := I0.pushA M.SA M.SBb hy (by lia) fun _ => by lia
    refine wpS_bind (s_elem hy ?_)
    by_cases he : c.2.2.1 + 1 + 1 = a.size
    · rw [if_pos (by simpa using he)]
      exact wpS_pure (hd _ (I1.lastA M.SA M.SBb he M.last) _)
    · rw [if_neg (by simpa using he)]
      have := hn (none, c.2.1.push y, c.2.2.1 + 1, c.2.2.2.1, c.2.2.2.2.1 + 1, 0) rfl ⟨I1, by dsimp only; lia, h2, by dsimp only; lia⟩
      split
      · exact wpS_pure this.1
      · exact wpS_pure this.2

theorem s_b0 (M : MG prog w A s κ ρ a₀ a b) {st st0 : SortSt} (hB : SB κ a₀ st) (g : Gl st0 st) {c : St0} {r0 : Nat} (I : InP ρ a b r0 c.2.1 c.2.2.1 c.2.2.2.1) {Q : ForInStep St0 → SortSt → Prop}
    (hd : ∀ r st', Gl st0 st' → MR ρ a b r → ∀ rest, Q (.done (some r, rest)) st') (hn : ∀ (c' : St0) st', Gl st0 st' → c'.1 = none → InP ρ a b (r0 - 1) c'.2.1 c'.2.2.1 c'.2.2.2.1 → Q (.yield c') st') : wpS (model prog w) A E s (b0 a b c) Q st := by
  unfold b0
  have hbig : 1 ≤ a.size + b.size := by have := I.2.1; lia
  refine wpS_bind (wpS_mono (wpS_forRange (I := fun x c' st' => st' = st ∧ c'.1 = none ∧ InP ρ a b (r0 - x) c'.2.1 c'.2.2.1 c'.2.2.2.1 ∧ x ≤ r0)
    (Q := fun c' st' => st' = st ∧ ((∃ r, c'.1 = some r ∧ MR ρ a b r) ∨ (c'.1 = none ∧ InP ρ a b (r0 - 1) c'.2.1 c'.2.2.1 c'.2.2.2.1))) ?step ?fin ⟨rfl, rfl, by simpa using I, Nat.zero_le _⟩) ?post)
  case fin =>
    rintro c' st' ⟨rfl, h1, h2, h3⟩
    exact ⟨rfl, .inr ⟨h1, h2.1, h2.2.1, h2.2.2.1, by have := h2.2.2.2; lia⟩⟩
  case step =>
    rintro x c' st' _ hx ⟨rfl, h1, h2, h3⟩
    refine s_b1 M hB h2 h3 (fun r hr rest => ⟨rfl, .inl ⟨r, rfl, hr⟩⟩) fun c'' hc I'' => ⟨⟨rfl, .inr ⟨hc, I''.1, I''.2.1, I''.2.2.1, by have := I''.2.2.2; lia⟩⟩, rfl, hc, I'', ?_⟩
    have := I''.2.2.2; have := I''.2.1; have := I''.2.2.1; lia
  case post =>
    rintro c' st' ⟨rfl, h⟩
    rcases h with ⟨r, h1, h2⟩ | ⟨h1, h2⟩
    · rw [h1]; exact wpS_pure (hd r _ g h2 _)
    · rw [h1]
      dsimp only
      refine wpS_bind (wpS_lift (wpAny_rule ⟨rfl, ?_⟩))
      refine wpS_bind (wpS_mono (wpS_forRange (I := fun x q st'' => Gl st0 st'' ∧ SB κ a₀ st'' ∧ q.1 = none ∧ InP ρ a b (r0 - 1) q.2.1 q.2.2.1 q.2.2.2.1) (Q := fun q st'' => Gl st0 st'' ∧ Fin2 ρ a b (r0 - 1) q) ?step2 ?fin2 ⟨g, hB, rfl, h2⟩) ?post2)
      case fin2 =>
        rintro q st'' ⟨g', hB', h4, h5⟩
        exact ⟨g', .inr ⟨h4, h5⟩⟩
      case step2 =>
        rintro x q st'' _ hx ⟨g', hB', h4, h5⟩
        refine wpS_mono (s_b2 M hB' g' h5) fun r st3 hl => ?_
        cases r with
        | done q' => exact hl
        | yield q' => exact ⟨hl.1, ⟨by rw [hl.1.arr, ← g'.arr]; exact hB'.perm, by rw [hl.1.kind, ← g'.kind]; exact hB'.kind, by rw [hl.1.failed, ← g'.failed]; exact hB'.failed⟩, hl.2⟩
      case post2 =>
        rintro q st'' ⟨g', h⟩
        rcases h with ⟨r, h4, h5⟩ | ⟨h4, h5⟩
        · rw [h4]; exact wpS_pure (hd r _ g' h5 _)
        · rw [h4]
          exact wpS_bind (s_setG (wpS_pure (hn _ _ (g'.trans (Gl.gal _ _)) rfl h5)))

theorem s_mergeLo (M : MG prog w A s κ ρ a₀ a b) {st : SortSt} (hB : SB κ a₀ st) (h1 : 1 ≤ a.size) (h2 : 1 ≤ b.size) {Q : Array Keyed → SortSt → Prop} (h : ∀ r st', Gl st st' → MR ρ a b r → Q r st') : wpS (model prog w) A E s (mergeLo' a b) Q st := by
  rw [mLo_eq]
  unfold mLo
  refine wpS_bind (wpS_lift (wpAny_rule ⟨rfl, ?_⟩))
  obtain ⟨x, hx, hm, hr⟩ := at_some (ρ := ρ) (x := b) (i := 0) (by lia)
  have I0 : MI ρ a b #[] 0 0 := ⟨Nat.zero_le _, Nat.zero_le _, by simp, by simp, by simp, by simp⟩
  have I1 : MI ρ a b #[x] 0 1 := I0.pushB M.SA M.SBb hx (by lia) fun h => by rw [← hr]; exact M.first 0 h
  refine wpS_bind (s_elem hx ?_)
  by_cases he : 1 = b.size
  · rw [if_pos (by simpa using he)]
    exact wpS_pure (h _ _ (.refl _) (I1.done M.SA M.SBb (.inr he)))
  · rw [if_neg (by simpa using he)]
    by_cases he2 : 0 + 1 = a.size
    · rw [if_pos (by simpa using he2)]
      exact wpS_pure (h _ _ (.refl _) (I1.lastA M.SA M.SBb he2 M.last))
    · rw [if_neg (by simpa using he2)]
      refine wpS_bind (wpS_get ?_)
      refine wpS_bind (wpS_mono (wpS_forRange (I := fun x q st' => Gl st st' ∧ q.1 = none ∧ InP ρ a b (a.size + b.size - x) q.2.1 q.2.2.1 q.2.2.2.1) (Q := fun q st' => Gl st st' ∧ ∃ r, q.1 = some r ∧ MR ρ a b r) ?step ?fin ⟨.refl _, rfl, I1, by dsimp only; lia, by dsimp only; lia, by dsimp only; lia⟩) ?post)
      case fin =>
        rintro q st' ⟨g, h3, h4⟩
        exfalso
        have := h4.2.2.2; have := h4.2.1; have := h4.2.2.1; lia
      case step =>
        rintro x q st' _ hx ⟨g, h3, h4⟩
        refine s_b0 M (hB.gl g) g h4 (fun r st'' g' hr rest => ⟨g', r, rfl, hr⟩) fun c' st'' g' h5 h6 => ⟨g', h5, h6.1, h6.2.1, h6.2.2.1, by have := h6.2.2.2; lia⟩
      case post =>
        rintro q st' ⟨g, r, h3, h4⟩
        rw [h3]
        exact wpS_pure (h r st' g h4)
end
end Mine

set_option maxRecDepth 100000
set_option linter.unusedVariables false
set_option autoImplicit false
namespace Mine
open PySem PyProof.Rows

/-! the invariant of a merge from above -/
structure MH (ρ : Keyed → Nat) (a b out : Array Keyed) (na nb : Nat) : Prop where
  la : na ≤ a.size
  lb : nb ≤ b.size
  perm : (a.toList.take na ++ b.toList.take nb ++ out.toList.reverse).Perm (a.toList ++ b.toList)
  srt : out.toList.reverse.Pairwise fun x y => ρ x ≤ ρ y
  oa : ∀ x ∈ out.toList, ∀ y ∈ a.toList.take na, ρ y ≤ ρ x
  ob : ∀ x ∈ out.toList, ∀ y ∈ b.toList.take nb, ρ y ≤ ρ x

section
variable {ρ : Keyed → Nat} {a b out : Array Keyed} {na nb : Nat}
theorem MH.pushB (M : MH ρ a b out na (nb + 1)) (SA : Srt ρ a 0 a.size) (SBb : Srt ρ b 0 b.size) {x : Keyed} (hx : b[nb]? = some x) (hle : 0 < na → Rk ρ a (na - 1) ≤ ρ x) : MH ρ a b (out.push x) na nb := by
  have ex : Rk ρ b nb = ρ x := by unfold Rk; rw [hx]
  have hd := take_at hx
  have hnb : nb < b.size := (Array.getElem?_eq_some_iff.mp hx).1
  refine ⟨M.la, by lia, ?_, ?_, ?_, ?_⟩
  · refine List.Perm.trans ?_ M.perm
    rw [hd, Array.toList_push]
    simp
  · rw [Array.toList_push, List.reverse_append]
    refine List.pairwise_cons.mpr ⟨fun y hy => ?_, M.srt⟩
    exact M.ob y (List.mem_reverse.mp hy) x (by rw [hd]; simp)
  · intro y hy z hz
    rw [Array.toList_push, List.mem_append, List.mem_singleton] at hy
    rcases hy with hy | rfl
    · exact M.oa y hy z hz
    · obtain ⟨j, h1, h2, _, h3⟩ := mem_takeA (ρ := ρ) hz
      have := SA j (na - 1) (Nat.zero_le _) (by lia) (by have := M.la; lia)
      have := hle (by lia); lia
  · intro y hy z hz
    rw [Array.toList_push, List.mem_append, List.mem_singleton] at hy
    rcases hy with hy | rfl
    · exact M.ob y hy z (by rw [hd]; exact List.mem_append_left _ hz)
    · obtain ⟨j, h1, h2, _, h3⟩ := mem_takeA (ρ := ρ) hz
      have := SBb j nb (Nat.zero_le _) (by lia) hnb
      lia
theorem MH.pushA (M : MH ρ a b out (na + 1) nb) (SA : Srt ρ a 0 a.size) (SBb : Srt ρ b 0 b.size) {x : Keyed} (hx : a[na]? = some x) (hle : 0 < nb → Rk ρ b (nb - 1) ≤ ρ x) : MH ρ a b (out.push x) na nb := by
  have ex : Rk ρ a na = ρ x := by unfold Rk; rw [hx]
  have hd := take_at hx
  have hna : na < a.size := (Array.getElem?_eq_some_iff.mp hx).1
  refine ⟨by lia, M.lb, ?_, ?_, ?_, ?_⟩
  · refine List.Perm.trans ?_ M.perm
    rw [hd, Array.toList_push]
    simp only [List.append_assoc, List.reverse_append, List.reverse_cons, List.reverse_nil, List.nil_append, List.singleton_append]
    refine List.Perm.append_left _ ?_
    exact List.perm_middle
  · rw [Array.toList_push, List.reverse_append]
    refine List.pairwise_cons.mpr ⟨fun y hy => ?_, M.srt⟩
    exact M.oa y (List.mem_reverse.mp hy) x (by rw [hd]; simp)
  · intro y hy z hz
    rw [Array.toList_push, List.mem_append, List.mem_singleton] at hy
    rcases hy with hy | rfl
    · exact M.oa y hy z (by rw [hd]; exact List.mem_append_left _ hz)
    · obtain ⟨j, h1, h2, _, h3⟩ := mem_takeA (ρ := ρ) hz
      have := SA j na (Nat.zero_le _) (by lia) hna
      lia
  · intro y hy z hz
    rw [Array.toList_push, List.mem_append, List.mem_singleton] at hy
    rcases hy with hy | rfl
    · exact M.ob y hy z hz
    · obtain ⟨j, h1, h2, _, h3⟩ := mem_takeA (ρ := ρ) hz
      have := SBb j (nb - 1) (Nat.zero_le _) (by lia) (by have := M.lb; lia)
      have := hle (by lia); lia
theorem rev_extract {a : Array Keyed} {i k : Nat} (h : i + k + 1 ≤ a.size) : (a.extract i (i + (k + 1))).reverse = (a.extract (i + 1) (i + 1 + k)).reverse.push a[i] := by
  have e : a[i]? = some a[i] := getElem?_pos a i (by lia)
  apply Array.ext'
  rw [Array.toList_push, Array.toList_reverse, Array.toList_reverse, Array.toList_extract, Array.toList_extract, List.extract_eq_take_drop, List.extract_eq_take_drop, drop_at e]
  simp only [Nat.add_sub_cancel_left]
  rw [List.take_succ_cons, List.reverse_cons]
theorem MH.chunkA (SA : Srt ρ a 0 a.size) (SBb : Srt ρ b 0 b.size) : ∀ (k at_ : Nat) {out : Array Keyed}, MH ρ a b out (at_ + k) nb → (∀ i, at_ ≤ i → i < at_ + k → 0 < nb → Rk ρ b (nb - 1) ≤ Rk ρ a i) → MH ρ a b (out ++ (a.extract at_ (at_ + k)).reverse) at_ nb
  | 0, at_, out, M, _ => by simpa [ext_self] using M
  | k + 1, at_, out, M, hle => by
    have hla := M.la
    have M' : MH ρ a b out (at_ + 1 + k) nb := by rw [show at_ + 1 + k = at_ + (k + 1) by lia]; exact M
    have ih := MH.chunkA SA SBb k (at_ + 1) M' fun i h1 h2 h3 => hle i (by lia) (by lia) h3
    have e : a[at_]? = some a[at_] := getElem?_pos a at_ (by lia)
    have er : Rk ρ a at_ = ρ a[at_] := by unfold Rk; rw [e]
    rw [rev_extract (by lia), append_push]
    exact ih.pushA SA SBb e fun h => by have := hle at_ (Nat.le_refl _) (by lia) h; lia
theorem MH.chunkB (SA : Srt ρ a 0 a.size) (SBb : Srt ρ b 0 b.size) : ∀ (k at_ : Nat) {out : Array Keyed}, MH ρ a b out na (at_ + k) → (∀ i, at_ ≤ i → i < at_ + k → 0 < na → Rk ρ a (na - 1) ≤ Rk ρ b i) → MH ρ a b (out ++ (b.extract at_ (at_ + k)).reverse) na at_
  | 0, at_, out, M, _ => by simpa [ext_self] using M
  | k + 1, at_, out, M, hle => by
    have hlb := M.lb
    have M' : MH ρ a b out na (at_ + 1 + k) := by rw [show at_ + 1 + k = at_ + (k + 1) by lia]; exact M
    have ih := MH.chunkB SA SBb k (at_ + 1) M' fun i h1 h2 h3 => hle i (by lia) (by lia) h3
    have e : b[at_]? = some b[at_] := getElem?_pos b at_ (by lia)
    have er : Rk ρ b at_ = ρ b[at_] := by unfold Rk; rw [e]
    rw [rev_extract (by lia), append_push]
    exact ih.pushB SA SBb e fun h => by have := hle at_ (Nat.le_refl _) (by lia) h; lia
theorem ext_take (a : Array Keyed) (i : Nat) : (a.extract 0 i).toList = a.toList.take i := by
  rw [Array.toList_extract, List.extract_eq_take_drop]; simp
theorem MH.done (M : MH ρ a b out na nb) (SA : Srt ρ a 0 a.size) (SBb : Srt ρ b 0 b.size) (h : na = 0 ∨ nb = 0) : MR ρ a b (a.extract 0 na ++ b.extract 0 nb ++ out.reverse) := by
  refine ⟨by rw [Array.toList_append, Array.toList_append, ext_take, ext_take, Array.toList_reverse]; exact M.perm, ?_⟩
  rw [Array.toList_append, Array.toList_append, ext_take, ext_take, Array.toList_reverse, List.pairwise_append, List.pairwise_append]
  refine ⟨⟨(srt_pair SA).take, (srt_pair SBb).take, fun x hx y hy => ?_⟩, M.srt, fun x hx y hy => ?_⟩
  · rcases h with h | h
    · subst h; simp at hx
    · subst h; simp at hy
  · have hy' := List.mem_reverse.mp hy
    rcases List.mem_append.mp hx with hx | hx
    · exact M.oa y hy' x hx
    · exact M.ob y hy' x hx
theorem MH.firstB (M : MH ρ a b out na nb) (SA : Srt ρ a 0 a.size) (SBb : Srt ρ b 0 b.size) (h : nb = 1) (hf : ∀ i, i < a.size → Rk ρ b 0 ≤ Rk ρ a i) : MR ρ a b (b.extract 0 nb ++ a.extract 0 na ++ out.reverse) := by
  refine ⟨?_, ?_⟩
  · refine List.Perm.trans ?_ M.perm
    simp only [Array.toList_append, ext_take, Array.toList_reverse]
    exact List.Perm.append_right _ List.perm_append_comm
  · rw [Array.toList_append, Array.toList_append, ext_take, ext_take, Array.toList_reverse, List.pairwise_append, List.pairwise_append]
    refine ⟨⟨(srt_pair SBb).take, (srt_pair SA).take, fun x hx y hy => ?_⟩, M.srt, fun x hx y hy => ?_⟩
    · obtain ⟨j, h1, h2, _, h3⟩ := mem_takeA (ρ := ρ) hx
      obtain ⟨j', h1', h2', _, h3'⟩ := mem_takeA (ρ := ρ) hy
      have := hf j' h2'
      rw [show j = 0 by lia] at h3
      lia
    · have hy' := List.mem_reverse.mp hy
      rcases List.mem_append.mp hx with hx | hx
      · exact M.ob y hy' x hx
      · exact M.oa y hy' x hx
end

abbrev Sh1 := Option (Array Keyed) × Nat × Nat × Array Keyed × Nat × Nat
abbrev Sh2 := Option (Array Keyed) × Nat × Nat × Array Keyed × Nat × Nat × Nat
abbrev Sh0 := Option (Array Keyed) × Nat × Nat × Array Keyed × Nat
def u2 (a b out : Array Keyed) (na nb mg ac bc : Nat) : StateT SortSt Sem (ForInStep Sh2) := do
  let x ← elem' a (na - 1)
  if (na - 1 == 0) = true then pure (.done (some (a.extract 0 (na - 1) ++ b.extract 0 nb ++ (out.push x).reverse), na - 1, nb, out.push x, mg, ac, bc))
  else if (decide (ac < 7) && decide (bc < 7)) = true then pure (.done (none, na - 1, nb, out.push x, mg, ac, bc)) else pure (.yield (none, na - 1, nb, out.push x, mg, ac, bc))
def u1 (a b out : Array Keyed) (na nb mg ac bc : Nat) : StateT SortSt Sem (ForInStep Sh2) := do
  let x ← elem' b (nb - 1)
  if (nb - 1 == 1) = true then pure (.done (some (b.extract 0 (nb - 1) ++ a.extract 0 na ++ (out.push x).reverse), na, nb - 1, out.push x, mg, ac, bc))
  else do
    let y ← elem' a (na - 1)
    let r ← gallop' true y b 0 (nb - 1) (nb - 1 - 1)
    match r with
    | some p =>
      if nb - 1 - p > 0 then
        if (p == 1) = true then pure (.done (some (b.extract 0 p ++ a.extract 0 na ++ (out.push x ++ (b.extract p (nb - 1)).reverse).reverse), na, p, out.push x ++ (b.extract p (nb - 1)).reverse, mg, ac, nb - 1 - p))
        else if (p == 0) = true then pure (.done (some (a.extract 0 na ++ b.extract 0 p ++ (out.push x ++ (b.extract p (nb - 1)).reverse).reverse), na, p, out.push x ++ (b.extract p (nb - 1)).reverse, mg, ac, nb - 1 - p))
        else u2 a b (out.push x ++ (b.extract p (nb - 1)).reverse) na p mg ac (nb - 1 - p)
      else u2 a b (out.push x) na (nb - 1) mg ac (nb - 1 - p)
    | _ => pure (.done (some (a.extract 0 na ++ b.extract 0 (nb - 1) ++ (out.push x).reverse), na, nb - 1, out.push x, mg, ac, bc))
def v2 (a b out : Array Keyed) (na nb mg ac bc : Nat) : StateT SortSt Sem (ForInStep Sh2) := do
  setG' mg
  let x ← elem' b (nb - 1)
  let r ← gallop' false x a 0 na (na - 1)
  match r with
  | some p =>
    if na - p > 0 then
      if (p == 0) = true then pure (.done (some (a.extract 0 p ++ b.extract 0 nb ++ (out ++ (a.extract p na).reverse).reverse), p, nb, out ++ (a.extract p na).reverse, mg, na - p, bc))
      else u1 a b (out ++ (a.extract p na).reverse) p nb mg (na - p) bc
    else u1 a b out na nb mg (na - p) bc
  | _ => pure (.done (some (a.extract 0 na ++ b.extract 0 nb ++ out.reverse), na, nb, out, mg, ac, bc))
def h2 (a b : Array Keyed) (c : Sh2) : StateT SortSt Sem (ForInStep Sh2) :=
  if c.2.2.2.2.1 > 1 then v2 a b c.2.2.2.1 c.2.1 c.2.2.1 (c.2.2.2.2.1 - 1) c.2.2.2.2.2.1 c.2.2.2.2.2.2 else v2 a b c.2.2.2.1 c.2.1 c.2.2.1 c.2.2.2.2.1 c.2.2.2.2.2.1 c.2.2.2.2.2.2
def h1 (a b : Array Keyed) (mg : Nat) (c : Sh1) : StateT SortSt Sem (ForInStep Sh1) := do
  let x ← elem' b (c.2.2.1 - 1)
  let y ← elem' a (c.2.1 - 1)
  let r ← lt' x y
  match r with
  | some w =>
    if w = true then do
      let x ← elem' a (c.2.1 - 1)
      if (c.2.1 - 1 == 0) = true then pure (.done (some (a.extract 0 (c.2.1 - 1) ++ b.extract 0 c.2.2.1 ++ (c.2.2.2.1.push x).reverse), c.2.1 - 1, c.2.2.1, c.2.2.2.1.push x, c.2.2.2.2.1 + 1, 0))
      else if c.2.2.2.2.1 + 1 ≥ mg then pure (.done (none, c.2.1 - 1, c.2.2.1, c.2.2.2.1.push x, c.2.2.2.2.1 + 1, 0)) else pure (.yield (none, c.2.1 - 1, c.2.2.1, c.2.2.2.1.push x, c.2.2.2.2.1 + 1, 0))
    else do
      let x ← elem' b (c.2.2.1 - 1)
      if (c.2.2.1 - 1 == 1) = true then pure (.done (some (b.extract 0 (c.2.2.1 - 1) ++ a.extract 0 c.2.1 ++ (c.2.2.2.1.push x).reverse), c.2.1, c.2.2.1 - 1, c.2.2.2.1.push x, 0, c.2.2.2.2.2 + 1))
      else if c.2.2.2.2.2 + 1 ≥ mg then pure (.done (none, c.2.1, c.2.2.1 - 1, c.2.2.2.1.push x, 0, c.2.2.2.2.2 + 1)) else pure (.yield (none, c.2.1, c.2.2.1 - 1, c.2.2.2.1.push x, 0, c.2.2.2.2.2 + 1))
  | _ => pure (.done (some (a.extract 0 c.2.1 ++ b.extract 0 c.2.2.1 ++ c.2.2.2.1.reverse), c.2.1, c.2.2.1, c.2.2.2.1, c.2.2.2.2.1, c.2.2.2.2.2))

def h0 (a b : Array Keyed) (c : Sh0) : StateT SortSt Sem (ForInStep Sh0) := do
  let r ← forIn [0:a.size + b.size] ((none, c.2.1, c.2.2.1, c.2.2.2.1, 0, 0) : Sh1) fun _ r => h1 a b c.2.2.2.2 r
  match r.1 with
  | some v => pure (.done (some v, r.2.1, r.2.2.1, r.2.2.2.1, c.2.2.2.2))
  | none => do
    liftM (rule "list.sort.gallop")
    let q ← forIn [0:a.size + b.size] ((none, r.2.1, r.2.2.1, r.2.2.2.1, c.2.2.2.2 + 1, r.2.2.2.2.1, r.2.2.2.2.2) : Sh2) fun _ q => h2 a b q
    match q.1 with
    | some v => pure (.done (some v, q.2.1, q.2.2.1, q.2.2.2.1, q.2.2.2.2.1))
    | none => do
      setG' (q.2.2.2.2.1 + 1)
      pure (.yield (none, q.2.1, q.2.2.1, q.2.2.2.1, q.2.2.2.2.1 + 1))
def mHi (a b : Array Keyed) : StateT SortSt Sem (Array Keyed) := do
  liftM (rule "list.sort.merge-hi")
  let x ← elem' a (a.size - 1)
  if (a.size - 1 == 0) = true then pure (a.extract 0 (a.size - 1) ++ b.extract 0 b.size ++ (#[x] : Array Keyed).reverse)
  else if (b.size == 1) = true then pure (b.extract 0 b.size ++ a.extract 0 (a.size - 1) ++ (#[x] : Array Keyed).reverse)
  else do
    let g ← get
    let q ← forIn [0:a.size + b.size] ((none, a.size - 1, b.size, #[x], gallopOf g) : Sh0) fun _ q => h0 a b q
    match q.1 with
    | some v => pure v
    | none => liftM (unsupported "internal:list.sort.merge-bound" : Sem (Array Keyed))
theorem mHi_eq (a b : Array Keyed) : mergeHi' a b = mHi a b := by kernel_rfl
end Mine

set_option maxRecDepth 100000
set_option linter.unusedVariables false
set_option autoImplicit false
namespace Mine
open PySem PyProof.Rows

section
variable {prog : Program} {w : World} {A : Around} {E : Value → Shared → Prop} {s : Shared} {a₀ : Array Keyed} {κ : SortKind} {ρ : Keyed → Nat} {a b : Array Keyed}

def InH (ρ : Keyed → Nat) (a b : Array Keyed) (r0 : Nat) (out : Array Keyed) (na nb : Nat) : Prop := MH ρ a b out na nb ∧ 1 ≤ na ∧ 2 ≤ nb ∧ na + nb ≤ r0
def FinH (ρ : Keyed → Nat) (a b : Array Keyed) (r0 : Nat) (c : Sh2) : Prop := (∃ r, c.1 = some r ∧ MR ρ a b r) ∨ (c.1 = none ∧ InH ρ a b r0 c.2.2.2.1 c.2.1 c.2.2.1)
def LeafH (ρ : Keyed → Nat) (a b : Array Keyed) (r0 : Nat) (st : SortSt) (r : ForInStep Sh2) (st' : SortSt) : Prop := Gl st st' ∧ match r with
  | .done c => FinH ρ a b r0 c
  | .yield c => c.1 = none ∧ InH ρ a b r0 c.2.2.2.1 c.2.1 c.2.2.1

theorem MH.pushA' {out : Array Keyed} {na nb : Nat} (M : MH ρ a b out na nb) (SA : Srt ρ a 0 a.size) (SBb : Srt ρ b 0 b.size) {x : Keyed} (hna : 1 ≤ na) (hx : a[na - 1]? = some x) (hle : 0 < nb → Rk ρ b (nb - 1) ≤ ρ x) : MH ρ a b (out.push x) (na - 1) nb := by
  obtain ⟨n, rfl⟩ : ∃ n, na = n + 1 := ⟨na - 1, by lia⟩
  exact M.pushA SA SBb hx hle
theorem MH.pushB' {out : Array Keyed} {na nb : Nat} (M : MH ρ a b out na nb) (SA : Srt ρ a 0 a.size) (SBb : Srt ρ b 0 b.size) {x : Keyed} (hnb : 1 ≤ nb) (hx : b[nb - 1]? = some x) (hle : 0 < na → Rk ρ a (na - 1) ≤ ρ x) : MH ρ a b (out.push x) na (nb - 1) := by
  obtain ⟨n, rfl⟩ : ∃ n, nb = n + 1 := ⟨nb - 1, by lia⟩
  exact M.pushB SA SBb hx hle

theorem s_u2 (M : MG prog w A s κ ρ a₀ a b) {st st0 : SortSt} (g : Gl st0 st) {out : Array Keyed} {na nb mg ac bc r0 : Nat} (I : InH ρ a b r0 out na nb) (hle : Rk ρ b (nb - 1) ≤ Rk ρ a (na - 1)) : wpS (model prog w) A E s (u2 a b out na nb mg ac bc) (LeafH ρ a b r0 st0) st := by
  obtain ⟨I0, h1, h2, h3⟩ := I
  have hla := I0.la
  obtain ⟨x, hx, hm, hr⟩ := at_some (ρ := ρ) (x := a) (i := na - 1) (by lia)
  have I1 := I0.pushA' M.SA M.SBb h1 hx fun _ => by lia
  unfold u2
  refine wpS_bind (s_elem hx ?_)
  by_cases he : na - 1 = 0
  · rw [if_pos (by simpa using he)]
    exact wpS_pure ⟨g, .inl ⟨_, rfl, I1.done M.SA M.SBb (.inl he)⟩⟩
  · rw [if_neg (by simpa using he)]
    have I2 : InH ρ a b r0 (out.push x) (na - 1) nb := ⟨I1, by lia, h2, by lia⟩
    split
    · exact wpS_pure ⟨g, .inr ⟨rfl, I2⟩⟩
    · exact wpS_pure ⟨g, rfl, I2⟩

theorem s_u1 (M : MG prog w A s κ ρ a₀ a b) {st st0 : SortSt} (hB : SB κ a₀ st) (g : Gl st0 st) {out : Array Keyed} {na nb mg ac bc r0 : Nat} (I : InH ρ a b r0 out na nb) (hle : Rk ρ a (na - 1) ≤ Rk ρ b (nb - 1)) : wpS (model prog w) A E s (u1 a b out na nb mg ac bc) (LeafH ρ a b r0 st0) st := by
  obtain ⟨I0, h1, h2, h3⟩ := I
  have hla := I0.la
  have hlb := I0.lb
  obtain ⟨x, hx, hm, hr⟩ := at_some (ρ := ρ) (x := b) (i := nb - 1) (by lia)
  obtain ⟨y, hy, hmy, hry⟩ := at_some (ρ := ρ) (x := a) (i := na - 1) (by lia)
  have I1 := I0.pushB' M.SA M.SBb (by lia) hx fun _ => by lia
  unfold u1
  refine wpS_bind (s_elem hx ?_)
  by_cases he : nb - 1 = 1
  · rw [if_pos (by simpa using he)]
    exact wpS_pure ⟨g, .inl ⟨_, rfl, I1.firstB M.SA M.SBb he M.first⟩⟩
  · rw [if_neg (by simpa using he)]
    refine wpS_bind (s_elem hy ?_)
    refine wpS_bind (s_gallop M.H hB (M.ha y hmy) M.hb (by lia) (by lia) (fun u v h4 h5 h6 => M.SBb u v (Nat.zero_le _) h5 (by lia)) fun p hp hlt hge => ?_)
    have hlt' : ∀ i, i < p → Rk ρ b i < ρ y := fun i hi => by have := hlt i hi; unfold byd at this; simpa using this
    have hge' : ∀ i, p ≤ i → i < nb - 1 → ρ y ≤ Rk ρ b i := fun i h4 h5 => by have := hge i h4 h5; unfold byd at this; simpa using this
    dsimp only
    by_cases hk0 : nb - 1 - p > 0
    · rw [if_pos hk0]
      have I2 := MH.chunkB (na := na) M.SA M.SBb (nb - 1 - p) p (out := out.push x) (by rw [show p + (nb - 1 - p) = nb - 1 by lia]; exact I1) fun i h4 h5 _ => by have := hge' i h4 (by lia); lia
      rw [show p + (nb - 1 - p) = nb - 1 by lia] at I2
      by_cases he2 : p = 1
      · rw [if_pos (by simpa using he2)]
        exact wpS_pure ⟨g, .inl ⟨_, rfl, I2.firstB M.SA M.SBb he2 M.first⟩⟩
      · rw [if_neg (by simpa using he2)]
        by_cases he3 : p = 0
        · rw [if_pos (by simpa using he3)]
          exact wpS_pure ⟨g, .inl ⟨_, rfl, I2.done M.SA M.SBb (.inr he3)⟩⟩
        · rw [if_neg (by simpa using he3)]
          refine s_u2 M g ⟨I2, h1, by lia, by lia⟩ ?_
          have := hlt' (p - 1) (by lia)
          lia
    · rw [if_neg hk0]
      refine s_u2 M g ⟨I1, h1, by lia, by lia⟩ ?_
      have := hlt' (nb - 1 - 1) (by lia)
      lia

theorem s_v2 (M : MG prog w A s κ ρ a₀ a b) {st st0 : SortSt} (hB : SB κ a₀ st) (g : Gl st0 st) {out : Array Keyed} {na nb mg ac bc r0 : Nat} (I : InH ρ a b r0 out na nb) : wpS (model prog w) A E s (v2 a b out na nb mg ac bc) (LeafH ρ a b r0 st0) st := by
  obtain ⟨I0, h1, h2, h3⟩ := I
  have hla := I0.la
  have hlb := I0.lb
  obtain ⟨x, hx, hm, hr⟩ := at_some (ρ := ρ) (x := b) (i := nb - 1) (by lia)
  unfold v2
  refine wpS_bind (s_setG ?_)
  have g' := g.trans (Gl.gal st mg)
  have hB' := hB.gl (Gl.gal st mg)
  refine wpS_bind (s_elem hx ?_)
  refine wpS_bind (s_gallop M.H hB' (M.hb x hm) M.ha (by lia) (by lia) (fun u v h4 h5 h6 => M.SA u v (Nat.zero_le _) h5 (by lia)) fun p hp hlt hge => ?_)
  have hlt' : ∀ i, i < p → Rk ρ a i ≤ ρ x := fun i hi => by have := hlt i hi; unfold byd at this; simpa using this
  have hge' : ∀ i, p ≤ i → i < na → ρ x < Rk ρ a i := fun i h4 h5 => by have := hge i h4 h5; unfold byd at this; simpa using this
  dsimp only
  by_cases hk0 : na - p > 0
  · rw [if_pos hk0]
    have I2 := MH.chunkA (nb := nb) M.SA M.SBb (na - p) p (out := out) (by rw [show p + (na - p) = na by lia]; exact I0) fun i h4 h5 _ => by have := hge' i h4 (by lia); lia
    rw [show p + (na - p) = na by lia] at I2
    by_cases he2 : p = 0
    · rw [if_pos (by simpa using he2)]
      exact wpS_pure ⟨g', .inl ⟨_, rfl, I2.done M.SA M.SBb (.inl he2)⟩⟩
    · rw [if_neg (by simpa using he2)]
      refine s_u1 M hB' g' ⟨I2, by lia, h2, by lia⟩ ?_
      have := hlt' (p - 1) (by lia)
      lia
  · rw [if_neg hk0]
    refine s_u1 M hB' g' ⟨I0, by lia, h2, by lia⟩ ?_
    have := hlt' (na - 1) (by lia)
    lia

theorem s_h2 (M : MG prog w A s κ ρ a₀ a b) {st st0 : SortSt} (hB : SB κ a₀ st) (g : Gl st0 st) {c : Sh2} {r0 : Nat} (I : InH ρ a b r0 c.2.2.2.1 c.2.1 c.2.2.1) : wpS (model prog w) A E s (h2 a b c) (LeafH ρ a b r0 st0) st := by
  unfold h2
  split
  · exact s_v2 M hB g I
  · exact s_v2 M hB g I

theorem s_h1 (M : MG prog w A s κ ρ a₀ a b) {st : SortSt} (hB : SB κ a₀ st) {c : Sh1} {mg r0 x : Nat} (I : InH ρ a b (r0 - x) c.2.2.2.1 c.2.1 c.2.2.1) (hx0 : x ≤ r0) {Q : ForInStep Sh1 → SortSt → Prop}
    (hd : ∀ r, MR ρ a b r → ∀ rest, Q (.done (some r, rest)) st) (hn : ∀ c' : Sh1, c'.1 = none → InH ρ a b (r0 - (x + 1)) c'.2.2.2.1 c'.2.1 c'.2.2.1 → Q (.done c') st ∧ Q (.yield c') st) : wpS (model prog w) A E s (h1 a b mg c) Q st := by
  obtain ⟨I0, h1', h2', h3⟩ := I
  have hla := I0.la
  have hlb := I0.lb
  obtain ⟨x', hx, hm, hr⟩ := at_some (ρ := ρ) (x := b) (i := c.2.2.1 - 1) (by lia)
  obtain ⟨y, hy, hmy, hry⟩ := at_some (ρ := ρ) (x := a) (i := c.2.1 - 1) (by lia)
  unfold h1
  refine wpS_bind (s_elem hx (wpS_bind (s_elem hy (wpS_bind (s_lt M.H hB (M.hb _ hm) (M.ha _ hmy) ?_)))))
  dsimp only
  by_cases hw : ρ x' < ρ y
  · rw [decide_eq_true hw, if_pos rfl]
    have I1 := I0.pushA' M.SA M.SBb h1' hy fun _ => by lia
    refine wpS_bind (s_elem hy ?_)
    by_cases he : c.2.1 - 1 = 0
    · rw [if_pos (by simpa using he)]
      exact wpS_pure (hd _ (I1.done M.SA M.SBb (.inl he)) _)
    · rw [if_neg (by simpa using he)]
      have := hn (none, c.2.1 - 1, c.2.2.1, c.2.2.2.1.push y, c.2.2.2.2.1 + 1, 0) rfl ⟨I1, by dsimp only; lia, by dsimp only; lia, by dsimp only; lia⟩
      split
      · exact wpS_pure this.1
      · exact wpS_pure this.2
  · rw [decide_eq_false hw, if_neg (by simp)]
    have I1 := I0.pushB' M.SA M.SBb (by lia) hx fun _ => by lia
    refine wpS_bind (s_elem hx ?_)
    by_cases he : c.2.2.1 - 1 = 1
    · rw [if_pos (by simpa using he)]
      exact wpS_pure (hd _ (I1.firstB M.SA M.SBb he M.first) _)
    · rw [if_neg (by simpa using he)]
      have := hn (none, c.2.1, c.2.2.1 - 1, c.2.2.2.1.push x', 0, c.2.2.2.2.2 + 1) rfl ⟨I1, by dsimp only; lia, by dsimp only; lia, by dsimp only; lia⟩
      split
      · exact wpS_pure this.1
      · exact wpS_pure this.2

theorem s_h0 (M : MG prog w A s κ ρ a₀ a b) {st st0 : SortSt} (hB : SB κ a₀ st) (g : Gl st0 st) {c : Sh0} {r0 : Nat} (I : InH ρ a b r0 c.2.2.2.1 c.2.1 c.2.2.1) {Q : ForInStep Sh0 → SortSt → Prop}
    (hd : ∀ r st', Gl st0 st' → MR ρ a b r → ∀ rest, Q (.done (some r, rest)) st') (hn : ∀ (c' : Sh0) st', Gl st0 st' → c'.1 = none → InH ρ a b (r0 - 1) c'.2.2.2.1 c'.2.1 c'.2.2.1 → Q (.yield c') st') : wpS (model prog w) A E s (h0 a b c) Q st := by
  unfold h0
  have hbig : 1 ≤ a.size + b.size := by have := I.2.1; have := I.1.la; lia
  refine wpS_bind (wpS_mono (wpS_forRange (I := fun x c' st' => st' = st ∧ c'.1 = none ∧ InH ρ a b (r0 - x) c'.2.2.2.1 c'.2.1 c'.2.2.1 ∧ x ≤ r0)
    (Q := fun c' st' => st' = st ∧ ((∃ r, c'.1 = some r ∧ MR ρ a b r) ∨ (c'.1 = none ∧ InH ρ a b (r0 - 1) c'.2.2.2.1 c'.2.1 c'.2.2.1))) ?step ?fin ⟨rfl, rfl, by simpa using I, Nat.zero_le _⟩) ?post)
  case fin =>
    rintro c' st' ⟨rfl, h1, h2, h3⟩
    exact ⟨rfl, .inr ⟨h1, h2.1, h2.2.1, h2.2.2.1, by have := h2.2.2.2; lia⟩⟩
  case step =>
    rintro x c' st' _ hx ⟨rfl, h1, h2, h3⟩
    refine s_h1 M hB h2 h3 (fun r hr rest => ⟨rfl, .inl ⟨r, rfl, hr⟩⟩) fun c'' hc I'' => ⟨⟨rfl, .inr ⟨hc, I''.1, I''.2.1, I''.2.2.1, by have := I''.2.2.2; lia⟩⟩, rfl, hc, I'', ?_⟩
    have := I''.2.2.2; have := I''.2.1; have := I''.2.2.1; lia
  case post =>
    rintro c' st' ⟨rfl, h⟩
    rcases h with ⟨r, h1, h2⟩ | ⟨h1, h2⟩
    · rw [h1]; exact wpS_pure (hd r _ g h2 _)
    · rw [h1]
      dsimp only
      refine wpS_bind (wpS_lift (wpAny_rule ⟨rfl, ?_⟩))
      refine wpS_bind (wpS_mono (wpS_forRange (I := fun x q st'' => Gl st0 st'' ∧ SB κ a₀ st'' ∧ q.1 = none ∧ InH ρ a b (r0 - 1) q.2.2.2.1 q.2.1 q.2.2.1) (Q := fun q st'' => Gl st0 st'' ∧ FinH ρ a b (r0 - 1) q) ?step2 ?fin2 ⟨g, hB, rfl, h2⟩) ?post2)
      case fin2 =>
        rintro q st'' ⟨g', hB', h4, h5⟩
        exact ⟨g', .inr ⟨h4, h5⟩⟩
      case step2 =>
        rintro x q st'' _ hx ⟨g', hB', h4, h5⟩
        refine wpS_mono (s_h2 M hB' g' h5) fun r st3 hl => ?_
        cases r with
        | done q' => exact hl
        | yield q' => exact ⟨hl.1, ⟨by rw [hl.1.arr, ← g'.arr]; exact hB'.perm, by rw [hl.1.kind, ← g'.kind]; exact hB'.kind, by rw [hl.1.failed, ← g'.failed]; exact hB'.failed⟩, hl.2⟩
      case post2 =>
        rintro q st'' ⟨g', h⟩
        rcases h with ⟨r, h4, h5⟩ | ⟨h4, h5⟩
        · rw [h4]; exact wpS_pure (hd r _ g' h5 _)
        · rw [h4]
          exact wpS_bind (s_setG (wpS_pure (hn _ _ (g'.trans (Gl.gal _ _)) rfl h5)))

theorem s_mergeHi (M : MG prog w A s κ ρ a₀ a b) {st : SortSt} (hB : SB κ a₀ st) (h1 : 1 ≤ a.size) (h2 : 1 ≤ b.size) {Q : Array Keyed → SortSt → Prop} (h : ∀ r st', Gl st st' → MR ρ a b r → Q r st') : wpS (model prog w) A E s (mergeHi' a b) Q st := by
  rw [mHi_eq]
  unfold mHi
  refine wpS_bind (wpS_lift (wpAny_rule ⟨rfl, ?_⟩))
  obtain ⟨x, hx, hm, hr⟩ := at_some (ρ := ρ) (x := a) (i := a.size - 1) (by lia)
  have I0 : MH ρ a b #[] a.size b.size := ⟨Nat.le_refl _, Nat.le_refl _, by simp [List.take_of_length_le], by simp, by simp, by simp⟩
  have I1 : MH ρ a b #[x] (a.size - 1) b.size := I0.pushA' M.SA M.SBb h1 hx fun h => by rw [← hr]; exact M.last _ (by lia)
  refine wpS_bind (s_elem hx ?_)
  by_cases he : a.size - 1 = 0
  · rw [if_pos (by simpa using he)]
    exact wpS_pure (h _ _ (.refl _) (I1.done M.SA M.SBb (.inl he)))
  · rw [if_neg (by simpa using he)]
    by_cases he2 : b.size = 1
    · rw [if_pos (by simpa using he2)]
      exact wpS_pure (h _ _ (.refl _) (I1.firstB M.SA M.SBb he2 M.first))
    · rw [if_neg (by simpa using he2)]
      refine wpS_bind (wpS_get ?_)
      refine wpS_bind (wpS_mono (wpS_forRange (I := fun x q st' => Gl st st' ∧ q.1 = none ∧ InH ρ a b (a.size + b.size - x) q.2.2.2.1 q.2.1 q.2.2.1) (Q := fun q st' => Gl st st' ∧ ∃ r, q.1 = some r ∧ MR ρ a b r) ?step ?fin ⟨.refl _, rfl, I1, by dsimp only; lia, by dsimp only; lia, by dsimp only; lia⟩) ?post)
      case fin =>
        rintro q st' ⟨g, h3, h4⟩
        exfalso
        have := h4.2.2.2; have := h4.2.1; have := h4.2.2.1; lia
      case step =>
        rintro x q st' _ hx ⟨g, h3, h4⟩
        refine s_h0 M (hB.gl g) g h4 (fun r st'' g' hr rest => ⟨g', r, rfl, hr⟩) fun c' st'' g' h5 h6 => ⟨g', h5, h6.1, h6.2.1, h6.2.2.1, by have := h6.2.2.2; lia⟩
      case post =>
        rintro q st' ⟨g, r, h3, h4⟩
        rw [h3]
        exact wpS_pure (h r st' g h4)
end
end Mine

set_option maxRecDepth 100000
set_option linter.unusedVariables false
set_option autoImplicit false
namespace Mine
open PySem PyProof.Rows

def wback (sa : Nat) (l : List Keyed) (j0 : Nat) (arr : Array Keyed) : Array Keyed := (l.zipIdx j0).foldl (fun a (p : Keyed × Nat) => a.setIfInBounds (sa + p.2) p.1) arr
theorem wback_get (sa : Nat) : ∀ (l : List Keyed) (j0 : Nat) (arr : Array Keyed), sa + j0 + l.length ≤ arr.size → ∀ k, (wback sa l j0 arr)[k]? = if sa + j0 ≤ k ∧ k < sa + j0 + l.length then l[k - (sa + j0)]? else arr[k]?
  | [], j0, arr, h, k => by
    show arr[k]? = _
    rw [if_neg (by simp)]
  | x :: l, j0, arr, h, k => by
    simp only [List.length_cons] at h ⊢
    show (wback sa l (j0 + 1) (arr.setIfInBounds (sa + j0) x))[k]? = _
    rw [wback_get sa l (j0 + 1) _ (by simp; lia) k, Array.getElem?_setIfInBounds]
    by_cases h1 : k = sa + j0
    · subst h1
      rw [if_neg (by lia), if_pos rfl, if_pos (by lia), if_pos (by lia)]
      simp
    · by_cases h2 : sa + (j0 + 1) ≤ k ∧ k < sa + (j0 + 1) + l.length
      · rw [if_pos h2, if_pos (by lia), show k - (sa + j0) = k - (sa + (j0 + 1)) + 1 by lia, List.getElem?_cons_succ]
      · rw [if_neg h2, if_neg (by lia), if_neg (by lia)]

theorem mergeAt'_eq (i : Nat) : mergeAt' i = (do
  let s ← get
  let (some (sa, na, power), some (sb, nb, _)) := ((pendingOf s)[i]?, (pendingOf s)[i + 1]?) | unsupported "internal:list.sort.pending"
  set (setPending s (((pendingOf s).setIfInBounds i (sa, na + nb, power)).eraseIdxIfInBounds (i + 1)))
  let some k ← gallop' false (← elem' (arrOf s) sb) (arrOf s) sa na 0 | return false
  let (sa, na) := (sa + k, na - k)
  if na == 0 then return true
  let some nb ← gallop' true (← elem' (arrOf s) (sa + na - 1)) (arrOf s) sb nb (nb - 1) | return false
  if nb == 0 then return true
  let x := (arrOf s).extract sa sb
  let y := (arrOf s).extract sb (sb + nb)
  let merged ← if na ≤ nb then mergeLo' x y else mergeHi' x y
  modify fun s => setArr s (merged.toList.zipIdx.foldl (fun a (p, j) => a.setIfInBounds (sa + j) p) (arrOf s))
  return (failedOf (← get)).isNone) := rfl

section
variable {prog : Program} {w : World} {A : Around} {E : Value → Shared → Prop} {s : Shared} {a₀ : Array Keyed} {κ : SortKind} {ρ : Keyed → Nat}

theorem wpS_set {σ : Type} {M : Model} {x : σ} {Q : PUnit → σ → Prop} {st : σ} (h : Q ⟨⟩ x) : wpS M A E s (set x : StateT σ Sem PUnit) Q st := by
  unfold wpS; rw [StateT.run_set]; exact wpAny_pure ⟨rfl, h⟩

theorem Rk_extract {x : Array Keyed} {i j k : Nat} (h : i + k < j) (hj : j ≤ x.size) : Rk ρ (x.extract i j) k = Rk ρ x (i + k) := by
  refine Rk_congr ?_
  rw [Array.getElem?_extract, if_pos (by lia)]
theorem size_extract {x : Array Keyed} {i j : Nat} (hj : j ≤ x.size) : (x.extract i j).size = j - i := by rw [Array.size_extract]; lia

/-- what a merge of two neighbours leaves -/
structure MA (κ : SortKind) (ρ : Keyed → Nat) (a₀ : Array Keyed) (st : SortSt) (i sa na pw nb : Nat) (st' : SortSt) : Prop where
  sb : SB κ a₀ st'
  srt : Srt ρ (arrOf st') sa (sa + na + nb)
  out : Out (arrOf st) (arrOf st') sa (sa + na + nb)
  pend : pendingOf st' = ((pendingOf st).setIfInBounds i (sa, na + nb, pw)).eraseIdxIfInBounds (i + 1)

theorem s_mergeAt (H : CmpOk prog w A s κ ρ a₀) {st : SortSt} (hB : SB κ a₀ st) {i sa na pw nb pw' : Nat} (h1 : (pendingOf st)[i]? = some (sa, na, pw)) (h2 : (pendingOf st)[i + 1]? = some (sa + na, nb, pw')) (hna : 1 ≤ na) (hnb : 1 ≤ nb) (hsz : sa + na + nb ≤ a₀.size)
    (S1 : Srt ρ (arrOf st) sa (sa + na)) (S2 : Srt ρ (arrOf st) (sa + na) (sa + na + nb)) {Q : Bool → SortSt → Prop} (h : ∀ st', MA κ ρ a₀ st i sa na pw nb st' → Q true st') : wpS (model prog w) A E s (mergeAt' i) Q st := by
  have hsize := hB.size
  have hin : ∀ p ∈ (arrOf st).toList, p ∈ a₀.toList := fun p hp => (Array.perm_iff_toList_perm.mp hB.perm).mem_iff.mp hp
  rw [mergeAt'_eq]
  refine wpS_bind (wpS_get ?_)
  rw [h1, h2]
  dsimp only
  refine wpS_bind (wpS_set ?_)
  obtain ⟨st1, hst1⟩ : ∃ x, x = setPending st (((pendingOf st).setIfInBounds i (sa, na + nb, pw)).eraseIdxIfInBounds (i + 1)) := ⟨_, rfl⟩
  rw [← hst1]
  have ea : arrOf st1 = arrOf st := by rw [hst1]
  have ep : pendingOf st1 = ((pendingOf st).setIfInBounds i (sa, na + nb, pw)).eraseIdxIfInBounds (i + 1) := by rw [hst1]
  have hB1 : SB κ a₀ st1 := by rw [hst1]; exact ⟨hB.perm, hB.kind, hB.failed⟩
  clear hst1
  obtain ⟨x, hx, hmx, hrx⟩ := at_some (ρ := ρ) (x := arrOf st) (i := sa + na) (by lia)
  refine wpS_bind (s_elem hx ?_)
  refine wpS_bind (s_gallop H hB1 (hin x hmx) hin (by lia) (by lia) S1 fun k hk hlt hge => ?_)
  have hlt' : ∀ j, j < k → Rk ρ (arrOf st) (sa + j) ≤ ρ x := fun j hj => by have := hlt j hj; unfold byd at this; simpa using this
  have hge' : ∀ j, k ≤ j → j < na → ρ x < Rk ρ (arrOf st) (sa + j) := fun j h4 h5 => by have := hge j h4 h5; unfold byd at this; simpa using this
  obtain ⟨n1, rfl⟩ : ∃ n1, na = k + n1 := ⟨na - k, by lia⟩
  dsimp only
  simp only [Nat.add_sub_cancel_left]
  by_cases hn0 : n1 = 0
  · rw [if_pos (by simpa using hn0)]
    refine wpS_pure (h st1 ⟨hB1, fun u v h3 h4 h5 => ?_, by rw [ea]; exact Out.refl _ _ _, ep⟩)
    rw [ea]
    by_cases hv : v < sa + (k + n1)
    · exact S1 u v h3 h4 hv
    · by_cases hu : u < sa + (k + n1)
      · have q1 := hlt' (u - sa) (by lia)
        rw [show sa + (u - sa) = u by lia] at q1
        have q2 := S2 (sa + (k + n1)) v (Nat.le_refl _) (by lia) h5
        lia
      · exact S2 u v (by lia) h4 h5
  · rw [if_neg (by simpa using hn0)]
    obtain ⟨y, hy, hmy, hry⟩ := at_some (ρ := ρ) (x := arrOf st) (i := sa + k + (n1) - 1) (by lia)
    refine wpS_bind (s_elem hy ?_)
    refine wpS_bind (s_gallop H hB1 (hin y hmy) hin (by lia) (by lia) S2 fun m hm mlt mge => ?_)
    have mlt' : ∀ j, j < m → Rk ρ (arrOf st) (sa + (k + n1) + j) < ρ y := fun j hj => by have := mlt j hj; unfold byd at this; simpa using this
    have mge' : ∀ j, m ≤ j → j < nb → ρ y ≤ Rk ρ (arrOf st) (sa + (k + n1) + j) := fun j h4 h5 => by have := mge j h4 h5; unfold byd at this; simpa using this
    have hylast : Rk ρ (arrOf st) (sa + (k + n1) - 1) = ρ y := by rw [show sa + (k + n1) - 1 = sa + k + (n1) - 1 by lia]; exact hry
    dsimp only
    by_cases hm0 : m = 0
    · rw [if_pos (by simpa using hm0)]
      refine wpS_pure (h st1 ⟨hB1, fun u v h3 h4 h5 => ?_, by rw [ea]; exact Out.refl _ _ _, ep⟩)
      rw [ea]
      by_cases hv : v < sa + (k + n1)
      · exact S1 u v h3 h4 hv
      · by_cases hu : u < sa + (k + n1)
        · have q1 := S1 u (sa + (k + n1) - 1) h3 (by lia) (by lia)
          have q2 := mge' (v - (sa + (k + n1))) (by lia) (by lia)
          rw [show sa + (k + n1) + (v - (sa + (k + n1))) = v by lia] at q2
          lia
        · exact S2 u v (by lia) h4 h5
    · rw [if_neg (by simpa using hm0)]
      obtain ⟨xa, hxa⟩ : ∃ q, q = (arrOf st).extract (sa + k) (sa + (k + n1)) := ⟨_, rfl⟩
      obtain ⟨yb, hyb⟩ : ∃ q, q = (arrOf st).extract (sa + (k + n1)) (sa + (k + n1) + m) := ⟨_, rfl⟩
      rw [← hxa, ← hyb]
      have sza : xa.size = n1 := by rw [hxa, size_extract (by lia)]; lia
      have szb : yb.size = m := by rw [hyb, size_extract (by lia)]; lia
      have ra : ∀ j, j < n1 → Rk ρ xa j = Rk ρ (arrOf st) (sa + k + j) := fun j hj => by rw [hxa]; exact Rk_extract (by lia) (by lia)
      have rb : ∀ j, j < m → Rk ρ yb j = Rk ρ (arrOf st) (sa + (k + n1) + j) := fun j hj => by rw [hyb]; exact Rk_extract (by lia) (by lia)
      have la : xa.toList = ((arrOf st).toList.drop (sa + k)).take (n1) := by rw [hxa, Array.toList_extract, List.extract_eq_take_drop, show sa + (k + n1) - (sa + k) = n1 by lia]
      have lb : yb.toList = ((arrOf st).toList.drop (sa + (k + n1))).take m := by rw [hyb, Array.toList_extract, List.extract_eq_take_drop, show sa + (k + n1) + m - (sa + (k + n1)) = m by lia]
      have MGx : MG prog w A s κ ρ a₀ xa yb := by
        refine ⟨H, fun p hp => hin p ?_, fun p hp => hin p ?_, fun u v _ h4 h5 => ?_, fun u v _ h4 h5 => ?_, fun j hj => ?_, fun j hj => ?_⟩
        · rw [la] at hp; exact List.mem_of_mem_drop (List.mem_of_mem_take hp)
        · rw [lb] at hp; exact List.mem_of_mem_drop (List.mem_of_mem_take hp)
        · rw [sza] at h5; rw [ra u (by lia), ra v (by lia)]; exact S1 _ _ (by lia) (by lia) (by lia)
        · rw [szb] at h5; rw [rb u (by lia), rb v (by lia)]; exact S2 _ _ (by lia) (by lia) (by lia)
        · rw [sza] at hj; rw [rb 0 (by lia), ra j hj]
          have := hge' (k + j) (by lia) (by lia)
          simp only [Nat.add_zero]
          rw [show sa + (k + j) = sa + k + j by lia] at this
          lia
        · rw [szb] at hj; rw [rb j hj, ra (xa.size - 1) (by lia), sza]
          have := mlt' j hj
          rw [show sa + k + (n1 - 1) = sa + (k + n1) - 1 by lia]
          lia
      have fin : ∀ r st', Gl st1 st' → MR ρ xa yb r → wpS (model prog w) A E s (do
          modify fun s => setArr s (r.toList.zipIdx.foldl (fun a (p, j) => a.setIfInBounds (sa + k + j) p) (arrOf s))
          return (failedOf (← get)).isNone) Q st' := by
        intro r st' g hr0
        obtain ⟨hrp, hrs⟩ := hr0
        obtain ⟨rl, hrl⟩ : ∃ l, l = r.toList := ⟨_, rfl⟩
        rw [← hrl] at hrp hrs ⊢
        clear hrl
        refine wpS_bind (wpS_modify (wpS_bind (wpS_get (wpS_pure ?_))))
        have hf : (failedOf (setArr st' (wback (sa + k) rl 0 (arrOf st')))).isNone = true := by
          show (failedOf st').isNone = true
          rw [g.failed, hB1.failed]; rfl
        have hf' : (failedOf (setArr st' (rl.zipIdx.foldl (fun a (p : Keyed × Nat) => a.setIfInBounds (sa + k + p.2) p.1) (arrOf st')))).isNone = true := hf
        show Q (failedOf (setArr st' (wback (sa + k) rl 0 (arrOf st')))).isNone (setArr st' (wback (sa + k) rl 0 (arrOf st')))
        rw [hf]
        have lr : rl.length = (n1) + m := by have := hrp.length_eq; simp only [List.length_append, Array.length_toList, sza, szb] at this; exact this
        have tl : ((arrOf st).toList.take (sa + k)).length = sa + k := by simp; lia
        have eg : ∀ j, (wback (sa + k) rl 0 (arrOf st'))[j]? = if sa + k ≤ j ∧ j < sa + (k + n1) + m then rl[j - (sa + k)]? else (arrOf st)[j]? := fun j => by
          rw [wback_get (sa + k) rl 0 (arrOf st') (by rw [g.arr, ea, lr]; lia) j, lr, g.arr, ea]
          simp only [Nat.add_zero]
          rw [show sa + k + (n1 + m) = sa + (k + n1) + m by lia]
        have el : (wback (sa + k) rl 0 (arrOf st')).toList = (arrOf st).toList.take (sa + k) ++ rl ++ (arrOf st).toList.drop (sa + (k + n1) + m) := by
          apply List.ext_getElem?
          intro j
          rw [Array.getElem?_toList, eg j]
          by_cases q1 : j < sa + k
          · rw [if_neg (by lia), List.append_assoc, List.getElem?_append_left (by lia), List.getElem?_take, if_pos q1, Array.getElem?_toList]
          · by_cases q2 : j < sa + (k + n1) + m
            · rw [if_pos (by lia), List.append_assoc, List.getElem?_append_right (by lia), List.getElem?_append_left (by lia), tl]
            · rw [if_neg (by lia), List.getElem?_append_right (by rw [List.length_append]; lia), List.getElem?_drop, Array.getElem?_toList, List.length_append, tl, lr]
              congr 1; lia
        have hperm : (wback (sa + k) rl 0 (arrOf st')).Perm (arrOf st) := by
          rw [Array.perm_iff_toList_perm, el]
          have e0 : (arrOf st).toList = (arrOf st).toList.take (sa + k) ++ (xa.toList ++ yb.toList) ++ (arrOf st).toList.drop (sa + (k + n1) + m) := by
            have e2 : xa.toList ++ yb.toList ++ (arrOf st).toList.drop (sa + (k + n1) + m) = (arrOf st).toList.drop (sa + k) := by
              rw [la, lb]
              have f1 : (arrOf st).toList.drop (sa + (k + n1)) = ((arrOf st).toList.drop (sa + k)).drop (n1) := by rw [List.drop_drop]; congr 1; lia
              have f2 : (arrOf st).toList.drop (sa + (k + n1) + m) = ((arrOf st).toList.drop (sa + (k + n1))).drop m := by rw [List.drop_drop]
              rw [f2, List.append_assoc, List.take_append_drop, f1, List.take_append_drop]
            rw [List.append_assoc, e2, List.take_append_drop]
          conv => rhs; rw [e0]
          exact List.Perm.append_right _ (List.Perm.append_left _ hrp)
        have hsb : SB κ a₀ (setArr st' (wback (sa + k) rl 0 (arrOf st'))) := ⟨hperm.trans hB.perm, by show kindOf st' = κ; rw [g.kind]; exact hB1.kind, by show failedOf st' = none; rw [g.failed]; exact hB1.failed⟩
        refine h _ ⟨hsb, ?_, fun j hj => ?_, ?_⟩
        · have lo_ : ∀ u, u < sa + k → Rk ρ (wback (sa + k) rl 0 (arrOf st')) u = Rk ρ (arrOf st) u := fun u hu => Rk_congr (by rw [eg u, if_neg (by lia)])
          have hi_ : ∀ u, sa + (k + n1) + m ≤ u → Rk ρ (wback (sa + k) rl 0 (arrOf st')) u = Rk ρ (arrOf st) u := fun u hu => Rk_congr (by rw [eg u, if_neg (by lia)])
          have mid : ∀ u, sa + k ≤ u → u < sa + (k + n1) + m → ∃ p, rl[u - (sa + k)]? = some p ∧ Rk ρ (wback (sa + k) rl 0 (arrOf st')) u = ρ p ∧ ((∃ j, j < n1 ∧ ρ p = Rk ρ (arrOf st) (sa + k + j)) ∨ ∃ j, j < m ∧ ρ p = Rk ρ (arrOf st) (sa + (k + n1) + j)) := fun u q1 q2 => by
            have hl : u - (sa + k) < rl.length := by lia
            refine ⟨rl[u - (sa + k)], List.getElem?_eq_getElem hl, ?_, ?_⟩
            · unfold Rk; rw [eg u, if_pos ⟨q1, q2⟩, List.getElem?_eq_getElem hl]
            · have hmem : rl[u - (sa + k)] ∈ xa.toList ++ yb.toList := hrp.mem_iff.mp (List.getElem_mem hl)
              rcases List.mem_append.mp hmem with q | q
              · obtain ⟨j, _, h6, _, h7⟩ := mem_dropA (ρ := ρ) (a := xa) (i := 0) (by simpa using q)
                rw [sza] at h6
                exact .inl ⟨j, h6, by rw [← h7, ra j h6]⟩
              · obtain ⟨j, _, h6, _, h7⟩ := mem_dropA (ρ := ρ) (a := yb) (i := 0) (by simpa using q)
                rw [szb] at h6
                exact .inr ⟨j, h6, by rw [← h7, rb j h6]⟩
          intro u v h3 h4 h5
          show Rk ρ (wback (sa + k) rl 0 (arrOf st')) u ≤ Rk ρ (wback (sa + k) rl 0 (arrOf st')) v
          by_cases c1 : v < sa + k
          · rw [lo_ u (by lia), lo_ v c1]; exact S1 u v h3 h4 (by lia)
          · by_cases c2 : v < sa + (k + n1) + m
            · obtain ⟨p, hp1, hp2, hp3⟩ := mid v (by lia) c2
              by_cases c3 : u < sa + k
              · rw [lo_ u c3, hp2]
                have q1 := hlt' (u - sa) (by lia)
                rw [show sa + (u - sa) = u by lia] at q1
                rcases hp3 with ⟨j, h6, h7⟩ | ⟨j, h6, h7⟩
                · rw [h7]; exact S1 u _ h3 (by lia) (by lia)
                · have := S2 (sa + (k + n1)) (sa + (k + n1) + j) (Nat.le_refl _) (by lia) (by lia)
                  lia
              · clear hp3
                obtain ⟨p', hp1', hp2', hp3'⟩ := mid u (by lia) (by lia)
                clear hp3'
                rw [hp2, hp2']
                by_cases c4 : u = v
                · subst c4; rw [hp1] at hp1'; cases hp1'; exact Nat.le_refl _
                · have := List.pairwise_iff_getElem.mp hrs (u - (sa + k)) (v - (sa + k)) (by lia) (by lia) (by lia)
                  rw [List.getElem?_eq_getElem (by lia)] at hp1 hp1'
                  rw [← Option.some.inj hp1, ← Option.some.inj hp1']; exact this
            · rw [hi_ v (by lia)]
              have q2 : ρ y ≤ Rk ρ (arrOf st) v := by
                have := mge' (v - (sa + (k + n1))) (by lia) (by lia)
                rwa [show sa + (k + n1) + (v - (sa + (k + n1))) = v by lia] at this
              by_cases c3 : u < sa + k
              · rw [lo_ u c3]
                have := S1 u (sa + (k + n1) - 1) h3 (by lia) (by lia)
                lia
              · by_cases c4 : u < sa + (k + n1) + m
                · obtain ⟨p, hp1, hp2, hp3⟩ := mid u (by lia) c4
                  rw [hp2]
                  rcases hp3 with ⟨j, h6, h7⟩ | ⟨j, h6, h7⟩
                  · have := S1 (sa + k + j) (sa + (k + n1) - 1) (by lia) (by lia) (by lia)
                    lia
                  · have := mlt' j h6
                    lia
                · rw [hi_ u (by lia)]; exact S2 u v (by lia) h4 h5
        · show (wback (sa + k) rl 0 (arrOf st'))[j]? = (arrOf st)[j]?
          rw [eg j, if_neg (by lia)]
        · show pendingOf st' = _
          rw [g.pend, ep]
      split
      · exact wpS_bind (s_mergeLo MGx hB1 (by lia) (by lia) fin)
      · exact wpS_bind (s_mergeHi MGx hB1 (by lia) (by lia) fin)
end
end Mine

set_option maxRecDepth 100000
set_option linter.unusedVariables false
set_option autoImplicit false
namespace Mine
open PySem PyProof.Rows

abbrev Run := Nat × Nat × Nat
def RunsL (ρ : Keyed → Nat) (arr : Array Keyed) : Nat → List Run → Nat → Prop
  | lo, [], hi => lo = hi
  | lo, p :: r, hi => p.1 = lo ∧ 1 ≤ p.2.1 ∧ Srt ρ arr lo (lo + p.2.1) ∧ RunsL ρ arr (lo + p.2.1) r hi

section
variable {ρ : Keyed → Nat} {arr arr' : Array Keyed}
theorem RunsL.len : ∀ {l : List Run} {lo hi : Nat}, RunsL ρ arr lo l hi → lo + l.length ≤ hi
  | [], lo, hi, h => by have : lo = hi := h; simp; lia
  | p :: r, lo, hi, ⟨_, h1, _, h⟩ => by have := RunsL.len h; simp; lia
theorem Srt.out {a b x y : Nat} (h : Srt ρ arr a b) (o : Out arr arr' x y) (d : b ≤ x ∨ y ≤ a) : Srt ρ arr' a b := fun i j h1 h2 h3 => by
  have e1 : Rk ρ arr' i = Rk ρ arr i := Rk_congr (o i (by lia))
  have e2 : Rk ρ arr' j = Rk ρ arr j := Rk_congr (o j (by lia))
  rw [e1, e2]; exact h i j h1 h2 h3
theorem RunsL.out {x y : Nat} (o : Out arr arr' x y) : ∀ {l : List Run} {lo hi : Nat}, RunsL ρ arr lo l hi → (hi ≤ x ∨ y ≤ lo) → RunsL ρ arr' lo l hi
  | [], lo, hi, h, _ => h
  | p :: r, lo, hi, ⟨h0, h1, h2, h⟩, d => by
    have := RunsL.len h
    exact ⟨h0, h1, h2.out o (by lia), RunsL.out o h (by lia)⟩
theorem RunsL.split : ∀ {l1 l2 : List Run} {lo hi : Nat}, RunsL ρ arr lo (l1 ++ l2) hi → ∃ m, RunsL ρ arr lo l1 m ∧ RunsL ρ arr m l2 hi
  | [], l2, lo, hi, h => ⟨lo, rfl, h⟩
  | p :: r, l2, lo, hi, ⟨h0, h1, h2, h⟩ => by obtain ⟨m, h3, h4⟩ := RunsL.split h; exact ⟨m, ⟨h0, h1, h2, h3⟩, h4⟩
theorem RunsL.join : ∀ {l1 l2 : List Run} {lo m hi : Nat}, RunsL ρ arr lo l1 m → RunsL ρ arr m l2 hi → RunsL ρ arr lo (l1 ++ l2) hi
  | [], l2, lo, m, hi, h, h' => by have : lo = m := h; subst this; exact h'
  | p :: r, l2, lo, m, hi, ⟨h0, h1, h2, h⟩, h' => ⟨h0, h1, h2, RunsL.join h h'⟩
theorem RunsL.congr : ∀ {l l' : List Run} {lo hi : Nat}, l.map (fun p => (p.1, p.2.1)) = l'.map (fun p => (p.1, p.2.1)) → RunsL ρ arr lo l hi → RunsL ρ arr lo l' hi
  | [], [], _, _, _, h => h
  | [], _ :: _, _, _, e, _ => by simp at e
  | _ :: _, [], _, _, e, _ => by simp at e
  | p :: r, p' :: r', lo, hi, e, ⟨h0, h1, h2, h⟩ => by
    simp only [List.map_cons, List.cons.injEq, Prod.mk.injEq] at e
    obtain ⟨⟨e1, e2⟩, e3⟩ := e
    refine ⟨by rw [← e1]; exact h0, by rw [← e2]; exact h1, by rw [← e2]; exact h2, ?_⟩
    rw [← e2]; exact RunsL.congr e3 h

theorem two_at {α : Type} {l : List α} {i : Nat} {x y : α} (h1 : l[i]? = some x) (h2 : l[i + 1]? = some y) : l = l.take i ++ x :: y :: l.drop (i + 2) := by
  obtain ⟨a1, b1⟩ := List.getElem?_eq_some_iff.mp h1
  obtain ⟨a2, b2⟩ := List.getElem?_eq_some_iff.mp h2
  have e1 : l.drop i = x :: l.drop (i + 1) := by rw [List.drop_eq_getElem_cons a1, b1]
  have e2 : l.drop (i + 1) = y :: l.drop (i + 2) := by rw [List.drop_eq_getElem_cons a2, b2]
  rw [← e2, ← e1, List.take_append_drop]
theorem two_set {α : Type} {l : List α} {i : Nat} {x y z : α} (h1 : l[i]? = some x) (h2 : l[i + 1]? = some y) : (l.set i z).eraseIdx (i + 1) = l.take i ++ z :: l.drop (i + 2) := by
  have e := two_at h1 h2
  have hi : i < l.length := (List.getElem?_eq_some_iff.mp h1).1
  have hl : (l.take i).length = i := by simp; lia
  conv => lhs; rw [e]
  rw [List.set_append_right _ _ (by lia), hl, Nat.sub_self, List.set_cons_zero, List.eraseIdx_append_of_length_le (by lia), hl, show i + 1 - i = 1 by lia]
  rfl
end

section
variable {prog : Program} {w : World} {A : Around} {E : Value → Shared → Prop} {s : Shared} {a₀ : Array Keyed} {κ : SortKind} {ρ : Keyed → Nat}

theorem s_step (H : CmpOk prog w A s κ ρ a₀) {st : SortSt} (hB : SB κ a₀ st) {i hi : Nat} (hR : RunsL ρ (arrOf st) 0 (pendingOf st).toList hi) (hh : hi ≤ a₀.size) (hi1 : i + 1 < (pendingOf st).size) {Q : Bool → SortSt → Prop}
    (h : ∀ st', SB κ a₀ st' → RunsL ρ (arrOf st') 0 (pendingOf st').toList hi → (pendingOf st').size + 1 = (pendingOf st).size → Out (arrOf st) (arrOf st') 0 hi → Q true st') : wpS (model prog w) A E s (mergeAt' i) Q st := by
  obtain ⟨⟨sa, na, pw⟩, h1⟩ : ∃ p, (pendingOf st)[i]? = some p := ⟨_, getElem?_pos _ i (by lia)⟩
  obtain ⟨⟨sb, nb, pw'⟩, h2⟩ : ∃ p, (pendingOf st)[i + 1]? = some p := ⟨_, getElem?_pos _ (i + 1) hi1⟩
  have h1' : (pendingOf st).toList[i]? = some (sa, na, pw) := by rw [Array.getElem?_toList]; exact h1
  have h2' : (pendingOf st).toList[i + 1]? = some (sb, nb, pw') := by rw [Array.getElem?_toList]; exact h2
  have e := two_at h1' h2'
  rw [e] at hR
  obtain ⟨m, R1, q0, q1, q2, p0, p1, p2, R2⟩ := hR.split
  simp only at q0 q1 q2 p0 p1 p2 R2
  subst q0
  subst p0
  have hle := R2.len
  have hle1 := R1.len
  refine s_mergeAt H hB h1 h2 q1 p1 (by lia) q2 p2 fun st' M => ?_
  have et : (pendingOf st').toList = (pendingOf st).toList.take i ++ (sa, na + nb, pw) :: (pendingOf st).toList.drop (i + 2) := by
    rw [M.pend, Array.toList_eraseIdxIfInBounds, Array.toList_setIfInBounds, two_set h1' h2']
  refine h st' M.sb ?_ ?_ (M.out.wide (Nat.zero_le _) (by lia))
  · rw [et]
    refine (R1.out M.out (.inl (Nat.le_refl _))).join ⟨rfl, by simp only; lia, by rw [← Nat.add_assoc]; exact M.srt, ?_⟩
    rw [← Nat.add_assoc]
    exact R2.out M.out (.inr (Nat.le_refl _))
  · have l1 := congrArg List.length et
    have l2 := congrArg List.length e
    simp only [Array.length_toList, List.length_append, List.length_cons] at l1 l2
    lia

end

def colL (sz pw : Nat) : StateT SortSt Sem (ForInStep (Option Unit × Unit)) := do
  let g ← get
  match (if (pendingOf g).size > 1 then (pendingOf g)[(pendingOf g).size - 2]? else none) with
  | some (_, _, older) =>
    if older ≤ pw then pure (.done (none, ()))
    else do
      let b ← mergeAt' ((pendingOf g).size - 2)
      if (!b) = true then pure (.done (some (), ())) else pure (.yield (none, ()))
  | _ => pure (.done (none, ()))
def tR (sz lo n : Nat) : StateT SortSt Sem (ForInStep (Option Unit × Nat)) := do
  let g ← get
  match (pendingOf g).back? with
  | some (s1, n1, _) => do
    let r ← forIn [0:sz] ((none, ()) : Option Unit × Unit) fun _ _ => colL sz (power' sz (2 * s1 + n1) (2 * s1 + n1 + n1 + n) sz)
    match r.1 with
    | some r => pure (.done (some r, lo))
    | none => do
      modify fun s => setPending s ((pendingOf s).modify ((pendingOf s).size - 1) fun (st, len, _) => (st, len, power' sz (2 * s1 + n1) (2 * s1 + n1 + n1 + n) sz))
      modify fun s => setPending s ((pendingOf s).push (lo, n, 0))
      pure (.yield (none, lo + n))
  | _ => do
    modify fun s => setPending s ((pendingOf s).push (lo, n, 0))
    pure (.yield (none, lo + n))
def oL (sz mr : Nat) (c : Option Unit × Nat) : StateT SortSt Sem (ForInStep (Option Unit × Nat)) :=
  if c.2 ≥ sz then pure (.done (none, c.2))
  else do
    let x ← countRun' c.2 (sz - c.2)
    match x with
    | some found =>
      if found < mr then do
        liftM (rule "list.sort.binary-insertion")
        let b ← binarySort' c.2 (min (sz - c.2) mr) found
        if (!b) = true then pure (.done (some (), c.2)) else tR sz c.2 (min (sz - c.2) mr)
      else tR sz c.2 found
    | _ => pure (.done (some (), c.2))
def fL : StateT SortSt Sem (ForInStep (Option Unit × Unit)) := do
  let g ← get
  if (pendingOf g).size ≤ 1 then pure (.done (none, ()))
  else do
    let b ← mergeAt' (if Option.any (fun x => decide (x < (pendingOf g)[(pendingOf g).size - 2 + 1]?.elim 0 fun x => x.snd.fst)) (if (pendingOf g).size - 2 > 0 then Option.map (fun x => x.snd.fst) (pendingOf g)[(pendingOf g).size - 2 - 1]? else none) = true then (pendingOf g).size - 2 - 1 else (pendingOf g).size - 2)
    if (!b) = true then pure (.done (some (), ())) else pure (.yield (none, ()))
def mRuns : StateT SortSt Sem Unit := do
  let g ← get
  let r ← forIn [0:(arrOf g).size] ((none, 0) : Option Unit × Nat) fun _ c => oL (arrOf g).size (minRun' (arrOf g).size (arrOf g).size 0) c
  match r.1 with
  | some r => pure r
  | none => do
    let q ← forIn [0:(arrOf g).size] ((none, ()) : Option Unit × Unit) fun _ _ => fL
    match q.1 with
    | some r => pure r
    | none => pure ()
theorem mRuns_eq : sortRuns' = mRuns := by kernel_rfl
/-- how long a list this text can sort -/
def sortMax : Nat := 1000000

section
variable {prog : Program} {w : World} {A : Around} {E : Value → Shared → Prop} {s : Shared} {a₀ : Array Keyed} {κ : SortKind} {ρ : Keyed → Nat}

theorem s_tR (H : CmpOk prog w A s κ ρ a₀) {st : SortSt} (hB : SB κ a₀ st) {lo n : Nat} (hR : RunsL ρ (arrOf st) 0 (pendingOf st).toList lo) (hn : 1 ≤ n) (hs : Srt ρ (arrOf st) lo (lo + n)) (hl : lo + n ≤ a₀.size) {Q : ForInStep (Option Unit × Nat) → SortSt → Prop}
    (h : ∀ st', SB κ a₀ st' → RunsL ρ (arrOf st') 0 (pendingOf st').toList (lo + n) → Q (.yield (none, lo + n)) st') : wpS (model prog w) A E s (tR a₀.size lo n) Q st := by
  have fin : ∀ (st' : SortSt), SB κ a₀ st' → RunsL ρ (arrOf st') 0 (pendingOf st').toList lo → Srt ρ (arrOf st') lo (lo + n) → Q (.yield (none, lo + n)) (setPending st' ((pendingOf st').push (lo, n, 0))) := fun st' hB' hR' hs' => by
    refine h _ ⟨hB'.perm, hB'.kind, hB'.failed⟩ ?_
    show RunsL ρ (arrOf st') 0 ((pendingOf st').push (lo, n, 0)).toList (lo + n)
    rw [Array.toList_push]
    exact hR'.join ⟨rfl, hn, hs', rfl⟩
  unfold tR
  refine wpS_bind (wpS_get ?_)
  cases hb : (pendingOf st).back? with
  | none => exact wpS_bind (wpS_modify (wpS_pure (fin st hB hR hs)))
  | some p =>
    obtain ⟨s1, n1, pw⟩ := p
    dsimp only
    generalize power' a₀.size (2 * s1 + n1) (2 * s1 + n1 + n1 + n) a₀.size = pw'
    refine wpS_bind (wpS_mono (wpS_forRange (I := fun x c st' => c = (none, ()) ∧ SB κ a₀ st' ∧ RunsL ρ (arrOf st') 0 (pendingOf st').toList lo ∧ Srt ρ (arrOf st') lo (lo + n))
      (Q := fun c st' => c = (none, ()) ∧ SB κ a₀ st' ∧ RunsL ρ (arrOf st') 0 (pendingOf st').toList lo ∧ Srt ρ (arrOf st') lo (lo + n)) ?step (fun c st' hh => hh) ⟨rfl, hB, hR, hs⟩) ?post)
    case step =>
      rintro x c st' _ hx ⟨rfl, hB', hR', hs'⟩
      unfold colL
      refine wpS_bind (wpS_get ?_)
      by_cases hsz : (pendingOf st').size > 1
      · rw [if_pos hsz]
        obtain ⟨⟨u, v, older⟩, hq⟩ : ∃ p, (pendingOf st')[(pendingOf st').size - 2]? = some p := ⟨_, getElem?_pos _ _ (by lia)⟩
        rw [hq]
        dsimp only
        split
        · exact wpS_pure ⟨rfl, hB', hR', hs'⟩
        · refine wpS_bind (s_step H hB' hR' (by lia) (by lia) fun st'' hB'' hR'' _ ho => ?_)
          simp only [Bool.not_true, Bool.false_eq_true, if_false]
          exact wpS_pure ⟨rfl, hB'', hR'', hs'.out ho (.inr (Nat.le_refl _))⟩
      · rw [if_neg hsz]
        exact wpS_pure ⟨rfl, hB', hR', hs'⟩
    case post =>
      rintro c st' ⟨rfl, hB', hR', hs'⟩
      dsimp only
      refine wpS_bind (wpS_modify (wpS_bind (wpS_modify (wpS_pure ?_))))
      refine fin (setPending st' _) ⟨hB'.perm, hB'.kind, hB'.failed⟩ ?_ hs'
      refine RunsL.congr ?_ hR'
      show _ = List.map _ ((pendingOf st').modify ((pendingOf st').size - 1) _).toList
      rw [Array.toList_modify]
      apply List.ext_getElem?
      intro j
      simp only [List.getElem?_map, List.getElem?_modify]
      split <;> cases (pendingOf st').toList[j]? <;> rfl

theorem s_sortRuns (H : CmpOk prog w A s κ ρ a₀) {st : SortSt} (hB : SB κ a₀ st) (hp : pendingOf st = #[]) (h2 : 2 ≤ a₀.size) (hmx : a₀.size ≤ sortMax) {Q : Unit → SortSt → Prop}
    (h : ∀ st', SB κ a₀ st' → Srt ρ (arrOf st') 0 a₀.size → Q () st') : wpS (model prog w) A E s sortRuns' Q st := by
  rw [mRuns_eq]
  unfold mRuns
  refine wpS_bind (wpS_get ?_)
  simp only [hB.size]
  have hmr : 1 ≤ minRun' a₀.size a₀.size 0 := by
    have gen : ∀ f n r, 1 ≤ n → 1 ≤ minRun' f n r := by
      intro f
      induction f with
      | zero => intro n r hn; show 1 ≤ n + r; lia
      | succ f ih =>
        intro n r hn
        rw [minRun'_succ]
        split
        · lia
        · exact ih _ _ (by lia)
    exact gen _ _ _ (by lia)
  generalize minRun' a₀.size a₀.size 0 = mr at hmr
  refine wpS_bind (wpS_mono (wpS_forRange (I := fun x c st' => ∃ lo, c = (none, lo) ∧ SB κ a₀ st' ∧ RunsL ρ (arrOf st') 0 (pendingOf st').toList lo ∧ lo ≤ a₀.size ∧ min x a₀.size ≤ lo)
    (Q := fun c st' => c = (none, a₀.size) ∧ SB κ a₀ st' ∧ RunsL ρ (arrOf st') 0 (pendingOf st').toList a₀.size) ?step ?fin ⟨0, rfl, hB, by rw [hp]; rfl, Nat.zero_le _, by lia⟩) ?post)
  case fin =>
    rintro c st' ⟨lo, rfl, hB', hR', hl, hx⟩
    have : lo = a₀.size := by lia
    subst this
    exact ⟨rfl, hB', hR'⟩
  case step =>
    rintro x c st' _ hx ⟨lo, rfl, hB', hR', hl, hxl⟩
    unfold oL
    dsimp only
    by_cases hge : lo ≥ a₀.size
    · rw [if_pos hge]
      have : lo = a₀.size := by lia
      subst this
      exact wpS_pure ⟨rfl, hB', hR'⟩
    · rw [if_neg hge]
      refine wpS_bind (s_countRun H (by lia) (by lia) hB' fun m st2 R => ?_)
      dsimp only
      have hR2 : RunsL ρ (arrOf st2) 0 (pendingOf st2).toList lo := by rw [R.pend]; exact hR'.out R.out (.inl (Nat.le_refl _))
      have hm := R.le
      have hm1 := R.m1
      split
      · rename_i hlt
        refine wpS_bind (wpS_lift (wpAny_rule ⟨rfl, ?_⟩))
        refine wpS_bind (s_binarySort H (n := min (a₀.size - lo) mr) (by lia) (by lia) (by lia) R.sb R.srt fun st3 R3 => ?_)
        simp only [Bool.not_true, Bool.false_eq_true, if_false]
        have hR3 : RunsL ρ (arrOf st3) 0 (pendingOf st3).toList lo := by rw [R3.pend]; exact hR2.out R3.out (.inl (Nat.le_refl _))
        exact s_tR H R3.sb hR3 (by lia) R3.srt (by lia) fun st4 hB4 hR4 => ⟨_, rfl, hB4, hR4, by lia, by lia⟩
      · exact s_tR H R.sb hR2 hm1 R.srt (by lia) fun st4 hB4 hR4 => ⟨_, rfl, hB4, hR4, by lia, by lia⟩
  case post =>
    rintro c st' ⟨rfl, hB', hR'⟩
    dsimp only
    refine wpS_bind (wpS_mono (wpS_forRange (I := fun x c st'' => c = (none, ()) ∧ SB κ a₀ st'' ∧ RunsL ρ (arrOf st'') 0 (pendingOf st'').toList a₀.size ∧ (pendingOf st'').size ≤ max 1 (a₀.size - x))
      (Q := fun c st'' => c = (none, ()) ∧ SB κ a₀ st'' ∧ RunsL ρ (arrOf st'') 0 (pendingOf st'').toList a₀.size ∧ (pendingOf st'').size ≤ 1) ?step2 ?fin2 ⟨rfl, hB', hR', by have := hR'.len; simp at this; lia⟩) ?post2)
    case fin2 =>
      rintro c st'' ⟨rfl, hB2, hR2, hsz⟩
      exact ⟨rfl, hB2, hR2, by lia⟩
    case step2 =>
      rintro x c st'' _ hx ⟨rfl, hB2, hR2, hsz⟩
      unfold fL
      refine wpS_bind (wpS_get ?_)
      by_cases h1 : (pendingOf st'').size ≤ 1
      · rw [if_pos h1]; exact wpS_pure ⟨rfl, hB2, hR2, h1⟩
      · rw [if_neg h1]
        refine wpS_bind (s_step H hB2 hR2 (Nat.le_refl _) ?_ fun st3 hB3 hR3 hs3 _ => ?_)
        · have gen : ∀ (c : Bool) (n : Nat), 2 ≤ n → (if c = true then n - 2 - 1 else n - 2) + 1 < n := fun c n hn => by cases c <;> simp <;> lia
          exact gen _ _ (by lia)
        · simp only [Bool.not_true, Bool.false_eq_true, if_false]
          exact wpS_pure ⟨rfl, hB3, hR3, by lia⟩
    case post2 =>
      rintro c st'' ⟨rfl, hB2, hR2, hsz⟩
      refine wpS_pure (h st'' hB2 ?_)
      have hl : (pendingOf st'').toList.length ≤ 1 := by simpa using hsz
      generalize (pendingOf st'').toList = l at hR2 hl
      match l, hR2, hl with
      | [], hR2, _ => have : 0 = a₀.size := hR2; lia
      | [p], ⟨_, _, h3, h4⟩, _ =>
        have : 0 + p.2.1 = a₀.size := h4
        rw [this] at h3; exact h3
      | _ :: _ :: _, _, hl => simp at hl
end
end Mine

set_option maxRecDepth 100000
set_option linter.unusedVariables false
set_option autoImplicit false
namespace Mine
open PySem PyProof.Rows PySem.SeqAt PySem.W

theorem zip_self_map {vs : List Value} {out : Array Keyed} (h : out.Perm (vs.toArray.zip vs.toArray)) : (out.map (·.2)).toList.Perm vs ∧ ∀ p ∈ out.toList, p.1 = p.2 := by
  have h' := Array.perm_iff_toList_perm.mp h
  have e : (vs.toArray.zip vs.toArray).toList = vs.zip vs := by simp
  rw [e] at h'
  have z : ∀ (l : List Value), (l.zip l).map (·.2) = l ∧ ∀ p ∈ l.zip l, p.1 = p.2 := by
    intro l
    induction l with
    | nil => exact ⟨rfl, fun p hp => by simp at hp⟩
    | cons x l ih => exact ⟨by simp [ih.1], fun p hp => by
        rcases List.mem_cons.mp hp with e | hp
        · rw [e]
        · exact ih.2 p hp⟩
  refine ⟨?_, fun p hp => (z vs).2 p (h'.mem_iff.mp hp)⟩
  have := h'.map (·.2)
  rw [(z vs).1] at this
  simpa using this

section
variable {prog : Program} {w : World} {A : Around} {E : Value → Shared → Prop} {s : Shared}

theorem s_listSort {a : Addr} {vs : List Value} {n : Nat} {P : PySem.Fin → Shared → Prop} (ρ : Value → Nat) (ho : s.heap.get? a = some (seqObj "list" vs.toArray n)) (hlen : vs.length ≤ 1000000) (hmx : vs.length ≤ sortMax)
    (hk : ∀ h' : Heap, (∀ b o, b ≠ a → s.heap.get? b = some o → h'.get? b = some o) → 2 ≤ vs.length → ∃ κ, (∀ (Q : SortKind → Shared → Prop), Q κ { s with heap := h' } → wpAny (model prog w) A (keyKind' vs.toArray) Q E { s with heap := h' }) ∧
      CmpOk prog w A { s with heap := h' } κ (fun p => ρ p.1) (vs.toArray.zip vs.toArray))
    (h : ∀ (out : List Value) c (h3 : Heap), out.Perm vs → out.Pairwise (fun x y => ρ x ≤ ρ y) → h3.get? a = some (seqObj "list" out.toArray c) → (∀ b o, b ≠ a → s.heap.get? b = some o → h3.get? b = some o) → P (.done (.ret .none)) { s with heap := h3 }) :
    wpAny (model prog w) A (Builtin.«list.sort» ⟨[.ref a], []⟩) P E s := by
  have ha : a < s.heap.objs.size := Heap.lt_size ho
  obtain ⟨e1, ho1⟩ : ∃ e1, (s.heap.update a (Obj.mapSeq fun _ => (#[] : Array Value))).get? a = some (seqObj "list" #[] e1) := ⟨_, get?_update_seq ho fun _ => #[]⟩
  have s1 := Heap.SameBut.update s.heap a (Obj.mapSeq fun _ => (#[] : Array Value))
  obtain ⟨h2, hh2⟩ : ∃ x, x = ((s.heap.update a (Obj.mapSeq fun _ => (#[] : Array Value))).push (seqObj "tuple" vs.toArray 0)).push (seqObj "list" #[] 0) := ⟨_, rfl⟩
  have keep2 : ∀ b o, b ≠ a → s.heap.get? b = some o → h2.get? b = some o := fun b o hb e => by
    rw [hh2]; exact Heap.get?_push_of_some _ (Heap.get?_push_of_some _ ((s1.2 b hb).trans e))
  have ho2 : h2.get? a = some (seqObj "list" #[] e1) := by rw [hh2]; exact Heap.get?_push_of_some _ (Heap.get?_push_of_some _ ho1)
  rw [list_sort_plain]
  refine wpAny_bind (listItems_at ho rfl ?_)
  refine wpAny_bind (listUpdate_at ho rfl ?_ (by rw [List.size_toArray, sizeLine_eq]; lia) (Nat.zero_le _))
  refine wpAny_bind (seqEpoch_at ho1 rfl ?_)
  refine wpAny_bind (wpAny_newTuple ?_ (by show vs.length ≤ _; rw [sizeLine_eq]; lia))
  refine wpAny_bind (wpAny_newList ?_ (Nat.zero_le _))
  refine wpAny_holding ?_
  show wpAny (model prog w) A _ P E { s with heap := ((s.heap.update a (Obj.mapSeq fun _ => (#[] : Array Value))).push (seqObj "tuple" vs.toArray 0)).push (seqObj "list" #[] 0) }
  rw [← hh2]
  dsimp only
  have rest : ∀ st' : SortSt, (arrOf st').Perm (vs.toArray.zip vs.toArray) → failedOf st' = none → (arrOf st').toList.Pairwise (fun x y => ρ x.1 ≤ ρ y.1) → wpAny (model prog w) A (do
      let touched := (← seqEpoch a) != e1
      Builtin.List.listUpdate (.ref a) fun _ => (arrOf st').map (·.2)
      if let some e := failedOf st' then rule "list.sort.comparison-raised"; throw e
      if touched then rule "list.sort.modified"; raiseError "ValueError" "list modified during sort"
      ret .none) P E { s with heap := h2 } := by
    intro st' hp hf hs
    obtain ⟨z1, z2⟩ := zip_self_map hp
    have hl := z1.length_eq
    obtain ⟨c2, hc2⟩ : ∃ c2, (h2.update a (Obj.mapSeq fun _ => (arrOf st').map (·.2))).get? a = some (seqObj "list" ((arrOf st').map (·.2)) c2) := ⟨_, get?_update_seq ho2 fun _ => (arrOf st').map (·.2)⟩
    have s2 := Heap.SameBut.update h2 a (Obj.mapSeq fun _ => (arrOf st').map (·.2))
    refine wpAny_bind (seqEpoch_at ho2 rfl ?_)
    refine wpAny_bind (listUpdate_at ho2 rfl ?_ (Nat.zero_le _) (by
      have : ((arrOf st').map (·.2)).size = vs.length := by rw [← hl]; simp
      rw [this, sizeLine_eq]; lia))
    rw [hf]
    simp only [bne_self_eq_false, Bool.false_eq_true, if_false]
    refine wpAny_pure (h ((arrOf st').map (·.2)).toList c2 _ z1 ?_ (by rw [hc2]) fun b o hb e => (s2.2 b hb).trans (keep2 b o hb e))
    rw [Array.toList_map, List.pairwise_map]
    exact hs.imp_of_mem fun {x y} hx hy hxy => by rw [← z2 x hx, ← z2 y hy]; exact hxy
  by_cases hn : vs.length < 2
  · have hn2 : vs.toArray.size < 2 := by rw [List.size_toArray]; exact hn
    rw [if_pos hn2, if_pos hn2]
    refine wpAny_bind (wpAny_pure ?_)
    refine wpAny_bind ?_
    show wpAny (model prog w) A (pure ((), SortSt.mk' general' (vs.toArray.zip vs.toArray) #[] 7 none) : Sem (Unit × SortSt)) _ E _
    refine wpAny_pure ?_
    refine rest (SortSt.mk' general' (vs.toArray.zip vs.toArray) #[] 7 none) (.refl _) rfl ?_
    have : (vs.toArray.zip vs.toArray).toList.length < 2 := by simp; lia
    show (vs.toArray.zip vs.toArray).toList.Pairwise _
    generalize (vs.toArray.zip vs.toArray).toList = l at this
    match l, this with
    | [], _ => exact .nil
    | [x], _ => exact List.pairwise_singleton _ _
    | _ :: _ :: _, h => simp only [List.length_cons] at h; lia
  · have hn2 : ¬ vs.toArray.size < 2 := by rw [List.size_toArray]; exact hn
    rw [if_neg hn2, if_neg hn2]
    obtain ⟨κ, hq, H⟩ := hk h2 keep2 (by lia)
    refine wpAny_bind (hq _ ?_)
    have hB : SB κ (vs.toArray.zip vs.toArray) (SortSt.mk' κ (vs.toArray.zip vs.toArray) #[] 7 none) := ⟨.refl _, rfl, rfl⟩
    have run := s_sortRuns (E := E) (Q := fun _ st' => (arrOf st').Perm (vs.toArray.zip vs.toArray) ∧ failedOf st' = none ∧ (arrOf st').toList.Pairwise (fun x y => ρ x.1 ≤ ρ y.1)) H hB rfl (by simp; lia) (by simpa using hmx) fun st' hB' hs => ⟨hB'.perm, hB'.failed, by
      have := hB'.size
      exact srt_pair (ρ := fun p => ρ p.1) (by rw [this]; exact hs)⟩
    refine wpAny_bind (wpAny_mono run (fun r s' hr => ?_) fun _ _ e => e)
    obtain ⟨⟨⟩, st'⟩ := r
    obtain ⟨rfl, hp, hf, hs⟩ := hr
    exact rest st' hp hf hs

/-- the tuples' own loop, by what they read -/
theorem lex_reads {b : Bool} {t : Bool} {Q : Bool → Shared → Prop} (xs : List PyData) : ∀ (ys : List PyData) {vs ws : List Value} {as bs : List Addr} {fin : Bool} {i : Nat}, ReadsAll s.heap vs xs as → ReadsAll s.heap ws ys bs → PyData.canLayAll0 xs = true → PyData.canLayAll0 ys = true → A.units + 2 * PyData.depthAll xs + 10 < cLine →
    fin = decide (xs.length < ys.length) → (i = 0 → b = true → ∀ x y, xs.head? = some x → ys.head? = some y → (∃ u v, x = .int u ∧ y = .int v) ∨ ∃ u v, x = .str u ∧ y = .str v) → ltDL xs ys = some t → Q t s → KatLex prog w A b fin Q (vs.zip ws) i s := by
  induction xs with
  | nil =>
    intro ys vs ws as bs fin i rx ry ha hb hu hf hi e q
    cases rx
    cases ys with
    | nil => cases ry; simp only [ltDL, Option.some.injEq] at e; subst e; subst hf; exact q
    | cons y ys => cases ry; simp only [ltDL, Option.some.injEq] at e; subst e; subst hf; exact kat_nil (by simpa using q)
  | cons x xs ih =>
    intro ys vs ws as bs fin i rx ry ha hb hu hf hi e q
    cases rx with
    | cons h1 h2 =>
      cases ys with
      | nil => cases ry; simp only [ltDL, Option.some.injEq] at e; subst e; subst hf; exact kat_nil (by simpa using q)
      | cons y ys =>
        cases ry with
        | cons k1 k2 =>
          simp only [PyData.canLayAll0, Bool.and_eq_true] at ha hb
          simp only [PyData.depthAll] at hu
          have h5 : x.depth ≤ max x.depth (PyData.depthAll xs) := Nat.le_max_left _ _
          have h6 : PyData.depthAll xs ≤ max x.depth (PyData.depthAll xs) := Nat.le_max_right _ _
          have hmin : min x.depth y.depth ≤ x.depth := Nat.min_le_left _ _
          have heq := eqAt_reads x y A s _ _ _ _ h1 k1 ha.1 hb.1 (by lia)
          simp only [ltDL] at e
          simp only [List.zip_cons_cons]
          refine kat_cons (heq prog w _ _ ?_)
          cases hE : PyData.eqv x y with
          | true =>
            rw [hE] at e
            exact kat_yes (ih ys h2 k2 ha.2 hb.2 (by lia) (by simpa using hf) (fun h0 => by lia) e q)
          | false =>
            rw [hE] at e
            simp only [Bool.false_eq_true, if_false] at e
            refine kat_no ?_
            cases hbi : (b && i == 0) with
            | false =>
              rw [oneLt'_eq]
              simp only [Bool.false_eq_true, if_false]
              exact wpAny_bind (lt_reads x y h1 k1 ha.1 hb.1 (by lia) e prog w _ _ (wpAny_truthy_bool q))
            | true =>
              simp only [Bool.and_eq_true, beq_iff_eq] at hbi
              rcases hi hbi.2 hbi.1 x y rfl rfl with ⟨u, u', rfl, rfl⟩ | ⟨u, u', rfl, rfl⟩
              · cases h1; cases k1
                simp only [ltD, Option.some.injEq] at e; subst e
                exact oneLt_int q
              · cases h1; cases k1
                simp only [ltD, Option.some.injEq] at e; subst e
                exact oneLt_str q
end
end Mine

set_option maxRecDepth 100000
set_option linter.unusedVariables false
set_option autoImplicit false
namespace Mine
open PySem PyProof.Rows PySem.SeqAt PySem.W

def LtAV (σ : AHeap) (x y : AV) (t : Bool) : Prop := ∃ a b, Rd σ x a ∧ Rd σ y b ∧ DOk a ∧ DOk b ∧ ltD a b = some t
/-- tuples that begin with ints, or with texts -/
def Kindly (xs : List AV) : Prop := (∀ x ∈ xs, ∃ i r, x = .tup (.int i :: r)) ∨ ∀ x ∈ xs, ∃ i, x = .int i
/-- a sort of these, by rank: any order of them that is sorted -/
def pSorted : Prim := fun as Q σ => match as with
  | [.ref p] => ∃ (xs : List AV) (ρ : AV → Nat), listAt p xs σ ∧ xs.length ≤ sortMax ∧ Kindly xs ∧ (∀ x ∈ xs, ∀ y ∈ xs, LtAV σ x y (decide (ρ x < ρ y))) ∧
      ∀ ys, ys.Perm xs → ys.Pairwise (fun x y => ρ x ≤ ρ y) → ∀ r, σ r = none → Q (.ref r) (σ.set r (.list ys))
  | _ => False

theorem RepVs.mem {h : Heap} {xs : List AV} {vs : List Value} (r : RepVs h xs vs) : ∀ v ∈ vs, ∃ x ∈ xs, RepV h x v := by
  induction xs generalizing vs with
  | nil => cases r; intro v hv; cases hv
  | cons y xs ih =>
    cases r with
    | cons a r =>
      intro v hv
      rcases List.mem_cons.mp hv with e | hv
      · subst e; exact ⟨_, List.mem_cons_self, a⟩
      · obtain ⟨x, hx, q⟩ := ih r v hv; exact ⟨x, List.mem_cons_of_mem _ hx, q⟩

theorem repVs_cons {h : Heap} {xs : List AV} {v : Value} {vs : List Value} (r : RepVs h xs (v :: vs)) : ∃ x xs', xs = x :: xs' ∧ RepV h x v ∧ RepVs h xs' vs := by
  cases r with
  | cons a r => exact ⟨_, _, rfl, a, r⟩
theorem RepVs.perm {h : Heap} {vs ws : List Value} (p : ws.Perm vs) : ∀ {xs}, RepVs h xs vs → ∃ ys, ys.Perm xs ∧ RepVs h ys ws := by
  induction p with
  | nil => intro xs r; exact ⟨xs, .refl _, r⟩
  | cons v p ih =>
    intro xs r
    obtain ⟨x, xs', rfl, a, r⟩ := repVs_cons r
    obtain ⟨ys, h1, h2⟩ := ih r
    exact ⟨x :: ys, .cons x h1, .cons a h2⟩
  | swap v w l =>
    intro xs r
    obtain ⟨x, xs', rfl, a, r⟩ := repVs_cons r
    obtain ⟨y, xs'', rfl, b, r⟩ := repVs_cons r
    exact ⟨y :: x :: xs'', .swap .., .cons b (.cons a r)⟩
  | trans p q ih1 ih2 =>
    intro xs r
    obtain ⟨ys, h1, h2⟩ := ih2 r
    obtain ⟨zs, h3, h4⟩ := ih1 h2
    exact ⟨zs, h3.trans h1, h4⟩

theorem RepVs.pair {h : Heap} {ρ : AV → Nat} {ρV : Value → Nat} {ys : List AV} : ∀ {out : List Value}, RepVs h ys out → (∀ y ∈ ys, ∀ v, RepV h y v → ρV v = ρ y) → out.Pairwise (fun x y => ρV x ≤ ρV y) → ys.Pairwise (fun x y => ρ x ≤ ρ y) := by
  induction ys with
  | nil => intro out _ _ _; exact .nil
  | cons x ys ih =>
    intro out r hρ hp
    cases r with
    | @cons _ _ v vs a r =>
      obtain ⟨h1, h2⟩ := List.pairwise_cons.mp hp
      refine List.pairwise_cons.mpr ⟨fun y hy => ?_, ih r (fun y hy => hρ y (List.mem_cons_of_mem _ hy)) h2⟩
      obtain ⟨i, hi⟩ := List.mem_iff_getElem?.mp hy
      obtain ⟨w, hw, rw_⟩ := r.get hi
      have := h1 w (List.mem_of_getElem? hw)
      rw [hρ x List.mem_cons_self v a, hρ y (List.mem_cons_of_mem _ hy) w rw_] at this
      exact this

theorem katTups_of {h : Heap} {T : Value} {M : Model} {xs : List AV} : ∀ {vs : List Value}, RepVs h xs vs → (∀ x ∈ xs, ∃ y r, x = .tup (y :: r) ∧ ∀ v, RepV h y v → Looks M h (typeOf v) T) → ∃ fs, KatTups h vs fs ∧ fs.length = vs.length ∧ ∀ v ∈ fs, Looks M h (typeOf v) T := by
  induction xs with
  | nil => intro vs r _; cases r; exact ⟨[], .nil, rfl, fun v hv => nomatch hv⟩
  | cons x xs ih =>
    intro vs r hx
    cases r with
    | @cons _ _ v vs a r =>
    obtain ⟨fs, h1, h2, h3⟩ := ih r fun x hx' => hx x (List.mem_cons_of_mem _ hx')
    obtain ⟨y, ys, rfl, hl⟩ := hx x List.mem_cons_self
    cases a with
    | @tup _ t ws hlen ht rs =>
      obtain ⟨o, ho, hc, n, hd⟩ := ht
      cases rs with
      | @cons _ _ u us ru rus =>
        exact ⟨u :: fs, .cons ho hc hd (by simp) h1, by simp [h2], fun w hw => by
          rcases List.mem_cons.mp hw with e | hw
          · subst e; exact hl w ru
          · exact h3 w hw⟩

theorem newListAtD {X : Cx} {σ : AHeap} {s : Shared} {h' : Heap} {t : Nat} {xs : List AV} {vs : List Value} {n D : Nat} {Q : Post} (a : At X σ s) (hk : ∀ b o, s.heap.get? b = some o → h'.get? b = some o) (hD : s.heap.objs.size ≤ D) (hn : h'.get? D = some (listObj vs n)) (r : RepVs h' xs vs)
    (hl : xs.length ≤ 1000000) (hsz : s.heap.objs.size ≤ h'.objs.size) (q : ∀ r, σ r = none → Q (.ref r) (σ.set r (.list xs))) : liftQ X σ s Q (.ref D) { s with heap := h', toks := t } := by
  have kv : KeepV s.heap h' := fun b o e _ => hk b o e
  have hσ := a.none_of_size (b := D) hD
  refine ⟨.ref _, σ.set D (.list xs), .ref _, ⟨fun b o e => hk b o (a.keep b o e), fun b ao e => ?_, fun b ao e hro => ?_, a.gens, a.os⟩, ⟨fun b o e _ _ => hk b o e, fun b h1 h2 => ?_, hsz⟩, q _ hσ⟩
  · by_cases hb : b = D
    · subst hb; rw [AHeap.set_self] at e; cases e; exact ⟨vs, n, hn, r, hl⟩
    · rw [AHeap.set_ne _ _ hb] at e; exact (a.rep b ao e).mono kv fun o ho => hk b o ho
  · by_cases hb : b = D
    · subst hb; exact (new_out a hD).2.1
    · rw [AHeap.set_ne _ _ hb] at e; exact a.own b ao e hro
  · by_cases hb : b = D
    · rw [hb]; exact hD
    · rw [AHeap.set_ne _ _ hb] at h1; exact absurd h2 h1

/-- two tuples that begin with ints, compared as the sort does -/
theorem tup_cmp {X : Cx} {σ : AHeap} {s : Shared} {A : Around} {x y : AV} {v1 v2 : Value} {t : Bool} {Q : Bool → Shared → Prop} {E : Value → Shared → Prop} (a : At X σ s) (hu : A.units + 2000 < cLine) (rx : RepV s.heap x v1) (ry : RepV s.heap y v2)
    (hx : ∃ i r, x = .tup (.int i :: r)) (hy : ∃ i r, y = .tup (.int i :: r)) (hlt : LtAV σ x y t) (hQ : Q t s) : wpAny X.M A (keyLt' (tuples' true) v1 v2) Q E s := by
  obtain ⟨da, db, ra, rb, oa, ob, el⟩ := hlt
  obtain ⟨as1, q1⟩ := ra.reads a rx
  obtain ⟨as2, q2⟩ := rb.reads a ry
  obtain ⟨i, r, rfl⟩ := hx
  obtain ⟨j, r', rfl⟩ := hy
  cases ra with
  | @tup _ ds rda =>
    cases rb with
    | @tup _ es rdb =>
      cases q1 with
      | tuple ho1 hc1 hd1 hr1 =>
        cases q2 with
        | tuple ho2 hc2 hd2 hr2 =>
          have c1 := oa.1; have c2 := ob.1; have c3 := oa.2
          simp only [PyData.canLay0] at c1 c2
          simp only [PyData.depth] at c3
          simp only [ltD] at el
          have len1 : ∀ {z : List Value} {ds : List PyData} {as}, ReadsAll s.heap z ds as → z.length = ds.length := by
            intro z ds
            induction z generalizing ds with
            | nil => intro as q; cases q; rfl
            | cons u z ih => intro as q; cases q with | cons _ q => simp [ih q]
          refine kat_lt ho1 hd1 ho2 hd2 (lex_reads ds es hr1 hr2 c1 c2 (by lia) (by rw [← len1 hr1, ← len1 hr2]; simp) (fun _ _ u v hu hv => ?_) el hQ)
          cases rda with
          | cons g1 g2 =>
            cases rdb with
            | cons g3 g4 =>
              simp only [List.head?_cons, Option.some.injEq] at hu hv
              subst hu; subst hv
              cases g1; cases g3; exact .inl ⟨_, _, rfl, rfl⟩

open Classical in
theorem sound_sorted {X : Cx} : SoundPrim X (.builtin "sorted") pSorted := fun d A σ s as vs Q E L a r q => by
  unfold pSorted at q
  split at q
  · obtain ⟨v, rfl, rv⟩ := repVs1 r
    cases rv
    rename_i p
    obtain ⟨xs, ρ, hp, hmx, hkd, hlt, q⟩ := q
    obtain ⟨vs, hl, rs⟩ := a.isList hp
    have hm := a.len hp
    have hlen := rs.length
    have room := L.room
    -- ranks of values
    have uni : ∀ x ∈ xs, ∀ y ∈ xs, ∀ v, RepV s.heap x v → RepV s.heap y v → ρ x = ρ y := fun x hx y hy v rx ry => by
      obtain ⟨a1, b1, h1, h2, k1, k2, e1⟩ := hlt x hx y hy
      obtain ⟨a2, b2, h3, h4, k3, k4, e2⟩ := hlt y hy x hx
      obtain ⟨_, q1⟩ := h1.reads a rx
      obtain ⟨_, q2⟩ := h2.reads a ry
      obtain ⟨_, q3⟩ := h3.reads a ry
      obtain ⟨_, q4⟩ := h4.reads a rx
      have d1 := PySem.SeqAt.Reads.unique _ _ _ _ _ k1.1 q1 q2
      have d2 := PySem.SeqAt.Reads.unique _ _ _ _ _ k1.1 q1 q3
      have d3 := PySem.SeqAt.Reads.unique _ _ _ _ _ k1.1 q1 q4
      subst d1; subst d2; subst d3
      rw [e1] at e2
      have := Option.some.inj e2
      rw [decide_eq_decide] at this
      lia
    obtain ⟨ρV, hρV⟩ : ∃ ρV : Value → Nat, ∀ x ∈ xs, ∀ v, RepV s.heap x v → ρV v = ρ x := by
      refine ⟨fun v => if h : ∃ x, x ∈ xs ∧ RepV s.heap x v then ρ (choose h) else 0, fun x hx v rx => ?_⟩
      have h : ∃ x, x ∈ xs ∧ RepV s.heap x v := ⟨x, hx, rx⟩
      simp only [dif_pos h]
      exact uni _ (choose_spec h).1 x hx v (choose_spec h).2 rx
    refine with_size (Calls.call_function_entry kind_sorted plain_sorted entry_sorted (args_sorted1 _) ?_)
    unfold Builtin.«sorted»
    refine wpAny_bind (m := checkCount "sorted" 1 1 _) (wpAny_pure ?_)
    refine wpAny_bind (collect_list hl ?_ (by rw [sizeLine_eq]; lia))
    refine wpAny_bind (wpAny_newList ?_ (by rw [sizeLine_eq]; lia))
    have hsz : ((s.heap.push (seqObj "list" #[] 0)).update s.heap.objs.size (Obj.mapSeq (· ++ vs.toArray))).objs.size = s.heap.objs.size + 1 := by
      rw [Heap.size_update, size_push']
    obtain ⟨h1, hh1⟩ : ∃ x, x = ((s.heap.push (seqObj "list" #[] 0)).update s.heap.objs.size (Obj.mapSeq (· ++ vs.toArray))).push (seqObj "list" vs.toArray 0) := ⟨_, rfl⟩
    have hoL : h1.get? (s.heap.objs.size + 1) = some (seqObj "list" vs.toArray 0) := by
      rw [hh1, ← hsz]; exact Heap.get?_push_size _ rfl
    have keep : ∀ b o, s.heap.get? b = some o → h1.get? b = some o := fun b o q => by
      have hlt : b < s.heap.objs.size := Heap.lt_size q
      rw [hh1, Heap.get?_push_ne _ _ _ (by rw [hsz]; exact Nat.ne_of_lt (Nat.lt_succ_of_lt hlt)), Heap.get?_update_ne _ _ _ _ (Nat.ne_of_lt hlt), Heap.get?_push_ne _ _ _ (Nat.ne_of_lt hlt)]
      exact q
    show wpAny _ _ _ _ _ { s with heap := ((s.heap.push (seqObj "list" #[] 0)).update s.heap.objs.size (Obj.mapSeq (· ++ vs.toArray))).push (seqObj "list" vs.toArray 0) }
    rw [hsz, ← hh1]
    have keep' : ∀ h' : Heap, (∀ b o, b ≠ s.heap.objs.size + 1 → h1.get? b = some o → h'.get? b = some o) → ∀ b o, s.heap.get? b = some o → h'.get? b = some o := fun h' hk b o e => by
      have hlt : b < s.heap.objs.size := ltA e
      exact hk b o (Nat.ne_of_lt (Nat.lt_succ_of_lt hlt)) (keep b o e)
    refine wpAny_bind (wpAny_holding (wpAny_call_entry slot_list_sort ⟨_, hoL, rfl⟩ entry_list_sort ?body (args_list_sort _)))
    case body =>
      refine s_listSort (s := { s with heap := h1 }) ρV hoL (by lia) (by rw [← hlen]; exact hmx) (fun h' hk' h2 => ?_) fun out c h3 hperm hsrt ho3 hk3 => ?_
      · have kp := keep' h' hk'
        have kv : KeepV s.heap h' := fun b o e _ => kp b o e
        have a' : At X σ { s with heap := h' } := ⟨fun b o e => kp b o (a.keep b o e), fun b ao e => (a.rep b ao e).mono kv fun o ho => kp b o ho, a.own, a.gens, a.os⟩
        have rs' := rs.mono kv
        have mz : ∀ z, z ∈ (vs.toArray.zip vs.toArray).toList → z.1 ∈ vs := fun z hz => by
          have : z ∈ vs.zip vs := by simpa using hz
          exact (List.of_mem_zip this).1
        rcases hkd with hkd | hki
        case inr =>
          refine ⟨oneType', fun Q' hq => ?_, fun p' q' hp' hq' Q' E' hQ => ?_⟩
          · refine kas_kind (s := { s with heap := h' }) (vs := vs) (T := .type "int") (by lia) (fun v hv => ?_) (by decide) (by decide) hq
            obtain ⟨x, hx, rx⟩ := rs'.mem v hv
            obtain ⟨i, rfl⟩ := hki x hx
            cases rx; exact .now
          · obtain ⟨x, hx, rx⟩ := rs.mem p'.1 (mz p' hp')
            obtain ⟨y, hy, ry⟩ := rs.mem q'.1 (mz q' hq')
            have hQ : Q' (decide (ρ x < ρ y)) { s with heap := h' } := by rw [← hρV x hx _ rx, ← hρV y hy _ ry]; exact hQ
            obtain ⟨i, rfl⟩ := hki x hx
            obtain ⟨j, rfl⟩ := hki y hy
            obtain ⟨da, db, ra, rb, oa, ob, el⟩ := hlt _ hx _ hy
            cases ra; cases rb
            simp only [ltD, Option.some.injEq] at el
            rw [← el] at hQ
            generalize p'.1 = v1 at rx ⊢
            generalize q'.1 = v2 at ry ⊢
            cases rx; cases ry
            rw [keyLt'_oneType]; exact oneLt_int hQ
        obtain ⟨fs, f1, f2, f3⟩ := katTups_of (M := X.M) (T := .type "int") rs' (fun x hx => by
          obtain ⟨i, r, rfl⟩ := hkd x hx
          refine ⟨_, r, rfl, fun v rv => ?_⟩
          cases rv; exact .now)
        refine ⟨tuples' true, fun Q' hq => ?_, fun p' q' hp' hq' Q' E' hQ => ?_⟩
        · refine kat_kind (s := { s with heap := h' }) f1 (by lia) f3 (by decide) ?_
          rw [show (Value.type "int" != Value.type "tuple") = true by decide]; exact hq
        · obtain ⟨x, hx, rx⟩ := rs.mem p'.1 (mz p' hp')
          obtain ⟨y, hy, ry⟩ := rs.mem q'.1 (mz q' hq')
          refine tup_cmp a' (by rw [Around.in1_units, Around.in1_units]; lia) (rx.mono kv) (ry.mono kv) (hkd x hx) (hkd y hy) (hlt x hx y hy) ?_
          rw [← hρV x hx _ rx, ← hρV y hy _ ry]; exact hQ
      · have kp := keep' h3 hk3
        have kv : KeepV s.heap h3 := fun b o e _ => kp b o e
        obtain ⟨ys, hy1, hy2⟩ := rs.perm hperm
        have hys : ys.Pairwise fun x y => ρ x ≤ ρ y := hy2.pair (fun y hy v rv => hρV y (hy1.mem_iff.mp hy) v rv) hsrt
        refine ⟨_, rfl, wpAny_pure ⟨_, rfl, fun hsz' => ?_⟩⟩
        exact newListAtD (t := s.toks) a kp (Nat.le_succ _) ho3 (hy2.mono kv) (by rw [hy1.length_eq]; exact hm) hsz' (q ys hy1 hys)
  · exact q.elim
end Mine

set_option maxRecDepth 100000
set_option linter.unusedVariables false
set_option autoImplicit false
namespace Mine
open PySem

theorem forL_of {I : AHeap → Prop} {t : Tgt} {body : AS} {d : Nat} {Q : SPost} (J : List AV → Loc → AHeap → Prop)
    (step : ∀ x xs l σ (K : Loc → AHeap → Prop), J (x :: xs) l σ → (∀ l' σ', J xs l' σ' → K l' σ') →
      ∃ l', bindT t x l = some l' ∧ body d l' (fun f l'' σ' => match f with | .next => I σ' ∧ K l'' σ' | .ret v => Q (.ret v) l'' σ') (fun _ _ _ => False) σ)
    (fin : ∀ l σ, J [] l σ → Q .next l σ) : ∀ (xs : List AV) (l : Loc) (σ : AHeap), J xs l σ → forL I t body d Q xs l σ
  | [], l, σ, h => fin l σ h
  | x :: xs, l, σ, h => step x xs l σ (forL I t body d Q xs) h (forL_of J step fin xs)

theorem compL_go {α : Type} {I : AHeap → Prop} {t : Tgt} {elt : AE} {d : Nat} {Q : List AV → AHeap → Prop} {σ : AHeap} (g f : α → AV) (lx : α → Loc) : ∀ (xs : List α) (acc : List AV) (l : Loc), (∀ x ∈ xs, bindT t (g x) l = some (lx x)) → (∀ x ∈ xs, ∀ y ∈ xs, bindT t (g x) (lx y) = some (lx x)) →
    (∀ x ∈ xs, ∀ R : Post, R (f x) σ → elt d (lx x) R (fun _ _ => False) σ) → I σ → acc.length + xs.length ≤ 1000000 → Q (acc ++ xs.map f) σ → compL I t none elt d Q (xs.map g) acc l σ
  | [], acc, l, h0, h1, he, hI, hl, q => by simpa [compL] using q
  | x :: xs, acc, l, h0, h1, he, hI, hl, q => by
    simp only [List.length_cons] at hl
    refine ⟨lx x, h0 x (by simp), ?_⟩
    unfold testA
    simp only [if_true]
    refine he x (by simp) _ ⟨hI, by lia, ?_⟩
    refine compL_go g f lx xs (acc ++ [f x]) (lx x) (fun y hy => h1 y (by simp [hy]) x (by simp)) (fun y hy z hz => h1 y (by simp [hy]) z (by simp [hz])) (fun y hy => he y (by simp [hy])) hI (by simp; lia) ?_
    simpa using q
theorem compL_as {α : Type} {I : AHeap → Prop} {t : Tgt} {elt : AE} {d : Nat} {Q : List AV → AHeap → Prop} {σ : AHeap} (xs : List α) (g f : α → AV) (lx : α → Loc) {l : Loc} (h0 : ∀ x ∈ xs, bindT t (g x) l = some (lx x)) (h1 : ∀ x ∈ xs, ∀ y ∈ xs, bindT t (g x) (lx y) = some (lx x))
    (he : ∀ x ∈ xs, ∀ R : Post, R (f x) σ → elt d (lx x) R (fun _ _ => False) σ) (hI : I σ) (hl : xs.length ≤ 1000000) (q : Q (xs.map f) σ) : compL I t none elt d Q (xs.map g) [] l σ :=
  compL_go g f lx xs [] l h0 h1 he hI (by simpa using hl) (by simpa using q)
theorem compL_list {I : AHeap → Prop} {t : Tgt} {elt : AE} {d : Nat} {Q : List AV → AHeap → Prop} {σ : AHeap} (xs : List AV) (f : AV → AV) (lx : AV → Loc) {l : Loc} (h0 : ∀ x ∈ xs, bindT t x l = some (lx x)) (h1 : ∀ x ∈ xs, ∀ y ∈ xs, bindT t x (lx y) = some (lx x))
    (he : ∀ x ∈ xs, ∀ R : Post, R (f x) σ → elt d (lx x) R (fun _ _ => False) σ) (hI : I σ) (hl : xs.length ≤ 1000000) (q : Q (xs.map f) σ) : compL I t none elt d Q xs [] l σ := by
  have := compL_as (I := I) (t := t) (elt := elt) (d := d) (Q := Q) (σ := σ) xs id f lx h0 h1 he hI hl q
  simpa using this

theorem compLf_go {α : Type} {I : AHeap → Prop} {t : Tgt} {c elt : AE} {d : Nat} {Q : List AV → AHeap → Prop} {σ : AHeap} (p : α → Bool) (g f : α → AV) (lx : α → Loc) : ∀ (xs : List α) (acc : List AV) (l : Loc), (∀ x ∈ xs, bindT t (g x) l = some (lx x)) → (∀ x ∈ xs, ∀ y ∈ xs, bindT t (g x) (lx y) = some (lx x)) →
    (∀ x ∈ xs, ∀ R : Bool → AHeap → Prop, R (p x) σ → c d (lx x) (isB R) (fun _ _ => False) σ) →
    (∀ x ∈ xs, p x = true → ∀ R : Post, R (f x) σ → elt d (lx x) R (fun _ _ => False) σ) → I σ → acc.length + xs.length ≤ 1000000 → Q (acc ++ (xs.filter p).map f) σ → compL I t (some c) elt d Q (xs.map g) acc l σ
  | [], acc, l, h0, h1, hc, he, hI, hl, q => by simpa [compL] using q
  | x :: xs, acc, l, h0, h1, hc, he, hI, hl, q => by
    simp only [List.length_cons] at hl
    refine ⟨lx x, h0 x (by simp), ?_⟩
    show c d (lx x) (isB _) (fun _ _ => False) σ
    refine hc x (by simp) _ ?_
    have go := fun acc' => compLf_go (I := I) (t := t) (c := c) (elt := elt) (d := d) (Q := Q) (σ := σ) p g f lx xs acc' (lx x) (fun y hy => h1 y (by simp [hy]) x (by simp)) (fun y hy z hz => h1 y (by simp [hy]) z (by simp [hz])) (fun y hy => hc y (by simp [hy])) (fun y hy => he y (by simp [hy])) hI
    cases hp : p x with
    | true =>
      rw [if_pos rfl]
      refine he x (by simp) hp _ ⟨hI, by lia, go _ (by simp; lia) ?_⟩
      simpa [List.filter_cons, hp] using q
    | false =>
      rw [if_neg (by simp)]
      refine ⟨hI, go _ (by lia) ?_⟩
      simpa [List.filter_cons, hp] using q
theorem compLf_as {α : Type} {I : AHeap → Prop} {t : Tgt} {c elt : AE} {d : Nat} {Q : List AV → AHeap → Prop} {σ : AHeap} (xs : List α) (p : α → Bool) (g f : α → AV) (lx : α → Loc) {l : Loc} (h0 : ∀ x ∈ xs, bindT t (g x) l = some (lx x)) (h1 : ∀ x ∈ xs, ∀ y ∈ xs, bindT t (g x) (lx y) = some (lx x))
    (hc : ∀ x ∈ xs, ∀ R : Bool → AHeap → Prop, R (p x) σ → c d (lx x) (isB R) (fun _ _ => False) σ)
    (he : ∀ x ∈ xs, p x = true → ∀ R : Post, R (f x) σ → elt d (lx x) R (fun _ _ => False) σ) (hI : I σ) (hl : xs.length ≤ 1000000) (q : Q ((xs.filter p).map f) σ) : compL I t (some c) elt d Q (xs.map g) [] l σ :=
  compLf_go p g f lx xs [] l h0 h1 hc he hI (by simpa using hl) (by simpa using q)

theorem rdL_map {σ : AHeap} {α : Type} {f : α → AV} {g : α → PyData} (h : ∀ a, Rd σ (f a) (g a)) : ∀ l : List α, RdL σ (l.map f) (l.map g)
  | [] => .nil
  | a :: l => .cons (h a) (rdL_map h l)
theorem intL_eq (lo : Int) : ∀ n, intL lo n = (List.range n).map (fun i : Nat => AV.int (lo + i)) := by
  intro n
  first
    | rfl
    | (induction n generalizing lo with
       | zero => rfl
       | succ n ih => simp [intL, List.range_succ_eq_map, ih, Function.comp_def]; intros; lia)
theorem rngL_eq (n : Nat) : rngL 0 n = (List.range n).map (fun i : Nat => AV.int i) := by
  unfold rngL; rw [intL_eq]; simp
end Mine

set_option maxRecDepth 100000
set_option linter.unusedVariables false
set_option autoImplicit false
namespace Mine
open PySem

section
variable {X : Cx} {σ : AHeap} {Q : Post} {i j k : Int} {a b : AV} {xs ys : List AV} {p : Addr} {T : PyT} {R : List AV → Prop}

theorem d_int : DOk (.int i) ↔ True := by simp [DOk, PyData.canLay0, PyData.depth]
theorem d_str {s : Str} : DOk (.str s) ↔ PyData.strOk s = true := by simp [DOk, PyData.canLay0, PyData.depth]
theorem e_int : PyData.eqv (.int i) (.int j) = (i == j) := by simp [PyData.eqv]
theorem e_str {s t : Str} : PyData.eqv (.str s) (.str t) = (s == t) := by simp [PyData.eqv]

theorem at_nat {n : Nat} : atIdx xs (n : Int) = xs[n]? := by simp [atIdx]

theorem a_list (h : listAt p xs σ) : isA T (.ref p) σ = some (T == .list) := by rcases h with h | h <;> simp [isA, h]

end
end Mine
namespace Mine
open PySem
theorem ne_bb : (Str.ofString "book" = Str.ofString "bank") = False := by simp only [eq_iff_iff, iff_false]; decide
theorem ne_bb' : (Str.ofString "bank" = Str.ofString "book") = False := by simp only [eq_iff_iff, iff_false]; decide
/-- more may stand -/
def Ext (σ σ' : AHeap) : Prop := ∀ a o, σ a = some o → σ' a = some o
theorem Ext.refl (σ : AHeap) : Ext σ σ := fun _ _ h => h
theorem Ext.trans {σ σ' σ'' : AHeap} (h : Ext σ σ') (h' : Ext σ' σ'') : Ext σ σ'' := fun a o e => h' a o (h a o e)
theorem Ext.set {σ : AHeap} {r : Addr} {o : AO} (h : σ r = none) : Ext σ (σ.set r o) := fun a o' e => by
  have : a ≠ r := by rintro rfl; rw [h] at e; cases e
  rw [AHeap.set_ne _ _ this]; exact e
theorem Ext.list {σ σ' : AHeap} (h : Ext σ σ') {p : Addr} {xs : List AV} (e : listAt p xs σ) : listAt p xs σ' := e.imp (h _ _) (h _ _)
theorem Ext.none {σ σ' : AHeap} (h : Ext σ σ') {p : Addr} (e : σ' p = none) : σ p = none := by
  cases q : σ p with
  | none => rfl
  | some o => rw [h _ _ q] at e; cases e
end Mine
namespace Mine
theorem al {Q : Post} {σ : AHeap} {xs : List AV} (h : ∀ σ' r, Ext σ σ' → σ r = none → σ' r = some (.list xs) → Q (.ref r) σ') : ∀ r, σ r = none → Q (.ref r) (σ.set r (.list xs)) := fun r hr => h _ r (Ext.set hr) hr (AHeap.set_self ..)
end Mine
namespace Mine
theorem alf {Q : Post} {σ : AHeap} {xs : List AV} (h : ∀ σ' r, Ext σ σ' → σ r = none → σ' r = some (.list xs) → Q (.ref r) σ') : A.fin Q xs σ := al h
end Mine
namespace Mine
open PySem
theorem addL_of {Q : Post} {σ : AHeap} {p q : Addr} {xs ys : List AV} (h1 : listAt p xs σ) (h2 : listAt q ys σ) (hl : xs.length + ys.length ≤ 1000000) (h : ∀ σ' r, Ext σ σ' → σ r = none → σ' r = some (.list (xs ++ ys)) → Q (.ref r) σ') : binA .Add (.ref p) (.ref q) Q σ := .addL h1 h2 hl (al h)
theorem list_of {Q : Post} {σ : AHeap} {p : Addr} {xs : List AV} (h1 : listAt p xs σ) (h : ∀ σ' r, Ext σ σ' → σ r = none → σ' r = some (.list xs) → Q (.ref r) σ') : pList [.ref p] Q σ := .list h1 (al h)
theorem sorted_of {Q : Post} {σ : AHeap} {p : Addr} {xs : List AV} (ρ : AV → Nat) (h1 : listAt p xs σ) (hmx : xs.length ≤ sortMax) (ht : Kindly xs) (hlt : ∀ x ∈ xs, ∀ y ∈ xs, LtAV σ x y (decide (ρ x < ρ y)))
    (h : ∀ (ys : List AV), ys.Perm xs → ys.Pairwise (fun x y => ρ x ≤ ρ y) → ∀ σ' r, Ext σ σ' → σ r = none → σ' r = some (.list ys) → Q (.ref r) σ') : pSorted [.ref p] Q σ := ⟨xs, ρ, h1, hmx, ht, hlt, fun ys hp hs => al (h ys hp hs)⟩
end Mine
namespace Mine
open PySem
theorem dok_list {ds : List PyData} (h : ∀ d ∈ ds, d.canLay0 = true ∧ d.depth ≤ 90) : DOk (.list ds) := by
  have : ∀ l : List PyData, (∀ d ∈ l, d.canLay0 = true ∧ d.depth ≤ 90) → PyData.canLayAll0 l = true ∧ PyData.depthAll l ≤ 90 := by
    intro l
    induction l with
    | nil => intro _; exact ⟨rfl, by simp [PyData.depthAll]⟩
    | cons x r ih =>
      intro h
      have h1 := h x (by simp)
      have h2 := ih fun d hd => h d (by simp [hd])
      simp only [PyData.canLayAll0, PyData.depthAll, Bool.and_eq_true]
      exact ⟨⟨h1.1, h2.1⟩, by lia⟩
  have := this ds h
  refine ⟨by simpa [PyData.canLay0] using this.1, ?_⟩
  simp only [PyData.depth]; lia
end Mine

set_option maxRecDepth 100000
set_option linter.unusedVariables false
set_option autoImplicit false
namespace Mine
open PySem

/-! one step of a body, each by a small lemma: the goal's head tells which -/
section
variable {X : Cx} {d : Nat} {l : Loc} {σ : AHeap} {Q : Post} {Z : XP} {S : SPost} {SZ : SXP} {x y : AE} {a b : AS} {i j k : Int} {n : Nat} {p : Addr} {xs ys : List AV} {v u : AV}

theorem q_nil (h : S .next l σ) : A.nil d l S SZ σ := h
theorem q_set (h : x d l (fun a σ' => S .next (l.set n (some a)) σ') (fun c σ' => SZ c l σ') σ) : A.set n x d l S SZ σ := h
theorem q_ret (h : x d l (fun a σ' => S (.ret a) l σ') (fun c σ' => SZ c l σ') σ) : A.ret x d l S SZ σ := h
theorem q_if (h : x d l (isB fun c σ' => if c then a d l S SZ σ' else b d l S SZ σ') (fun c σ' => SZ c l σ') σ) : A.if_ x a b d l S SZ σ := h
theorem q_isB {R : Bool → AHeap → Prop} {c : Bool} (h : R c σ) : isB R (.bool c) σ := ⟨c, rfl, h⟩
theorem q_loc (e : l.getD n none = some v) (h : Q v σ) : A.loc n d l Q Z σ := ⟨v, e, h⟩
theorem q_k (h : Q v σ) : A.k v d l Q Z σ := h
theorem q_idx (h : x d l (fun a σ1 => y d l (fun b σ2 => idxA X a b Q σ2) Z σ1) Z σ) : A.idx X x y d l Q Z σ := h
theorem q_cmp {ops : List (CmpOp × AE)} (h : x d l (fun a σ1 => A.chain X d l Q Z a ops σ1) Z σ) : A.cmp X x ops d l Q Z σ := h
theorem q_chain1 {op : CmpOp} (h : y d l (fun b σ1 => cmpA X op v b Q σ1) Z σ) : A.chain X d l Q Z v [(op, y)] σ := h
theorem q_lt (h : Q (.bool (decide (i < j))) σ) : cmpA X .Lt (.int i) (.int j) Q σ := .lt h
theorem q_le (h : Q (.bool (decide (i ≤ j))) σ) : cmpA X .LtE (.int i) (.int j) Q σ := .le h
theorem q_gt (h : Q (.bool (decide (i > j))) σ) : cmpA X .Gt (.int i) (.int j) Q σ := .gt h
theorem q_eqI (h : Q (.bool (i == j)) σ) : cmpA X .Eq (.int i) (.int j) Q σ := .eq (.int _) (.int _) (d_int.mpr trivial) (d_int.mpr trivial) (by rw [e_int]; exact h)
theorem q_neI (h : Q (.bool (!(i == j))) σ) : cmpA X .NotEq (.int i) (.int j) Q σ := .ne (.int _) (.int _) (d_int.mpr trivial) (d_int.mpr trivial) (by rw [e_int]; exact h)
theorem q_eqS {s t : Str} (hs : PyData.strOk s = true) (ht : PyData.strOk t = true) (h : Q (.bool (s == t)) σ) : cmpA X .Eq (.str s) (.str t) Q σ := .eq (.str _) (.str _) (d_str.mpr hs) (d_str.mpr ht) (by rw [e_str]; exact h)
theorem q_tupIdx (e : atIdx xs k = some v) (h : Q v σ) : idxA X (.tup xs) (.int k) Q σ := .tup e h
theorem q_listIdx (hp : listAt p xs σ) (e : atIdx xs k = some v) (h : Q v σ) : idxA X (.ref p) (.int k) Q σ := .list hp e h
theorem q_prim {pr : Prim} {as : List AE} (h : evalL as d l (fun as σ' => pr as Q σ') Z σ) : A.prim pr as d l Q Z σ := h
theorem q_callF {f : Addr} {as : List AE} (h : evalL as d l (fun as σ' => CallOk X f d as Q Z σ') Z σ) : A.callF X f as d l Q Z σ := h
theorem q_ev0 {R : List AV → AHeap → Prop} (h : R [] σ) : evalL [] d l R Z σ := h
theorem q_ev1 {R : List AV → AHeap → Prop} {as : List AE} (h : x d l (fun a σ1 => evalL as d l (fun as σ2 => R (a :: as) σ2) Z σ1) Z σ) : evalL (x :: as) d l R Z σ := h
theorem q_tup {as : List AE} (h : evalL as d l (fun as σ' => as.length ≤ 1000000 ∧ Q (.tup as) σ') Z σ) : A.tup as d l Q Z σ := h
theorem q_bin {op : Operator} (h : x d l (fun a σ1 => y d l (fun b σ2 => binA op a b Q σ2) Z σ1) Z σ) : A.bin op x y d l Q Z σ := h
theorem q_add (h : Q (.int (i + j)) σ) : binA .Add (.int i) (.int j) Q σ := .add h
theorem q_sub (h : Q (.int (i - j)) σ) : binA .Sub (.int i) (.int j) Q σ := .sub h
theorem q_div (h0 : j ≠ 0) (h1 : j.natAbs < 1073741824) (h : Q (.int (i.fdiv j)) σ) : binA .FloorDiv (.int i) (.int j) Q σ := .div h0 h1 h
theorem q_mod (h0 : j ≠ 0) (h : Q (.int (i.fmod j)) σ) : binA .Mod (.int i) (.int j) Q σ := .mod h0 h
theorem q_lenT (h : Q (.int xs.length) σ) : pLen [.tup xs] Q σ := .tup h
theorem q_lenL (hp : listAt p xs σ) (h : Q (.int xs.length) σ) : pLen [.ref p] Q σ := .list hp h
theorem q_rng1 (h : Q (.rng 0 i) σ) : pRange [.int i] Q σ := .one h
theorem q_isa {T : PyT} (h : x d l (fun a σ1 => pIsA T a Q σ1) Z σ) : A.isa T x d l Q Z σ := h
theorem q_pisa {T : PyT} {c : Bool} (e : isA T v σ = some c) (h : Q (.bool c) σ) : pIsA T v Q σ := ⟨c, e, h⟩
end
end Mine
namespace Mine
open PySem
section
variable {X : Cx} {d : Nat} {l : Loc} {σ : AHeap} {Q : Post} {Z : XP} {x y : AE} {i j : Int} {v : AV}
theorem q_neg (h : x d l (fun a σ1 => ∃ i, a = .int i ∧ Q (.int (-i)) σ1) Z σ) : A.neg x d l Q Z σ := h
theorem q_not (h : x d l (fun a σ1 => ∃ b, a = .bool b ∧ Q (.bool (!b)) σ1) Z σ) : A.not_ x d l Q Z σ := h
theorem q_and {r : List AE} (h : x d l (fun a σ1 => ∃ b, a = .bool b ∧ if b then andL (y :: r) d l Q Z σ1 else Q (.bool false) σ1) Z σ) : andL (x :: y :: r) d l Q Z σ := h
theorem q_and1 (h : x d l Q Z σ) : andL [x] d l Q Z σ := h
theorem q_or {r : List AE} (h : x d l (fun a σ1 => ∃ b, a = .bool b ∧ if b then Q (.bool true) σ1 else orL (y :: r) d l Q Z σ1) Z σ) : orL (x :: y :: r) d l Q Z σ := h
theorem q_or1 (h : x d l Q Z σ) : orL [x] d l Q Z σ := h
theorem q_exB {R : Bool → Prop} {c : Bool} (h : R c) : ∃ b, AV.bool c = .bool b ∧ R b := ⟨c, rfl, h⟩
theorem q_exI {R : Int → Prop} (h : R i) : ∃ b, AV.int i = .int b ∧ R b := ⟨i, rfl, h⟩
end
end Mine
namespace Mine
open PySem
theorem q_chain2 {X : Cx} {d : Nat} {l : Loc} {σ : AHeap} {Q : Post} {Z : XP} {y : AE} {v : AV} {op : CmpOp} {z : CmpOp × AE} {r : List (CmpOp × AE)} (h : y d l (fun b σ1 => cmpA X op v b (fun c σ2 => ∃ t, c = .bool t ∧ if t then A.chain X d l Q Z b (z :: r) σ2 else Q (.bool false) σ2) σ1) Z σ) : A.chain X d l Q Z v ((op, y) :: z :: r) σ := h
end Mine
namespace Mine
open PySem
section
variable {X : Cx} {d : Nat} {l : Loc} {σ : AHeap} {Q : Post} {Z : XP} {S : SPost} {SZ : SXP} {x y : AE} {i j : Int} {p : Addr} {xs ys : List AV} {u v : AV} {t : Tgt} {k : Nat} {c : Option AE} {b : AS}
  {m : Nat → Loc → (AHeap → (AHeap → Prop) → List AV → Prop) → XP → AHeap → Prop} {K : AHeap → (AHeap → Prop) → List AV → Prop} {R : (AHeap → Prop) → List AV → Prop}
theorem q_lc (h : m d l (fun σ1 I xs => compL I t c x d (A.fin Q) xs [] (l ++ List.replicate k none) σ1) Z σ) : A.lc m t k c x d l Q Z σ := h
theorem q_fr (h : m d l (fun σ1 I xs => forL I t b d S xs l σ1) (fun c σ' => SZ c l σ') σ) : A.fr m t b d l S SZ σ := h
theorem q_itP (h : x d l (fun v σ1 => itemsA v σ1 fun I xs => K σ1 I xs) Z σ) : A.itP x d l K Z σ := h
theorem q_itE (h : x d l (fun v σ1 => ∃ p xs, v = .ref p ∧ listAt p xs σ1 ∧ K σ1 (listAt p xs) (enumL 0 xs)) Z σ) : A.itE x d l K Z σ := h
theorem q_exE {W : Addr → List AV → Prop} (hp : listAt p xs σ) (h : W p xs) : ∃ p' xs', AV.ref p = .ref p' ∧ listAt p' xs' σ ∧ W p' xs' := ⟨p, xs, rfl, hp, h⟩
theorem q_itemsL (hp : listAt p xs σ) (h : R (listAt p xs) xs) : itemsA (.ref p) σ R := ⟨xs, hp, h⟩
theorem q_itemsT (h : R (fun _ => True) xs) : itemsA (.tup xs) σ R := h
theorem q_itemsR {n : Nat} (hn : n < 1000000000000) (h : R (fun _ => True) ((List.range n).map fun i : Nat => AV.int i)) : itemsA (.rng 0 n) σ R := by
  rw [← rngL_eq] at h; exact ⟨by lia, by lia, by lia, by lia, h⟩
theorem q_pow (h0 : 0 ≤ j) (h1 : j ≤ 1000) (h2 : i.natAbs < 2 ^ 64) (h : Q (.int (i ^ j.toNat)) σ) : binA .Pow (.int i) (.int j) Q σ := .pow h0 h1 h2 h
theorem q_mulR (hm : j.natAbs < 2 ^ 60) (h : Q (.int (i * j)) σ) : binA .Mult (.int i) (.int j) Q σ := .mul (.inr hm) h
theorem q_mulL (hm : i.natAbs < 2 ^ 60) (h : Q (.int (i * j)) σ) : binA .Mult (.int i) (.int j) Q σ := .mul (.inl hm) h
theorem q_isaL {T : PyT} (hp : listAt p xs σ) (h : Q (.bool (T == .list)) σ) : pIsA T (.ref p) Q σ := ⟨_, a_list hp, h⟩
theorem q_eqD {x y : PyData} (hx : Rd σ u x) (hy : Rd σ v y) (ox : DOk x) (oy : DOk y) (h : Q (.bool (PyData.eqv x y)) σ) : cmpA X .Eq u v Q σ := .eq hx hy ox oy h
theorem q_neSame {x : PyData} (hx : Rd σ u x) (hy : Rd σ v x) (ox : DOk x) (h : Q (.bool false) σ) : cmpA X .NotEq u v Q σ := .ne hx hy ox ox (by rw [PySem.SeqAt.eqv_refl _ ox.1]; exact h)
theorem q_eqSame {x : PyData} (hx : Rd σ u x) (hy : Rd σ v x) (ox : DOk x) (h : Q (.bool true) σ) : cmpA X .Eq u v Q σ := .eq hx hy ox ox (by rw [PySem.SeqAt.eqv_refl _ ox.1]; exact h)
theorem q_addT (hl : xs.length + ys.length ≤ 1000000) (h : Q (.tup (xs ++ ys)) σ) : binA .Add (.tup xs) (.tup ys) Q σ := .addT hl h
end
theorem q_lenEq {Q : Post} {σ : AHeap} {p : Addr} {xs : List AV} {n : Nat} (hp : listAt p xs σ) (e : xs.length = n) (h : Q (.int n) σ) : pLen [.ref p] Q σ := .list hp (by rw [e]; exact h)
end Mine
namespace Mine
open PySem
/-- branches that meet again: what stands where they meet -/
theorem q_ifJ {d : Nat} {l : Loc} {σ : AHeap} {S : SPost} {SZ : SXP} {x : AE} {a b : AS} (J : Loc → AHeap → Prop) (h2 : ∀ S' : SPost, (∀ v l' σ', S (.ret v) l' σ' → S' (.ret v) l' σ') → (∀ l' σ', J l' σ' → S' .next l' σ') →
    x d l (isB fun c σ' => if c then a d l S' SZ σ' else b d l S' SZ σ') (fun c σ' => SZ c l σ') σ) (h1 : ∀ l' σ', J l' σ' → S .next l' σ') : A.if_ x a b d l S SZ σ := h2 S (fun _ _ _ h => h) h1
end Mine
namespace Mine
theorem q_tl {n : Nat} {A : Prop} (hn : Nat.ble n 1000000 = true) (h : A) : n ≤ 1000000 ∧ A := ⟨Nat.le_of_ble_eq_true hn, h⟩
end Mine
namespace Mine
open PySem
/-- what follows, sealed -/
structure KN (S' : SPost) (b : AS) (d : Nat) (S : SPost) (SZ : SXP) : Prop where
  next : ∀ l' σ', b d l' S SZ σ' → S' .next l' σ'
  ret : ∀ v l' σ', S (.ret v) l' σ' → S' (.ret v) l' σ'
section
variable {d : Nat} {l : Loc} {σ : AHeap} {S S' : SPost} {SZ : SXP} {a b : AS} {v : AV}
theorem q_consO (h : ∀ S' : SPost, KN S' b d S SZ → a d l S' SZ σ) : A.cons a b d l S SZ σ := h (fun f l' σ' => match f with | .next => b d l' S SZ σ' | .ret v => S (.ret v) l' σ') ⟨fun _ _ h => h, fun _ _ _ h => h⟩
theorem q_next (k : KN S' b d S SZ) (h : b d l S SZ σ) : S' .next l σ := k.next _ _ h
theorem q_retK (k : KN S' b d S SZ) (h : S (.ret v) l σ) : S' (.ret v) l σ := k.ret _ _ _ h
end
end Mine
namespace Mine
theorem q_ifTc {c : Bool} {A B : Prop} (e : c = true) (h : A) : if c = true then A else B := by rw [if_pos e]; exact h
theorem q_ifFc {c : Bool} {A B : Prop} (e : c = false) (h : B) : if c = true then A else B := by rw [if_neg (by simp [e])]; exact h
end Mine

set_option maxRecDepth 100000
set_option linter.unusedVariables false
set_option autoImplicit false
namespace Mine
open PySem PyProof.Rows PySem.SeqAt PySem.MeetsSeq

/-- methods of lists: the list's place, the arguments -/
abbrev MPrim := Addr → List AV → Post → AHeap → Prop
def SoundMeth (X : Cx) (id : String) (m : MPrim) : Prop :=
  ∀ d A σ s p as vs Q E, Live d A → At X σ s → RepVs s.heap as vs → m p as Q σ → wpAny X.M A (PySem.call (.builtin id) (.ref p :: vs)) (liftQ X σ s Q) E s

def AV.noRef : AV → Bool
  | .none => true
  | .bool _ => true
  | .int _ => true
  | .str _ => true
  | _ => false
namespace A
def meth (m : MPrim) (x : AE) (args : List AE) : AE := fun d l Q Z σ => x d l (fun r σ1 => ∃ p xs, r = .ref p ∧ σ1 p = some (.list xs) ∧ evalL args d l (fun as σ2 => m p as Q σ2) Z σ1) Z σ
/-- an expression as a statement -/
def ex (x : AE) : AS := fun d l S SZ σ => x d l (fun v σ' => v.noRef = true ∧ S .next l σ') (fun c σ' => SZ c l σ') σ
end A

section
variable {X : Cx} {env : Env} {nm : List (Str × Nat)}

theorem sound_meth {o : Expr} {name : Str} {id : String} {x : AE} {es : List Expr} {ms : List AE} {m : MPrim} {apos pos : Pos} (slot : Slot "list" name id) (hty : typeOf (.builtin id) = pure (.type "method_descriptor")) (hm : SoundMeth X id m)
    (hb : ∀ e, attributeBase o name e (eval o e) = eval o e) (hl : (apos.endLine == pos.line) = true) (hn : decide (es.length < 30) = true) (hx : SoundE X env nm o x) (h : SoundEs X env nm es ms) :
    SoundE X env nm (.Call (.Attribute o name apos) es [] pos) (A.meth m x ms) := fun d A l σ s Q Z L a F q => by
  refine wpAny_Call_method (hb env) ?_ hl PySem.F.plainAttrs_list slot hty ?_
  · have h1 : (backTo pos (starEach es env)).all (fun x => !x.1) = true := by
      rw [List.all_eq_not_any_not]
      simp only [Bool.not_not]
      rw [h.plain]; rfl
    rw [h1]
    show (true && true && decide (es.length + 0 + 0 < 30)) = true
    simpa using hn
  refine wpAny_mono (hx d A l σ s _ _ L a F q) (fun v s1 hpx => ?_) fun _ _ x => x
  obtain ⟨av, σ1, r, a1, st, p, xs, e, hp, q1⟩ := hpx
  subst e; cases r
  obtain ⟨vs, n, ho, _⟩ := a1.rep _ _ hp
  refine ⟨⟨_, ho, rfl⟩, fun b e => by cases e; exact ⟨_, ho, rfl⟩, ?_⟩
  refine Calls.callWith_builtin h.plain (wpAny_mono (sound_args h L a1 (F.step a st) q1 fun vs s2 hpx => ?_) (fun _ _ x => x) fun _ _ x => x.back st)
  obtain ⟨avs, σ2, r2, a2, st2, q2⟩ := hpx
  exact backQ (st.trans st2) (hm d A σ2 s2 p avs vs Q _ L a2 r2 q2)

theorem sound_ex {e : Expr} {pos : Pos} {m : AE} (EO : EnvOk env) (h : SoundE X env nm e m) (hs : swapsWith e none pos.line env = pure false) : SoundS X env nm (.Expr e pos) (A.ex m) := fun d A l σ s Q Z L a F q =>
  wpAny_Expr (wpAny_mono (h d A l σ s _ _ L a F q) (fun v s1 ⟨av, σ1, r, a1, st, hn, q1⟩ => by
    have fin : liftS X env nm σ s Q .next s1 := ⟨.next, l, σ1, trivial, a1, F.step a st, st.weaken FB.of_e0, q1⟩
    cases r with
    | none => exact fin
    | bool => exact fin
    | int => exact fin
    | str => exact fin
    | tup => cases hn
    | ref => cases hn
    | rng => cases hn
    | exc => cases hn) fun _ _ x => x.toS a F) (by unfold interactive; rw [EO.kind]; rfl) hs

inductive mAppend : Addr → List AV → Post → AHeap → Prop
  | mk {p : Addr} {v : AV} {xs : List AV} {Q : Post} {σ : AHeap} (hp : σ p = some (.list xs)) (hl : xs.length < 1000000) (h : Q .none (σ.set p (.list (xs ++ [v])))) : mAppend p [v] Q σ
inductive mPop : Addr → List AV → Post → AHeap → Prop
  | last {p : Addr} {xs : List AV} {x : AV} {Q : Post} {σ : AHeap} (hp : σ p = some (.list (xs ++ [x]))) (h : Q x (σ.set p (.list xs))) : mPop p [] Q σ
  | nth {p : Addr} {k : Int} {n : Nat} {xs : List AV} {x : AV} {Q : Post} {σ : AHeap} (hk : k = n) (hp : σ p = some (.list xs)) (hx : xs[n]? = some x) (h : Q x (σ.set p (.list (xs.eraseIdx n)))) : mPop p [.int k] Q σ

theorem RepVs.eraseIdx {h : Heap} : ∀ {xs vs}, RepVs h xs vs → ∀ n, RepVs h (xs.eraseIdx n) (vs.eraseIdx n)
  | _, _, .nil, n => .nil
  | _, _, .cons _ r, 0 => r
  | _, _, .cons a r, n + 1 => .cons a (r.eraseIdx n)

theorem isL_upd {h : Heap} {p : Addr} {us ws : List Value} {n : Nat} (ho : h.get? p = some (listObj us n)) (f : Array Value → Array Value) (e : f us.toArray = ws.toArray) : ∃ n', (h.update p (Obj.mapSeq f)).get? p = some (listObj ws n') := by
  have := IsL.update ho f
  rw [e] at this
  exact ⟨_, this⟩

theorem sound_append : SoundMeth X "list.append" mAppend := fun d A σ s p as vs Q E L a r q => by
  cases q with
  | @mk v0 xs _ _ hp hl q =>
    obtain ⟨v, rfl, rv⟩ := repVs1 r
    obtain ⟨us, n, ho, ru, _⟩ := a.rep _ _ hp
    have hsz : us.toArray.size ≤ sizeLine := by rw [List.size_toArray, ← ru.length, sizeLine_eq]; lia
    refine call_meets PySem.F.slot_list_append ⟨_, ho, rfl⟩ PySem.F.entry_list_append (PySem.F.args_list_append_2 _ _) (list_append p us.toArray n v hsz) ⟨ho, ?_⟩
    have hs : Heap.SameBut p s.heap (s.heap.update p (Obj.mapSeq fun x => x.push v)) := Heap.SameBut.update ..
    obtain ⟨n', hn'⟩ := isL_upd (ws := us ++ [v]) ho (fun x => x.push v) (by simp)
    exact ⟨.none, _, .none, a.store (ao := .list (xs ++ [v0])) (t := s.toks) hp rfl hs fun kv => ⟨us ++ [v], n', hn', (ru.mono kv).append (.cons (rv.mono kv) .nil), by rw [List.length_append]; exact hl⟩, Step.store (t := s.toks) hp hs, q⟩

end
end Mine
namespace Mine
open PySem PyProof.Rows PySem.SeqAt
section
variable {X : Cx} {env : Env} {nm : List (Str × Nat)} {names : List (Str × NameKind)} {o : Expr} {x : AE} {es : List Expr} {ms : List AE} {apos pos : Pos}
theorem w_append (hb : ∀ e, attributeBase o "append" e (eval o e) = eval o e) (hl : (apos.endLine == pos.line) = true) (hn : decide (es.length < 30) = true) (hx : SoundE X env nm o x) (h : SoundEs X env nm es ms) :
    SoundE X env nm (.Call (.Attribute o "append" apos) es [] pos) (A.meth mAppend x ms) := sound_meth PySem.F.slot_list_append PySem.F.type_list_append sound_append hb hl hn hx h
theorem w_ex {e : Expr} {m : AE} (E : EK env names) (h : SoundE X env nm e m) (hs : swapsWith e none pos.line env = pure false) : SoundS X env nm (.Expr e pos) (A.ex m) := sound_ex E.eo h hs
end
section
variable {d : Nat} {l : Loc} {σ : AHeap} {Q : Post} {Z : XP} {S : SPost} {SZ : SXP} {x : AE} {p : Addr} {xs : List AV} {v : AV} {m : MPrim} {as : List AE}
theorem q_ex (h : x d l (fun v σ' => v.noRef = true ∧ S .next l σ') (fun c σ' => SZ c l σ') σ) : A.ex x d l S SZ σ := h
theorem q_meth (h : x d l (fun r σ1 => ∃ p xs, r = .ref p ∧ σ1 p = some (.list xs) ∧ evalL as d l (fun as σ2 => m p as Q σ2) Z σ1) Z σ) : A.meth m x as d l Q Z σ := h
theorem q_exM {R : Addr → Prop} (hp : σ p = some (.list xs)) (h : R p) : ∃ p' xs', AV.ref p = .ref p' ∧ σ p' = some (.list xs') ∧ R p' := ⟨p, xs, rfl, hp, h⟩
theorem q_app (hp : σ p = some (.list xs)) (hl : xs.length < 1000000) (h : Q .none (σ.set p (.list (xs ++ [v])))) : mAppend p [v] Q σ := .mk hp hl h
theorem q_nr {A : Prop} (h : A) : AV.noRef .none = true ∧ A := ⟨rfl, h⟩
theorem q_lst (h : evalL as d l (fun as σ' => as.length ≤ 1000000 ∧ A.fin Q as σ') Z σ) : A.lst as d l Q Z σ := h
end
end Mine

set_option maxRecDepth 100000
set_option linter.unusedVariables false
set_option autoImplicit false
namespace Mine
open PySem PyProof.Rows PySem.SeqAt

inductive pMax : List AV → Post → AHeap → Prop
  | two {a b : Int} {Q : Post} {σ : AHeap} (h : Q (.int (max a b)) σ) : pMax [.int a, .int b] Q σ
  | list {p : Addr} {ns : List Int} {Q : Post} {σ : AHeap} (hp : listAt p (ns.map .int) σ) (hn : ns ≠ []) (h : ∀ M, M ∈ ns → (∀ a ∈ ns, a ≤ M) → Q (.int M) σ) : pMax [.ref p] Q σ
inductive pMin : List AV → Post → AHeap → Prop
  | two {a b : Int} {Q : Post} {σ : AHeap} (h : Q (.int (min a b)) σ) : pMin [.int a, .int b] Q σ
  | list {p : Addr} {ns : List Int} {Q : Post} {σ : AHeap} (hp : listAt p (ns.map .int) σ) (hn : ns ≠ []) (h : ∀ M, M ∈ ns → (∀ a ∈ ns, M ≤ a) → Q (.int M) σ) : pMin [.ref p] Q σ
inductive pSum : List AV → Post → AHeap → Prop
  | list {p : Addr} {ns : List Int} {Q : Post} {σ : AHeap} (hp : listAt p (ns.map .int) σ) (hf : PySem.SumFits ns) (h : Q (.int ns.sum) σ) : pSum [.ref p] Q σ
inductive pTuple : List AV → Post → AHeap → Prop
  | list {p : Addr} {xs : List AV} {Q : Post} {σ : AHeap} (hp : listAt p xs σ) (h : Q (.tup xs) σ) : pTuple [.ref p] Q σ

section
variable {X : Cx} {σ : AHeap} {s : Shared}

theorem At.grown (a : At X σ s) {h' : Heap} {t : Nat} (hk : ∀ b o, s.heap.get? b = some o → h'.get? b = some o) : At X σ { s with heap := h', toks := t } :=
  ⟨fun b o e => hk b o (a.keep b o e), fun b ao e => (a.rep b ao e).mono (fun b o e _ => hk b o e) fun o ho => hk b o ho, a.own, a.gens, a.os⟩
theorem Step.grown {B : Addr → Prop} {h' : Heap} {t : Nat} (hk : ∀ b o, s.heap.get? b = some o → h'.get? b = some o) (hsz : s.heap.objs.size ≤ h'.objs.size) : Step B σ s σ { s with heap := h', toks := t } :=
  ⟨fun b o e _ _ => hk b o e, fun _ h1 h2 => absurd h2 h1, hsz⟩
theorem repVs_ints {h : Heap} : ∀ {ns : List Int} {vs : List Value}, RepVs h (ns.map .int) vs → ∃ xs : List (Int × Tok), vs.toArray = intItems xs.toArray ∧ xs.map (·.1) = ns
 := by
  intro ns
  induction ns with
  | nil => intro vs r; cases r; exact ⟨[], by simp [intItems], rfl⟩
  | cons n ns ih =>
    intro vs r
    rw [List.map_cons] at r
    cases r with
    | cons a r =>
      cases a with
      | int _ t =>
        obtain ⟨xs, e1, e2⟩ := ih r
        refine ⟨(n, t) :: xs, ?_, by simp [e2]⟩
        simp [intItems] at e1 ⊢; exact e1

theorem sound_max : SoundPrim X (.builtin "max") pMax := fun d A σ s as vs Q E L a r q => by
  cases q with
  | @two i j _ _ q =>
    obtain ⟨v, w, rfl, rv, rw_⟩ := repVs2 r
    cases rv; cases rw_
    refine with_size (max_two_ints L.handled fun h' tk hk hsz => ?_)
    by_cases h : j > i
    · rw [if_pos h]; rw [Int.max_eq_right (by omega)] at q; exact ⟨_, σ, .int _ _, a.grown hk, .grown hk hsz, q⟩
    · rw [if_neg h]; rw [Int.max_eq_left (by omega)] at q; exact ⟨_, σ, .int _ _, a.grown hk, .grown hk hsz, q⟩
  | @list p ns _ _ hp hne q =>
    obtain ⟨v, rfl, rv⟩ := repVs1 r
    cases rv
    obtain ⟨us, hl, rs⟩ := a.isList hp
    obtain ⟨xs, e1, e2⟩ := repVs_ints rs
    rw [e1] at hl
    have hx : 0 < xs.length := by rw [← e2] at hne; cases xs <;> simp_all
    refine with_size (max_intList L.handled hl (by simpa using hx) fun v h' tk hv hk hsz => ?_)
    obtain ⟨t, rfl⟩ := intItems_at hv
    obtain ⟨h1, h2⟩ := argBest_gt (numAt xs.toArray) (xs.toArray.size - 1)
    have e3 : (xs.toArray.toList.map (·.1)) = ns := e2
    refine ⟨_, σ, .int _ _, a.grown hk, .grown hk hsz, q _ ?_ fun b hb => ?_⟩
    · rw [numAt_eq, e3]; exact PySem.getD_mem (by rw [← e3, List.length_map, Array.length_toList]; simp at h1 ⊢; omega)
    · rw [← e3] at hb
      obtain ⟨j, hj, rfl⟩ := PySem.mem_getD hb
      rw [List.length_map, Array.length_toList] at hj
      rw [← numAt_eq]; exact h2 j (by omega)
theorem sound_min : SoundPrim X (.builtin "min") pMin := fun d A σ s as vs Q E L a r q => by
  cases q with
  | @two i j _ _ q =>
    obtain ⟨v, w, rfl, rv, rw_⟩ := repVs2 r
    cases rv; cases rw_
    refine with_size (min_two_ints L.handled fun h' tk hk hsz => ?_)
    by_cases h : j < i
    · rw [if_pos h]; rw [Int.min_eq_right (by omega)] at q; exact ⟨_, σ, .int _ _, a.grown hk, .grown hk hsz, q⟩
    · rw [if_neg h]; rw [Int.min_eq_left (by omega)] at q; exact ⟨_, σ, .int _ _, a.grown hk, .grown hk hsz, q⟩
  | @list p ns _ _ hp hne q =>
    obtain ⟨v, rfl, rv⟩ := repVs1 r
    cases rv
    obtain ⟨us, hl, rs⟩ := a.isList hp
    obtain ⟨xs, e1, e2⟩ := repVs_ints rs
    rw [e1] at hl
    have hx : 0 < xs.length := by rw [← e2] at hne; cases xs <;> simp_all
    refine with_size (min_intList L.handled hl (by simpa using hx) fun v h' tk hv hk hsz => ?_)
    obtain ⟨t, rfl⟩ := intItems_at hv
    obtain ⟨h1, h2⟩ := argBest_lt (numAt xs.toArray) (xs.toArray.size - 1)
    have e3 : (xs.toArray.toList.map (·.1)) = ns := e2
    refine ⟨_, σ, .int _ _, a.grown hk, .grown hk hsz, q _ ?_ fun b hb => ?_⟩
    · rw [numAt_eq, e3]; exact PySem.getD_mem (by rw [← e3, List.length_map, Array.length_toList]; simp at h1 ⊢; omega)
    · rw [← e3] at hb
      obtain ⟨j, hj, rfl⟩ := PySem.mem_getD hb
      rw [List.length_map, Array.length_toList] at hj
      rw [← numAt_eq]; exact h2 j (by omega)
theorem sound_sum : SoundPrim X (.builtin "sum") pSum := fun d A σ s as vs Q E L a r q => by
  cases q with
  | @list p ns _ _ hp hf q =>
    obtain ⟨v, rfl, rv⟩ := repVs1 r
    cases rv
    obtain ⟨us, hl, rs⟩ := a.isList hp
    obtain ⟨xs, e1, e2⟩ := repVs_ints rs
    rw [e1] at hl
    have e3 : (xs.toArray.toList.map (·.1)) = ns := e2
    have e4 : ns.length = xs.toArray.size := by rw [← e3]; simp
    refine with_size (sum_intList L.handled hl (fun j hj => ?_) fun h' tk t' hk hsz => ?_)
    · rw [numAt_eq, preSum_eq, e3]; exact hf j (by rw [e4]; exact hj)
    · rw [preSum_eq, e3, List.take_of_length_le (by rw [e4]; exact Nat.le_refl _)]
      exact ⟨_, σ, .int _ _, a.grown hk, .grown hk hsz, q⟩
theorem sound_tuple : SoundPrim X (.type "tuple") pTuple := fun d A σ s as vs Q E L a r q => by
  cases q with
  | @list p xs _ _ hp q =>
    obtain ⟨v, rfl, rv⟩ := repVs1 r
    cases rv
    obtain ⟨us, hl, rs⟩ := a.isList hp
    have hm := a.len hp
    refine with_size (call_tuple_list hl (fun h' hk hsz => ?_) (by rw [List.size_toArray, ← rs.length, sizeLine_eq]; omega))
    have hk' : ∀ b o, s.heap.get? b = some o → (h'.push { cls := .type "tuple", data := .seq us.toArray }).get? b = some o := fun b o e => Heap.get?_push_of_some _ (hk b o e)
    refine ⟨.tup xs, σ, .tup hm ⟨_, Heap.get?_push_size _ rfl, rfl, 0, rfl⟩ (rs.mono fun b o e _ => hk' b o e), a.grown (t := s.toks) hk', .grown (t := s.toks) hk' hsz, q⟩
end
end Mine
namespace Mine
open PySem PyProof.Rows PySem.SeqAt PySem.W
theorem w_gint {X : Cx} {K : Frag} {env : Env} {nm : List (Str × Nat)} {names : List (Str × NameKind)} {x : Str} {i : Int} {t : Tok} {pos : Pos} (G : Gd X K) (E : EK env names) (hf : nsIn K mainGlobals x = some (some (.int i t))) (hg : isGlob names x = true) :
    SoundE X env nm (.Name x pos) (A.k (.int i)) := fun d A l σ s Q Z L a F q => wp_global G.ok E.eo a (E.glob hg).1 (E.glob hg).2 (mg_of G.inn G.ok.g hf) (retQ a (.int _ _) q)
section
variable {σ : AHeap} {Q : Post} {i j : Int} {p : Addr} {xs : List AV} {ns : List Int}
theorem q_max2 (h : Q (.int (max i j)) σ) : pMax [.int i, .int j] Q σ := .two h
theorem q_min2 (h : Q (.int (min i j)) σ) : pMin [.int i, .int j] Q σ := .two h
theorem q_maxL (hp : listAt p (ns.map .int) σ) (hn : ns ≠ []) (h : ∀ M, M ∈ ns → (∀ a ∈ ns, a ≤ M) → Q (.int M) σ) : pMax [.ref p] Q σ := .list hp hn h
theorem q_minL (hp : listAt p (ns.map .int) σ) (hn : ns ≠ []) (h : ∀ M, M ∈ ns → (∀ a ∈ ns, M ≤ a) → Q (.int M) σ) : pMin [.ref p] Q σ := .list hp hn h
theorem q_sumL (hp : listAt p (ns.map .int) σ) (hf : PySem.SumFits ns) (h : Q (.int ns.sum) σ) : pSum [.ref p] Q σ := .list hp hf h
theorem q_tupL (hp : listAt p xs σ) (h : Q (.tup xs) σ) : pTuple [.ref p] Q σ := .list hp h
theorem sumFits_of {ns : List Int} (hl : ns.length ≤ 1000) (h : ∀ a ∈ ns, a.natAbs ≤ 1000000000000) : PySem.SumFits ns := by
  have gen : ∀ (l : List Int), (∀ a ∈ l, a.natAbs ≤ 1000000000000) → l.sum.natAbs ≤ l.length * 1000000000000 := by
    intro l
    induction l with
    | nil => intro _; simp
    | cons a l ih =>
      intro h
      have h1 := h a (by simp)
      have h2 := ih fun b hb => h b (by simp [hb])
      simp only [List.sum_cons, List.length_cons]
      omega
  intro j hj
  have h1 := h (ns.getD j 0) (PySem.getD_mem hj)
  have h2 := gen (ns.take (j + 1)) fun a ha => h a (List.mem_of_mem_take ha)
  have h3 : (ns.take (j + 1)).length ≤ 1000 := by rw [List.length_take]; omega
  refine ⟨?_, ?_⟩ <;> unfold InLong <;> omega
end
end Mine
namespace Mine
open PySem PyProof.Rows PySem.SeqAt
/-- a tuple or a list of these -/
def SeqOf (σ : AHeap) (v : AV) (xs : List AV) : Prop := v = .tup xs ∨ ∃ p, v = .ref p ∧ listAt p xs σ
section
variable {X : Cx} {σ : AHeap} {Q : Post} {k : Int} {p : Addr} {xs : List AV} {v x : AV} {α : Type} {ns : List α} {f : α → AV}
theorem q_lenTM (h : Q (.int ns.length) σ) : pLen [.tup (ns.map f)] Q σ := q_lenT (by rw [List.length_map]; exact h)
theorem q_lenLM (hp : listAt p (ns.map f) σ) (h : Q (.int ns.length) σ) : pLen [.ref p] Q σ := q_lenL hp (by rw [List.length_map]; exact h)
theorem q_idxS (hv : SeqOf σ v xs) (e : atIdx xs k = some x) (h : Q x σ) : idxA X v (.int k) Q σ := by
  rcases hv with rfl | ⟨p, rfl, hp⟩
  · exact q_tupIdx e h
  · exact q_listIdx hp e h
end
theorem forL_at {I : AHeap → Prop} {t : Tgt} {body : AS} {d : Nat} {S : SPost} (xs : List AV) (J : Nat → Loc → AHeap → Prop)
    (step : ∀ k x l σ (K : Loc → AHeap → Prop), xs[k]? = some x → J k l σ → (∀ l' σ', J (k + 1) l' σ' → K l' σ') →
      ∃ l', bindT t x l = some l' ∧ body d l' (fun f l'' σ' => match f with | .next => I σ' ∧ K l'' σ' | .ret v => S (.ret v) l'' σ') (fun _ _ _ => False) σ)
    (fin : ∀ l σ, J xs.length l σ → S .next l σ) {l : Loc} {σ : AHeap} (h : J 0 l σ) : forL I t body d S xs l σ := by
  refine forL_of (fun ys l σ => ∃ k, k ≤ xs.length ∧ ys = xs.drop k ∧ J k l σ) ?_ ?_ _ _ _ ⟨0, Nat.zero_le _, rfl, h⟩
  · rintro x ys l σ K ⟨k, hk, hy, hJ⟩ hK
    have h1 : xs[k]? = some x := by
      have := congrArg List.head? hy
      rw [List.head?_drop] at this; exact this.symm
    have h2 : ys = xs.drop (k + 1) := by
      have := congrArg List.tail hy
      rw [List.tail_drop] at this; exact this
    have h3 : k < xs.length := (List.getElem?_eq_some_iff.mp h1).1
    exact step k x l σ K h1 hJ fun l' σ' hJ' => hK l' σ' ⟨k + 1, h3, h2, hJ'⟩
  · rintro l σ ⟨k, hk, hy, hJ⟩
    have : k = xs.length := by
      have := congrArg List.length hy
      rw [List.length_drop] at this; simp at this; omega
    subst this; exact fin l σ hJ
theorem forL_range {I : AHeap → Prop} {t : Tgt} {body : AS} {d : Nat} {S : SPost} {n : Nat} (J : Nat → Loc → AHeap → Prop)
    (step : ∀ k l σ (K : Loc → AHeap → Prop), k < n → J k l σ → (∀ l' σ', J (k + 1) l' σ' → K l' σ') →
      ∃ l', bindT t (.int k) l = some l' ∧ body d l' (fun f l'' σ' => match f with | .next => I σ' ∧ K l'' σ' | .ret v => S (.ret v) l'' σ') (fun _ _ _ => False) σ)
    (fin : ∀ l σ, J n l σ → S .next l σ) {l : Loc} {σ : AHeap} (h : J 0 l σ) : forL I t body d S ((List.range n).map fun i : Nat => AV.int i) l σ := by
  refine forL_at _ J (fun k x l σ K hx hJ hK => ?_) (fun l σ hJ => fin l σ (by simpa using hJ)) h
  rw [List.getElem?_map] at hx
  obtain ⟨y, hy, rfl⟩ := Option.map_eq_some_iff.mp hx
  obtain ⟨h1, h2⟩ := List.getElem?_eq_some_iff.mp hy
  rw [List.length_range] at h1
  rw [List.getElem_range] at h2
  subst h2
  exact step k l σ K h1 hJ hK
/-- what a comprehension gives may differ in the heap: it is the same all the way -/
theorem compL_map {α : Type} {I : AHeap → Prop} {t : Tgt} {elt : AE} {d : Nat} {Q : List AV → AHeap → Prop} {σ : AHeap} (xs : List α) (g f : α → AV) (lx : α → Loc) {l : Loc} (h0 : ∀ x, bindT t (g x) l = some (lx x)) (h1 : ∀ x y, bindT t (g x) (lx y) = some (lx x))
    (he : ∀ x ∈ xs, ∀ R : Post, R (f x) σ → elt d (lx x) R (fun _ _ => False) σ) (hI : I σ) (hl : xs.length ≤ 1000000) (q : Q (xs.map f) σ) : compL I t none elt d Q (xs.map g) [] l σ :=
  compL_as xs g f lx (fun x _ => h0 x) (fun x _ y _ => h1 x y) he hI hl q
end Mine
namespace Mine
open PySem
inductive All2 {α β : Type} (R : α → β → Prop) : List α → List β → Prop
  | nil : All2 R [] []
  | cons {a b as bs} : R a b → All2 R as bs → All2 R (a :: as) (b :: bs)
theorem All2.length {α β : Type} {R : α → β → Prop} {as bs} (h : All2 R as bs) : as.length = bs.length := by
  induction h with
  | nil => rfl
  | cons _ r ih => rw [List.length_cons, List.length_cons, ih]
/-- a comprehension whose element may make new things on the way -/
theorem compL_ext {α : Type} {I : AHeap → Prop} {t : Tgt} {elt : AE} {d : Nat} {Q : List AV → AHeap → Prop} (g : α → AV) (lx : α → Loc) (ok : α → AV → Prop) (h1 : ∀ x y, bindT t (g x) (lx y) = some (lx x)) : ∀ (xs : List α) (acc : List AV) {l : Loc} {σ : AHeap}, (∀ x, bindT t (g x) l = some (lx x)) →
    (∀ x ∈ xs, ∀ σ', Ext σ σ' → ∀ R : Post, (∀ v σ'', Ext σ' σ'' → ok x v → R v σ'') → elt d (lx x) R (fun _ _ => False) σ') → (∀ σ', Ext σ σ' → I σ') → acc.length + xs.length ≤ 1000000 →
    (∀ vs σ', Ext σ σ' → All2 ok xs vs → Q (acc ++ vs) σ') → compL I t none elt d Q (xs.map g) acc l σ
  | [], acc, l, σ, h0, he, hI, hl, q => by simpa [compL] using q [] σ (.refl _) .nil
  | x :: xs, acc, l, σ, h0, he, hI, hl, q => by
    simp only [List.length_cons] at hl
    refine ⟨lx x, h0 x, ?_⟩
    unfold testA
    simp only [if_true]
    refine he x (by simp) σ (.refl _) _ fun v σ2 e2 hv => ⟨hI σ2 e2, by omega, ?_⟩
    refine compL_ext g lx ok h1 xs (acc ++ [v]) (fun y => h1 y x) (fun y hy σ' e' => he y (by simp [hy]) σ' (e2.trans e')) (fun σ' e' => hI σ' (e2.trans e')) (by simp; omega) fun vs σ' e' ha => ?_
    have := q (v :: vs) σ' (e2.trans e') (.cons hv ha)
    simpa using this
end Mine
namespace Mine
open PySem PyProof.Rows PySem.SeqAt
/-- list(range(n)) -/
inductive pListR : List AV → Post → AHeap → Prop
  | mk {k : Nat} {Q : Post} {σ : AHeap} (hk : k ≤ 1000000) (h : A.fin Q ((List.range k).map fun i : Nat => .int i) σ) : pListR [.rng 0 k] Q σ
end Mine
namespace Mine
open PySem
section
variable {X : Cx} {d : Nat} {l : Loc} {σ : AHeap} {Q : Post} {Z : XP} {x : AE} {lo hi : Option AE} {p : Addr} {xs : List AV} {i j : Option Int} {R : Option Int → AHeap → Prop}
end
theorem dok_ints (ns : List Int) : DOk (.list (ns.map .int)) := dok_list fun d hd => by
  obtain ⟨i, _, rfl⟩ := List.mem_map.mp hd
  exact ⟨by simp [PyData.canLay0], by simp [PyData.depth]⟩
theorem eqv_nilL (ds : List PyData) : PyData.eqv (.list ds) (.list []) = ds.isEmpty := by
  cases ds <;> simp [PyData.eqv, PyData.eqvAll]
end Mine

set_option maxRecDepth 100000
set_option linter.unusedVariables false
set_option autoImplicit false
namespace Mine
open PySem PyProof.Rows PySem.SeqAt PySem.W PySem.Spec

theorem intsRep {h : Heap} : ∀ {vs : List Value} {ns : List Int}, IntsAre vs ns → RepVs h (ns.map AV.int) vs := by
  intro vs ns hi
  induction hi with
  | nil => exact .nil
  | cons _ _ _ ih => exact .cons (.int _ _) ih

theorem head_of {prog : Program} {w : World} {s₁ : Shared} {mg mb : Str → Option Value} {K : Frag} {c : ClaimW} {cl : Str → Option Addr} {mean : ExcName → Option Value} {args : List WData} {l fa : Addr} {vs : List Value} {ns : List Int}
    (G : Gd ⟨prog, w, s₁.heap, s₁.os, mg, mb⟩ K) (hl : s₁.heap.IsList l vs.toArray) (hi : IntsAre vs ns) (hlen : ns.length ≤ 1000000) (hg : s₁.gens = #[]) (hr : ∀ cls, c.raises args cls = false) (hpost : c.post args (.bool true) args = true)
    (hcall : ∀ (Q : Post) (Z : XP) (σ : AHeap), listAt l (ns.map .int) σ → (∀ σ', Q (.bool true) σ') → CallOk ⟨prog, w, s₁.heap, s₁.os, mg, mb⟩ fa 0 [.ref l] Q Z σ) :
    codeAny (model prog w) callerA (.call (.ref fa) ⟨[.ref l], []⟩) (GoodW c cl mean args s₁) s₁ := by
  have a : At ⟨prog, w, s₁.heap, s₁.os, mg, mb⟩ (fun b => if b = l then some (.rolist (ns.map .int)) else none) s₁ := by
    refine ⟨fun b o e => e, fun b o e => ?_, fun b o e hro => ?_, hg, rfl⟩
    · skip
      split at e
      · rename_i hb; subst hb; cases e; exact ⟨vs, hl, intsRep hi, by simpa using hlen⟩
      · cases e
    · skip
      split at e
      · cases e; cases hro
      · cases e
  have L : Live 0 callerA := ⟨by decide, by decide, rfl, by lia⟩
  refine codeAny_mono (hcall (fun v _ => v = .bool true) (fun _ _ => False) _ (.inr (by simp)) (fun _ => rfl) callerA s₁ [.ref l] L a (.cons (.ref l) .nil)) fun r s' x => ?_
  cases r with
  | ok f =>
    cases f with
    | ret v =>
      obtain ⟨av, σ', rv, a', st, rfl⟩ := x
      cases rv
      exact ⟨.inl ⟨_, _, [], rfl, hr, .bool true, hpost, fun _ => ⟨.nil, fun _ h => nomatch h⟩⟩, a'.keep, a'.os, a'.gens⟩
    | next => exact x.elim
    | brk => exact x.elim
    | cont => exact x.elim
  | error e => exact noX x
end Mine

set_option maxRecDepth 1000000
set_option maxHeartbeats 8000000
set_option linter.unusedVariables false
set_option autoImplicit false
namespace Mine
open PySem PySem.W PySem.Calls PyProof.Rows

/-- the booted heap as a tree -/
noncomputable def bootT (P : Params) : BT := ((((((((((BT.nil.ins 0 (boot_o_0 P)).ins 1 (boot_o_1 P)).ins 2 (boot_o_2 P)).ins 3 (boot_o_3 P)).ins 4 (boot_o_4 P)).ins 5 (boot_o_5 P)).ins 6 (boot_o_6 P)).ins 7 (boot_o_7 P)).ins 8 (boot_o_8 P)).ins 9 (boot_o_9 P)).ins 10 (boot_o_10 P)
noncomputable def bootS (w : World) (os : OsState) : SharedT := ⟨bootT w.params, 11, (boot_heap w.params).life, Array.mk [], boot_drawn, boot_toks, os⟩
theorem boot_abs (w : World) (os : OsState) : (bootS w os).abs = ⟨boot_heap w.params, Array.mk [], boot_drawn, boot_toks, os⟩ := by kernel_rfl
theorem boot_size (P : Params) : (boot_heap P).isNs mainGlobals = true := by kernel_rfl
theorem boot_objs (P : Params) : (boot_heap P).objs.size = 11 := by kernel_rfl
theorem boot_ann (P : Params) : (boot_heap P).nsMap mainGlobals "__annotations__" = some (.ref 6) := by kernel_rfl

theorem seg0_top {tb : String → Option Builtin} {p : Program} {w : World} {n₀ : Nat} {ann : Option Value} : ∀ {n : Nat} {s s' : Shared} {t : Thread} {f : Flow} {c : Code} {q : Pos}, segRun tb p w n₀ ann 0 n s t = some (f, s', c, q) → topRun tb p w n₀ ann n s t = some s' := by
  intro n
  induction n with
  | zero => intro s s' t f c q h; cases h
  | succ n ih =>
    intro s s' t f c q h
    unfold segRun at h
    unfold topRun
    have ht : through t = (endAt 0 t).isSome := by
      obtain ⟨cur, code, pos, stack⟩ := t
      cases stack with
      | nil =>
        cases cur with
        | pure x => cases x <;> rfl
        | _ => rfl
      | cons a l => rfl
    rw [ht]
    cases he : endAt 0 t with
    | some x => rw [he] at h; cases h; rfl
    | none =>
      rw [he] at h
      dsimp only [Option.isSome_none]
      cases hk : stepOk n₀ ann t with
      | false => rw [hk] at h; cases h
      | true =>
        rw [hk] at h
        cases hs : step (denote tb) p w s t with
        | halt o s₂ => rw [hs] at h; cases h
        | go s₂ t₂ => rw [hs] at h; exact ih h

/-- what is looked at behind the top -/
noncomputable def topLook {α : Type} (p q : Program) (loose : List Str) (Xt : Shared → Bool) (Yf : Shared → α) (P : Params) (s : Shared) :=
  (staticsOk (importedModules p.main.body) (boot_heap P) s.heap && namesBound p s.heap && gensDone s && laidKept (boot_heap P) s.heap, openSeen q loose (importedModules p.main.body) Xt true s, Yf s)

theorem left_once {p q : Program} {loose : List Str} {Xt : Shared → Bool} {α : Type} {Yf : Shared → α} {Ya : World → α} {N : Nat}
    (e : opening p = plainProg p.main.scope.names) (hN : Nat.ble 600 N = true) (f : ∀ s, fenceModules? p s = some s)
    (h : ∀ (w : World) (os : OsState), (segRunT treeTable p w 11 (some (.ref 6)) 0 N (bootS w os) (topStub p)).map (fun r => topLook p q loose Xt Yf w.params r.2.1.abs) = some (true, openGood q loose, Ya w)) : LeftO p q loose Xt Yf Ya N true := by
  intro w
  obtain ⟨⟨hp, gs, d, k, os⟩, hs, hv⟩ := Option.map_eq_some_iff.mp (boot_open e hN f w)
  obtain ⟨rfl, rfl, rfl, rfl⟩ : hp = boot_heap w.params ∧ gs = Array.mk [] ∧ d = boot_drawn ∧ k = boot_toks := by simpa using hv
  obtain ⟨⟨fl, sT, c, q'⟩, hr, hl⟩ := Option.map_eq_some_iff.mp (h w os)
  obtain ⟨l1, l2, l3⟩ : _ ∧ _ ∧ _ := by simpa only [topLook, Prod.mk.injEq] using hl
  have r := seg0_top (segRun_of hr)
  rw [boot_abs] at r
  have t : topFrom treeTable p w N ⟨boot_heap w.params, Array.mk [], boot_drawn, boot_toks, os⟩ = some sT.abs := by
    unfold topFrom
    dsimp only
    rw [boot_size, boot_objs, boot_ann, r]
    show (match staticsOk (importedModules p.main.body) (boot_heap w.params) sT.abs.heap && namesBound p sT.abs.heap && gensDone sT.abs && laidKept (boot_heap w.params) sT.abs.heap with | true => some sT.abs | false => none) = _
    rw [l1]
  unfold openEnds
  rw [hs]
  show (topFrom treeTable p w N _).map _ = _
  rw [t]
  exact congrArg some (Prod.ext l2 l3)

/-- a def's object -/
def fnO (s : Stmt) (pm cd : Value) : Obj := match s with
  | .FunctionDef name args body _ _ _ scope _ _ _ => ⟨.type "function", none, .func { name := name, qualname := name, params := args, body := .stmts body, scope := scope, globals := 3, closure := [], defaults := .none, kwdefaults := .none, pyModule := pm, code := cd }, #[]⟩
  | _ => default

def en (P : Params) (x : Str) (t : Tok) (v : Value) : DictEntry := ⟨PyData.keyHash P x, .str x t, v⟩
end Mine

set_option maxRecDepth 100000
set_option linter.unusedVariables false
set_option autoImplicit false
set_option maxHeartbeats 4000000
namespace Mine
open PySem PyProof.Rows PySem.SeqAt PySem.W

/-- a permutation of one side of a pairing turns the other -/
theorem All2.perm {α β : Type} {R : α → β → Prop} {bs cs : List β} (p : cs.Perm bs) : ∀ {as : List α}, All2 R as bs → ∃ ds : List α, ds.Perm as ∧ All2 R ds cs := by
  induction p with
  | nil => intro as h; exact ⟨as, .refl _, h⟩
  | cons b p ih =>
    intro as h
    cases h with
    | @cons a _ as' _ h1 h2 =>
      obtain ⟨ds, h3, h4⟩ := ih h2
      exact ⟨a :: ds, .cons a h3, .cons h1 h4⟩
  | swap b c l =>
    intro as h
    cases h with
    | @cons a _ as' _ h1 h2 =>
      cases h2 with
      | @cons a' _ as' _ h3 h4 => exact ⟨a' :: a :: as', .swap .., .cons h3 (.cons h1 h4)⟩
  | trans p q ih1 ih2 =>
    intro as h
    obtain ⟨ds, h1, h2⟩ := ih2 h
    obtain ⟨es, h3, h4⟩ := ih1 h2
    exact ⟨es, h3.trans h1, h4⟩
theorem All2.mem2 {α β : Type} {R : α → β → Prop} : ∀ {as : List α} {bs : List β}, All2 R as bs → ∀ b ∈ bs, ∃ a ∈ as, R a b := by
  intro as bs h
  induction h with
  | nil => intro b hb; cases hb
  | cons h1 h2 ih =>
    intro b hb
    rcases List.mem_cons.mp hb with e | hb
    · subst e; exact ⟨_, by simp, h1⟩
    · obtain ⟨a, ha, hr⟩ := ih b hb; exact ⟨a, by simp [ha], hr⟩
theorem All2.pair {α β : Type} {R : α → β → Prop} {f : α → Nat} {g : β → Nat} : ∀ {as : List α} {bs : List β}, All2 R as bs → (∀ a ∈ as, ∀ b, R a b → g b = f a) → bs.Pairwise (fun x y => g x ≤ g y) → as.Pairwise (fun x y => f x ≤ f y) := by
  intro as bs h
  induction h with
  | nil => intro _ _; exact .nil
  | cons h1 h2 ih =>
    intro he hp
    cases hp with
    | cons p1 p2 =>
      refine .cons (fun b hb => ?_) (ih (fun a ha => he a (by simp [ha])) p2)
      have : ∀ {as bs}, All2 R as bs → ∀ a ∈ as, ∃ b ∈ bs, R a b := by
        intro as bs h
        induction h with
        | nil => intro b hb; cases hb
        | cons h1 h2 ih =>
          intro b hb
          rcases List.mem_cons.mp hb with e | hb
          · subst e; exact ⟨_, by simp, h1⟩
          · obtain ⟨a, ha, hr⟩ := ih b hb; exact ⟨a, by simp [ha], hr⟩
      obtain ⟨c, hc, hr⟩ := this h2 b hb
      have := p1 c hc
      rw [he _ (by simp) _ h1, he b (by simp [hb]) c hr] at this
      exact this

theorem zip_all2 {h : Heap} {key : AV → AV} : ∀ {xs : List AV} {vs ks : List Value}, RepVs h xs vs → RepVs h (xs.map key) ks → All2 (fun x (p : Keyed) => RepV h x p.2 ∧ RepV h (key x) p.1) xs (ks.zip vs) := by
  intro xs
  induction xs with
  | nil => intro vs ks h1 h2; cases h1; cases h2; exact .nil
  | cons x xs ih =>
    intro vs ks h1 h2
    cases h1 with
    | cons a1 r1 => cases h2 with
      | cons a2 r2 => exact .cons ⟨a1, a2⟩ (ih r1 r2)
theorem all2_rep {h : Heap} {key : AV → AV} : ∀ {xs : List AV} {ps : List Keyed}, All2 (fun x (p : Keyed) => RepV h x p.2 ∧ RepV h (key x) p.1) xs ps → RepVs h xs (ps.map (·.2)) := by
  intro xs ps h
  induction h with
  | nil => exact .nil
  | cons h1 h2 ih => exact .cons h1.1 ih


open Classical in
theorem sortF_call {X : Cx} {f : Addr} {d : Nat} {A : Around} {σ : AHeap} {s : Shared} {p : Addr} {xs : List AV} {key : AV → AV} {ρ : AV → Nat} {Q : Post} {E : Value → Shared → Prop} (L : Live d A) (hd : d < 590) (a : At X σ s) (hp : listAt p xs σ) (hmx : xs.length ≤ sortMax)
    (hk : ∀ x ∈ xs, CallOk X f (d + 1) [x] (fun k σ' => k = key x ∧ σ' = σ) (fun _ _ => False) σ) (kd : ∀ x ∈ xs, ∃ i r, key x = .tup (.int i :: r)) (hlt : ∀ x ∈ xs, ∀ y ∈ xs, LtAV σ (key x) (key y) (decide (ρ x < ρ y)))
    (q : ∀ ys : List AV, ys.Perm xs → ys.Pairwise (fun x y => ρ x ≤ ρ y) → ∀ r, σ r = none → Q (.ref r) (σ.set r (.list ys))) :
    wpAny X.M A (call (.builtin "sorted") [.ref p] [(Str.ofString "key", .ref f)]) (liftQ X σ s Q) E s := by
  obtain ⟨vs, hl, rs⟩ := a.isList hp
  have hm := a.len hp
  have hlen := rs.length
  have room := L.room
  have u1 : A.in1.in1.units = A.units + 2 := by rw [Around.in1_units, Around.in1_units]
  have L2 : Live (d + 1) A.in1.in1 := ⟨by have := L.depth; show A.depth ≤ _; lia, by have := L.units; rw [u1]; lia, L.handled, by have := L.small; lia⟩
  refine call_function_entry_kw kind_sorted plain_sorted entry_sorted (ksk_s1 _ _) ?_
  unfold Builtin.«sorted»
  refine wpAny_bind (m := checkCount "sorted" 1 1 _) (wpAny_pure ?_)
  refine wpAny_bind (collect_list hl ?_ (by rw [sizeLine_eq]; lia))
  refine wpAny_bind (wpAny_newList ?_ (by rw [sizeLine_eq]; lia))
  have hsz : ((s.heap.push (seqObj "list" #[] 0)).update s.heap.objs.size (Obj.mapSeq (· ++ vs.toArray))).objs.size = s.heap.objs.size + 1 := by
    rw [Heap.size_update, size_push']
  obtain ⟨h1, hh1⟩ : ∃ x, x = ((s.heap.push (seqObj "list" #[] 0)).update s.heap.objs.size (Obj.mapSeq (· ++ vs.toArray))).push (seqObj "list" vs.toArray 0) := ⟨_, rfl⟩
  have hoL : h1.get? (s.heap.objs.size + 1) = some (seqObj "list" vs.toArray 0) := by
    rw [hh1, ← hsz]; exact Heap.get?_push_size _ rfl
  have hs1 : h1.objs.size = s.heap.objs.size + 2 := by rw [hh1, size_push', hsz]
  have keep : ∀ b o, s.heap.get? b = some o → h1.get? b = some o := fun b o q => by
    have hlt : b < s.heap.objs.size := Heap.lt_size q
    rw [hh1, Heap.get?_push_ne _ _ _ (by rw [hsz]; exact Nat.ne_of_lt (Nat.lt_succ_of_lt hlt)), Heap.get?_update_ne _ _ _ _ (Nat.ne_of_lt hlt), Heap.get?_push_ne _ _ _ (Nat.ne_of_lt hlt)]
    exact q
  show wpAny _ _ _ _ _ { s with heap := ((s.heap.push (seqObj "list" #[] 0)).update s.heap.objs.size (Obj.mapSeq (· ++ vs.toArray))).push (seqObj "list" vs.toArray 0) }
  rw [hsz, ← hh1]
  refine wpAny_bind (wpAny_holding (wpAny_call_entry_kw slot_list_sort ⟨_, hoL, rfl⟩ entry_list_sort ?body (ksk_l1 _ _)))
  case body =>
  rw [ksk_t1]
  obtain ⟨D, hD⟩ : ∃ D, D = s.heap.objs.size + 1 := ⟨_, rfl⟩
  rw [← hD] at hoL ⊢
  obtain ⟨e1, ho1⟩ : ∃ e1, (h1.update D (Obj.mapSeq fun _ => (#[] : Array Value))).get? D = some (seqObj "list" #[] e1) := ⟨_, get?_update_seq hoL fun _ => #[]⟩
  have sb1 := Heap.SameBut.update h1 D (Obj.mapSeq fun _ => (#[] : Array Value))
  have hkS : ((h1.update D (Obj.mapSeq fun _ => (#[] : Array Value))).push (seqObj "tuple" vs.toArray 0)).objs.size = s.heap.objs.size + 3 := by rw [size_push', Heap.size_update, hs1]
  unfold ksk_tree
  refine wpAny_bind (listItems_at hoL rfl ?_)
  refine wpAny_bind (listUpdate_at hoL rfl ?_ (by rw [List.size_toArray, sizeLine_eq]; lia) (Nat.zero_le _))
  refine wpAny_bind (seqEpoch_at ho1 rfl ?_)
  refine wpAny_bind (wpAny_newTuple ?_ (by show vs.length ≤ _; rw [sizeLine_eq]; lia))
  refine wpAny_bind (wpAny_newList ?_ (Nat.zero_le _))
  refine wpAny_holding ?_
  obtain ⟨h0, hh0⟩ : ∃ x, x = ((h1.update D (Obj.mapSeq fun _ => (#[] : Array Value))).push (seqObj "tuple" vs.toArray 0)).push (seqObj "list" #[] 0) := ⟨_, rfl⟩
  show wpAny X.M A.in1.in1 (ksk_rest D (.ref f) false vs.toArray e1 (.ref ((h1.update D (Obj.mapSeq fun _ => (#[] : Array Value))).push (seqObj "tuple" vs.toArray 0)).objs.size)) _ E { s with heap := ((h1.update D (Obj.mapSeq fun _ => (#[] : Array Value))).push (seqObj "tuple" vs.toArray 0)).push (seqObj "list" #[] 0) }
  obtain ⟨kS, hkSe⟩ : ∃ kS, kS = s.heap.objs.size + 3 := ⟨_, rfl⟩
  have hk0 : h0.get? kS = some (seqObj "list" #[] 0) := by rw [hh0, hkSe, ← hkS]; exact Heap.get?_push_size _ rfl
  have ha0 : h0.get? D = some (seqObj "list" #[] e1) := by rw [hh0]; exact Heap.get?_push_of_some _ (Heap.get?_push_of_some _ ho1)
  have keep0 : ∀ b o, s.heap.get? b = some o → h0.get? b = some o := fun b o e => by
    have hlt : b < s.heap.objs.size := Heap.lt_size e
    rw [hh0]
    exact Heap.get?_push_of_some _ (Heap.get?_push_of_some _ ((sb1.2 b (by lia)).trans (keep b o e)))
  have hs0 : s.heap.objs.size ≤ h0.objs.size := by rw [hh0, size_push', hkS]; lia
  rw [hkS, ← hkSe, ← hh0]
  have oD := new_out a (b := D) (by lia)
  have oK := new_out a (b := kS) (by lia)
  have hDK : kS ≠ D := by lia
  have kv0 : KeepV s.heap h0 := fun b o e _ => keep0 b o e
  clear hh0 hkS ho1 sb1 hoL keep hs1 hh1 hsz
  have a0 : At X σ { s with heap := h0 } := ⟨fun b o e => keep0 b o (a.keep b o e), fun b ao e => (a.rep b ao e).mono kv0 fun o ho => keep0 b o ho, a.own, a.gens, a.os⟩
  have st0 : Step (fun b => b = D ∨ b = kS) σ s σ { s with heap := h0 } := ⟨fun b o e _ _ => keep0 b o e, fun b h1 h2 => absurd h2 h1, hs0⟩
  have noSt : ∀ {o : Obj} {b : Array Value} {e : Nat}, o = seqObj "list" b e → ¬ Stays o := by
    rintro o b e rfl (⟨h, _⟩ | ⟨h, _⟩ | ⟨c, vs, h, _⟩)
    · simp [seqObj] at h
    · simp [seqObj] at h
    · simp [seqObj] at h
  unfold ksk_rest
  refine wpAny_bind (wpAny_rule ?_)
  first
    | rw [List.forIn_toArray]
    | (rw [← Array.forIn_toList]; simp only [List.toList_toArray])
    | rw [← Array.forIn_toList]
  refine wpAny_bind (ksk_fold (fun j s' => ∃ kA e, At X σ s' ∧ Step (fun b => b = D ∨ b = kS) σ s σ s' ∧ KeepV s.heap s'.heap ∧ s'.heap.get? kS = some (seqObj "list" kA e) ∧ s'.heap.get? D = some (seqObj "list" #[] e1) ∧ RepVs s'.heap ((xs.take j).map key) kA.toList) vs 0 _
    ⟨#[], 0, a0, st0, kv0, hk0, ha0, .nil⟩ ?step ?done)
  case step =>
    rintro j v s' hv ⟨kA, e, a', st', kv', hk', ha', rk⟩
    simp only [Nat.zero_add] at rk ⊢
    have hj : j < vs.length := (List.getElem?_eq_some_iff.mp hv).1
    have hjx : j < xs.length := by lia
    obtain ⟨x, hx⟩ : ∃ x, xs[j]? = some x := ⟨_, List.getElem?_eq_getElem hjx⟩
    obtain ⟨v', hv', rx⟩ := rs.get hx
    rw [hv] at hv'
    cases hv'
    have hxm := List.mem_of_getElem? hx
    have hz : kA.size = j := by
      have h1 := rk.length
      simp only [List.length_map, List.length_take, Array.length_toList] at h1
      lia
    refine wpAny_bind (wpAny_attempt (wpAny_call (codeAny_mono (hk x hxm _ s' [v] L2 a' (.cons (rx.mono kv') .nil)) fun r s2 hr => ?_)))
    cases r with
    | error e => obtain ⟨c, σ', _, _, _, hF⟩ := hr; exact hF.elim
    | ok fl =>
      cases fl with
      | next => exact hr.elim
      | brk => exact hr.elim
      | cont => exact hr.elim
      | ret k =>
        obtain ⟨av, σ', rv, a2, st2, hav, hσ⟩ := hr
        subst hav hσ
        have kv2 := st2.keepV0 a'
        have hk2 := st2.keep kS _ hk' oK.1 (fun h => h)
        have ha2 := st2.keep D _ ha' oD.1 (fun h => h)
        have sb := Heap.SameBut.update s2.heap kS (Obj.mapSeq (·.push k))
        obtain ⟨c2, hc2⟩ : ∃ c2, (s2.heap.update kS (Obj.mapSeq (·.push k))).get? kS = some (seqObj "list" (kA.push k) c2) := ⟨_, get?_update_seq hk2 (·.push k)⟩
        have kv3 : KeepV s2.heap (s2.heap.update kS (Obj.mapSeq (·.push k))) := fun b o ho st => by
          by_cases hb : b = kS
          · subst hb; rw [hk2] at ho; exact absurd st (noSt (Option.some.inj ho).symm)
          · rw [sb.2 b hb]; exact ho
        try dsimp only
        refine wpAny_bind (listUpdate_at hk2 rfl ?_ (by rw [sizeLine_eq]; lia) (Nat.le_trans (Nat.le_of_eq (Array.size_push ..)) (by rw [sizeLine_eq]; lia)))
        refine wpAny_pure ⟨rfl, kA.push k, c2, At.aside a2 s2.toks oK.1 oK.2.1 (fun o ho => by rw [hk2] at ho; exact noSt (Option.some.inj ho).symm) sb, (st'.trans (st2.weaken fun _ h => h.elim)).trans (Step.aside s2.toks (.inr rfl) sb), fun b o ho st => kv3 _ _ (kv2 _ _ (kv' _ _ ho st) st) st, hc2, (sb.2 D hDK.symm).trans ha2, ?_⟩
        have ek : xs.take (j + 1) = xs.take j ++ [x] := by rw [List.take_add_one, hx]; simp
        rw [ek, List.map_append, Array.toList_push]
        exact ((rk.mono kv2).mono kv3).append (.cons (rv.mono kv3) .nil)
  case done =>
    rintro s' ⟨kA, e, a', st', kv', hk', ha', rk⟩
    have e3 : xs.take (0 + vs.length) = xs := List.take_of_length_le (by lia)
    rw [e3] at rk
    try dsimp only
    refine wpAny_bind (listItems_at hk' rfl ?_)
    have hks : kA.size = vs.length := by have h1 := rk.length; simp only [List.length_map, Array.length_toList] at h1; lia
    have rs' := rs.mono kv'
    have z := zip_all2 (key := key) rs' rk
    have ez : (kA.zip vs.toArray).toList = kA.toList.zip vs := ksk_zip kA vs
    rw [← ez] at z
    have uni : ∀ x ∈ xs, ∀ y ∈ xs, ∀ k, RepV s'.heap (key x) k → RepV s'.heap (key y) k → ρ x = ρ y := fun x hx y hy v rx ry => by
      obtain ⟨a1, b1, h1, h2, k1, k2, e1⟩ := hlt x hx y hy
      obtain ⟨a2, b2, h3, h4, k3, k4, e2⟩ := hlt y hy x hx
      obtain ⟨_, q1⟩ := h1.reads a' rx
      obtain ⟨_, q2⟩ := h2.reads a' ry
      obtain ⟨_, q3⟩ := h3.reads a' ry
      obtain ⟨_, q4⟩ := h4.reads a' rx
      have d1 := PySem.SeqAt.Reads.unique _ _ _ _ _ k1.1 q1 q2
      have d2 := PySem.SeqAt.Reads.unique _ _ _ _ _ k1.1 q1 q3
      have d3 := PySem.SeqAt.Reads.unique _ _ _ _ _ k1.1 q1 q4
      subst d1; subst d2; subst d3
      rw [e1] at e2
      have := Option.some.inj e2
      rw [decide_eq_decide] at this
      lia
    obtain ⟨ρK, hρ⟩ : ∃ ρK : Value → Nat, ∀ x ∈ xs, ∀ k, RepV s'.heap (key x) k → ρK k = ρ x := by
      refine ⟨fun v => if h : ∃ x, x ∈ xs ∧ RepV s'.heap (key x) v then ρ (choose h) else 0, fun x hx v rx => ?_⟩
      have h : ∃ x, x ∈ xs ∧ RepV s'.heap (key x) v := ⟨x, hx, rx⟩
      simp only [dif_pos h]
      exact uni _ (choose_spec h).1 x hx v (choose_spec h).2 rx
    clear uni
    -- the tail: any order of the pairs that is sorted
    have tail : ∀ st : SortSt, (arrOf st).Perm (kA.zip vs.toArray) → failedOf st = none → ((arrOf st).toList.Pairwise fun x y => ρK x.1 ≤ ρK y.1) →
        wpAny X.M A.in1.in1 (ksk_tail D false e1 (.ref kS) st) (fun fin s'' => ∃ v, fin = .done (.ret v) ∧ wpAny X.M A.in1 (do ret (.ref D)) (fun fin s'' => ∃ v, fin = .done (.ret v) ∧ liftQ X σ s Q v s'') E s'') E s' := by
      intro st hp hf hs
      obtain ⟨ys, hy1, hy2⟩ := z.perm (Array.perm_iff_toList_perm.mp hp)
      have hys : ys.Pairwise fun x y => ρ x ≤ ρ y := hy2.pair (fun y hy pp hpp => hρ y (hy1.mem_iff.mp hy) _ hpp.2) hs
      have s1 := Heap.SameBut.update s'.heap kS (Obj.mapSeq fun _ => (#[] : Array Value))
      have na1 : (s'.heap.update kS (Obj.mapSeq fun _ => (#[] : Array Value))).get? D = some (seqObj "list" #[] e1) := (s1.2 D hDK.symm).trans ha'
      have s2 := Heap.SameBut.update (s'.heap.update kS (Obj.mapSeq fun _ => (#[] : Array Value))) D (Obj.mapSeq fun _ => (arrOf st).map (·.2))
      obtain ⟨c2, hc2⟩ : ∃ c2, ((s'.heap.update kS (Obj.mapSeq fun _ => (#[] : Array Value))).update D (Obj.mapSeq fun _ => (arrOf st).map (·.2))).get? D = some (seqObj "list" ((arrOf st).map (·.2)) c2) := ⟨_, get?_update_seq na1 fun _ => (arrOf st).map (·.2)⟩
      have hasz : ((arrOf st).map (·.2)).size = vs.length := by
        have h1 : (arrOf st).size = (kA.zip vs.toArray).size := hp.size_eq
        rw [Array.size_zip, hks, List.size_toArray] at h1
        rw [Array.size_map]; exact h1.trans (Nat.min_self _)
      unfold ksk_tail
      try dsimp only
      refine wpAny_bind (listUpdate_at hk' rfl ?_ (by rw [sizeLine_eq]; lia) (Nat.zero_le _))
      refine wpAny_bind (wpAny_letGo ?_)
      refine wpAny_bind (seqEpoch_at na1 rfl ?_)
      simp only [Bool.false_eq_true, if_false]
      refine wpAny_bind (listUpdate_at na1 rfl ?_ (Nat.zero_le _) (Nat.le_trans (Nat.le_of_eq hasz) (by rw [sizeLine_eq]; lia)))
      rw [hf]
      simp only [bne_self_eq_false, Bool.false_eq_true, if_false]
      refine wpAny_pure ⟨_, rfl, wpAny_pure ⟨_, rfl, ?_⟩⟩
      obtain ⟨H2, hH2⟩ : ∃ x, x = (s'.heap.update kS (Obj.mapSeq fun _ => (#[] : Array Value))).update D (Obj.mapSeq fun _ => (arrOf st).map (·.2)) := ⟨_, rfl⟩
      rw [← hH2] at hc2 s2 ⊢
      have same : ∀ b, b ≠ D → b ≠ kS → H2.get? b = s'.heap.get? b := fun b h1 h2 => (s2.2 b h1).trans (s1.2 b h2)
      have kv4 : KeepV s'.heap H2 := fun b o ho st => by
        rw [same b (fun e => by rw [e, ha'] at ho; exact absurd st (noSt (Option.some.inj ho).symm)) (fun e => by rw [e, hk'] at ho; exact absurd st (noSt (Option.some.inj ho).symm))]
        exact ho
      refine ⟨.ref D, σ.set D (.list ys), .ref _, ⟨fun b o e => ?_, fun b ao e => ?_, fun b ao e hro => ?_, a'.gens, a'.os⟩, ⟨fun b o e hb _ => ?_, fun b h1 h2 => ?_, ?_⟩, q ys hy1 hys D oD.1⟩
      · show H2.get? b = _
        rw [same b (fun q => by rw [q, oD.2.1] at e; cases e) (fun q => by rw [q, oK.2.1] at e; cases e)]
        exact a'.keep b o e
      · by_cases hb : b = D
        · subst hb; rw [AHeap.set_self] at e; cases e
          refine ⟨((arrOf st).map (·.2)).toList, c2, by
            unfold listObj
            rw [Array.toArray_toList]; exact hc2, ?_, by rw [hy1.length_eq]; exact hm⟩
          have := (all2_rep hy2).mono kv4
          rwa [← Array.toList_map] at this
        · rw [AHeap.set_ne _ _ hb] at e
          have hbk : b ≠ kS := fun q => by rw [q, oK.1] at e; cases e
          exact (a'.rep b ao e).mono kv4 fun o ho => by rw [same b hb hbk]; exact ho
      · by_cases hb : b = D
        · subst hb; exact oD.2.1
        · rw [AHeap.set_ne _ _ hb] at e; exact a'.own b ao e hro
      · have hlt : b < s.heap.objs.size := Heap.lt_size e
        show H2.get? b = _
        rw [same b (by lia) (by lia)]
        exact st'.keep b o e hb (by rintro (h | h) <;> lia)
      · by_cases hb : b = D
        · lia
        · rw [AHeap.set_ne _ _ hb] at h1; exact absurd h2 h1
      · show _ ≤ H2.objs.size
        rw [hH2, Heap.size_update, Heap.size_update]; exact st'.size
    unfold ksk_end
    try dsimp only
    simp only [Bool.false_eq_true, if_false]
    by_cases h2 : vs.toArray.size < 2
    · rw [if_pos h2, if_pos h2]
      refine wpAny_bind (wpAny_pure ?_)
      rw [StateT.run_pure]
      refine wpAny_bind (wpAny_pure ?_)
      try dsimp only
      refine tail (SortSt.mk' general' (kA.zip vs.toArray) #[] 7 none) (.refl _) rfl ?_
      show (kA.zip vs.toArray).toList.Pairwise _
      have : (kA.zip vs.toArray).toList.length < 2 := by rw [ez, List.length_zip, Array.length_toList, hks, Nat.min_self]; simpa using h2
      generalize (kA.zip vs.toArray).toList = l at this
      match l, this with
      | [], _ => exact .nil
      | [x], _ => exact List.pairwise_singleton _ _
      | _ :: _ :: _, h => simp only [List.length_cons] at h; lia
    · rw [if_neg h2, if_neg h2]
      have h3 : 2 ≤ vs.length := by simpa using h2
      have hzs : (kA.zip vs.toArray).size = vs.length := by rw [Array.size_zip, hks, List.size_toArray, Nat.min_self]
      obtain ⟨fs, f1, f2, f3⟩ := katTups_of (M := X.M) (T := .type "int") rk (fun x hx => by
        obtain ⟨y, hy, rfl⟩ := List.mem_map.mp hx
        obtain ⟨i, r, e⟩ := kd y hy
        refine ⟨_, r, e, fun v rv => ?_⟩
        cases rv; exact .now)
      have H : CmpOk X.prog X.w A.in1.in1 s' (tuples' true) (fun p => ρK p.1) (kA.zip vs.toArray) := fun p' q' hp' hq' Q' E' hQ => by
        obtain ⟨x, hx, rx⟩ := z.mem2 p' hp'
        obtain ⟨y, hy, ry⟩ := z.mem2 q' hq'
        refine tup_cmp a' (by rw [u1]; lia) rx.2 ry.2 (kd x hx) (kd y hy) (hlt x hx y hy) ?_
        rw [← hρ x hx _ rx.2, ← hρ y hy _ ry.2]
        exact hQ
      have hB : SB (tuples' true) (kA.zip vs.toArray) (SortSt.mk' (tuples' true) (kA.zip vs.toArray) #[] 7 none) := ⟨.refl _, rfl, rfl⟩
      have run := s_sortRuns (E := E) (Q := fun _ st' => (arrOf st').Perm (kA.zip vs.toArray) ∧ failedOf st' = none ∧ (arrOf st').toList.Pairwise (fun x y => ρK x.1 ≤ ρK y.1)) H hB rfl (by rw [hzs]; exact h3) (by rw [hzs, ← hlen]; exact hmx) fun st' hB' hs => ⟨hB'.perm, hB'.failed, by
        have := hB'.size
        exact srt_pair (ρ := fun p => ρK p.1) (by rw [this]; exact hs)⟩
      have kk := kat_kind (A := A.in1.in1) (E := E) (s := s') (Q := fun κ s'' => κ = tuples' true ∧ s'' = s') f1 (by rw [f2, Array.length_toList, hks]; lia) f3 (by decide) ⟨congrArg tuples' (show (Value.type "int" != Value.type "tuple") = true by decide), rfl⟩
      rw [Array.toArray_toList] at kk
      refine wpAny_bind (wpAny_mono kk (fun κ s'' hκ => ?_) fun _ _ e => e)
      obtain ⟨rfl, rfl⟩ := hκ
      refine wpAny_bind (wpAny_mono run (fun r s'' hr => ?_) fun _ _ e => e)
      obtain ⟨⟨⟩, st2⟩ := r
      obtain ⟨rfl, hp2, hf2, hs2⟩ := hr
      exact tail st2 hp2 hf2 hs2

/-- sorted(a list, key=a def) -/
inductive pSortF (X : Cx) (f : Addr) (d : Nat) : AV → Post → AHeap → Prop
  | mk {p : Addr} {xs : List AV} {Q : Post} {σ : AHeap} (key : AV → AV) (ρ : AV → Nat) (hd : d < 590) (hp : listAt p xs σ) (hmx : xs.length ≤ sortMax) (hk : ∀ x ∈ xs, CallOk X f (d + 1) [x] (fun k σ' => k = key x ∧ σ' = σ) (fun _ _ => False) σ)
    (kd : ∀ x ∈ xs, ∃ i r, key x = .tup (.int i :: r)) (hlt : ∀ x ∈ xs, ∀ y ∈ xs, LtAV σ (key x) (key y) (decide (ρ x < ρ y)))
    (q : ∀ ys : List AV, ys.Perm xs → ys.Pairwise (fun x y => ρ x ≤ ρ y) → ∀ r, σ r = none → Q (.ref r) (σ.set r (.list ys))) : pSortF X f d (.ref p) Q σ
def A.sortF (X : Cx) (f : Addr) (m : AE) : AE := fun d l Q Z σ => m d l (fun v σ1 => pSortF X f d v Q σ1) Z σ
section
variable {X : Cx} {K : Frag} {env : Env} {nm : List (Str × Nat)} {names : List (Str × NameKind)}
theorem w_sortF {e : Expr} {m : AE} {f : Addr} {kn : Str} {gp lp kp pos : Pos} (G : Gd X K) (E : EK env names) (hb : isBi K "sorted" (.builtin "sorted")) (hg : isGlob names "sorted" = true) (hgK : isGlob names kn = true) (hf : nsIn K mainGlobals kn = some (some (.ref f))) (hs : notStar e = true) (h : SoundE X env nm e m) :
    SoundE X env nm (.Call (.Name "sorted" gp) [e] [⟨some "key", .Name kn lp, kp⟩] pos) (A.sortF X f m) := fun d A l σ s Q Z L a F q => by
  show wpAny X.M A (do callWith pos (← eval (.Name "sorted" gp) env) [] (backTo pos (starEach [e] env)) (backToKw pos (keywordEach [⟨some "key", .Name kn lp, kp⟩] env))) _ _ s
  refine wpAny_bind (wp_builtin G.ok E.eo a (E.glob hg).1 (by decide) (G.none hb) (G.some hb) ?_)
  have he : backTo pos (starEach [e] env) = (false, eval e env) :: backTo pos (starEach [] env) := by rw [starEach_cons hs]; rfl
  refine callWith_kw ?_ he (by rw [he]; rfl)
  rw [he]
  refine Calls.spliced_cons (seqQ (h d A l σ s _ Z L a F q) fun av v σ1 s1 rv a1 st1 q1 => ?_)
  refine Calls.spliced_nil ?_
  refine kws_cons (wp_global G.ok E.eo a1 (E.glob hgK).1 (E.glob hgK).2 (mg_of G.inn G.ok.g hf) (kws_nil ?_))
  cases q1 with
  | mk key ρ hd hp hmx hk kd hlt q2 =>
    cases rv
    exact backQ st1 (sortF_call L hd a1 hp hmx hk kd hlt q2)
end
theorem q_sortF {X : Cx} {f : Addr} {m : AE} {d : Nat} {l : Loc} {Q : Post} {Z : XP} {σ : AHeap} (h : m d l (fun v σ1 => pSortF X f d v Q σ1) Z σ) : A.sortF X f m d l Q Z σ := h
end Mine

set_option Elab.async false
set_option maxRecDepth 1000000
set_option maxHeartbeats 8000000
set_option linter.unusedVariables false
set_option autoImplicit false
namespace Mine
open PySem PySem.W PySem.Calls PyProof.Rows
abbrev pw : Program := PySem.Challenge.pw_uf060002_04
abbrev rw_ : OpenLaw := PySem.Challenge.rw_uf060002_04
noncomputable def st (i : Nat) : Stmt := pw.main.body.getD i (.Pass ⟨0, 0, 0, 0⟩)
noncomputable def hK (P : Params) : Frag := [(3, ⟨.type "dict", none, .dict #[en P "__name__" 165 (.str "law_uf060002_04" 242), en P "__doc__" 166 (.none), en P "__package__" 167 (.none), en P "__loader__" 168 (.builtin "__main__.__loader__#opaque"), en P "__spec__" 169 (.none), en P "__annotations__" 170 (.ref 6), en P "__builtins__" 171 (.ref 4), en P "__file__" 173 (.str "/claim/cut.py" 172), en P "__cached__" 174 (.none), en P "entry_of" 197 (.ref 21), en P "MOST_BESIDE" 201 (.int 3 200), en P "is_rising" 210 (.ref 28), en P "marks_of" 216 (.ref 33), en P "fits" 222 (.ref 38), en P "rows_of" 228 (.ref 43), en P "by_size" 235 (.ref 50), en P "within" 241 (.ref 55), en P "_law_cell_at" 251 (.ref 62), en P "_law_entry" 260 (.ref 69), en P "_law_groups" 266 (.ref 74), en P "_law_chosen" 276 (.ref 81), en P "_law_rows_of" 288 (.ref 88), en P "_law_due" 294 (.ref 93), en P "_law_is_match" 302 (.ref 100), en P "law" 308 (.ref 105)] 25, #[]⟩), (20, ⟨.type "code", none, .fields #[.str "entry_of" 189, .str "entry_of" 190, .str "/claim/cut.py" 191, .int 2 0, .int 3 0, .int 0 0, .int 0 0, .int 3 0, .ref 15, .bool Bool.true, .int 181 0, .ref 16, .none, .ref 17, .ref 18, .ref 19, .int 195 0, .int 2 0, .str "/claim/cut.py" 196], #[]⟩), (21, fnO (st 1) (.str "tickoff.entries" 187) (.ref 20)), (27, ⟨.type "code", none, .fields #[.str "is_rising" 202, .str "is_rising" 203, .str "/claim/cut.py" 204, .int 8 0, .int 2 0, .int 0 0, .int 0 0, .int 3 0, .ref 22, .bool Bool.true, .int 181 0, .ref 23, .none, .ref 24, .ref 25, .ref 26, .int 208 0, .int 8 0, .str "/claim/cut.py" 209], #[]⟩), (28, fnO (st 4) (.str "tickoff.matching" 198) (.ref 27)), (32, ⟨.type "code", none, .fields #[.str "marks_of" 211, .str "marks_of" 212, .str "/claim/cut.py" 213, .int 15 0, .int 1 0, .int 0 0, .int 0 0, .int 3 0, .ref 29, .bool Bool.true, .int 181 0, .ref 30, .none, .none, .none, .ref 31, .int 214 0, .int 15 0, .str "/claim/cut.py" 215], #[]⟩), (33, fnO (st 5) (.str "tickoff.matching" 198) (.ref 32)), (37, ⟨.type "code", none, .fields #[.str "fits" 217, .str "fits" 218, .str "/claim/cut.py" 219, .int 17 0, .int 4 0, .int 0 0, .int 0 0, .int 3 0, .ref 34, .bool Bool.true, .int 181 0, .ref 35, .none, .none, .none, .ref 36, .int 220 0, .int 17 0, .str "/claim/cut.py" 221], #[]⟩), (38, fnO (st 6) (.str "tickoff.matching" 198) (.ref 37)), (42, ⟨.type "code", none, .fields #[.str "rows_of" 223, .str "rows_of" 224, .str "/claim/cut.py" 225, .int 28 0, .int 2 0, .int 0 0, .int 0 0, .int 3 0, .ref 39, .bool Bool.true, .int 181 0, .ref 40, .none, .none, .none, .ref 41, .int 226 0, .int 28 0, .str "/claim/cut.py" 227], #[]⟩), (43, fnO (st 7) (.str "tickoff.matching" 198) (.ref 42)), (49, ⟨.type "code", none, .fields #[.str "by_size" 229, .str "by_size" 230, .str "/claim/cut.py" 231, .int 36 0, .int 1 0, .int 0 0, .int 0 0, .int 3 0, .ref 44, .bool Bool.true, .int 181 0, .ref 45, .none, .ref 46, .ref 47, .ref 48, .int 233 0, .int 36 0, .str "/claim/cut.py" 234], #[]⟩), (50, fnO (st 8) (.str "tickoff.matching" 198) (.ref 49)), (54, ⟨.type "code", none, .fields #[.str "within" 236, .str "within" 237, .str "/claim/cut.py" 238, .int 38 0, .int 4 0, .int 0 0, .int 0 0, .int 3 0, .ref 51, .bool Bool.true, .int 181 0, .ref 52, .none, .none, .none, .ref 53, .int 239 0, .int 38 0, .str "/claim/cut.py" 240], #[]⟩), (55, fnO (st 9) (.str "tickoff.matching" 198) (.ref 54)), (61, ⟨.type "code", none, .fields #[.str "_law_cell_at" 244, .str "_law_cell_at" 245, .str "/claim/cut.py" 246, .int 49 0, .int 2 0, .int 0 0, .int 0 0, .int 3 0, .ref 56, .bool Bool.true, .int 181 0, .ref 57, .none, .ref 58, .ref 59, .ref 60, .int 249 0, .int 49 0, .str "/claim/cut.py" 250], #[]⟩), (62, fnO (st 11) (.str "law_uf060002_04" 242) (.ref 61)), (68, ⟨.type "code", none, .fields #[.str "_law_entry" 252, .str "_law_entry" 253, .str "/claim/cut.py" 254, .int 53 0, .int 3 0, .int 0 0, .int 0 0, .int 3 0, .ref 63, .bool Bool.true, .int 181 0, .ref 64, .none, .ref 65, .ref 66, .ref 67, .int 258 0, .int 53 0, .str "/claim/cut.py" 259], #[]⟩), (69, fnO (st 12) (.str "law_uf060002_04" 242) (.ref 68)), (73, ⟨.type "code", none, .fields #[.str "_law_groups" 261, .str "_law_groups" 262, .str "/claim/cut.py" 263, .int 55 0, .int 3 0, .int 0 0, .int 0 0, .int 3 0, .ref 70, .bool Bool.true, .int 181 0, .ref 71, .none, .none, .none, .ref 72, .int 264 0, .int 55 0, .str "/claim/cut.py" 265], #[]⟩), (74, fnO (st 13) (.str "law_uf060002_04" 242) (.ref 73)), (80, ⟨.type "code", none, .fields #[.str "_law_chosen" 267, .str "_law_chosen" 268, .str "/claim/cut.py" 269, .int 64 0, .int 2 0, .int 0 0, .int 0 0, .int 3 0, .ref 75, .bool Bool.true, .int 181 0, .ref 76, .none, .ref 77, .ref 78, .ref 79, .int 274 0, .int 64 0, .str "/claim/cut.py" 275], #[]⟩), (81, fnO (st 14) (.str "law_uf060002_04" 242) (.ref 80)), (87, ⟨.type "code", none, .fields #[.str "_law_rows_of" 277, .str "_law_rows_of" 278, .str "/claim/cut.py" 279, .int 71 0, .int 1 0, .int 0 0, .int 0 0, .int 3 0, .ref 82, .bool Bool.true, .int 181 0, .ref 83, .none, .ref 84, .ref 85, .ref 86, .int 286 0, .int 71 0, .str "/claim/cut.py" 287], #[]⟩), (88, fnO (st 15) (.str "law_uf060002_04" 242) (.ref 87)), (92, ⟨.type "code", none, .fields #[.str "_law_due" 289, .str "_law_due" 290, .str "/claim/cut.py" 291, .int 81 0, .int 4 0, .int 0 0, .int 0 0, .int 3 0, .ref 89, .bool Bool.true, .int 181 0, .ref 90, .none, .none, .none, .ref 91, .int 292 0, .int 81 0, .str "/claim/cut.py" 293], #[]⟩), (93, fnO (st 16) (.str "law_uf060002_04" 242) (.ref 92)), (99, ⟨.type "code", none, .fields #[.str "_law_is_match" 295, .str "_law_is_match" 296, .str "/claim/cut.py" 297, .int 93 0, .int 1 0, .int 0 0, .int 0 0, .int 3 0, .ref 94, .bool Bool.true, .int 181 0, .ref 95, .none, .ref 96, .ref 97, .ref 98, .int 300 0, .int 93 0, .str "/claim/cut.py" 301], #[]⟩), (100, fnO (st 17) (.str "law_uf060002_04" 242) (.ref 99)), (104, ⟨.type "code", none, .fields #[.str "law" 303, .str "law" 304, .str "/claim/cut.py" 305, .int 102 0, .int 1 0, .int 0 0, .int 0 0, .int 3 0, .ref 101, .bool Bool.true, .int 181 0, .ref 102, .none, .none, .none, .ref 103, .int 306 0, .int 102 0, .str "/claim/cut.py" 307], #[]⟩), (105, fnO (st 18) (.str "law_uf060002_04" 242) (.ref 104))]
noncomputable def hA : List Addr := [3, 20, 21, 27, 28, 32, 33, 37, 38, 42, 43, 49, 50, 54, 55, 61, 62, 68, 69, 73, 74, 80, 81, 87, 88, 92, 93, 99, 100, 104, 105]
noncomputable def qv : Program := { pw with main := { pw.main with body := [st 18] } }
noncomputable def lsv : List Str := [("entry_of" : Str), ("MOST_BESIDE" : Str), ("is_rising" : Str), ("marks_of" : Str), ("fits" : Str), ("rows_of" : Str), ("by_size" : Str), ("within" : Str), ("_law_cell_at" : Str), ("_law_entry" : Str), ("_law_groups" : Str), ("_law_chosen" : Str), ("_law_rows_of" : Str), ("_law_due" : Str), ("_law_is_match" : Str)]
noncomputable def hH : Hook := kHook hK hA (fun _ => by kernel_rfl)
noncomputable def hX (s : Shared) : Bool := xlAt qv [] s && recOk [] s
noncomputable def dL : DefRec × List (Str × Expr) := (defOf qv "law").get (by kernel_rfl)
theorem said : rw_.wellSaid = true := by
  rw [PySem.W.Fast.te9446332074065402090]
  kernel_rfl
theorem looks (w : World) (os : OsState) : (PySem.W.Fast.tw10110043849684766642 PySem.W.Fast.tw14364793385576792824 pw w 11 (some (.ref 6)) 0 600 (bootS w os) (topStub pw)).map (fun r => topLook pw qv lsv hX hH.obs w.params r.2.1.abs) = some (true, openGood qv lsv, hH.val w) := by kernel_rfl
theorem left : LeftO pw qv lsv hX hH.obs hH.val 600 := by
  refine left_once (by kernel_rfl) (by kernel_rfl) (fun s => by kernel_rfl) fun w os => ?_
  rw [PySem.W.Fast.te10110043849684766642, PySem.W.Fast.te14364793385576792824]
  exact looks w os
theorem hd (h : WalkO qv lsv (XL qv []) hH.says rw_.row.toRowW dL.1 dL.2 fun f vs => PySem.call f vs) : rw_.Holds := by
  refine holds_law said fun said' => ?_
  refine holds_open (q := qv) (loose := lsv) (Xt := hX) (XP := XL qv []) (Yf := hH.obs) (Ya := hH.val) (YP := hH.says) (N := 600) (d := dL.1) (kwd := dL.2) left hH.of hH.keeps (fun s e => xl_of s (Bool.and_eq_true_iff.mp e).1) XL.keeps (by kernel_rfl) (by kernel_rfl) (by kernel_rfl) (fun s e => recFacts_of (Bool.and_eq_true_iff.mp e).2) (by kernel_rfl) said' (by kernel_rfl) ⟨rfl, rfl, rfl, rfl, rfl, by decide +kernel⟩ ?hw h
  exact ⟨[.list []], by decide +kernel, by decide +kernel⟩
theorem dL_name : dL.1.name = "law" := by kernel_rfl
end Mine

set_option maxRecDepth 100000
set_option linter.unusedVariables false
set_option autoImplicit false
set_option linter.unusedSimpArgs false
set_option maxHeartbeats 8000000
set_option pp.deepTerms false
namespace Mine
open PySem PyProof.Rows PySem.SeqAt PySem.W
section
variable {X : Cx} {P : Params} {Q : Post} {Z : XP} {σ : AHeap} {d : Nat}
theorem bi_len : isBi (hK P) "len" (.builtin "len") := ⟨by kernel_rfl, by kernel_rfl, by decide⟩
theorem bi_range : isBi (hK P) "range" (.type "range") := ⟨by kernel_rfl, by kernel_rfl, by decide⟩
theorem bi_list : isBi (hK P) "list" (.type "list") := ⟨by kernel_rfl, by kernel_rfl, by decide⟩
theorem bi_tuple : isBi (hK P) "tuple" (.type "tuple") := ⟨by kernel_rfl, by kernel_rfl, by decide⟩
theorem bi_int : isBi (hK P) "int" (.type "int") := ⟨by kernel_rfl, by kernel_rfl, by decide⟩
theorem bi_bool : isBi (hK P) "bool" (.type "bool") := ⟨by kernel_rfl, by kernel_rfl, by decide⟩
theorem bi_isinstance : isBi (hK P) "isinstance" (.builtin "isinstance") := ⟨by kernel_rfl, by kernel_rfl, by decide⟩
theorem bi_sorted : isBi (hK P) "sorted" (.builtin "sorted") := ⟨by kernel_rfl, by kernel_rfl, by decide⟩

theorem bi_enumerate : isBi (hK P) "enumerate" (.type "enumerate") := ⟨by kernel_rfl, by kernel_rfl, by decide⟩
theorem bi_max : isBi (hK P) "max" (.builtin "max") := ⟨by kernel_rfl, by kernel_rfl, by decide⟩
theorem bi_min : isBi (hK P) "min" (.builtin "min") := ⟨by kernel_rfl, by kernel_rfl, by decide⟩
theorem bi_sum : isBi (hK P) "sum" (.builtin "sum") := ⟨by kernel_rfl, by kernel_rfl, by decide⟩
theorem cell_at_ok (G : Gd X (hK P)) (hd : d < 600) {p : Addr} {ns : List Int} {k : Int} (h0 : 0 ≤ k) (hp : listAt p (ns.map .int) σ) (q : Q (.int (ns.getD k.toNat 0)) σ) : CallOk X 62 d [.ref p, .int k] Q Z σ := by
  obtain ⟨k, rfl⟩ := Int.eq_ofNat_of_zero_le h0
  refine' callK (m := _) ["_law_script", "_law_k"] [("_law_script", 0), ("_law_k", 1)] G rfl rfl (bind2 fun a b => rfl) rfl rfl rfl rfl rfl rfl rfl rfl (fun env E => ?snd) hd rfl ?bd
  case snd =>
    repeat' first
      | ((with_reducible show SoundSs _ _ _ [] _); (with_reducible refine' sound_nil))
      | ((with_reducible show SoundSs _ _ _ (_ :: _) _); (with_reducible refine' sound_cons ?_ ?_))
      | ((with_reducible show SoundS _ _ _ (.If _ _ _ _) _); (with_reducible refine' sound_if ?_ ?_ ?_))
      | ((with_reducible show SoundS _ _ _ (.Return (some _) _) _); (with_reducible refine' sound_ret ?_))
      | ((with_reducible show SoundB _ _ _ (.Compare _ _ _ _) _); (with_reducible refine' soundB_cmp ?_ ?_))
      | ((with_reducible show SoundE _ _ _ (.Name _ _) _); (with_reducible refine' w_loc (by assumption) ?r1 ?r2 ?r3); (case r1 => exact rfl); (case r2 => exact rfl); (case r3 => exact rfl))
      | ((with_reducible show SoundE _ _ _ (.Constant (.int _) _ _) _); (with_reducible refine' sound_int))
      | ((with_reducible show SoundEs _ _ _ [] _); (with_reducible refine' w_es0))
      | ((with_reducible show SoundEs _ _ _ (_ :: _) _); (with_reducible refine' w_es1 ?r1 ?_ ?_); (case r1 => exact rfl))
      | ((with_reducible show SoundOps _ _ _ [_] _ _); (with_reducible refine' SoundOps.one ?_ ?r1); (case r1 => exact rfl))
      | ((with_reducible show SoundE _ _ _ (.Subscript _ _ _) _); (with_reducible refine' sound_idx ?_ ?_ ?r1); (case r1 => exact rfl))
      | ((with_reducible show SoundE _ _ _ (.Call (.Name "len" _) _ [] _) _); (with_reducible refine' w_len (by assumption) (by assumption) bi_len ?r1 ?_); (case r1 => exact rfl))
  repeat (first | with_reducible (first | refine q_consO fun S1 kn1 => ?_ | refine q_if ?_ | refine q_isB ?_ | refine q_cmp ?_ | refine q_chain1 ?_ | refine q_prim ?_ | refine q_ev1 ?_ | refine q_ev0 ?_) | ((with_reducible refine' q_loc ?e ?_); case e => rfl) | with_reducible (first | refine q_lt ?_ | refine q_lenLM (by assumption) ?_))
  split
  · rename_i hk
    have hk : k < ns.length := by simpa using hk
    have e : atIdx (ns.map AV.int) (k : Int) = some (.int (ns.getD k 0)) := by rw [at_nat]; simp [hk]
    repeat (first | with_reducible (first | refine q_consO fun S1 kn1 => ?_ | refine q_ret ?_ | refine q_idx ?_) | ((with_reducible refine' q_loc ?e ?_); case e => rfl) | with_reducible (first | refine q_retK (by assumption) ?_ | refine q_listIdx (by assumption) (by assumption) ?_))
    exact q
  · rename_i hk
    have hk : ns.length ≤ k := by simpa using hk
    have e : ns.getD k 0 = 0 := by simp [List.getD_eq_getElem?_getD, List.getElem?_eq_none hk]
    repeat (first | with_reducible (first | refine q_consO fun S1 kn1 => ?_ | refine q_ret ?_ | refine q_k ?_) | with_reducible (first | refine q_nil ?_ | refine q_next (by assumption) ?_ | refine q_retK (by assumption) ?_))
    rw [Int.toNat_natCast, e] at q; exact q

def ent (e : Int × Int) : AV := .tup [.int e.1, .int e.2]
def entL (es : List (Int × Int)) : List AV := es.map ent
def small (es : List (Int × Int)) : Prop := ∀ e ∈ es, e.2.natAbs ≤ 100000000000
theorem six (k : Nat) (h : k < 6) : ∃ c : Int, atIdx ([.int 1, .int 2, .int 3, .int 4, .int (-1), .int (-2)] : List AV) (k : Int) = some (.int c) ∧ c.natAbs ≤ 4 := by
  have e : ([.int 1, .int 2, .int 3, .int 4, .int (-1), .int (-2)] : List AV) = ([1, 2, 3, 4, -1, -2] : List Int).map .int := rfl
  have hl : k < ([1, 2, 3, 4, -1, -2] : List Int).length := h
  have hall : ∀ x ∈ ([1, 2, 3, 4, -1, -2] : List Int), x.natAbs ≤ 4 := by decide
  rw [at_nat, e, List.getElem?_map, List.getElem?_eq_getElem hl]
  exact ⟨_, rfl, hall _ (List.getElem_mem hl)⟩
theorem fmod_nat (x : Int) (n : Nat) (h : 0 < n) : ∃ k : Nat, x.fmod n = k ∧ k < n := by
  have h1 := Int.fmod_nonneg_of_pos x (b := n) (by lia); have h2 := Int.fmod_lt_of_pos x (b := n) (by lia)
  exact ⟨(x.fmod n).toNat, by lia, by lia⟩
theorem entry_ok (G : Gd X (hK P)) (hd : d < 600) {c dy sc : Int} (hdy : 0 < dy) (hs : 0 ≤ sc ∧ sc ≤ 100000001) (q : ∀ e σ', Ext σ σ' → 0 ≤ e.1 → e.2.natAbs ≤ 100000000000 → Q (ent e) σ') : CallOk X 69 d [.int c, .int dy, .int sc] Q Z σ := by
  refine' callK (m := _) ["_law_cell", "_law_days", "_law_scale"] [("_law_cell", 0), ("_law_days", 1), ("_law_scale", 2)] G rfl rfl (bind3 fun a b c => rfl) rfl rfl rfl rfl rfl rfl rfl rfl (fun env E => ?snd) hd rfl ?bd
  case snd =>
    repeat' first
      | ((with_reducible show SoundSs _ _ _ [] _); (with_reducible refine' sound_nil))
      | ((with_reducible show SoundSs _ _ _ (_ :: _) _); (with_reducible refine' sound_cons ?_ ?_))
      | ((with_reducible show SoundS _ _ _ (.Return (some _) _) _); (with_reducible refine' sound_ret ?_))
      | ((with_reducible show SoundE _ _ _ (.Name _ _) _); (with_reducible refine' w_loc (by assumption) ?r1 ?r2 ?r3); (case r1 => exact rfl); (case r2 => exact rfl); (case r3 => exact rfl))
      | ((with_reducible show SoundE _ _ _ (.Constant (.int _) _ _) _); (with_reducible refine' sound_int))
      | ((with_reducible show SoundE _ _ _ (.Tuple _ _ _) _); (with_reducible refine' sound_tup ?_))
      | ((with_reducible show SoundE _ _ _ (.List _ _) _); (with_reducible refine' sound_lst ?_))
      | ((with_reducible show SoundEs _ _ _ [] _); (with_reducible refine' w_es0))
      | ((with_reducible show SoundEs _ _ _ (_ :: _) _); (with_reducible refine' w_es1 ?r1 ?_ ?_); (case r1 => exact rfl))
      | ((with_reducible show SoundE _ _ _ (.BinOp _ _ _ _) _); (with_reducible refine' sound_bin ?_ ?_))
      | ((with_reducible show SoundE _ _ _ (.UnaryOp .USub _ _) _); (with_reducible refine' sound_neg ?_))
      | ((with_reducible show SoundE _ _ _ (.Subscript _ _ _) _); (with_reducible refine' sound_idx ?_ ?_ ?r1); (case r1 => exact rfl))
  repeat (first | with_reducible (first | refine q_consO fun S1 kn1 => ?_ | refine q_ret ?_ | refine q_ev1 ?_) | ((with_reducible refine' q_loc ?e ?_); case e => rfl) | with_reducible (first | refine q_tup ?_ | refine q_bin ?_))
  refine q_mod (by lia) ?_
  repeat (first | with_reducible (first | refine q_k ?_ | refine q_idx ?_ | refine q_ev1 ?_ | refine q_ev0 ?_) | with_reducible (first | refine q_bin ?_ | refine q_neg ?_ | refine q_exI ?_ | refine q_lst ?_) | ((with_reducible refine' q_tl ?e ?_); case e => rfl))
  refine alf fun σ1 r1 e1 hr1 l1 => ?_
  have k1 : listAt r1 _ σ1 := .inl l1
  obtain ⟨k, ek, hk⟩ := fmod_nat (c.fdiv 12) 6 (by lia)
  obtain ⟨c0, h1, h2⟩ := six k hk
  repeat (first | with_reducible (first | refine q_k ?_) | ((with_reducible refine' q_loc ?e ?_); case e => rfl) | with_reducible (first | refine q_bin ?_ | refine q_div (by decide) (by decide) ?_ | refine q_mod (by decide) ?_))
  have ek' : (c.fdiv 12).fmod 6 = (k : Int) := ek
  rw [ek']
  refine q_listIdx k1 h1 ?_
  repeat (first | ((with_reducible refine' q_loc ?e ?_); case e => rfl))
  refine q_mulL (i := c0) (by lia) ?_
  repeat (first | with_reducible (first | refine q_ev0 ?_) | with_reducible (first | refine q_retK (by assumption) ?_) | ((with_reducible refine' q_tl ?e ?_); case e => rfl))
  refine q (c.fmod dy, c0 * sc) σ1 e1 (Int.fmod_nonneg_of_pos c hdy) ?_
  show (c0 * sc).natAbs ≤ _
  rw [Int.natAbs_mul]
  have : sc.natAbs ≤ 100000001 := by lia
  calc c0.natAbs * sc.natAbs ≤ 4 * 100000001 := Nat.mul_le_mul h2 this
    _ ≤ _ := by decide

/-- rising, within 0 .. n - 1 -/
def Rise (ns : List Int) (n : Int) : Prop := ns.Pairwise (· < ·) ∧ ∀ p ∈ ns, 0 ≤ p ∧ p < n
theorem at_int {ns : List Int} {k : Nat} (h : k < ns.length) : atIdx (ns.map AV.int) (k : Int) = some (.int (ns.getD k 0)) := by rw [at_nat]; simp [h]
theorem getD_mem {ns : List Int} {k : Nat} (h : k < ns.length) : ns.getD k 0 ∈ ns := by
  have : ns.getD k 0 = ns[k] := by simp [List.getD_eq_getElem?_getD, h]
  rw [this]; exact List.getElem_mem h
theorem is_rising_ok (G : Gd X (hK P)) (hd : d < 600) {ns : List Int} {n : Int} (hl : ns.length ≤ 100) (hr : Rise ns n) (q : Q (.bool true) σ) : CallOk X 28 d [.tup (ns.map .int), .int n] Q Z σ := by
  refine' callK (m := _) ["places", "many"] [("places", 0), ("many", 1), ("k", 2)] G rfl rfl (bind2 fun a b => rfl) rfl rfl rfl rfl rfl rfl rfl rfl (fun env E => ?snd) hd rfl ?bd
  case snd =>
    repeat' first
      | ((with_reducible show SoundSs _ _ _ [] _); (with_reducible refine' sound_nil))
      | ((with_reducible show SoundSs _ _ _ (_ :: _) _); (with_reducible refine' sound_cons ?_ ?_))
      | ((with_reducible show SoundS _ _ _ (.If _ _ _ _) _); (with_reducible refine' sound_if ?_ ?_ ?_))
      | ((with_reducible show SoundS _ _ _ (.Return (some _) _) _); (with_reducible refine' sound_ret ?_))
      | ((with_reducible show SoundS _ _ _ (.For _ _ _ _ _) _); (with_reducible refine' w_for ?r1 ?_ ?_ ?_); (case r1 => exact rfl))
      | ((with_reducible show SoundT _ _ _ (.Name _ _) _); (with_reducible refine' w_tOne (by assumption) ?r1 ?r2); (case r1 => exact rfl); (case r2 => exact rfl))
      | ((with_reducible show SoundI _ _ _ _ _ _); (with_reducible refine' w_it ?_))
      | ((with_reducible show SoundB _ _ _ (.Compare _ _ _ _) _); (with_reducible refine' soundB_cmp ?_ ?_))
      | ((with_reducible show SoundB _ _ _ (.UnaryOp .Not _ _) _); (with_reducible refine' soundB_not ?_))
      | ((with_reducible show SoundB _ _ _ (.BoolOp .And _ _) _); (with_reducible refine' soundB_and ?_))
      | ((with_reducible show SoundE _ _ _ (.Name _ _) _); (with_reducible refine' w_loc (by assumption) ?r1 ?r2 ?r3); (case r1 => exact rfl); (case r2 => exact rfl); (case r3 => exact rfl))
      | ((with_reducible show SoundE _ _ _ (.Constant (.int _) _ _) _); (with_reducible refine' sound_int))
      | ((with_reducible show SoundE _ _ _ (.Constant (.bool _) _ _) _); (with_reducible refine' sound_bool))
      | ((with_reducible show SoundEs _ _ _ [] _); (with_reducible refine' w_es0))
      | ((with_reducible show SoundEs _ _ _ (_ :: _) _); (with_reducible refine' w_es1 ?r1 ?_ ?_); (case r1 => exact rfl))
      | ((with_reducible show SoundE _ _ _ (.Compare _ _ _ _) _); (with_reducible refine' sound_cmp ?_ ?_))
      | ((with_reducible show SoundOps _ _ _ [_] _ _); (with_reducible refine' SoundOps.one ?_ ?r1); (case r1 => exact rfl))
      | ((with_reducible show SoundOps _ _ _ (_ :: _ :: _) _ _); (with_reducible refine' SoundOps.cons ?_ ?_))
      | ((with_reducible show SoundE _ _ _ (.BinOp _ _ _ _) _); (with_reducible refine' sound_bin ?_ ?_))
      | ((with_reducible show SoundEBs _ _ _ [] _); (with_reducible refine' SoundEBs.nil))
      | ((with_reducible show SoundEBs _ _ _ (_ :: _) _); (with_reducible refine' SoundEBs.cons ?_ ?_ ?_))
      | ((with_reducible show SoundE _ _ _ (.Subscript _ _ _) _); (with_reducible refine' sound_idx ?_ ?_ ?r1); (case r1 => exact rfl))
      | ((with_reducible show SoundE _ _ _ (.Call (.Name "len" _) _ [] _) _); (with_reducible refine' w_len (by assumption) (by assumption) bi_len ?r1 ?_); (case r1 => exact rfl))
      | ((with_reducible show SoundE _ _ _ (.Call (.Name "range" _) _ [] _) _); (with_reducible refine' w_range (by assumption) (by assumption) bi_range ?r1 ?_); (case r1 => exact rfl))
  repeat (first | with_reducible (first | refine q_consO fun S1 kn1 => ?_ | refine q_prim ?_ | refine q_ev1 ?_ | refine q_ev0 ?_) | ((with_reducible refine' q_loc ?e ?_); case e => rfl) | with_reducible (first | refine q_lenTM ?_ | refine q_rng1 ?_ | refine q_fr ?_ | refine q_itP ?_ | refine q_itemsR (by omega) ?_))
  refine forL_range (fun k l σ' => σ' = σ ∧ ∃ v2, l = [some (.tup (ns.map .int)), some (.int n), v2]) ?_ ?_ ⟨rfl, none, rfl⟩
  · rintro k l σ' K hk ⟨rfl, v2, rfl⟩ hK
    refine ⟨_, rfl, ?_⟩
    have hat := at_int hk
    have hb := hr.2 _ (getD_mem hk)
    have hs : SeqOf σ' (.tup (ns.map .int)) (ns.map .int) := .inl rfl
    repeat (first | with_reducible (first | refine q_consO fun S1 kn1 => ?_ | refine q_if ?_ | refine q_k ?_ | refine q_idx ?_ | refine q_cmp ?_ | refine q_chain2 ?_ | refine q_exB ?_) | ((with_reducible refine' q_loc ?e ?_); case e => rfl) | with_reducible (first | refine q_not ?_ | refine q_le ?_ | refine q_idxS (by assumption) (by assumption) ?_))
    rw [decide_eq_true hb.1]
    repeat (first | with_reducible (first | refine q_isB ?_ | refine q_chain1 ?_ | refine q_exB ?_) | ((with_reducible refine' q_loc ?e ?_); case e => rfl) | with_reducible (first | refine q_lt ?_) | ((with_reducible refine' q_ifTc ?e ?_); case e => rfl))
    rw [decide_eq_true hb.2]
    repeat (first | with_reducible (first | refine q_consO fun S1 kn1 => ?_ | refine q_if ?_ | refine q_k ?_ | refine q_cmp ?_ | refine q_chain1 ?_ | refine q_exB ?_) | ((with_reducible refine' q_loc ?e ?_); case e => rfl) | with_reducible (first | refine q_nil ?_ | refine q_next (by assumption) ?_ | refine q_and ?_ | refine q_gt ?_) | ((with_reducible refine' q_ifFc ?e ?_); case e => rfl))
    split
    · rename_i h3
      have h3 : 0 < k := by simpa using h3
      have hat2 : atIdx (ns.map AV.int) ((k : Int) - 1) = some (.int (ns.getD (k - 1) 0)) := by rw [show (k : Int) - 1 = ((k - 1 : Nat) : Int) by lia]; exact at_int (by lia)
      have h4 : ¬ ns.getD k 0 ≤ ns.getD (k - 1) 0 := by
        have := List.pairwise_iff_getElem.mp hr.1 (k - 1) k (by lia) hk (by lia)
        have e1 : ns.getD k 0 = ns[k] := by simp [List.getD_eq_getElem?_getD, hk]
        have hk1 : k - 1 < ns.length := by lia
        have e2 : ns.getD (k - 1) 0 = ns[k - 1] := by simp [List.getD_eq_getElem?_getD, hk1]
        rw [e1, e2]; lia
      repeat (first | with_reducible (first | refine q_isB ?_ | refine q_k ?_ | refine q_idx ?_ | refine q_cmp ?_ | refine q_chain1 ?_) | ((with_reducible refine' q_loc ?e ?_); case e => rfl) | with_reducible (first | refine q_bin ?_ | refine q_and1 ?_ | refine q_le ?_ | refine q_sub ?_ | refine q_idxS (by assumption) (by assumption) ?_))
      rw [decide_eq_false h4]
      repeat (first | with_reducible (first | refine q_nil ?_ | refine q_next (by assumption) ?_) | ((with_reducible refine' q_ifFc ?e ?_); case e => rfl))
      exact ⟨trivial, hK _ _ ⟨rfl, _, rfl⟩⟩
    · rename_i h3
      repeat (first | with_reducible (first | refine q_isB ?_) | with_reducible (first | refine q_nil ?_ | refine q_next (by assumption) ?_) | ((with_reducible refine' q_ifFc ?e ?_); case e => rfl))
      exact ⟨trivial, hK _ _ ⟨rfl, _, rfl⟩⟩
  rintro l σ' ⟨rfl, v2, rfl⟩
  repeat (first | with_reducible (first | refine q_consO fun S1 kn1 => ?_ | refine q_ret ?_ | refine q_k ?_) | with_reducible (first | refine q_next (by assumption) ?_ | refine q_retK (by assumption) ?_))
  exact q
end
end Mine

set_option maxRecDepth 100000
set_option linter.unusedVariables false
set_option autoImplicit false
set_option linter.unusedSimpArgs false
set_option maxHeartbeats 8000000
set_option pp.deepTerms false
namespace Mine
open PySem PyProof.Rows PySem.SeqAt PySem.W
section
variable {X : Cx} {P : Params} {Q : Post} {Z : XP} {σ : AHeap} {d : Nat}
def markB (p : Int) : AV := .tup [.str "bank", .int p]
def markK (p : Int) : AV := .tup [.str "book", .int p]
theorem marks_of_ok (G : Gd X (hK P)) (hd : d < 600) {ms ns : List Int} (hm : ms.length ≤ 100) (hn : ns.length ≤ 100) (q : ∀ σ' r, Ext σ σ' → σ r = none → σ' r = some (.list (ms.map markB ++ ns.map markK)) → Q (.ref r) σ') :
    CallOk X 33 d [.tup [.tup (ms.map .int), .tup (ns.map .int)]] Q Z σ := by
  refine' callK (m := _) ["match"] [("match", 0)] G rfl rfl (bind1 fun a => rfl) rfl rfl rfl rfl rfl rfl rfl rfl (fun env E => ?snd) (by lia) rfl ?bd
  case snd =>
    repeat' first
      | ((with_reducible show SoundSs _ _ _ [] _); (with_reducible refine' sound_nil))
      | ((with_reducible show SoundSs _ _ _ (_ :: _) _); (with_reducible refine' sound_cons ?_ ?_))
      | ((with_reducible show SoundS _ _ _ (.Return (some _) _) _); (with_reducible refine' sound_ret ?_))
      | ((with_reducible show SoundC _ _ _ [] _); (with_reducible refine' w_cNone))
      | ((with_reducible show SoundTC _ _ _ (.Name _ _) _); (with_reducible refine' w_tcOne (by assumption) ?r1 ?r2); (case r1 => exact rfl); (case r2 => exact rfl))
      | ((with_reducible show SoundI _ _ _ _ _ _); (with_reducible refine' w_it ?_))
      | ((with_reducible show SoundE _ _ _ (.Name _ _) _); (with_reducible refine' w_loc (by assumption) ?r1 ?r2 ?r3); (case r1 => exact rfl); (case r2 => exact rfl); (case r3 => exact rfl))
      | ((with_reducible show SoundE _ _ _ (.Constant (.int _) _ _) _); (with_reducible refine' sound_int))
      | ((with_reducible show SoundE _ _ _ (.Constant (.str _) _ _) _); (with_reducible refine' sound_str))
      | ((with_reducible show SoundE _ _ _ (.Tuple _ _ _) _); (with_reducible refine' sound_tup ?_))
      | ((with_reducible show SoundEs _ _ _ [] _); (with_reducible refine' w_es0))
      | ((with_reducible show SoundEs _ _ _ (_ :: _) _); (with_reducible refine' w_es1 ?r1 ?_ ?_); (case r1 => exact rfl))
      | ((with_reducible show SoundE _ _ _ (.BinOp _ _ _ _) _); (with_reducible refine' sound_bin ?_ ?_))
      | ((with_reducible show SoundE _ _ _ (.Subscript _ _ _) _); (with_reducible refine' sound_idx ?_ ?_ ?r1); (case r1 => exact rfl))
      | ((with_reducible show SoundE _ _ _ (.ListComp _ _ _ _) _); (with_reducible refine' w_comp (by assumption) ?r1 ?r2 ?r3 ?_ (fun env' E' => ?_) (fun env' E' => ?_) (fun env' E' => ?_)); (case r1 => exact rfl); (case r2 => exact rfl); (case r3 => exact rfl))
  repeat (first | with_reducible (first | refine q_consO fun S1 kn1 => ?_ | refine q_ret ?_ | refine q_k ?_ | refine q_idx ?_) | ((with_reducible refine' q_loc ?e ?_); case e => rfl) | with_reducible (first | refine q_bin ?_ | refine q_lc ?_ | refine q_itP ?_ | refine q_itemsT ?_ | refine q_tupIdx rfl ?_))
  refine compL_map ms _ markB (fun p => [some (.tup [.tup (ms.map .int), .tup (ns.map .int)]), none, some (.int p)]) (fun x => rfl) (fun x y => rfl) ?_ trivial (by lia) ?_
  · intro p hp R hR
    repeat (first | with_reducible (first | refine q_k ?_ | refine q_ev1 ?_ | refine q_ev0 ?_) | ((with_reducible refine' q_loc ?e ?_); case e => rfl) | with_reducible (first | refine q_tup ?_) | ((with_reducible refine' q_tl ?e ?_); case e => rfl))
    exact hR
  refine alf fun σ1 r1 e1 hr1 l1 => ?_
  repeat (first | with_reducible (first | refine q_k ?_ | refine q_idx ?_) | ((with_reducible refine' q_loc ?e ?_); case e => rfl) | with_reducible (first | refine q_lc ?_ | refine q_itP ?_ | refine q_itemsT ?_ | refine q_tupIdx rfl ?_))
  refine compL_map ns _ markK (fun p => [some (.tup [.tup (ms.map .int), .tup (ns.map .int)]), none, some (.int p)]) (fun x => rfl) (fun x y => rfl) ?_ trivial (by lia) ?_
  · intro p hp R hR
    repeat (first | with_reducible (first | refine q_k ?_ | refine q_ev1 ?_ | refine q_ev0 ?_) | ((with_reducible refine' q_loc ?e ?_); case e => rfl) | with_reducible (first | refine q_tup ?_) | ((with_reducible refine' q_tl ?e ?_); case e => rfl))
    exact hR
  refine alf fun σ2 r2 e2 hr2 l2 => ?_
  refine addL_of (.inl (e2 _ _ l1)) (.inl l2) (by rw [List.length_map, List.length_map]; lia) fun σ3 r3 e3 hr3 l3 => ?_
  repeat (first | with_reducible (first | refine q_retK (by assumption) ?_))
  exact q _ _ (e1.trans (e2.trans e3)) ((e1.trans e2).none hr3) l3

theorem entry_of_ok (G : Gd X (hK P)) (hd : d < 600) {pb pk : Addr} {xs ys : List AV} {sd : Str} {k : Int} {e : AV} (hb : listAt pb xs σ) (hk : listAt pk ys σ) (hs : sd = "bank" ∧ atIdx xs k = some e ∨ sd = "book" ∧ atIdx ys k = some e)
    (q : Q e σ) : CallOk X 21 d [.ref pb, .ref pk, .tup [.str sd, .int k]] Q Z σ := by
  refine' callK (m := _) ["banks", "books", "mark"] [("banks", 0), ("books", 1), ("mark", 2)] G rfl rfl (bind3 fun a b c => rfl) rfl rfl rfl rfl rfl rfl rfl rfl (fun env E => ?snd) hd rfl ?bd
  case snd =>
    repeat' first
      | ((with_reducible show SoundSs _ _ _ [] _); (with_reducible refine' sound_nil))
      | ((with_reducible show SoundSs _ _ _ (_ :: _) _); (with_reducible refine' sound_cons ?_ ?_))
      | ((with_reducible show SoundS _ _ _ (.If _ _ _ _) _); (with_reducible refine' sound_if ?_ ?_ ?_))
      | ((with_reducible show SoundS _ _ _ (.Return (some _) _) _); (with_reducible refine' sound_ret ?_))
      | ((with_reducible show SoundB _ _ _ (.Compare _ _ _ _) _); (with_reducible refine' soundB_cmp ?_ ?_))
      | ((with_reducible show SoundE _ _ _ (.Name _ _) _); (with_reducible refine' w_loc (by assumption) ?r1 ?r2 ?r3); (case r1 => exact rfl); (case r2 => exact rfl); (case r3 => exact rfl))
      | ((with_reducible show SoundE _ _ _ (.Constant (.int _) _ _) _); (with_reducible refine' sound_int))
      | ((with_reducible show SoundE _ _ _ (.Constant (.str _) _ _) _); (with_reducible refine' sound_str))
      | ((with_reducible show SoundOps _ _ _ [_] _ _); (with_reducible refine' SoundOps.one ?_ ?r1); (case r1 => exact rfl))
      | ((with_reducible show SoundE _ _ _ (.Subscript _ _ _) _); (with_reducible refine' sound_idx ?_ ?_ ?r1); (case r1 => exact rfl))
  rcases hs with ⟨rfl, hs⟩ | ⟨rfl, hs⟩
  ·
    repeat (first | with_reducible (first | refine q_consO fun S1 kn1 => ?_ | refine q_ret ?_ | refine q_if ?_ | refine q_isB ?_ | refine q_k ?_ | refine q_idx ?_ | refine q_cmp ?_ | refine q_chain1 ?_) | ((with_reducible refine' q_loc ?e ?_); case e => rfl) | with_reducible (first | refine q_retK (by assumption) ?_ | refine q_tupIdx rfl ?_ | refine q_listIdx (by assumption) (by assumption) ?_) | ((with_reducible refine' q_eqS ?e1 ?e2 ?_); (case e1 => first | assumption | decide +kernel); (case e2 => first | assumption | decide +kernel)) | ((with_reducible refine' q_ifTc ?e ?_); case e => rfl))
    exact q
  ·
    repeat (first | with_reducible (first | refine q_consO fun S1 kn1 => ?_ | refine q_ret ?_ | refine q_if ?_ | refine q_isB ?_ | refine q_k ?_ | refine q_idx ?_ | refine q_cmp ?_ | refine q_chain1 ?_) | ((with_reducible refine' q_loc ?e ?_); case e => rfl) | with_reducible (first | refine q_nil ?_ | refine q_next (by assumption) ?_ | refine q_retK (by assumption) ?_ | refine q_tupIdx rfl ?_ | refine q_listIdx (by assumption) (by assumption) ?_) | ((with_reducible refine' q_eqS ?e1 ?e2 ?_); (case e1 => first | assumption | decide +kernel); (case e2 => first | assumption | decide +kernel)) | ((with_reducible refine' q_ifFc ?e ?_); case e => rfl))
    exact q

def dayAt (es : List (Int × Int)) (p : Int) : Int := (es.getD p.toNat (0, 0)).1
def centsAt (es : List (Int × Int)) (p : Int) : Int := (es.getD p.toNat (0, 0)).2
def spreadB (l : List Int) (span : Int) : Bool := l.all fun a => l.all fun b => decide (a - b ≤ span)
def daysOf (es fs : List (Int × Int)) (ms ns : List Int) : List Int := ms.map (dayAt es) ++ ns.map (dayAt fs)
theorem spread_eq {l : List Int} {M m span : Int} (h1 : M ∈ l) (h2 : ∀ a ∈ l, a ≤ M) (h3 : m ∈ l) (h4 : ∀ a ∈ l, m ≤ a) : decide (M - m ≤ span) = spreadB l span := by
  unfold spreadB
  by_cases h : M - m ≤ span
  · rw [decide_eq_true h]; symm
    rw [List.all_eq_true]; intro a ha
    rw [List.all_eq_true]; intro b hb
    have := h2 a ha; have := h4 b hb
    exact decide_eq_true (by lia)
  · rw [decide_eq_false h]; symm
    rw [List.all_eq_false]
    refine ⟨M, h1, ?_⟩
    rw [Bool.not_eq_true, List.all_eq_false]
    exact ⟨m, h3, by simpa using h⟩
theorem at_ent {es : List (Int × Int)} {p : Int} (h0 : 0 ≤ p) (h1 : p < es.length) : atIdx (entL es) p = some (.tup [.int (dayAt es p), .int (centsAt es p)]) := by
  obtain ⟨k, rfl⟩ := Int.eq_ofNat_of_zero_le h0
  have hk : k < es.length := by lia
  show atIdx (entL es) (k : Int) = _
  rw [at_nat]
  simp [entL, ent, dayAt, centsAt, hk]
theorem cents_small {es : List (Int × Int)} (h : small es) (p : Int) : (centsAt es p).natAbs ≤ 100000000000 := by
  unfold centsAt
  by_cases hk : p.toNat < es.length
  · have : es.getD p.toNat (0, 0) = es[p.toNat] := by simp [List.getD_eq_getElem?_getD, hk]
    rw [this]; exact h _ (List.getElem_mem hk)
  · have : es.getD p.toNat (0, 0) = (0, 0) := by simp [List.getD_eq_getElem?_getD, List.getElem?_eq_none (Nat.not_lt.mp hk)]
    rw [this]; decide
theorem sum_small {es : List (Int × Int)} (h : small es) {ms : List Int} (hl : ms.length ≤ 100) : PySem.SumFits (ms.map (centsAt es)) :=
  sumFits_of (by rw [List.length_map]; lia) fun a ha => by
    obtain ⟨p, _, rfl⟩ := List.mem_map.mp ha
    have := cents_small h p; lia

def unMk : AV → Mark
  | .tup [.str s, .int p] => (s, p)
  | _ => ("", 0)
def dayM (es fs : List (Int × Int)) (m : AV) : AV := .int (if (unMk m).1 = "bank" then dayAt es (unMk m).2 else dayAt fs (unMk m).2)
theorem dayM_b (es fs : List (Int × Int)) (p : Int) : dayM es fs (markB p) = .int (dayAt es p) := by
  show AV.int (if ("bank" : Str) = "bank" then dayAt es p else dayAt fs p) = _
  rw [if_pos rfl]
theorem dayM_k (es fs : List (Int × Int)) (p : Int) : dayM es fs (markK p) = .int (dayAt fs p) := by
  show AV.int (if ("book" : Str) = "bank" then dayAt es p else dayAt fs p) = _
  rw [if_neg (by rw [ne_bb]; exact id)]
/-- what is left to ask of a match of rising rows, one of one place -/
def fitB (es fs : List (Int × Int)) (span : Int) (ms ns : List Int) : Bool := ((ms.map (centsAt es)).sum == (ns.map (centsAt fs)).sum) && spreadB (daysOf es fs ms ns) span
theorem fits_ok (G : Gd X (hK P)) (hd : d < 599) {pb pk : Addr} {es fs : List (Int × Int)} {span : Int} {ms ns : List Int} (hb : listAt pb (entL es) σ) (hk : listAt pk (entL fs) σ) (se : small es) (sf : small fs)
    (h1 : min (ms.length : Int) ns.length = 1) (h2 : max (ms.length : Int) ns.length ≤ 3) (r1 : Rise ms es.length) (r2 : Rise ns fs.length)
    (q : ∀ σ', Ext σ σ' → Q (.bool (fitB es fs span ms ns)) σ') : CallOk X 38 d [.ref pb, .ref pk, .int span, .tup [.tup (ms.map .int), .tup (ns.map .int)]] Q Z σ := by
  refine' callK (m := _) ["banks", "books", "span", "match"] [("banks", 0), ("books", 1), ("span", 2), ("match", 3), ("few", 4), ("many", 5), ("days", 6)] G rfl rfl (bind4 fun a b c d => rfl) rfl rfl rfl rfl rfl rfl rfl rfl (fun env E => ?snd) (by lia) rfl ?bd
  case snd =>
    repeat' first
      | ((with_reducible show SoundSs _ _ _ [] _); (with_reducible refine' sound_nil))
      | ((with_reducible show SoundSs _ _ _ (_ :: _) _); (with_reducible refine' sound_cons ?_ ?_))
      | ((with_reducible show SoundS _ _ _ (.If _ _ _ _) _); (with_reducible refine' sound_if ?_ ?_ ?_))
      | ((with_reducible show SoundS _ _ _ (.Return (some _) _) _); (with_reducible refine' sound_ret ?_))
      | ((with_reducible show SoundS _ _ _ (.Assign [.Name _ _] (.ListComp _ _ _ _) _) _); (with_reducible refine' w_setComp (by assumption) ?r1 ?r2 ?r3 ?r4 ?r5 ?_ (fun env' E' => ?_) (fun env' E' => ?_) (fun env' E' => ?_)); (case r1 => exact rfl); (case r2 => exact rfl); (case r3 => exact rfl); (case r4 => exact rfl); (case r5 => exact rfl))
      | ((with_reducible show SoundS _ _ _ (.Assign [.Name _ _] _ _) _); (with_reducible refine' w_set (by assumption) ?r1 ?r2 ?_ ?r3); (case r1 => exact rfl); (case r2 => exact rfl); (case r3 => exact rfl))
      | ((with_reducible show SoundC _ _ _ [] _); (with_reducible refine' w_cNone))
      | ((with_reducible show SoundTC _ _ _ (.Name _ _) _); (with_reducible refine' w_tcOne (by assumption) ?r1 ?r2); (case r1 => exact rfl); (case r2 => exact rfl))
      | ((with_reducible show SoundI _ _ _ _ _ _); (with_reducible refine' w_it ?_))
      | ((with_reducible show SoundB _ _ _ (.Compare _ _ _ _) _); (with_reducible refine' soundB_cmp ?_ ?_))
      | ((with_reducible show SoundB _ _ _ (.UnaryOp .Not _ _) _); (with_reducible refine' soundB_not ?_))
      | ((with_reducible show SoundB _ _ _ (.BoolOp .Or _ _) _); (with_reducible refine' soundB_or ?_))
      | ((with_reducible show SoundB _ _ _ (_) _); (with_reducible refine' soundB_of ?_ ?r1); (case r1 => exact (fun _ => rfl)))
      | ((with_reducible show SoundE _ _ _ (.Name _ _) _); (with_reducible refine' w_loc (by assumption) ?r1 ?r2 ?r3); (case r1 => exact rfl); (case r2 => exact rfl); (case r3 => exact rfl))
      | ((with_reducible show SoundE _ _ _ (.Name _ _) _); (with_reducible refine' w_gint (by assumption) (by assumption) ?r1 ?r2); (case r1 => exact rfl); (case r2 => exact rfl))
      | ((with_reducible show SoundE _ _ _ (.Constant (.int _) _ _) _); (with_reducible refine' sound_int))
      | ((with_reducible show SoundE _ _ _ (.Constant (.bool _) _ _) _); (with_reducible refine' sound_bool))
      | ((with_reducible show SoundEs _ _ _ [] _); (with_reducible refine' w_es0))
      | ((with_reducible show SoundEs _ _ _ (_ :: _) _); (with_reducible refine' w_es1 ?r1 ?_ ?_); (case r1 => exact rfl))
      | ((with_reducible show SoundE _ _ _ (.Compare _ _ _ _) _); (with_reducible refine' sound_cmp ?_ ?_))
      | ((with_reducible show SoundOps _ _ _ [_] _ _); (with_reducible refine' SoundOps.one ?_ ?r1); (case r1 => exact rfl))
      | ((with_reducible show SoundE _ _ _ (.BinOp _ _ _ _) _); (with_reducible refine' sound_bin ?_ ?_))
      | ((with_reducible show SoundE _ _ _ (.UnaryOp .Not _ _) _); (with_reducible refine' sound_not ?_))
      | ((with_reducible show SoundEBs _ _ _ [] _); (with_reducible refine' SoundEBs.nil))
      | ((with_reducible show SoundEBs _ _ _ (_ :: _) _); (with_reducible refine' SoundEBs.cons ?_ ?_ ?_))
      | ((with_reducible show SoundE _ _ _ (.Subscript _ _ _) _); (with_reducible refine' sound_idx ?_ ?_ ?r1); (case r1 => exact rfl))
      | ((with_reducible show SoundE _ _ _ (.ListComp _ _ _ _) _); (with_reducible refine' w_comp (by assumption) ?r1 ?r2 ?r3 ?_ (fun env' E' => ?_) (fun env' E' => ?_) (fun env' E' => ?_)); (case r1 => exact rfl); (case r2 => exact rfl); (case r3 => exact rfl))
      | ((with_reducible show SoundE _ _ _ (.Call (.Name "len" _) _ [] _) _); (with_reducible refine' w_len (by assumption) (by assumption) bi_len ?r1 ?_); (case r1 => exact rfl))
      | ((with_reducible show SoundE _ _ _ (.Call (.Name "max" _) _ [] _) _); (with_reducible refine' w_prim (by assumption) (by assumption) bi_max ?r1 sound_max ?r2 ?_); (case r1 => exact (.inl ⟨_, rfl⟩)); (case r2 => exact rfl))
      | ((with_reducible show SoundE _ _ _ (.Call (.Name "min" _) _ [] _) _); (with_reducible refine' w_prim (by assumption) (by assumption) bi_min ?r1 sound_min ?r2 ?_); (case r1 => exact (.inl ⟨_, rfl⟩)); (case r2 => exact rfl))
      | ((with_reducible show SoundE _ _ _ (.Call (.Name "sum" _) _ [] _) _); (with_reducible refine' w_prim (by assumption) (by assumption) bi_sum ?r1 sound_sum ?r2 ?_); (case r1 => exact (.inl ⟨_, rfl⟩)); (case r2 => exact rfl))
      | ((with_reducible show SoundE _ _ _ (.Call (.Name _ _) _ [] _) _); (with_reducible refine' w_call (by assumption) (by assumption) ?r1 ?r2 ?r3 ?_); (case r1 => exact rfl); (case r2 => exact ⟨_, _, rfl, rfl⟩); (case r3 => exact rfl))
  have lb : (entL es).length = es.length := by simp [entL]
  have lk : (entL fs).length = fs.length := by simp [entL]
  have hm : ms.length ≤ 3 := by lia
  have hn : ns.length ≤ 3 := by lia
  repeat (first | with_reducible (first | refine q_consO fun S1 kn1 => ?_ | refine q_set ?_ | refine q_if ?_ | refine q_k ?_ | refine q_idx ?_ | refine q_cmp ?_ | refine q_chain1 ?_ | refine q_prim ?_ | refine q_ev1 ?_ | refine q_ev0 ?_ | refine q_exB ?_) | ((with_reducible refine' q_loc ?e ?_); case e => rfl) | with_reducible (first | refine q_next (by assumption) ?_ | refine q_or ?_ | refine q_lenTM ?_ | refine q_neI ?_ | refine q_max2 ?_ | refine q_min2 ?_ | refine q_tupIdx rfl ?_))
  rw [h1]
  repeat (first | with_reducible (first | refine q_isB ?_ | refine q_k ?_ | refine q_cmp ?_ | refine q_chain1 ?_) | ((with_reducible refine' q_loc ?e ?_); case e => rfl) | with_reducible (first | refine q_or1 ?_ | refine q_gt ?_) | ((with_reducible refine' q_ifFc ?e ?_); case e => rfl))
  rw [decide_eq_false (p := max (ms.length : Int) ns.length > 3) (by lia)]
  repeat (first | with_reducible (first | refine q_consO fun S1 kn1 => ?_ | refine q_if ?_ | refine q_k ?_ | refine q_idx ?_ | refine q_prim ?_ | refine q_ev1 ?_ | refine q_ev0 ?_ | refine q_callF ?_) | ((with_reducible refine' q_loc ?e ?_); case e => rfl) | with_reducible (first | refine q_nil ?_ | refine q_next (by assumption) ?_ | refine q_not ?_ | refine q_or ?_ | refine q_tupIdx rfl ?_ | refine q_lenEq (by assumption) (by assumption) ?_) | ((with_reducible refine' q_ifFc ?e ?_); case e => rfl))
  refine is_rising_ok G (by lia) (by lia) r1 ?_
  repeat (first | with_reducible (first | refine q_k ?_ | refine q_idx ?_ | refine q_prim ?_ | refine q_ev1 ?_ | refine q_ev0 ?_ | refine q_callF ?_ | refine q_exB ?_) | ((with_reducible refine' q_loc ?e ?_); case e => rfl) | with_reducible (first | refine q_not ?_ | refine q_or1 ?_ | refine q_tupIdx rfl ?_ | refine q_lenEq (by assumption) (by assumption) ?_) | ((with_reducible refine' q_ifFc ?e ?_); case e => rfl))
  refine is_rising_ok G (by lia) (by lia) r2 ?_
  have a1 : ∀ p ∈ ms, atIdx (entL es) p = some (.tup [.int (dayAt es p), .int (centsAt es p)]) := fun p hp => at_ent (r1.2 p hp).1 (r1.2 p hp).2
  have a2 : ∀ p ∈ ns, atIdx (entL fs) p = some (.tup [.int (dayAt fs p), .int (centsAt fs p)]) := fun p hp => at_ent (r2.2 p hp).1 (r2.2 p hp).2
  repeat (first | with_reducible (first | refine q_consO fun S1 kn1 => ?_ | refine q_if ?_ | refine q_isB ?_ | refine q_k ?_ | refine q_idx ?_ | refine q_cmp ?_ | refine q_prim ?_ | refine q_ev1 ?_ | refine q_exB ?_) | ((with_reducible refine' q_loc ?e ?_); case e => rfl) | with_reducible (first | refine q_nil ?_ | refine q_next (by assumption) ?_ | refine q_lc ?_ | refine q_itP ?_ | refine q_itemsT ?_ | refine q_tupIdx rfl ?_) | ((with_reducible refine' q_ifFc ?e ?_); case e => rfl))
  refine compL_map ms _ (fun p => .int (centsAt es p)) (fun p => [some (.ref pb), some (.ref pk), some (.int span), some (.tup [.tup (ms.map .int), .tup (ns.map .int)]), some (.int 1), some (.int (max (ms.length : Int) ns.length)), none, none, some (.int p)]) (fun x => rfl) (fun x y => rfl) ?_ trivial (by lia) ?_
  · intro p hp R hR
    have ap := a1 p hp
    repeat (first | with_reducible (first | refine q_k ?_ | refine q_idx ?_) | ((with_reducible refine' q_loc ?e ?_); case e => rfl) | with_reducible (first | refine q_tupIdx rfl ?_ | refine q_listIdx (by assumption) (by assumption) ?_))
    exact hR
  refine alf fun σ1 r1 e1 hr1 l1 => ?_
  have hb := e1.list hb
  have hk := e1.list hk
  repeat (first | with_reducible (first | refine q_ev0 ?_))
  refine q_sumL (ns := ms.map (centsAt es)) (.inl (by rw [l1, List.map_map]; rfl)) (sum_small se (by lia)) ?_
  repeat (first | with_reducible (first | refine q_k ?_ | refine q_idx ?_ | refine q_chain1 ?_ | refine q_prim ?_ | refine q_ev1 ?_) | ((with_reducible refine' q_loc ?e ?_); case e => rfl) | with_reducible (first | refine q_lc ?_ | refine q_itP ?_ | refine q_itemsT ?_ | refine q_tupIdx rfl ?_))
  refine compL_map ns _ (fun p => .int (centsAt fs p)) (fun p => [some (.ref pb), some (.ref pk), some (.int span), some (.tup [.tup (ms.map .int), .tup (ns.map .int)]), some (.int 1), some (.int (max (ms.length : Int) ns.length)), none, none, some (.int p)]) (fun x => rfl) (fun x y => rfl) ?_ trivial (by lia) ?_
  · intro p hp R hR
    have ap := a2 p hp
    repeat (first | with_reducible (first | refine q_k ?_ | refine q_idx ?_) | ((with_reducible refine' q_loc ?e ?_); case e => rfl) | with_reducible (first | refine q_tupIdx rfl ?_ | refine q_listIdx (by assumption) (by assumption) ?_))
    exact hR
  refine alf fun σ2 r2 e2 hr2 l2 => ?_
  have hb := e2.list hb
  have hk := e2.list hk
  have e02 := e1.trans e2
  repeat (first | with_reducible (first | refine q_ev0 ?_))
  refine q_sumL (ns := ns.map (centsAt fs)) (.inl (by rw [l2, List.map_map]; rfl)) (sum_small sf (by lia)) ?_
  repeat (first | with_reducible (first | refine q_isB ?_) | with_reducible (first | refine q_neI ?_))
  cases hs : ((ms.map (centsAt es)).sum == (ns.map (centsAt fs)).sum) with
  | false =>
    repeat (first | with_reducible (first | refine q_consO fun S1 kn1 => ?_ | refine q_ret ?_ | refine q_k ?_) | with_reducible (first | refine q_retK (by assumption) ?_) | ((with_reducible refine' q_ifTc ?e ?_); case e => rfl))
    have := q σ2 e02
    rwa [show fitB es fs span ms ns = false by unfold fitB; rw [hs]; rfl] at this
  | true =>
  repeat (first | with_reducible (first | refine q_consO fun S1 kn1 => ?_ | refine q_set ?_ | refine q_ev1 ?_ | refine q_ev0 ?_ | refine q_callF ?_) | ((with_reducible refine' q_loc ?e ?_); case e => rfl) | with_reducible (first | refine q_nil ?_ | refine q_next (by assumption) ?_ | refine q_lc ?_ | refine q_itP ?_) | ((with_reducible refine' q_ifFc ?e ?_); case e => rfl))
  refine marks_of_ok G (by lia) (by lia) (by lia) fun σ3 r3 e3 hr3 l3 => ?_
  have hb := e3.list hb
  have hk := e3.list hk
  have k3 : listAt r3 (ms.map markB ++ ns.map markK) σ3 := .inl l3
  repeat (first | with_reducible (first | refine q_itemsL (by assumption) ?_))
  refine compL_list (ms.map markB ++ ns.map markK) (dayM es fs)
    (fun m => [some (.ref pb), some (.ref pk), some (.int span), some (.tup [.tup (ms.map .int), .tup (ns.map .int)]), some (.int 1), some (.int (max (ms.length : Int) ns.length)), none, none, some m]) (fun x _ => rfl) (fun x _ y _ => rfl) ?_ k3 (by rw [List.length_append, List.length_map, List.length_map]; lia) ?_
  · intro m hmm R hR
    rcases List.mem_append.mp hmm with h | h <;> obtain ⟨p, hp, rfl⟩ := List.mem_map.mp h
    · rw [dayM_b] at hR
      unfold markB
      repeat (first | with_reducible (first | refine q_idx ?_ | refine q_ev1 ?_ | refine q_ev0 ?_ | refine q_callF ?_) | ((with_reducible refine' q_loc ?e ?_); case e => rfl))
      refine entry_of_ok G (by lia) hb hk (.inl ⟨rfl, a1 p hp⟩) ?_
      repeat (first | with_reducible (first | refine q_k ?_) | with_reducible (first | refine q_tupIdx rfl ?_))
      exact hR
    · rw [dayM_k] at hR
      unfold markK
      repeat (first | with_reducible (first | refine q_idx ?_ | refine q_ev1 ?_ | refine q_ev0 ?_ | refine q_callF ?_) | ((with_reducible refine' q_loc ?e ?_); case e => rfl))
      refine entry_of_ok G (by lia) hb hk (.inr ⟨rfl, a2 p hp⟩) ?_
      repeat (first | with_reducible (first | refine q_k ?_) | with_reducible (first | refine q_tupIdx rfl ?_))
      exact hR
  refine alf fun σ4 r4 e4 hr4 l4 => ?_
  have l4' : listAt r4 ((daysOf es fs ms ns).map .int) σ4 := .inl (by
    rw [l4]; unfold daysOf
    rw [List.map_append, List.map_append, List.map_map, List.map_map, List.map_map, List.map_map]
    exact congrArg (fun l => some (AO.list l)) (congr (congrArg _ (List.map_congr_left fun p _ => dayM_b es fs p)) (List.map_congr_left fun p _ => dayM_k es fs p)))
  have hne : daysOf es fs ms ns ≠ [] := by
    intro e
    have h0 : ms.length = 0 := by
      have := congrArg List.length e
      unfold daysOf at this
      simp at this; simp [this.1]
    have h9 : ns.length = 0 := by
      have := congrArg List.length e
      unfold daysOf at this
      simp at this; simp [this.2]
    lia
  repeat (first | with_reducible (first | refine q_consO fun S1 kn1 => ?_ | refine q_ret ?_ | refine q_cmp ?_ | refine q_prim ?_ | refine q_ev1 ?_ | refine q_ev0 ?_) | ((with_reducible refine' q_loc ?e ?_); case e => rfl) | with_reducible (first | refine q_next (by assumption) ?_ | refine q_bin ?_))
  refine q_maxL l4' hne fun M hM1 hM2 => ?_
  repeat (first | with_reducible (first | refine q_prim ?_ | refine q_ev1 ?_ | refine q_ev0 ?_) | ((with_reducible refine' q_loc ?e ?_); case e => rfl))
  refine q_minL l4' hne fun m hm1 hm2 => ?_
  repeat (first | with_reducible (first | refine q_chain1 ?_) | ((with_reducible refine' q_loc ?e ?_); case e => rfl) | with_reducible (first | refine q_retK (by assumption) ?_ | refine q_le ?_ | refine q_sub ?_))
  have := q σ4 (e02.trans (e3.trans e4))
  rw [spread_eq hM1 hM2 hm1 hm2]
  rwa [show fitB es fs span ms ns = spreadB (daysOf es fs ms ns) span by unfold fitB; rw [hs]; rfl] at this
end
end Mine

set_option maxRecDepth 100000
set_option linter.unusedVariables false
set_option autoImplicit false
set_option linter.unusedSimpArgs false
set_option maxHeartbeats 8000000
set_option pp.deepTerms false
namespace Mine
open PySem PyProof.Rows PySem.SeqAt PySem.W
/-! rows of places, in plain words -/
def lastLt (r : List Int) (p : Int) : Bool := match r.getLast? with | none => true | some q => decide (p > q)
def extR (ps : List Int) (r : List Int) : List (List Int) := (ps.filter (lastLt r)).map fun p => r ++ [p]
def rowsN (ps : List Int) : Nat → List (List Int)
  | 0 => [[]]
  | k + 1 => (rowsN ps k).flatMap (extR ps)
theorem extR_len {ps r : List Int} (h : ps.length ≤ 5) : (extR ps r).length ≤ 5 := by
  unfold extR
  rw [List.length_map]
  exact Nat.le_trans (List.length_filter_le ..) h
theorem flat_len {ps : List Int} (h : ps.length ≤ 5) : ∀ rs : List (List Int), (rs.flatMap (extR ps)).length ≤ rs.length * 5 := by
  intro rs
  induction rs with
  | nil => simp
  | cons r rs ih =>
    rw [List.flatMap_cons, List.length_append, List.length_cons]
    have := extR_len (r := r) h
    lia
theorem rowsN_len {ps : List Int} (h : ps.length ≤ 5) : ∀ k, (rowsN ps k).length ≤ 5 ^ k
  | 0 => Nat.le_refl _
  | k + 1 => by
    have h1 := flat_len h (rowsN ps k)
    have h2 := rowsN_len h k
    show ((rowsN ps k).flatMap (extR ps)).length ≤ _
    rw [Nat.pow_succ]
    lia
theorem mem_ext {ps r s : List Int} : s ∈ extR ps r ↔ ∃ p ∈ ps, lastLt r p = true ∧ s = r ++ [p] := by
  unfold extR
  rw [List.mem_map]
  constructor
  · rintro ⟨p, hp, rfl⟩; exact ⟨p, (List.mem_filter.mp hp).1, (List.mem_filter.mp hp).2, rfl⟩
  · rintro ⟨p, hp, hl, rfl⟩; exact ⟨p, List.mem_filter.mpr ⟨hp, hl⟩, rfl⟩
theorem rowsN_mem {ps : List Int} : ∀ {k : Nat} {r : List Int}, r ∈ rowsN ps k → r.length = k
  | 0, r, h => by
    have : r = [] := by simpa [rowsN] using h
    rw [this]; rfl
  | k + 1, r, h => by
    obtain ⟨r', h1, h2⟩ := List.mem_flatMap.mp h
    obtain ⟨p, _, _, rfl⟩ := mem_ext.mp h2
    rw [List.length_append, rowsN_mem h1]; rfl
def rowI (r : List Int) : AV := .tup (r.map .int)
def rowD (r : List Int) : PyData := .tuple (r.map .int)
section
variable {X : Cx} {P : Params} {Q : Post} {Z : XP} {σ : AHeap} {d : Nat}
theorem rd_rowI (r : List Int) : Rd σ (rowI r) (rowD r) := .tup (rdL_map (fun i => .int i) r)
theorem do_rowI (r : List Int) : DOk (rowD r) := ⟨by have := (dok_ints r).1; unfold rowD; simp only [PyData.canLay0] at this ⊢; exact this, by have := (dok_ints r).2; unfold rowD; simp only [PyData.depth] at this ⊢; exact this⟩
theorem eqv_nilT (ds : List PyData) : PyData.eqv (.tuple ds) (.tuple []) = ds.isEmpty := by
  cases ds <;> simp [PyData.eqv, PyData.eqvAll]
theorem at_last (xs : List AV) (x : AV) : atIdx (xs ++ [x]) (-1) = some x := by
  unfold atIdx
  have h1 : ¬ (0 : Int) ≤ -1 := by decide
  have h2 : -(((xs ++ [x]).length : Nat) : Int) ≤ -1 := by rw [List.length_append]; simp only [List.length_cons, List.length_nil]; lia
  have h3 : ((-1 : Int) + (((xs ++ [x]).length : Nat) : Int)).toNat = xs.length := by rw [List.length_append]; simp only [List.length_cons, List.length_nil]; lia
  rw [if_neg h1, if_pos h2, h3, List.getElem?_append_right (Nat.le_refl _)]; simp

theorem rows_of_ok (G : Gd X (hK P)) (hd : d < 600) {pp : Addr} {ps : List Int} {m : Nat} (hp : listAt pp (ps.map .int) σ) (hl : ps.length ≤ 5) (hm : m ≤ 3)
    (q : ∀ σ' r, Ext σ σ' → σ r = none → listAt r ((rowsN ps m).map rowI) σ' → Q (.ref r) σ') : CallOk X 43 d [.ref pp, .int m] Q Z σ := by
  refine' callK (m := _) ["places", "many"] [("places", 0), ("many", 1), ("rows", 2), ("turn", 3), ("longer", 4), ("row", 5)] G rfl rfl (bind2 fun a b => rfl) rfl rfl rfl rfl rfl rfl rfl rfl (fun env E => ?snd) hd rfl ?bd
  case snd =>
    repeat' first
      | ((with_reducible show SoundSs _ _ _ [] _); (with_reducible refine' sound_nil))
      | ((with_reducible show SoundSs _ _ _ (_ :: _) _); (with_reducible refine' sound_cons ?_ ?_))
      | ((with_reducible show SoundS _ _ _ (.Return (some _) _) _); (with_reducible refine' sound_ret ?_))
      | ((with_reducible show SoundS _ _ _ (.Assign [.Name _ _] _ _) _); (with_reducible refine' w_set (by assumption) ?r1 ?r2 ?_ ?r3); (case r1 => exact rfl); (case r2 => exact rfl); (case r3 => exact rfl))
      | ((with_reducible show SoundS _ _ _ (.For _ _ _ _ _) _); (with_reducible refine' w_for ?r1 ?_ ?_ ?_); (case r1 => exact rfl))
      | ((with_reducible show SoundC _ _ _ (_ :: _) _); (with_reducible refine' w_cSome ?_))
      | ((with_reducible show SoundT _ _ _ (.Name _ _) _); (with_reducible refine' w_tOne (by assumption) ?r1 ?r2); (case r1 => exact rfl); (case r2 => exact rfl))
      | ((with_reducible show SoundTC _ _ _ (.Name _ _) _); (with_reducible refine' w_tcOne (by assumption) ?r1 ?r2); (case r1 => exact rfl); (case r2 => exact rfl))
      | ((with_reducible show SoundI _ _ _ _ _ _); (with_reducible refine' w_it ?_))
      | ((with_reducible show SoundB _ _ _ (.Compare _ _ _ _) _); (with_reducible refine' soundB_cmp ?_ ?_))
      | ((with_reducible show SoundB _ _ _ (.BoolOp .Or _ _) _); (with_reducible refine' soundB_or ?_))
      | ((with_reducible show SoundE _ _ _ (.Name _ _) _); (with_reducible refine' w_loc (by assumption) ?r1 ?r2 ?r3); (case r1 => exact rfl); (case r2 => exact rfl); (case r3 => exact rfl))
      | ((with_reducible show SoundE _ _ _ (.Constant (.int _) _ _) _); (with_reducible refine' sound_int))
      | ((with_reducible show SoundE _ _ _ (.Tuple _ _ _) _); (with_reducible refine' sound_tup ?_))
      | ((with_reducible show SoundE _ _ _ (.List _ _) _); (with_reducible refine' sound_lst ?_))
      | ((with_reducible show SoundEs _ _ _ [] _); (with_reducible refine' w_es0))
      | ((with_reducible show SoundEs _ _ _ (_ :: _) _); (with_reducible refine' w_es1 ?r1 ?_ ?_); (case r1 => exact rfl))
      | ((with_reducible show SoundE _ _ _ (.Compare _ _ _ _) _); (with_reducible refine' sound_cmp ?_ ?_))
      | ((with_reducible show SoundOps _ _ _ [_] _ _); (with_reducible refine' SoundOps.one ?_ ?r1); (case r1 => exact rfl))
      | ((with_reducible show SoundE _ _ _ (.BinOp _ _ _ _) _); (with_reducible refine' sound_bin ?_ ?_))
      | ((with_reducible show SoundE _ _ _ (.UnaryOp .USub _ _) _); (with_reducible refine' sound_neg ?_))
      | ((with_reducible show SoundEBs _ _ _ [] _); (with_reducible refine' SoundEBs.nil))
      | ((with_reducible show SoundEBs _ _ _ (_ :: _) _); (with_reducible refine' SoundEBs.cons ?_ ?_ ?_))
      | ((with_reducible show SoundE _ _ _ (.Subscript _ _ _) _); (with_reducible refine' sound_idx ?_ ?_ ?r1); (case r1 => exact rfl))
      | ((with_reducible show SoundE _ _ _ (.ListComp _ _ _ _) _); (with_reducible refine' w_comp (by assumption) ?r1 ?r2 ?r3 ?_ (fun env' E' => ?_) (fun env' E' => ?_) (fun env' E' => ?_)); (case r1 => exact rfl); (case r2 => exact rfl); (case r3 => exact rfl))
      | ((with_reducible show SoundE _ _ _ (.Call (.Name "range" _) _ [] _) _); (with_reducible refine' w_range (by assumption) (by assumption) bi_range ?r1 ?_); (case r1 => exact rfl))
  repeat (first | with_reducible (first | refine q_consO fun S1 kn1 => ?_ | refine q_set ?_ | refine q_ev1 ?_ | refine q_ev0 ?_) | with_reducible (first | refine q_tup ?_ | refine q_lst ?_) | ((with_reducible refine' q_tl ?e ?_); case e => rfl))
  refine alf fun σ1 r1 e1 hr1 l1 => ?_
  repeat (first | with_reducible (first | refine q_consO fun S1 kn1 => ?_ | refine q_prim ?_ | refine q_ev1 ?_ | refine q_ev0 ?_) | ((with_reducible refine' q_loc ?e ?_); case e => rfl) | with_reducible (first | refine q_next (by assumption) ?_ | refine q_rng1 ?_ | refine q_fr ?_ | refine q_itP ?_ | refine q_itemsR (by omega) ?_))
  refine forL_range (fun k l σ' => Ext σ σ' ∧ ∃ (rr : Addr) (a3 a4 a5 : Option AV), σ rr = none ∧ listAt rr ((rowsN ps k).map rowI) σ' ∧ l = [some (.ref pp), some (.int m), some (.ref rr), a3, a4, a5]) ?_ ?_ ⟨e1, r1, _, _, _, hr1, .inl l1, rfl⟩
  · rintro k l σ' K hk ⟨e', rr, a3, a4, a5, hrr, lr, rfl⟩ hK
    refine ⟨_, rfl, ?_⟩
    have hrl : (rowsN ps k).length ≤ 125 := Nat.le_trans (rowsN_len hl k) (Nat.pow_le_pow_right (by decide) (by lia : k ≤ 3))
    repeat (first | with_reducible (first | refine q_consO fun S1 kn1 => ?_ | refine q_set ?_ | refine q_ev0 ?_) | with_reducible (first | refine q_lst ?_) | ((with_reducible refine' q_tl ?e ?_); case e => rfl))
    refine alf fun σ2 r2 e2 hr2 l2 => ?_
    have lr := e2.list lr
    repeat (first | with_reducible (first | refine q_consO fun S1 kn1 => ?_) | ((with_reducible refine' q_loc ?e ?_); case e => rfl) | with_reducible (first | refine q_next (by assumption) ?_ | refine q_fr ?_ | refine q_itP ?_ | refine q_itemsL (by assumption) ?_))
    refine forL_at _ (fun j l σ3 => Ext σ2 σ3 ∧ ∃ (ro : Addr) (a5 : Option AV), σ ro = none ∧ listAt ro ((((rowsN ps k).take j).flatMap (extR ps)).map rowI) σ3 ∧ l = [some (.ref pp), some (.int m), some (.ref rr), some (.int (k : Nat)), some (.ref ro), a5]) ?_ ?_ ⟨.refl _, r2, _, e'.none hr2, .inl l2, rfl⟩
    · rintro j x l σ3 K3 hx ⟨e3, ro, a5', hro, lo, rfl⟩ hK3
      rw [List.getElem?_map] at hx
      obtain ⟨r, hr, rfl⟩ := Option.map_eq_some_iff.mp hx
      refine ⟨_, rfl, ?_⟩
      have hp3 := ((e'.trans e2).trans e3).list hp
      have htk : ((rowsN ps k).take (j + 1)).flatMap (extR ps) = ((rowsN ps k).take j).flatMap (extR ps) ++ extR ps r := by rw [List.take_add_one, hr, List.flatMap_append]; simp
      have hflen : (((rowsN ps k).take j).flatMap (extR ps)).length ≤ 125 * 5 := by
        have h1 := flat_len hl ((rowsN ps k).take j)
        have h2 : ((rowsN ps k).take j).length ≤ 125 := Nat.le_trans (by rw [List.length_take]; lia) hrl
        lia
      repeat (first | with_reducible (first | refine q_consO fun S1 kn1 => ?_ | refine q_set ?_) | ((with_reducible refine' q_loc ?e ?_); case e => rfl) | with_reducible (first | refine q_bin ?_ | refine q_lc ?_ | refine q_itP ?_ | refine q_itemsL (by assumption) ?_))
      refine compLf_as ps (lastLt r) AV.int (fun p => rowI (r ++ [p])) (fun p => [some (.ref pp), some (.int m), some (.ref rr), some (.int (k : Nat)), some (.ref ro), some (rowI r), none, some (.int p)]) (fun x _ => rfl) (fun x _ y _ => rfl) ?_ ?_ hp3 (by lia) ?_
      · intro p hpp R hR
        repeat (first | with_reducible (first | refine q_cmp ?_ | refine q_chain1 ?_ | refine q_ev0 ?_) | ((with_reducible refine' q_loc ?e ?_); case e => rfl) | with_reducible (first | refine q_tup ?_ | refine q_or ?_) | ((with_reducible refine' q_tl ?e ?_); case e => rfl))
        refine q_eqD (rd_rowI r) (.tup .nil) (do_rowI r) ⟨by simp [PyData.canLay0, PyData.canLayAll0], by simp [PyData.depth, PyData.depthAll]⟩ ?_
        unfold rowD
        rw [eqv_nilT, List.isEmpty_map]
        rcases List.eq_nil_or_concat r with rfl | ⟨r0, z, rfl⟩
        ·
          repeat (first | with_reducible (first | refine q_isB ?_ | refine q_exB ?_) | ((with_reducible refine' q_ifTc ?e ?_); case e => rfl))
          exact hR
        · have hz : (r0 ++ [z]).isEmpty = false := by simp
          rw [List.concat_eq_append, hz]
          rw [List.concat_eq_append] at hR
          have ht : atIdx ((r0 ++ [z]).map AV.int) (-1) = some (.int z) := by rw [List.map_append]; exact at_last _ _
          have hll : lastLt (r0 ++ [z]) p = decide (p > z) := by unfold lastLt; simp
          rw [hll] at hR
          repeat (first | with_reducible (first | refine q_k ?_ | refine q_idx ?_ | refine q_cmp ?_ | refine q_chain1 ?_ | refine q_exB ?_) | ((with_reducible refine' q_loc ?e ?_); case e => rfl) | with_reducible (first | refine q_neg ?_ | refine q_or1 ?_ | refine q_exI ?_) | ((with_reducible refine' q_ifFc ?e ?_); case e => rfl))
          refine q_tupIdx ht ?_
          repeat (first | with_reducible (first | refine q_isB ?_) | with_reducible (first | refine q_gt ?_))
          exact hR
      · intro p hpp hlp R hR
        repeat (first | with_reducible (first | refine q_ev1 ?_ | refine q_ev0 ?_) | ((with_reducible refine' q_loc ?e ?_); case e => rfl) | with_reducible (first | refine q_tup ?_ | refine q_bin ?_) | ((with_reducible refine' q_tl ?e ?_); case e => rfl))
        unfold rowI
        skip
        have hrl2 : (r.map AV.int).length + [AV.int p].length ≤ 1000000 := by
          have := rowsN_mem (List.mem_of_getElem? hr)
          rw [List.length_map, List.length_cons, List.length_nil]
          lia
        refine q_addT hrl2 ?_
        skip
        rw [show r.map AV.int ++ [AV.int p] = (r ++ [p]).map AV.int by rw [List.map_append]; rfl]
        exact hR
      refine alf fun σ4 r4 e4 hr4 l4 => ?_
      refine addL_of (e4.list lo) (.inl l4) ?_ fun σ5 r5 e5 hr5 l5 => ?_
      · rw [List.length_map, List.length_map]
        have := extR_len (r := r) hl
        unfold extR at this
        rw [List.length_map] at this
        lia
      repeat (first | with_reducible (first | refine q_nil ?_ | refine q_next (by assumption) ?_))
      have e35 := e3.trans (e4.trans e5)
      refine ⟨e35.list lr, hK3 _ _ ⟨e35, r5, _, (e'.trans (e2.trans (e3.trans e4))).none hr5, .inl ?_, rfl⟩⟩
      rw [l5, htk, List.map_append]
      unfold extR
      rw [List.map_map]
      rfl
    · rintro l σ3 ⟨e3, ro, a5', hro, lo, rfl⟩
      rw [List.length_map, List.take_length] at lo
      repeat (first | with_reducible (first | refine q_consO fun S1 kn1 => ?_ | refine q_set ?_) | ((with_reducible refine' q_loc ?e ?_); case e => rfl) | with_reducible (first | refine q_nil ?_ | refine q_next (by assumption) ?_))
      exact ⟨trivial, hK _ _ ⟨(e'.trans e2).trans e3, ro, _, _, _, hro, lo, rfl⟩⟩
  rintro l σ' ⟨e', rr, a3, a4, a5, hrr, lr, rfl⟩
  repeat (first | with_reducible (first | refine q_consO fun S1 kn1 => ?_ | refine q_ret ?_) | ((with_reducible refine' q_loc ?e ?_); case e => rfl) | with_reducible (first | refine q_next (by assumption) ?_ | refine q_retK (by assumption) ?_))
  exact q _ _ e' hrr lr
theorem by_size_ok (G : Gd X (hK P)) (hd : d < 600) {ms ns : List Int} (q : Q (.tup [.int ((ms.length : Int) + ns.length), .tup [rowI ms, rowI ns]]) σ) : CallOk X 50 d [.tup [rowI ms, rowI ns]] Q Z σ := by
  refine' callK (m := _) ["match"] [("match", 0)] G rfl rfl (bind1 fun a => rfl) rfl rfl rfl rfl rfl rfl rfl rfl (fun env E => ?snd) hd rfl ?bd
  case snd =>
    repeat' first
      | ((with_reducible show SoundSs _ _ _ [] _); (with_reducible refine' sound_nil))
      | ((with_reducible show SoundSs _ _ _ (_ :: _) _); (with_reducible refine' sound_cons ?_ ?_))
      | ((with_reducible show SoundS _ _ _ (.Return (some _) _) _); (with_reducible refine' sound_ret ?_))
      | ((with_reducible show SoundE _ _ _ (.Name _ _) _); (with_reducible refine' w_loc (by assumption) ?r1 ?r2 ?r3); (case r1 => exact rfl); (case r2 => exact rfl); (case r3 => exact rfl))
      | ((with_reducible show SoundE _ _ _ (.Constant (.int _) _ _) _); (with_reducible refine' sound_int))
      | ((with_reducible show SoundE _ _ _ (.Tuple _ _ _) _); (with_reducible refine' sound_tup ?_))
      | ((with_reducible show SoundEs _ _ _ [] _); (with_reducible refine' w_es0))
      | ((with_reducible show SoundEs _ _ _ (_ :: _) _); (with_reducible refine' w_es1 ?r1 ?_ ?_); (case r1 => exact rfl))
      | ((with_reducible show SoundE _ _ _ (.BinOp _ _ _ _) _); (with_reducible refine' sound_bin ?_ ?_))
      | ((with_reducible show SoundE _ _ _ (.Subscript _ _ _) _); (with_reducible refine' sound_idx ?_ ?_ ?r1); (case r1 => exact rfl))
      | ((with_reducible show SoundE _ _ _ (.Call (.Name "len" _) _ [] _) _); (with_reducible refine' w_len (by assumption) (by assumption) bi_len ?r1 ?_); (case r1 => exact rfl))
  unfold rowI at q ⊢
  repeat (first | with_reducible (first | refine q_consO fun S1 kn1 => ?_ | refine q_ret ?_ | refine q_k ?_ | refine q_idx ?_ | refine q_prim ?_ | refine q_ev1 ?_ | refine q_ev0 ?_) | ((with_reducible refine' q_loc ?e ?_); case e => rfl) | with_reducible (first | refine q_retK (by assumption) ?_ | refine q_tup ?_ | refine q_bin ?_ | refine q_lenTM ?_ | refine q_add ?_ | refine q_tupIdx rfl ?_) | ((with_reducible refine' q_tl ?e ?_); case e => rfl))
  exact q
end
end Mine

set_option maxRecDepth 100000
set_option linter.unusedVariables false
set_option autoImplicit false
set_option linter.unusedSimpArgs false
namespace Mine
open PySem
theorem nodup_on {α β : Type} {f : α → β} : ∀ {l : List α}, l.Nodup → (∀ a ∈ l, ∀ b ∈ l, f a = f b → a = b) → (l.map f).Nodup := by
  intro l hn h
  rw [List.nodup_iff_pairwise_ne, List.pairwise_map]
  exact (List.Pairwise.and_mem.mp (List.nodup_iff_pairwise_ne.mp hn)).imp fun {a b} ⟨ha, hb, hne⟩ e => hne (h a ha b hb e)
theorem nodup_flat {α β : Type} {f : α → List β} (back : β → α) : ∀ {l : List α}, l.Nodup → (∀ a ∈ l, (f a).Nodup) → (∀ a ∈ l, ∀ x ∈ f a, back x = a) → (l.flatMap f).Nodup := by
  intro l
  induction l with
  | nil => intro _ _ _; exact .nil
  | cons a l ih =>
    intro hn h1 h2
    obtain ⟨n1, n2⟩ := List.nodup_cons.mp hn
    rw [List.flatMap_cons, List.nodup_append]
    refine ⟨h1 a (by simp), ih n2 (fun b hb => h1 b (by simp [hb])) (fun b hb => h2 b (by simp [hb])), fun x hx y hy e => n1 ?_⟩
    obtain ⟨b, hb, hy⟩ := List.mem_flatMap.mp hy
    rw [← h2 a (by simp) x hx, e, h2 b (by simp [hb]) y hy]
    exact hb
/-- rows that rise, made of these -/
def Up (ps s : List Int) : Prop := s.Pairwise (· < ·) ∧ ∀ p ∈ s, p ∈ ps
theorem lastLt_iff {r : List Int} {p : Int} (h : r.Pairwise (· < ·)) : lastLt r p = true ↔ ∀ a ∈ r, a < p := by
  rcases List.eq_nil_or_concat r with rfl | ⟨r0, z, rfl⟩
  · simp [lastLt]
  · rw [List.concat_eq_append] at h ⊢
    have hll : lastLt (r0 ++ [z]) p = decide (p > z) := by unfold lastLt; simp
    rw [hll, decide_eq_true_iff]
    have h3 := (List.pairwise_append.mp h).2.2
    constructor
    · intro hz a ha
      rcases List.mem_append.mp ha with ha | ha
      · have := h3 a ha z (by simp); lia
      · have : a = z := by simpa using ha
        lia
    · intro hz; exact hz z (by simp)
theorem mem_rowsN {ps : List Int} : ∀ {k : Nat} {s : List Int}, s ∈ rowsN ps k ↔ s.length = k ∧ Up ps s
  | 0, s => by
    constructor
    · intro h
      have : s = [] := by simpa [rowsN] using h
      subst this; exact ⟨rfl, .nil, by simp⟩
    · rintro ⟨h, _⟩
      rw [List.length_eq_zero_iff.mp h]; simp [rowsN]
  | k + 1, s => by
    show s ∈ (rowsN ps k).flatMap (extR ps) ↔ _
    rw [List.mem_flatMap]
    constructor
    · rintro ⟨r, h1, h2⟩
      obtain ⟨p, hp, hl, rfl⟩ := mem_ext.mp h2
      obtain ⟨e, hu⟩ := mem_rowsN.mp h1
      rw [lastLt_iff hu.1] at hl
      refine ⟨by rw [List.length_append, e]; rfl, List.pairwise_append.mpr ⟨hu.1, List.pairwise_singleton _ _, fun a ha b hb => ?_⟩, fun q hq => ?_⟩
      · have : b = p := by simpa using hb
        rw [this]; exact hl a ha
      · rcases List.mem_append.mp hq with hq | hq
        · exact hu.2 q hq
        · have : q = p := by simpa using hq
          rw [this]; exact hp
    · rintro ⟨e, hu⟩
      rcases List.eq_nil_or_concat s with rfl | ⟨r, p, rfl⟩
      · cases e
      · rw [List.concat_eq_append] at *
        obtain ⟨u1, u2, u3⟩ := List.pairwise_append.mp hu.1
        exact ⟨r, mem_rowsN.mpr ⟨by rw [List.length_append] at e; simpa using e, u1, fun q hq => hu.2 q (by simp [hq])⟩, mem_ext.mpr ⟨p, hu.2 p (by simp), (lastLt_iff u1).mpr fun a ha => u3 a ha p (by simp), rfl⟩⟩
theorem rowsN_nodup {ps : List Int} (h : ps.Nodup) : ∀ k, (rowsN ps k).Nodup
  | 0 => by simp [rowsN]
  | k + 1 => nodup_flat List.dropLast (rowsN_nodup h k) (fun r _ => nodup_on (List.Nodup.sublist List.filter_sublist h) fun a _ b _ e => by simpa using e) fun r _ x hx => by
    obtain ⟨p, _, _, rfl⟩ := mem_ext.mp hx
    simp

/-! the law's own rows -/
def chosen : List Int → Nat → List Int
  | [], _ => []
  | p :: ps, m => if m % 2 = 1 then p :: chosen ps (m / 2) else chosen ps (m / 2)
def dueRows (ps : List Int) : List (List Int) := ((List.range (2 ^ ps.length - 1)).map fun i => chosen ps (i + 1)).filter fun r => decide (r.length < 4)
theorem chosen_up {ps : List Int} (h : ps.Pairwise (· < ·)) : ∀ m, Up ps (chosen ps m) := by
  induction ps with
  | nil => intro m; exact ⟨.nil, by simp [chosen]⟩
  | cons p ps ih =>
    intro m
    obtain ⟨h1, h2⟩ := List.pairwise_cons.mp h
    obtain ⟨u1, u2⟩ := ih h2 (m / 2)
    unfold chosen
    split
    · refine ⟨List.pairwise_cons.mpr ⟨fun a ha => h1 a (u2 a ha), u1⟩, fun q hq => ?_⟩
      rcases List.mem_cons.mp hq with e | hq
      · simp [e]
      · simp [u2 q hq]
    · exact ⟨u1, fun q hq => by simp [u2 q hq]⟩
theorem chosen_inj {ps : List Int} (h : ps.Pairwise (· < ·)) : ∀ {m n : Nat}, m < 2 ^ ps.length → n < 2 ^ ps.length → chosen ps m = chosen ps n → m = n := by
  induction ps with
  | nil => intro m n hm hn _; simp at hm hn; lia
  | cons p ps ih =>
    intro m n hm hn e
    obtain ⟨h1, h2⟩ := List.pairwise_cons.mp h
    rw [List.length_cons, Nat.pow_succ] at hm hn
    have no : ∀ k l, chosen ps k = p :: l → False := fun k l e => by
      have := (chosen_up h2 k).2 p (by rw [e]; simp)
      exact absurd (h1 p this) (by lia)
    unfold chosen at e
    split at e <;> split at e
    · have := ih h2 (by lia) (by lia) (List.cons.inj e).2; lia
    · exact (no _ _ e.symm).elim
    · exact (no _ _ e).elim
    · have := ih h2 (by lia) (by lia) e; lia
theorem chosen_all {ps : List Int} (h : ps.Pairwise (· < ·)) : ∀ {s : List Int}, Up ps s → ∃ m, m < 2 ^ ps.length ∧ chosen ps m = s := by
  induction ps with
  | nil =>
    intro s hs
    have : s = [] := List.eq_nil_iff_forall_not_mem.mpr fun a ha => by simpa using hs.2 a ha
    exact ⟨0, by simp, by rw [this]; rfl⟩
  | cons p ps ih =>
    intro s hs
    obtain ⟨h1, h2⟩ := List.pairwise_cons.mp h
    rw [List.length_cons, Nat.pow_succ]
    by_cases hp : ∃ s', s = p :: s'
    · obtain ⟨s', rfl⟩ := hp
      obtain ⟨u1, u2⟩ := List.pairwise_cons.mp hs.1
      obtain ⟨m, hm, e⟩ := ih h2 (s := s') ⟨u2, fun q hq => by
        rcases List.mem_cons.mp (hs.2 q (by simp [hq])) with e | e
        · have := u1 q hq; lia
        · exact e⟩
      refine ⟨2 * m + 1, by lia, ?_⟩
      unfold chosen
      rw [if_pos (by lia), show (2 * m + 1) / 2 = m by lia, e]
    · obtain ⟨m, hm, e⟩ := ih h2 (s := s) ⟨hs.1, fun q hq => by
        rcases List.mem_cons.mp (hs.2 q hq) with e | e
        · exfalso
          apply hp
          cases s with
          | nil => cases hq
          | cons x s' =>
            obtain ⟨u1, u2⟩ := List.pairwise_cons.mp hs.1
            rcases List.mem_cons.mp hq with e' | hq
            · exact ⟨s', by rw [← e', e]⟩
            · have h3 := u1 q hq
              rcases List.mem_cons.mp (hs.2 x (by simp)) with e' | e'
              · exact ⟨s', by rw [e']⟩
              · have := h1 x e'; lia
        · exact e⟩
      refine ⟨2 * m, by lia, ?_⟩
      unfold chosen
      rw [if_neg (by lia), show 2 * m / 2 = m by lia, e]
theorem chosen_zero : ∀ ps : List Int, chosen ps 0 = []
  | [] => rfl
  | p :: ps => by unfold chosen; rw [if_neg (by lia)]; exact chosen_zero ps
theorem mem_due {ps s : List Int} (h : ps.Pairwise (· < ·)) : s ∈ dueRows ps ↔ s ≠ [] ∧ s.length < 4 ∧ Up ps s := by
  unfold dueRows
  rw [List.mem_filter, List.mem_map, decide_eq_true_iff]
  constructor
  · rintro ⟨⟨i, hi, rfl⟩, hl⟩
    rw [List.mem_range] at hi
    refine ⟨fun e => ?_, hl, chosen_up h _⟩
    have := chosen_inj h (m := i + 1) (n := 0) (by lia) (by lia) (by rw [e, chosen_zero])
    lia
  · rintro ⟨hne, hl, hu⟩
    obtain ⟨m, hm, rfl⟩ := chosen_all h hu
    have : m ≠ 0 := fun e => hne (by rw [e, chosen_zero])
    exact ⟨⟨m - 1, List.mem_range.mpr (by lia), by rw [show m - 1 + 1 = m by lia]⟩, hl⟩
theorem due_nodup {ps : List Int} (h : ps.Pairwise (· < ·)) : (dueRows ps).Nodup := by
  refine List.Nodup.sublist List.filter_sublist (nodup_on List.nodup_range fun a ha b hb e => ?_)
  rw [List.mem_range] at ha hb
  have := chosen_inj h (m := a + 1) (n := b + 1) (by lia) (by lia) e
  lia

/-! the matches -/
abbrev Mat := List Int × List Int
def szs : List (Nat × Nat) := [(1, 1), (1, 2), (2, 1), (1, 3), (3, 1)]
def matchOf (fit : List Int → List Int → Bool) (bs : List Int) (k : Nat) (l : List Int) : List Mat := ((rowsN bs k).filter (fit l)).map fun r => (l, r)
def bySz (fit : List Int → List Int → Bool) (as bs : List Int) (z : Nat × Nat) : List Mat := (rowsN as z.1).flatMap (matchOf fit bs z.2)
def allM (fit : List Int → List Int → Bool) (as bs : List Int) : List Mat := szs.flatMap (bySz fit as bs)
def dueOf (fit : List Int → List Int → Bool) (bs : List Int) (l : List Int) : List Mat := ((dueRows bs).filter fun r => (l.length == 1 || r.length == 1) && fit l r).map fun r => (l, r)
def dueM (fit : List Int → List Int → Bool) (as bs : List Int) : List Mat := (dueRows as).flatMap (dueOf fit bs)
theorem mem_matchOf {fit : List Int → List Int → Bool} {bs l : List Int} {k : Nat} {x : Mat} : x ∈ matchOf fit bs k l ↔ x.1 = l ∧ x.2.length = k ∧ Up bs x.2 ∧ fit l x.2 = true := by
  unfold matchOf
  rw [List.mem_map]
  constructor
  · rintro ⟨r, hr, rfl⟩
    obtain ⟨h1, h2⟩ := List.mem_filter.mp hr
    obtain ⟨h3, h4⟩ := mem_rowsN.mp h1
    exact ⟨rfl, h3, h4, h2⟩
  · rintro ⟨h1, h2, h3, h4⟩
    exact ⟨x.2, List.mem_filter.mpr ⟨mem_rowsN.mpr ⟨h2, h3⟩, h4⟩, by rw [← h1]⟩
theorem mem_bySz {fit : List Int → List Int → Bool} {as bs : List Int} {z : Nat × Nat} {x : Mat} : x ∈ bySz fit as bs z ↔ x.1.length = z.1 ∧ Up as x.1 ∧ x.2.length = z.2 ∧ Up bs x.2 ∧ fit x.1 x.2 = true := by
  unfold bySz
  rw [List.mem_flatMap]
  constructor
  · rintro ⟨l, hl, hx⟩
    obtain ⟨rfl, h2⟩ := mem_matchOf.mp hx
    obtain ⟨h3, h4⟩ := mem_rowsN.mp hl
    exact ⟨h3, h4, h2⟩
  · rintro ⟨h1, h2, h3⟩
    exact ⟨x.1, mem_rowsN.mpr ⟨h1, h2⟩, mem_matchOf.mpr ⟨rfl, h3⟩⟩
theorem mem_dueM {fit : List Int → List Int → Bool} {as bs : List Int} (ha : as.Pairwise (· < ·)) (hb : bs.Pairwise (· < ·)) {x : Mat} : x ∈ dueM fit as bs ↔ (x.1 ≠ [] ∧ x.1.length < 4 ∧ Up as x.1) ∧ (x.2 ≠ [] ∧ x.2.length < 4 ∧ Up bs x.2) ∧ (x.1.length = 1 ∨ x.2.length = 1) ∧ fit x.1 x.2 = true := by
  unfold dueM dueOf
  simp only [List.mem_flatMap, List.mem_map, List.mem_filter, Bool.and_eq_true, Bool.or_eq_true, beq_iff_eq]
  constructor
  · rintro ⟨l, hl, r, ⟨hr, h1, h2⟩, rfl⟩
    exact ⟨(mem_due ha).mp hl, (mem_due hb).mp hr, h1, h2⟩
  · rintro ⟨h1, h2, h3, h4⟩
    exact ⟨x.1, (mem_due ha).mpr h1, x.2, ⟨(mem_due hb).mpr h2, h3, h4⟩, rfl⟩
theorem all_due {fit : List Int → List Int → Bool} {as bs : List Int} (ha : as.Pairwise (· < ·)) (hb : bs.Pairwise (· < ·)) : (allM fit as bs).Perm (dueM fit as bs) := by
  have na : as.Nodup := ha.imp fun h => by lia
  have nb : bs.Nodup := hb.imp fun h => by lia
  have inj : ∀ (l : List Int) (rs : List (List Int)), rs.Nodup → (rs.map fun r => ((l, r) : Mat)).Nodup := fun l rs h => nodup_on h fun a _ b _ e => (Prod.mk.inj e).2
  refine (List.perm_ext_iff_of_nodup ?_ ?_).mpr fun x => ?_
  · refine nodup_flat (fun x : Mat => (x.1.length, x.2.length)) (by decide) (fun z _ => ?_) fun z _ x hx => ?_
    · refine nodup_flat Prod.fst (rowsN_nodup na _) (fun l _ => inj l _ (List.Nodup.sublist List.filter_sublist (rowsN_nodup nb _))) fun l _ x hx => (mem_matchOf.mp hx).1
    · obtain ⟨h1, _, h2, _⟩ := mem_bySz.mp hx
      rw [h1, h2]
  · refine nodup_flat Prod.fst (due_nodup ha) (fun l _ => inj l _ (List.Nodup.sublist List.filter_sublist (due_nodup hb))) fun l _ x hx => ?_
    obtain ⟨r, _, rfl⟩ := List.mem_map.mp hx
    rfl
  · rw [mem_dueM ha hb]
    unfold allM
    rw [List.mem_flatMap]
    have ne : ∀ l : List Int, l ≠ [] ↔ 0 < l.length := fun l => List.length_pos_iff.symm
    rw [ne, ne]
    constructor
    · rintro ⟨z, hz, hx⟩
      obtain ⟨h1, h2, h3, h4, h5⟩ := mem_bySz.mp hx
      have : (z.1 = 1 ∨ z.2 = 1) ∧ 0 < z.1 ∧ z.1 < 4 ∧ 0 < z.2 ∧ z.2 < 4 := by
        have : ∀ z ∈ szs, (z.1 = 1 ∨ z.2 = 1) ∧ 0 < z.1 ∧ z.1 < 4 ∧ 0 < z.2 ∧ z.2 < 4 := by decide
        exact this z hz
      rw [h1, h3]
      exact ⟨⟨this.2.1, this.2.2.1, h2⟩, ⟨this.2.2.2.1, this.2.2.2.2, h4⟩, this.1, h5⟩
    · rintro ⟨⟨a1, a2, a3⟩, ⟨b1, b2, b3⟩, h1, h2⟩
      refine ⟨(x.1.length, x.2.length), ?_, mem_bySz.mpr ⟨rfl, a3, rfl, b3, h2⟩⟩
      generalize x.1.length = m at *
      generalize x.2.length = n at *
      simp only [szs, List.mem_cons, Prod.mk.injEq, List.not_mem_nil, or_false]
      lia
end Mine

set_option maxRecDepth 100000
set_option linter.unusedVariables false
set_option autoImplicit false
set_option linter.unusedSimpArgs false
namespace Mine
open PySem
/-- a row as a number: the order of rows -/
def enc : Nat → List Int → Nat
  | 0, _ => 0
  | _ + 1, [] => 0
  | n + 1, x :: xs => (x.toNat + 1) * 100 ^ n + enc n xs
def Sm (l : List Int) : Prop := l.length ≤ 3 ∧ ∀ p ∈ l, 0 ≤ p ∧ p < 90
theorem enc_lt : ∀ (n : Nat) {l : List Int}, (∀ p ∈ l, 0 ≤ p ∧ p < 90) → enc n l < 100 ^ n
  | 0, _, _ => by simp [enc]
  | n + 1, [], _ => Nat.pow_pos (by decide)
  | n + 1, x :: xs, h => by
    have h1 := enc_lt n (l := xs) fun p hp => h p (by simp [hp])
    have h2 := h x (by simp)
    show (x.toNat + 1) * 100 ^ n + enc n xs < 100 ^ (n + 1)
    have h3 : (x.toNat + 1) * 100 ^ n ≤ 90 * 100 ^ n := Nat.mul_le_mul_right _ (by lia)
    rw [Nat.pow_succ]
    lia
theorem enc_cmp : ∀ (n : Nat) {l r : List Int}, l.length ≤ n → r.length ≤ n → (∀ p ∈ l, 0 ≤ p ∧ p < 90) → (∀ p ∈ r, 0 ≤ p ∧ p < 90) → ltDL (l.map .int) (r.map .int) = some (decide (enc n l < enc n r)) ∧ (enc n l = enc n r → l = r)
  | 0, l, r, h1, h2, _, _ => by
    rw [List.length_eq_zero_iff.mp (Nat.le_zero.mp h1), List.length_eq_zero_iff.mp (Nat.le_zero.mp h2)]
    exact ⟨rfl, fun _ => rfl⟩
  | n + 1, [], [], _, _, _, _ => ⟨by simp [ltDL, enc], fun _ => rfl⟩
  | n + 1, [], y :: ys, _, _, _, _ => by
    have h3 : 0 < enc (n + 1) (y :: ys) := Nat.lt_of_lt_of_le (Nat.mul_pos (Nat.succ_pos _) (Nat.pow_pos (by decide))) (Nat.le_add_right _ _)
    refine ⟨?_, fun e => absurd e (by have : enc (n + 1) ([] : List Int) = 0 := rfl; lia)⟩
    rw [decide_eq_true (show enc (n + 1) [] < enc (n + 1) (y :: ys) from h3)]
    simp [ltDL]
  | n + 1, x :: xs, [], _, _, _, _ => by
    have h3 : 0 < enc (n + 1) (x :: xs) := Nat.lt_of_lt_of_le (Nat.mul_pos (Nat.succ_pos _) (Nat.pow_pos (by decide))) (Nat.le_add_right _ _)
    have h4 : enc (n + 1) ([] : List Int) = 0 := rfl
    refine ⟨?_, fun e => absurd e (by lia)⟩
    rw [decide_eq_false (show ¬ enc (n + 1) (x :: xs) < enc (n + 1) [] by lia)]
    simp [ltDL]
  | n + 1, x :: xs, y :: ys, h1, h2, s1, s2 => by
    simp only [List.length_cons] at h1 h2
    obtain ⟨g1, g2⟩ := enc_cmp n (l := xs) (r := ys) (by lia) (by lia) (fun p hp => s1 p (by simp [hp])) fun p hp => s2 p (by simp [hp])
    have a1 := enc_lt n (l := xs) fun p hp => s1 p (by simp [hp])
    have a2 := enc_lt n (l := ys) fun p hp => s2 p (by simp [hp])
    have b1 := s1 x (by simp)
    have b2 := s2 y (by simp)
    have e1 : enc (n + 1) (x :: xs) = (x.toNat + 1) * 100 ^ n + enc n xs := rfl
    have e2 : enc (n + 1) (y :: ys) = (y.toNat + 1) * 100 ^ n + enc n ys := rfl
    rw [e1, e2]
    simp only [List.map_cons, ltDL, e_int]
    by_cases he : x = y
    · subst he
      rw [beq_self_eq_true, if_pos rfl, g1]
      refine ⟨congrArg some (decide_eq_decide.mpr (by lia)), fun e => ?_⟩
      rw [g2 (by lia)]
    · rw [beq_eq_false_iff_ne.mpr he, if_neg (by decide)]
      have lt : ∀ {u v eu ev : Nat}, u < v → eu < 100 ^ n → (u + 1) * 100 ^ n + eu < (v + 1) * 100 ^ n + ev := fun {u v eu ev} h1 h2 => by
        have : (u + 1 + 1) * 100 ^ n ≤ (v + 1) * 100 ^ n := Nat.mul_le_mul_right _ (by lia)
        rw [Nat.add_mul (u + 1), Nat.one_mul] at this
        lia
      rcases Int.lt_or_gt_of_ne he with hlt | hgt
      · have := lt (u := x.toNat) (v := y.toNat) (ev := enc n ys) (by lia) a1
        refine ⟨?_, fun e => absurd e (by lia)⟩
        rw [decide_eq_true this]
        simp [ltD, hlt]
      · have := lt (u := y.toNat) (v := x.toNat) (ev := enc n xs) (by lia) a2
        refine ⟨?_, fun e => absurd e (by lia)⟩
        rw [decide_eq_false (by lia)]
        simp [ltD]; lia
theorem eqv_row : ∀ (l r : List Int), PyData.eqv (rowD l) (rowD r) = decide (l = r) := by
  intro l r
  unfold rowD
  simp only [PyData.eqv]
  induction l generalizing r with
  | nil => cases r <;> simp [PyData.eqvAll]
  | cons x xs ih =>
    cases r with
    | nil => simp [PyData.eqvAll]
    | cons y ys =>
      simp only [List.map_cons, PyData.eqvAll, e_int, ih]
      by_cases h : x = y
      · subst h; simp
      · simp [h]
theorem lt_row {l r : List Int} (hl : Sm l) (hr : Sm r) : ltD (rowD l) (rowD r) = some (decide (enc 3 l < enc 3 r)) := by
  unfold rowD
  simp only [ltD]
  exact (enc_cmp 3 hl.1 hr.1 hl.2 hr.2).1
theorem enc_inj {l r : List Int} (hl : Sm l) (hr : Sm r) (e : enc 3 l = enc 3 r) : l = r := (enc_cmp 3 hl.1 hr.1 hl.2 hr.2).2 e
/-- a match as a number -/
def num (x : Mat) : Nat := (x.1.length + x.2.length) * 1000000000000 + enc 3 x.1 * 1000000 + enc 3 x.2
def SmM (x : Mat) : Prop := Sm x.1 ∧ Sm x.2
theorem num_inj {x y : Mat} (hx : SmM x) (hy : SmM y) (e : num x = num y) : x = y := by
  have a1 := enc_lt 3 hx.1.2; have a2 := enc_lt 3 hx.2.2; have a3 := enc_lt 3 hy.1.2; have a4 := enc_lt 3 hy.2.2
  unfold num at e
  have h1 : enc 3 x.1 = enc 3 y.1 := by lia
  have h2 : enc 3 x.2 = enc 3 y.2 := by lia
  exact Prod.ext (enc_inj hx.1 hy.1 h1) (enc_inj hx.2 hy.2 h2)
def szI (x : Mat) : Int := (x.1.length : Int) + x.2.length
def keyD (x : Mat) : PyData := .tuple [.int (szI x), .tuple [rowD x.1, rowD x.2]]
def dueD (x : Mat) : PyData := .tuple [.int (szI x), rowD x.1, rowD x.2]
theorem lt_pairs {x y : Mat} (hx : SmM x) (hy : SmM y) : ltDL [rowD x.1, rowD x.2] [rowD y.1, rowD y.2] = some (decide (enc 3 x.1 * 1000000 + enc 3 x.2 < enc 3 y.1 * 1000000 + enc 3 y.2)) := by
  have a2 := enc_lt 3 hx.2.2; have a4 := enc_lt 3 hy.2.2
  simp only [ltDL, eqv_row, decide_eq_true_eq]
  by_cases h1 : x.1 = y.1
  · rw [if_pos h1, h1]
    by_cases h2 : x.2 = y.2
    · rw [if_pos h2, h2, decide_eq_false (by lia)]
    · rw [if_neg h2, lt_row hx.2 hy.2]
      exact congrArg some (decide_eq_decide.mpr (by lia))
  · rw [if_neg h1, lt_row hx.1 hy.1]
    have : enc 3 x.1 ≠ enc 3 y.1 := fun e => h1 (enc_inj hx.1 hy.1 e)
    exact congrArg some (decide_eq_decide.mpr (by lia))
theorem lt_of_pairs {x y : Mat} (hx : SmM x) (hy : SmM y) {t : Option Bool} (h : szI x = szI y → t = some (decide (enc 3 x.1 * 1000000 + enc 3 x.2 < enc 3 y.1 * 1000000 + enc 3 y.2))) : (if (szI x == szI y) = true then t else ltD (.int (szI x)) (.int (szI y))) = some (decide (num x < num y)) := by
  have a1 := enc_lt 3 hx.1.2; have a2 := enc_lt 3 hx.2.2; have a3 := enc_lt 3 hy.1.2; have a4 := enc_lt 3 hy.2.2
  unfold num
  by_cases e : szI x = szI y
  · rw [e, beq_self_eq_true, if_pos rfl, h e]
    unfold szI at e
    exact congrArg some (decide_eq_decide.mpr (by lia))
  · rw [beq_eq_false_iff_ne.mpr e, if_neg (by decide)]
    unfold szI at e ⊢
    simp only [ltD]
    exact congrArg some (decide_eq_decide.mpr (by lia))
theorem lt_key {x y : Mat} (hx : SmM x) (hy : SmM y) : ltD (keyD x) (keyD y) = some (decide (num x < num y)) := by
  unfold keyD
  rw [ltD, ltDL, e_int]
  refine lt_of_pairs hx hy fun _ => ?_
  simp only [ltDL, ltD, PyData.eqv, PyData.eqvAll, Bool.and_true]
  by_cases h : x = y
  · subst h
    rw [if_pos (by simp [eqv_row]), decide_eq_false (by lia)]
  · have : ¬ ((PyData.eqv (rowD x.1) (rowD y.1) && PyData.eqv (rowD x.2) (rowD y.2)) = true) := by
      rw [eqv_row, eqv_row, Bool.and_eq_true, decide_eq_true_eq, decide_eq_true_eq]
      exact fun e => h (Prod.ext e.1 e.2)
    rw [if_neg this]
    exact lt_pairs hx hy
theorem lt_due {x y : Mat} (hx : SmM x) (hy : SmM y) : ltD (dueD x) (dueD y) = some (decide (num x < num y)) := by
  unfold dueD
  rw [ltD, ltDL, e_int]
  exact lt_of_pairs hx hy fun _ => lt_pairs hx hy
theorem sorted_same {xs ys zs ws : List Mat} (hp : ys.Perm xs) (hq : zs.Perm ws) (h : xs.Perm ws) (hs : ∀ x ∈ xs, SmM x) (h1 : ys.Pairwise fun x y => num x ≤ num y) (h2 : zs.Pairwise fun x y => num x ≤ num y) : ys = zs :=
  List.Perm.eq_of_pairwise (fun a b ha hb h1 h2 => num_inj (hs a (hp.mem_iff.mp ha)) (hs b (h.mem_iff.mpr (hq.mem_iff.mp hb))) (Nat.le_antisymm h1 h2)) h1 h2 ((hp.trans h).trans hq.symm)
end Mine

set_option maxRecDepth 100000
set_option linter.unusedVariables false
set_option autoImplicit false
set_option linter.unusedSimpArgs false
set_option maxHeartbeats 8000000
set_option pp.deepTerms false
namespace Mine
open PySem PyProof.Rows PySem.SeqAt PySem.W
def unI : AV → Int
  | .int i => i
  | _ => 0
def unRow : AV → List Int
  | .tup l => l.map unI
  | _ => []
theorem un_ints (l : List Int) : (l.map AV.int).map unI = l := by rw [List.map_map]; exact List.map_id'' (fun _ => rfl) l
theorem un_rowI (l : List Int) : unRow (rowI l) = l := un_ints l
def matAV (x : Mat) : AV := .tup [rowI x.1, rowI x.2]
def unMat : AV → Mat
  | .tup [a, b] => (unRow a, unRow b)
  | _ => ([], [])
theorem un_mat (x : Mat) : unMat (matAV x) = x := by show (unRow (rowI x.1), unRow (rowI x.2)) = x; rw [un_rowI, un_rowI]
theorem perm_un {α : Type} {f : α → AV} {u : AV → α} (hu : ∀ x, u (f x) = x) {ys : List AV} {xs : List α} (h : ys.Perm (xs.map f)) : (ys.map u).Perm xs ∧ ys = (ys.map u).map f := by
  constructor
  · have := h.map u
    rw [List.map_map, List.map_id'' (f := u ∘ f) hu] at this
    exact this
  · rw [List.map_map]
    symm
    calc ys.map (f ∘ u) = ys.map id := List.map_congr_left fun y hy => by
          obtain ⟨x, _, rfl⟩ := List.mem_map.mp (h.mem_iff.mp hy)
          show f (u (f x)) = f x
          rw [hu]
      _ = ys := List.map_id _
def keyA : AV → AV
  | .tup [.tup l, .tup r] => .tup [.int ((l.length : Int) + r.length), .tup [.tup l, .tup r]]
  | x => x
theorem keyA_mat (x : Mat) : keyA (matAV x) = .tup [.int (szI x), matAV x] := by
  show AV.tup [.int (((x.1.map AV.int).length : Int) + (x.2.map AV.int).length), _] = _
  rw [List.length_map, List.length_map]; rfl
theorem ints_lay (l : List Int) : PyData.canLayAll0 (l.map PyData.int) = true ∧ PyData.depthAll (l.map PyData.int) = 0 := by
  induction l with
  | nil => exact ⟨rfl, by simp [PyData.depthAll]⟩
  | cons x l ih => simp only [List.map_cons, PyData.canLayAll0, PyData.canLay0, PyData.depthAll, PyData.depth, ih.1, ih.2, Bool.and_true]; exact ⟨by first | rfl | trivial, by first | rfl | trivial⟩
theorem rowD_lay (l : List Int) : (rowD l).canLay0 = true ∧ (rowD l).depth = 1 := by
  unfold rowD
  simp only [PyData.canLay0, PyData.depth, (ints_lay l).1, (ints_lay l).2]
  exact ⟨by first | rfl | trivial, by first | rfl | trivial⟩
def matD (x : Mat) : PyData := .tuple [rowD x.1, rowD x.2]
theorem matD_lay (x : Mat) : (matD x).canLay0 = true ∧ (matD x).depth = 2 := by
  unfold matD
  simp only [PyData.canLay0, PyData.canLayAll0, PyData.depth, PyData.depthAll, (rowD_lay x.1).1, (rowD_lay x.1).2, (rowD_lay x.2).1, (rowD_lay x.2).2]
  exact ⟨by first | rfl | trivial, by first | rfl | trivial⟩
theorem do_key (x : Mat) : DOk (keyD x) := by
  show DOk (.tuple [.int (szI x), matD x])
  unfold DOk
  simp only [PyData.canLay0, PyData.canLayAll0, PyData.depth, PyData.depthAll, (matD_lay x).1, (matD_lay x).2]
  decide
theorem do_due (x : Mat) : DOk (dueD x) := by
  unfold DOk dueD
  simp only [PyData.canLay0, PyData.canLayAll0, PyData.depth, PyData.depthAll, (rowD_lay x.1).1, (rowD_lay x.1).2, (rowD_lay x.2).1, (rowD_lay x.2).2]
  decide
section
variable {X : Cx} {P : Params} {Q : Post} {Z : XP} {σ : AHeap} {d : Nat}
theorem rd_mat (x : Mat) : Rd σ (matAV x) (matD x) := .tup (.cons (rd_rowI _) (.cons (rd_rowI _) .nil))
theorem rd_key (x : Mat) : Rd σ (keyA (matAV x)) (keyD x) := by rw [keyA_mat]; exact .tup (.cons (.int _) (.cons (rd_mat x) .nil))
def dueAV (x : Mat) : AV := .tup [.int (szI x), rowI x.1, rowI x.2]
theorem rd_due (x : Mat) : Rd σ (dueAV x) (dueD x) := .tup (.cons (.int _) (.cons (rd_rowI _) (.cons (rd_rowI _) .nil)))

theorem Ext.put {σ σ' : AHeap} {p : Addr} {o : AO} (e : Ext σ σ') (h : σ p = Option.none) : Ext σ (σ'.set p o) := fun a b q => by
  rw [AHeap.set_ne _ _ (by rintro rfl; rw [h] at q; cases q)]; exact e _ _ q
theorem list_put {σ : AHeap} {p r : Addr} {o : AO} {xs : List AV} (h : listAt p xs σ) (hn : p ≠ r) : listAt p xs (σ.set r o) := by
  unfold listAt at *
  rw [AHeap.set_ne _ _ hn]; exact h
theorem list_ne {σ : AHeap} {p r : Addr} {xs : List AV} (h : listAt p xs σ) (hr : σ r = none) : p ≠ r := by
  rintro rfl; rcases h with h | h <;> rw [h] at hr <;> cases hr

/-- sorted() of whole numbers, none below nought, each once -/
theorem sortI {p : Addr} {ns : List Int} (hp : listAt p (ns.map .int) σ) (hl : ns.length ≤ 50) (h0 : ∀ n ∈ ns, 0 ≤ n) (hn : ns.Nodup) (h : ∀ (ms : List Int) σ' r, ms.Perm ns → ms.Pairwise (· < ·) → Ext σ σ' → σ r = none → listAt r (ms.map .int) σ' → Q (.ref r) σ') : pSorted [.ref p] Q σ := by
  have hx : ∀ x ∈ ns.map AV.int, ∃ i : Int, x = .int i ∧ 0 ≤ i := fun x hx => by
    obtain ⟨i, hi, rfl⟩ := List.mem_map.mp hx; exact ⟨i, rfl, h0 i hi⟩
  refine sorted_of (fun v => (unI v).toNat) hp (by rw [List.length_map]; exact Nat.le_trans hl (by decide)) (.inr (fun x hx' => let ⟨i, e, _⟩ := hx x hx'; ⟨i, e⟩)) (fun x hx' y hy' => ?_) fun ys hperm hpw σ' r e hr l => ?_
  · obtain ⟨i, rfl, hi⟩ := hx x hx'
    obtain ⟨j, rfl, hj⟩ := hx y hy'
    refine ⟨.int i, .int j, .int _, .int _, d_int.mpr trivial, d_int.mpr trivial, ?_⟩
    simp only [ltD, unI]
    exact congrArg some (decide_eq_decide.mpr (by lia))
  · obtain ⟨p1, p2⟩ := perm_un (f := AV.int) (u := unI) (fun _ => rfl) hperm
    rw [p2] at l
    refine h _ σ' r p1 ?_ e hr (.inl l)
    have nd : (ys.map unI).Nodup := p1.symm.nodup hn
    rw [List.nodup_iff_pairwise_ne] at nd
    have le : (ys.map unI).Pairwise fun a b => a.toNat ≤ b.toNat := List.pairwise_map.mpr hpw
    refine (List.Pairwise.and_mem.mp (List.pairwise_and_iff.mpr ⟨le, nd⟩)).imp fun {a b} ⟨ha, hb, h1, h2⟩ => ?_
    have := h0 a (p1.mem_iff.mp ha); have := h0 b (p1.mem_iff.mp hb)
    lia
end
/-- the places of one side -/
def sidePs (s : Str) (g : List Mark) : List Int := (g.filter fun m => m.1 == s).map (·.2)
structure SideOk (ps : List Int) (n : Nat) : Prop where
  nodup : ps.Nodup
  inn : ∀ p ∈ ps, 0 ≤ p ∧ p < n
  few : ps.length ≤ 5
  small : n ≤ 5
structure GrpOk (g : List Mark) (na nb : Nat) : Prop where
  ok : ∀ m ∈ g, PyData.strOk m.1 = true
  bank : SideOk (sidePs "bank" g) na
  book : SideOk (sidePs "book" g) nb
  few : g.length ≤ 100
theorem up_sm {ps s : List Int} {n : Nat} (h : ∀ p ∈ ps, 0 ≤ p ∧ p < n) (hn : n ≤ 5) (hu : Up ps s) (hl : s.length ≤ 3) : Sm s ∧ Rise s n :=
  ⟨⟨hl, fun p hp => by have := h p (hu.2 p hp); lia⟩, hu.1, fun p hp => h p (hu.2 p hp)⟩
end Mine

set_option maxRecDepth 100000
set_option linter.unusedVariables false
set_option autoImplicit false
set_option linter.unusedSimpArgs false
set_option maxHeartbeats 8000000
set_option pp.deepTerms false
namespace Mine
open PySem PyProof.Rows PySem.SeqAt PySem.W
section
variable {X : Cx} {P : Params} {Q : Post} {Z : XP} {σ : AHeap} {d : Nat}
def szAV (z : Nat × Nat) : AV := .tup [.int (z.1 : Nat), .int (z.2 : Nat)]
theorem within_ok (G : Gd X (hK P)) (hd : d < 580) {pb pk pg : Addr} {es fs : List (Int × Int)} {span : Int} {g : List Mark} (hb : listAt pb (entL es) σ) (hk : listAt pk (entL fs) σ) (hg : listAt pg (g.map mkAV) σ) (se : small es) (sf : small fs) (ho : GrpOk g es.length fs.length)
    (q : ∀ σ' r (as bs : List Int) (ys : List Mat), Ext σ σ' → as.Perm (sidePs "bank" g) → as.Pairwise (· < ·) → bs.Perm (sidePs "book" g) → bs.Pairwise (· < ·) → ys.Perm (allM (fitB es fs span) as bs) → ys.Pairwise (fun x y => num x ≤ num y) → (∀ x ∈ ys, SmM x) → ys.length ≤ 100000 → listAt r (ys.map matAV) σ' → Q (.ref r) σ') :
    CallOk X 55 d [.ref pb, .ref pk, .int span, .ref pg] Q Z σ := by
  refine' callK (m := _) ["banks", "books", "span", "group"] [("banks", 0), ("books", 1), ("span", 2), ("group", 3), ("ones", 4), ("others", 5), ("found", 6), ("sizes", 7), ("left", 8), ("right", 9)] G rfl rfl (bind4 fun a b c d => rfl) rfl rfl rfl rfl rfl rfl rfl rfl (fun env E => ?snd) (by lia) rfl ?bd
  case snd =>
    repeat' first
      | ((with_reducible show SoundSs _ _ _ [] _); (with_reducible refine' sound_nil))
      | ((with_reducible show SoundSs _ _ _ (_ :: _) _); (with_reducible refine' sound_cons ?_ ?_))
      | ((with_reducible show SoundS _ _ _ (.If _ _ _ _) _); (with_reducible refine' sound_if ?_ ?_ ?_))
      | ((with_reducible show SoundS _ _ _ (.Return (some _) _) _); (with_reducible refine' sound_ret ?_))
      | ((with_reducible show SoundS _ _ _ (.Assign [.Name _ _] _ _) _); (with_reducible refine' w_set (by assumption) ?r1 ?r2 ?_ ?r3); (case r1 => exact rfl); (case r2 => exact rfl); (case r3 => exact rfl))
      | ((with_reducible show SoundS _ _ _ (.For _ _ _ _ _) _); (with_reducible refine' w_for ?r1 ?_ ?_ ?_); (case r1 => exact rfl))
      | ((with_reducible show SoundS _ _ _ (.Expr _ _) _); (with_reducible refine' w_ex (by assumption) ?_ ?r1); (case r1 => exact rfl))
      | ((with_reducible show SoundC _ _ _ (_ :: _) _); (with_reducible refine' w_cSome ?_))
      | ((with_reducible show SoundT _ _ _ (.Name _ _) _); (with_reducible refine' w_tOne (by assumption) ?r1 ?r2); (case r1 => exact rfl); (case r2 => exact rfl))
      | ((with_reducible show SoundTC _ _ _ (.Tuple _ _ _) _); (with_reducible refine' w_tcMany (by assumption) ?_))
      | ((with_reducible show NamesL _ _ [] _); (with_reducible refine' w_nlNil))
      | ((with_reducible show NamesL _ _ (_ :: _) _); (with_reducible refine' w_nlCons (by assumption) ?r1 ?r2 ?_); (case r1 => exact rfl); (case r2 => exact rfl))
      | ((with_reducible show SoundI _ _ _ _ _ _); (with_reducible refine' w_it ?_))
      | ((with_reducible show SoundB _ _ _ (.Compare _ _ _ _) _); (with_reducible refine' soundB_cmp ?_ ?_))
      | ((with_reducible show SoundB _ _ _ (_) _); (with_reducible refine' soundB_of ?_ ?r1); (case r1 => exact (fun _ => rfl)))
      | ((with_reducible show SoundE _ _ _ (.Name _ _) _); (with_reducible refine' w_loc (by assumption) ?r1 ?r2 ?r3); (case r1 => exact rfl); (case r2 => exact rfl); (case r3 => exact rfl))
      | ((with_reducible show SoundE _ _ _ (.Constant (.int _) _ _) _); (with_reducible refine' sound_int))
      | ((with_reducible show SoundE _ _ _ (.Constant (.str _) _ _) _); (with_reducible refine' sound_str))
      | ((with_reducible show SoundE _ _ _ (.Tuple _ _ _) _); (with_reducible refine' sound_tup ?_))
      | ((with_reducible show SoundE _ _ _ (.List _ _) _); (with_reducible refine' sound_lst ?_))
      | ((with_reducible show SoundEs _ _ _ [] _); (with_reducible refine' w_es0))
      | ((with_reducible show SoundEs _ _ _ (_ :: _) _); (with_reducible refine' w_es1 ?r1 ?_ ?_); (case r1 => exact rfl))
      | ((with_reducible show SoundOps _ _ _ [_] _ _); (with_reducible refine' SoundOps.one ?_ ?r1); (case r1 => exact rfl))
      | ((with_reducible show SoundE _ _ _ (.Subscript _ _ _) _); (with_reducible refine' sound_idx ?_ ?_ ?r1); (case r1 => exact rfl))
      | ((with_reducible show SoundE _ _ _ (.ListComp _ _ _ _) _); (with_reducible refine' w_comp (by assumption) ?r1 ?r2 ?r3 ?_ (fun env' E' => ?_) (fun env' E' => ?_) (fun env' E' => ?_)); (case r1 => exact rfl); (case r2 => exact rfl); (case r3 => exact rfl))
      | ((with_reducible show SoundE _ _ _ (.Call (.Attribute _ "append" _) _ [] _) _); (with_reducible refine' w_append ?r1 ?r2 ?r3 ?_ ?_); (case r1 => exact (fun _ => rfl)); (case r2 => exact rfl); (case r3 => exact rfl))
      | ((with_reducible show SoundE _ _ _ (.Call (.Name "sorted" _) [_] [⟨some "key", .Name _ _, _⟩] _) _); (with_reducible refine' w_sortF (by assumption) (by assumption) bi_sorted ?r1 ?r2 ?r3 ?r4 ?_); (case r1 => exact rfl); (case r2 => exact rfl); (case r3 => exact rfl); (case r4 => exact rfl))
      | ((with_reducible show SoundE _ _ _ (.Call (.Name "sorted" _) _ [] _) _); (with_reducible refine' w_prim (by assumption) (by assumption) bi_sorted ?r1 sound_sorted ?r2 ?_); (case r1 => exact (.inl ⟨_, rfl⟩)); (case r2 => exact rfl))
      | ((with_reducible show SoundE _ _ _ (.Call (.Name _ _) _ [] _) _); (with_reducible refine' w_call (by assumption) (by assumption) ?r1 ?r2 ?r3 ?_); (case r1 => exact rfl); (case r2 => exact ⟨_, _, rfl, rfl⟩); (case r3 => exact rfl))
  repeat (first | with_reducible (first | refine q_consO fun S1 kn1 => ?_ | refine q_set ?_ | refine q_prim ?_ | refine q_ev1 ?_) | ((with_reducible refine' q_loc ?e ?_); case e => rfl) | with_reducible (first | refine q_lc ?_ | refine q_itP ?_ | refine q_itemsL (by assumption) ?_))
  refine compLf_as g (fun m : Mark => m.1 == ("bank" : Str)) mkAV (fun m => .int m.2) (fun m => [some (.ref pb), some (.ref pk), some (.int span), some (.ref pg), none, none, none, none, none, none, none, some (.str m.1), some (.int m.2)]) (fun x _ => rfl) (fun x _ y _ => rfl) ?_ ?_ hg (by have := ho.few; lia) ?_
  · intro m hm R hR
    have hmo := ho.ok m hm
    repeat (first | with_reducible (first | refine q_isB ?_ | refine q_k ?_ | refine q_cmp ?_ | refine q_chain1 ?_) | ((with_reducible refine' q_loc ?e ?_); case e => rfl) | ((with_reducible refine' q_eqS ?e1 ?e2 ?_); (case e1 => first | assumption | decide +kernel); (case e2 => first | assumption | decide +kernel)))
    exact hR
  · intro m hm _ R hR
    repeat (first | ((with_reducible refine' q_loc ?e ?_); case e => rfl))
    exact hR
  refine alf fun σ1 r1 e1 hr1 l1 => ?_
  have l1 : listAt r1 ((sidePs "bank" g).map .int) σ1 := .inl (by rw [l1]; unfold sidePs; rw [List.map_map]; rfl)
  repeat (first | with_reducible (first | refine q_ev0 ?_))
  refine sortI l1 (by have := ho.bank.few; lia) (fun n hn => (ho.bank.inn n hn).1) ho.bank.nodup fun as σ2 r2 pa ua e2 hr2 l2 => ?_
  have e12 := e1.trans e2
  have hg2 := e12.list hg
  repeat (first | with_reducible (first | refine q_consO fun S1 kn1 => ?_ | refine q_set ?_ | refine q_prim ?_ | refine q_ev1 ?_) | ((with_reducible refine' q_loc ?e ?_); case e => rfl) | with_reducible (first | refine q_next (by assumption) ?_ | refine q_lc ?_ | refine q_itP ?_ | refine q_itemsL (by assumption) ?_))
  refine compLf_as g (fun m : Mark => m.1 == ("book" : Str)) mkAV (fun m => .int m.2) (fun m => [some (.ref pb), some (.ref pk), some (.int span), some (.ref pg), some (.ref r2), none, none, none, none, none, none, some (.str m.1), some (.int m.2)]) (fun x _ => rfl) (fun x _ y _ => rfl) ?_ ?_ hg2 (by have := ho.few; lia) ?_
  · intro m hm R hR
    have hmo := ho.ok m hm
    repeat (first | with_reducible (first | refine q_isB ?_ | refine q_k ?_ | refine q_cmp ?_ | refine q_chain1 ?_) | ((with_reducible refine' q_loc ?e ?_); case e => rfl) | ((with_reducible refine' q_eqS ?e1 ?e2 ?_); (case e1 => first | assumption | decide +kernel); (case e2 => first | assumption | decide +kernel)))
    exact hR
  · intro m hm _ R hR
    repeat (first | ((with_reducible refine' q_loc ?e ?_); case e => rfl))
    exact hR
  refine alf fun σ3 r3 e3 hr3 l3 => ?_
  have l3 : listAt r3 ((sidePs "book" g).map .int) σ3 := .inl (by rw [l3]; unfold sidePs; rw [List.map_map]; rfl)
  repeat (first | with_reducible (first | refine q_ev0 ?_))
  refine sortI l3 (by have := ho.book.few; lia) (fun n hn => (ho.book.inn n hn).1) ho.book.nodup fun bs σ4 r4 pb' ub e4 hr4 l4 => ?_
  have e04 := e12.trans (e3.trans e4)
  have l2 := (e3.trans e4).list l2
  clear e1 e2 e3 e4 hr1 hr2 hr3 hr4 l1 l3 hg2 e12
  repeat (first | with_reducible (first | refine q_consO fun S1 kn1 => ?_ | refine q_set ?_ | refine q_ev0 ?_) | with_reducible (first | refine q_next (by assumption) ?_ | refine q_lst ?_) | ((with_reducible refine' q_tl ?e ?_); case e => rfl))
  refine alf fun σ5 rf e5 hrf lf => ?_
  have eb : Ext σ σ5 := e04.trans e5
  have hb5 := eb.list hb
  repeat (first | with_reducible (first | refine q_consO fun S1 kn1 => ?_ | refine q_k ?_ | refine q_ev1 ?_ | refine q_ev0 ?_) | with_reducible (first | refine q_next (by assumption) ?_ | refine q_tup ?_ | refine q_fr ?_ | refine q_itP ?_ | refine q_itemsT ?_) | ((with_reducible refine' q_tl ?e ?_); case e => rfl))
  change forL _ _ _ _ _ (szs.map szAV) _ _
  have asl : as.length ≤ 5 := by rw [pa.length_eq]; exact ho.bank.few
  have bsl : bs.length ≤ 5 := by rw [pb'.length_eq]; exact ho.book.few
  have ain : ∀ p ∈ as, 0 ≤ p ∧ p < es.length := fun p hp => ho.bank.inn p (pa.mem_iff.mp hp)
  have bin : ∀ p ∈ bs, 0 ≤ p ∧ p < fs.length := fun p hp => ho.book.inn p (pb'.mem_iff.mp hp)
  have len1 : ∀ k l, (matchOf (fitB es fs span) bs k l).length ≤ 5 ^ k := fun k l => by
    unfold matchOf
    rw [List.length_map]
    exact Nat.le_trans (List.length_filter_le ..) (rowsN_len bsl k)
  have szl : ∀ z ∈ szs, z.1 ≤ 3 ∧ z.2 ≤ 3 ∧ (z.1 = 1 ∨ z.2 = 1) ∧ 1 ≤ z.1 ∧ 1 ≤ z.2 := by decide
  have p125 : ∀ k, k ≤ 3 → 5 ^ k ≤ 125 := fun k h => Nat.pow_le_pow_right (by decide) h
  refine forL_at _ (fun i l σ' => Ext σ4 σ' ∧ (((szs.take i).flatMap (bySz (fitB es fs span) as bs)).length ≤ i * 15625) ∧ σ' rf = some (.list (((szs.take i).flatMap (bySz (fitB es fs span) as bs)).map matAV)) ∧ ∃ a7 a8 a9 : Option AV, l = [some (.ref pb), some (.ref pk), some (.int span), some (.ref pg), some (.ref r2), some (.ref r4), some (.ref rf), a7, a8, a9]) ?_ ?_ ⟨e5, by simp, lf, _, _, _, rfl⟩
  · rintro i x l σ' K hx ⟨e', hil, lf', a7, a8, a9, rfl⟩ hK
    rw [List.getElem?_map] at hx
    obtain ⟨z, hz, rfl⟩ := Option.map_eq_some_iff.mp hx
    obtain ⟨z1, z2, z3, z4, z5⟩ := szl z (List.mem_of_getElem? hz)
    have hi5 : i < 5 := (List.getElem?_eq_some_iff.mp hz).1
    have htk : (szs.take (i + 1)).flatMap (bySz (fitB es fs span) as bs) = (szs.take i).flatMap (bySz (fitB es fs span) as bs) ++ bySz (fitB es fs span) as bs z := by rw [List.take_add_one, hz, List.flatMap_append]; simp
    generalize (szs.take i).flatMap (bySz (fitB es fs span) as bs) = acc at hil lf' htk
    refine ⟨_, rfl, ?_⟩
    unfold szAV
    repeat (first | with_reducible (first | refine q_consO fun S1 kn1 => ?_ | refine q_k ?_ | refine q_idx ?_ | refine q_ev1 ?_ | refine q_ev0 ?_ | refine q_callF ?_) | ((with_reducible refine' q_loc ?e ?_); case e => rfl) | with_reducible (first | refine q_fr ?_ | refine q_itP ?_ | refine q_tupIdx rfl ?_))
    refine rows_of_ok G (by lia) (e'.list l2) asl z1 fun σ6 ra e6 hra la => ?_
    have lf6 := e6 _ _ lf'
    have e46 := e'.trans e6
    have hraf : ra ≠ rf := fun e => by rw [e, lf'] at hra; cases hra
    have hal : (rowsN as z.1).length ≤ 125 := Nat.le_trans (rowsN_len asl _) (p125 _ z1)
    repeat (first | with_reducible (first | refine q_itemsL (by assumption) ?_))
    refine forL_at _ (fun j l σ' => Ext σ4 σ' ∧ listAt ra ((rowsN as z.1).map rowI) σ' ∧ ((((rowsN as z.1).take j).flatMap (matchOf (fitB es fs span) bs z.2)).length ≤ j * 125) ∧ σ' rf = some (.list ((acc ++ ((rowsN as z.1).take j).flatMap (matchOf (fitB es fs span) bs z.2)).map matAV)) ∧ ∃ a8 a9 : Option AV, l = [some (.ref pb), some (.ref pk), some (.int span), some (.ref pg), some (.ref r2), some (.ref r4), some (.ref rf), some (.tup [.int (z.1 : Nat), .int (z.2 : Nat)]), a8, a9]) ?_ ?_ ⟨e46, la, by simp, by simpa using lf6, _, _, rfl⟩
    · rintro j x l σ7 K7 hx ⟨e7, la7, hjl, lf7, a8', a9', rfl⟩ hK7
      rw [List.getElem?_map] at hx
      obtain ⟨lr, hlr, rfl⟩ := Option.map_eq_some_iff.mp hx
      have hj : j < 125 := Nat.lt_of_lt_of_le (List.getElem?_eq_some_iff.mp hlr).1 hal
      obtain ⟨lrl, lru⟩ := mem_rowsN.mp (List.mem_of_getElem? hlr)
      have htk7 : ((rowsN as z.1).take (j + 1)).flatMap (matchOf (fitB es fs span) bs z.2) = ((rowsN as z.1).take j).flatMap (matchOf (fitB es fs span) bs z.2) ++ matchOf (fitB es fs span) bs z.2 lr := by rw [List.take_add_one, hlr, List.flatMap_append]; simp
      generalize ((rowsN as z.1).take j).flatMap (matchOf (fitB es fs span) bs z.2) = acc7 at hjl lf7 htk7
      refine ⟨_, rfl, ?_⟩
      repeat (first | with_reducible (first | refine q_consO fun S1 kn1 => ?_ | refine q_k ?_ | refine q_idx ?_ | refine q_ev1 ?_ | refine q_ev0 ?_ | refine q_callF ?_) | ((with_reducible refine' q_loc ?e ?_); case e => rfl) | with_reducible (first | refine q_fr ?_ | refine q_itP ?_ | refine q_tupIdx rfl ?_))
      refine rows_of_ok G (by lia) (e7.list l4) bsl z2 fun σ8 rb e8 hrb lb => ?_
      have lf8 := e8 _ _ lf7
      have la8 := e8.list la7
      have hrbf : rb ≠ rf := fun e => by rw [e, lf7] at hrb; cases hrb
      have hbl : (rowsN bs z.2).length ≤ 125 := Nat.le_trans (rowsN_len bsl _) (p125 _ z2)
      repeat (first | with_reducible (first | refine q_itemsL (by assumption) ?_))
      refine forL_at _ (fun k l σ' => Ext σ4 σ' ∧ listAt ra ((rowsN as z.1).map rowI) σ' ∧ listAt rb ((rowsN bs z.2).map rowI) σ' ∧ σ' rf = some (.list (((acc ++ acc7) ++ (((rowsN bs z.2).take k).filter (fitB es fs span lr)).map fun r => (lr, r)).map matAV)) ∧ ∃ a9 : Option AV, l = [some (.ref pb), some (.ref pk), some (.int span), some (.ref pg), some (.ref r2), some (.ref r4), some (.ref rf), some (.tup [.int (z.1 : Nat), .int (z.2 : Nat)]), some (rowI lr), a9]) ?_ ?_ ⟨e7.trans e8, la8, lb, by simpa using lf8, _, rfl⟩
      · rintro k x l σ9 K9 hx ⟨e9, la9, lb9, lf9, a9'', rfl⟩ hK9
        rw [List.getElem?_map] at hx
        obtain ⟨rr, hrr, rfl⟩ := Option.map_eq_some_iff.mp hx
        obtain ⟨rrl, rru⟩ := mem_rowsN.mp (List.mem_of_getElem? hrr)
        have htk9 : ((rowsN bs z.2).take (k + 1)).filter (fitB es fs span lr) = ((rowsN bs z.2).take k).filter (fitB es fs span lr) ++ [rr].filter (fitB es fs span lr) := by rw [List.take_add_one, hrr, List.filter_append]; rfl
        have hkl : (((rowsN bs z.2).take k).filter (fitB es fs span lr)).length ≤ 125 := Nat.le_trans (List.length_filter_le ..) (Nat.le_trans (by rw [List.length_take]; lia) hbl)
        generalize ((rowsN bs z.2).take k).filter (fitB es fs span lr) = acc9 at lf9 htk9 hkl
        refine ⟨_, rfl, ?_⟩
        repeat (first | with_reducible (first | refine q_consO fun S1 kn1 => ?_ | refine q_if ?_ | refine q_ev1 ?_ | refine q_ev0 ?_ | refine q_callF ?_) | ((with_reducible refine' q_loc ?e ?_); case e => rfl) | with_reducible (first | refine q_tup ?_) | ((with_reducible refine' q_tl ?e ?_); case e => rfl))
        refine fits_ok G (by lia) (e9.list (e04.list hb)) (e9.list (e04.list hk)) se sf ?_ ?_ (up_sm ain ho.bank.small lru (by lia)).2 (up_sm bin ho.book.small rru (by lia)).2 fun σa ea => ?_
        · rw [lrl, rrl]; lia
        · rw [lrl, rrl]; lia
        have lfa := ea _ _ lf9
        have e4a := e9.trans ea
        cases hfit : fitB es fs span lr rr with
        | false =>
          repeat (first | with_reducible (first | refine q_isB ?_) | with_reducible (first | refine q_nil ?_ | refine q_next (by assumption) ?_) | ((with_reducible refine' q_ifFc ?e ?_); case e => rfl))
          refine ⟨ea.list lb9, hK9 _ _ ⟨e4a, ea.list la9, ea.list lb9, ?_, _, rfl⟩⟩
          rw [htk9, List.filter_cons, hfit]
          simpa using lfa
        | true =>
          repeat (first | with_reducible (first | refine q_consO fun S1 kn1 => ?_ | refine q_isB ?_ | refine q_ev1 ?_ | refine q_ev0 ?_) | ((with_reducible refine' q_loc ?e ?_); case e => rfl) | with_reducible (first | refine q_tup ?_ | refine q_ex ?_ | refine q_meth ?_ | refine q_exM (by assumption) ?_) | ((with_reducible refine' q_ifTc ?e ?_); case e => rfl) | ((with_reducible refine' q_tl ?e ?_); case e => rfl))
          refine q_app lfa (by rw [List.length_map, List.length_append, List.length_append, List.length_map]; lia) ?_
          repeat (first | with_reducible (first | refine q_nil ?_ | refine q_next (by assumption) ?_ | refine q_nr ?_))
          refine ⟨list_put (ea.list lb9) hrbf, hK9 _ _ ⟨e4a.put hrf, list_put (ea.list la9) hraf, list_put (ea.list lb9) hrbf, ?_, _, rfl⟩⟩
          rw [AHeap.set_self, htk9, List.filter_cons, hfit, if_pos rfl, List.filter_nil]
          simp [matAV]
      · rintro l σ9 ⟨e9, la9, lb9, lf9, a9'', rfl⟩
        rw [List.length_map, List.take_length] at lf9
        repeat (first | with_reducible (first | refine q_nil ?_ | refine q_next (by assumption) ?_))
        refine ⟨la9, hK7 _ _ ⟨e9, la9, ?_, ?_, _, _, rfl⟩⟩
        · rw [htk7, List.length_append]
          have := len1 z.2 lr
          have := p125 _ z2
          lia
        · rw [htk7, ← List.append_assoc]
          exact lf9
    · rintro l σ7 ⟨e7, la7, hjl, lf7, a8', a9', rfl⟩
      rw [List.length_map, List.take_length] at lf7 hjl
      repeat (first | with_reducible (first | refine q_nil ?_ | refine q_next (by assumption) ?_))
      refine ⟨trivial, hK _ _ ⟨e7, ?_, ?_, _, _, _, rfl⟩⟩
      · rw [htk, List.length_append]
        have : (bySz (fitB es fs span) as bs z).length ≤ 125 * 125 := Nat.le_trans hjl (Nat.mul_le_mul_right _ hal)
        lia
      · rw [htk]
        exact lf7
  rintro l σ6 ⟨e6, hil, lf6, a7, a8, a9, rfl⟩
  rw [List.length_map] at lf6 hil
  rw [List.take_length] at lf6 hil
  have lf6 : σ6 rf = some (.list ((allM (fitB es fs span) as bs).map matAV)) := lf6
  have hsm : ∀ x ∈ allM (fitB es fs span) as bs, SmM x := fun x hx => by
    obtain ⟨z, hz, hx⟩ := List.mem_flatMap.mp hx
    obtain ⟨h1, h2, h3, h4, _⟩ := mem_bySz.mp hx
    obtain ⟨z1, z2, _⟩ := szl z hz
    exact ⟨(up_sm ain ho.bank.small h2 (by lia)).1, (up_sm bin ho.book.small h4 (by lia)).1⟩
  repeat (first | with_reducible (first | refine q_consO fun S1 kn1 => ?_ | refine q_ret ?_) | ((with_reducible refine' q_loc ?e ?_); case e => rfl) | with_reducible (first | refine q_next (by assumption) ?_ | refine q_sortF ?_))
  refine pSortF.mk keyA (fun v => num (unMat v)) (by lia) (.inl lf6) (by rw [List.length_map]; exact Nat.le_trans hil (by decide)) (fun x hx => ?_) (fun x hx => ?_) (fun x hx y hy => ?_) fun ys hperm hpw r hr => ?_
  · obtain ⟨m, _, rfl⟩ := List.mem_map.mp hx
    exact by_size_ok G (by lia) ⟨(keyA_mat m).symm, rfl⟩
  · obtain ⟨m, _, rfl⟩ := List.mem_map.mp hx
    exact ⟨_, _, keyA_mat m⟩
  · obtain ⟨m, hm, rfl⟩ := List.mem_map.mp hx
    obtain ⟨n, hn, rfl⟩ := List.mem_map.mp hy
    refine ⟨keyD m, keyD n, rd_key m, rd_key n, do_key m, do_key n, ?_⟩
    show _ = some (decide (num (unMat (matAV m)) < num (unMat (matAV n))))
    rw [un_mat, un_mat]
    exact lt_key (hsm m hm) (hsm n hn)
  · obtain ⟨p1, p2⟩ := perm_un un_mat hperm
    repeat (first | with_reducible (first | refine q_retK (by assumption) ?_))
    refine q _ _ as bs (ys.map unMat) ((e04.trans e6).trans (.set hr)) pa ua pb' ub p1 (List.pairwise_map.mpr hpw) (fun x hx => hsm x (p1.mem_iff.mp hx)) (by rw [p1.length_eq]; exact Nat.le_trans hil (by decide)) (.inl ?_)
    rw [AHeap.set_self, ← p2]
end
end Mine

set_option maxRecDepth 100000
set_option linter.unusedVariables false
set_option autoImplicit false
set_option linter.unusedSimpArgs false
set_option maxHeartbeats 8000000
set_option pp.deepTerms false
namespace Mine
open PySem PyProof.Rows PySem.SeqAt PySem.W
section
variable {X : Cx} {P : Params} {Q : Post} {Z : XP} {σ : AHeap} {d : Nat}
theorem str_bb : decide ((Str.ofString "bank").cps.toList < (Str.ofString "book").cps.toList) = true := by decide +kernel
theorem str_bb' : decide ((Str.ofString "book").cps.toList < (Str.ofString "bank").cps.toList) = false := by decide +kernel
inductive Holds (σ : AHeap) : List Addr → List (List AV) → Prop
  | nil : Holds σ [] []
  | cons {r : Addr} {rs : List Addr} {g : List AV} {gs : List (List AV)} : σ r = some (.list g) → Holds σ rs gs → Holds σ (r :: rs) (g :: gs)
theorem Holds.set {σ : AHeap} {p : Addr} {o : AO} {rs gs} (h : Holds σ rs gs) (hp : p ∉ rs) : Holds (σ.set p o) rs gs := by
  induction h with
  | nil => exact .nil
  | cons h r ih => exact .cons (by rw [AHeap.set_ne _ _ (fun e => hp (by rw [e]; exact List.mem_cons_self))]; exact h) (ih fun q => hp (List.mem_cons_of_mem _ q))
theorem Holds.snoc {σ : AHeap} {p : Addr} {g : List AV} (hp : σ p = some (.list g)) {rs gs} (h : Holds σ rs gs) : Holds σ (rs ++ [p]) (gs ++ [g]) := by
  induction h with
  | nil => exact .cons hp .nil
  | cons h r ih => exact .cons h ih
theorem Holds.unsnoc {σ : AHeap} {gs g} : ∀ {rs}, Holds σ rs (gs ++ [g]) → ∃ rs' r, rs = rs' ++ [r] ∧ Holds σ rs' gs ∧ σ r = some (.list g) := by
  induction gs with
  | nil => intro rs h; cases h with | cons h r => cases r; exact ⟨[], _, rfl, .nil, h⟩
  | cons g' gs ih =>
    intro rs h
    cases h with
    | cons h r =>
      obtain ⟨rs', q, e, h1, h2⟩ := ih r
      exact ⟨_ :: rs', q, by rw [e]; rfl, .cons h h1, h2⟩
theorem Holds.ext {σ σ' : AHeap} (e : Ext σ σ') {rs gs} (h : Holds σ rs gs) : Holds σ' rs gs := by
  induction h with
  | nil => exact .nil
  | cons h r ih => exact .cons (e _ _ h) ih
theorem nodup_le {α : Type} [DecidableEq α] {l : List α} : ∀ {u : List α}, l.Nodup → (∀ x ∈ l, x ∈ u) → l.length ≤ u.length := by
  induction l with
  | nil => intro u _ _; exact Nat.zero_le _
  | cons a l ih =>
    intro u hn hs
    have ha := hs a List.mem_cons_self
    obtain ⟨hn1, hn2⟩ := List.nodup_cons.mp hn
    have := ih (u := u.erase a) hn2 fun x hx => (List.mem_erase_of_ne fun e : x = a => hn1 (by rw [← e]; exact hx)).mpr (hs x (List.mem_cons_of_mem _ hx))
    rw [List.length_erase_of_mem ha] at this
    have h0 : 0 < u.length := List.length_pos_of_mem ha
    rw [List.length_cons]; lia
/-- a row of the parting: day, side, place -/
abbrev Tr := Int × Str × Int
def trAV (t : Tr) : AV := .tup [.int t.1, .str t.2.1, .int t.2.2]
def unTr : AV → Tr
  | .tup [.int d, .str s, .int p] => (d, s, p)
  | _ => (0, "", 0)
def bn (s : Str) : Nat := if s = "bank" then 0 else 1
def rnkT (t : Tr) : Nat := (t.1.toNat * 2 + bn t.2.1) * 1000 + t.2.2.toNat
theorem bn_lt {s s' : Str} (h : s = "bank" ∨ s = "book") (h' : s' = "bank" ∨ s' = "book") : (bn s = bn s' ↔ s = s') ∧ (s ≠ s' → ltD (.str s) (.str s') = some (decide (bn s < bn s'))) ∧ bn s ≤ 1 := by
  have b0 : bn "bank" = 0 := if_pos rfl
  have b1 : bn "book" = 1 := if_neg (by rw [ne_bb]; exact id)
  rcases h with rfl | rfl <;> rcases h' with rfl | rfl
  · exact ⟨⟨fun _ => rfl, fun _ => rfl⟩, fun h => absurd rfl h, by rw [b0]; exact Nat.zero_le _⟩
  · refine ⟨⟨fun h => ?_, fun h => ?_⟩, fun _ => ?_, by rw [b0]; exact Nat.zero_le _⟩
    · rw [b0, b1] at h; cases h
    · rw [ne_bb'] at h; exact h.elim
    · rw [b0, b1, ltD, str_bb]; rfl
  · refine ⟨⟨fun h => ?_, fun h => ?_⟩, fun _ => ?_, by rw [b1]; exact Nat.le_refl _⟩
    · rw [b0, b1] at h; cases h
    · rw [ne_bb] at h; exact h.elim
    · rw [b0, b1, ltD, str_bb']; rfl
  · exact ⟨⟨fun _ => rfl, fun _ => rfl⟩, fun h => absurd rfl h, by rw [b1]; exact Nat.le_refl _⟩
structure TrOk (t : Tr) : Prop where
  day : 0 ≤ t.1
  side : t.2.1 = "bank" ∨ t.2.1 = "book"
  lo : 0 ≤ t.2.2
  hi : t.2.2 < 1000
theorem tr_lt {t u : Tr} (ht : TrOk t) (hu : TrOk u) : LtAV σ (trAV t) (trAV u) (decide (rnkT t < rnkT u)) := by
  have so : ∀ {s : Str}, s = "bank" ∨ s = "book" → PyData.strOk s = true := fun h => by rcases h with rfl | rfl <;> decide +kernel
  refine ⟨.tuple [.int t.1, .str t.2.1, .int t.2.2], .tuple [.int u.1, .str u.2.1, .int u.2.2], .tup (.cons (.int _) (.cons (.str _) (.cons (.int _) .nil))), .tup (.cons (.int _) (.cons (.str _) (.cons (.int _) .nil))), ?_, ?_, ?_⟩
  · simp [DOk, PyData.canLay0, PyData.canLayAll0, PyData.depth, PyData.depthAll, so ht.side]
  · simp [DOk, PyData.canLay0, PyData.canLayAll0, PyData.depth, PyData.depthAll, so hu.side]
  · obtain ⟨b1, b2, b3⟩ := bn_lt ht.side hu.side
    obtain ⟨_, _, b4⟩ := bn_lt hu.side ht.side
    have := ht.day; have := ht.lo; have := ht.hi; have := hu.day; have := hu.lo; have := hu.hi
    unfold rnkT
    rw [ltD, ltDL, ltDL, ltDL, ltDL, e_int, e_str, e_int]
    by_cases h1 : t.1 = u.1
    · rw [if_pos (by rw [h1]; exact beq_self_eq_true _)]
      by_cases h2 : t.2.1 = u.2.1
      · rw [if_pos (by rw [h2]; exact beq_self_eq_true _), h1, h2]
        by_cases h3 : t.2.2 = u.2.2
        · rw [if_pos (by rw [h3]; exact beq_self_eq_true _), h3, decide_eq_false (by lia)]
        · rw [if_neg (by rw [beq_iff_eq]; exact h3), ltD]
          exact congrArg some (decide_eq_decide.mpr (by lia))
      · have : bn t.2.1 ≠ bn u.2.1 := fun e => h2 (b1.mp e)
        rw [if_neg (by rw [beq_iff_eq]; exact h2), b2 h2, h1]
        exact congrArg some (decide_eq_decide.mpr (by lia))
    · rw [if_neg (by rw [beq_iff_eq]; exact h1), ltD]
      exact congrArg some (decide_eq_decide.mpr (by lia))
def mkOf (t : Tr) : Mark := (t.2.1, t.2.2)
def rowsK (s : Str) : Nat → List (Int × Int) → List Tr
  | _, [] => []
  | k, e :: es => (e.1, s, (k : Int)) :: rowsK s (k + 1) es
def rowF (s : Str) : AV → AV
  | .tup [.int i, .tup [.int dd, .int c]] => .tup [.int dd, .str s, .int i]
  | x => x
theorem enum_rows (s : Str) : ∀ (es : List (Int × Int)) (k : Nat), (enumL k (entL es)).map (rowF s) = (rowsK s k es).map trAV := by
  intro es
  induction es with
  | nil => intro k; rfl
  | cons e es ih =>
    intro k
    show rowF s (.tup [.int k, ent e]) :: (enumL (k + 1) (entL es)).map (rowF s) = _
    rw [ih]; rfl
theorem enum_mem : ∀ (es : List (Int × Int)) (k : Nat), ∀ x ∈ enumL k (entL es), ∃ (i : Nat) (e : Int × Int), x = .tup [.int i, ent e] := by
  intro es
  induction es with
  | nil => intro k x hx; cases hx
  | cons e es ih =>
    intro k x hx
    rcases List.mem_cons.mp hx with h | h
    · exact ⟨k, e, h⟩
    · exact ih _ x h
theorem rowsK_mem {s : Str} : ∀ {es : List (Int × Int)} {k : Nat} {t : Tr}, t ∈ rowsK s k es → t.2.1 = s ∧ (k : Int) ≤ t.2.2 ∧ t.2.2 < (k : Int) + es.length ∧ ∃ e ∈ es, e.1 = t.1 := by
  intro es
  induction es with
  | nil => intro k t h; cases h
  | cons e es ih =>
    intro k t h
    rcases List.mem_cons.mp h with h | h
    · subst h
      rw [List.length_cons]
      exact ⟨rfl, by show (k : Int) ≤ k; lia, by show (k : Int) < _; lia, e, by simp, rfl⟩
    · obtain ⟨h1, h2, h3, e', he, h4⟩ := ih h
      rw [List.length_cons]
      exact ⟨h1, by lia, by lia, e', by simp [he], h4⟩
theorem rowsK_len (s : Str) : ∀ (es : List (Int × Int)) (k : Nat), (rowsK s k es).length = es.length := by
  intro es
  induction es with
  | nil => intro k; rfl
  | cons e es ih => intro k; simp [rowsK, ih]
theorem rowsK_nodup (s : Str) : ∀ (es : List (Int × Int)) (k : Nat), ((rowsK s k es).map mkOf).Nodup := by
  intro es
  induction es with
  | nil => intro k; exact .nil
  | cons e es ih =>
    intro k
    refine List.nodup_cons.mpr ⟨fun h => ?_, ih _⟩
    obtain ⟨t, ht, e'⟩ := List.mem_map.mp h
    obtain ⟨_, h2, _⟩ := rowsK_mem ht
    have : t.2.2 = (k : Int) := congrArg Prod.snd e'
    lia
def allT (es fs : List (Int × Int)) : List Tr := rowsK "bank" 0 es ++ rowsK "book" 0 fs
theorem bb_ne : ("bank" : Str) ≠ "book" := fun e => by have := ne_bb'; rw [e] at this; simp at this
theorem all_nodup (es fs : List (Int × Int)) : ((allT es fs).map mkOf).Nodup := by
  unfold allT
  rw [List.map_append, List.nodup_append]
  refine ⟨rowsK_nodup .., rowsK_nodup .., fun a ha b hb e => ?_⟩
  obtain ⟨t, ht, rfl⟩ := List.mem_map.mp ha
  obtain ⟨u, hu, rfl⟩ := List.mem_map.mp hb
  have h1 := (rowsK_mem ht).1
  have h2 := (rowsK_mem hu).1
  have : t.2.1 = u.2.1 := congrArg Prod.fst e
  rw [h1, h2] at this
  exact bb_ne this
theorem all_mem {es fs : List (Int × Int)} {t : Tr} (h : t ∈ allT es fs) : (t.2.1 = "bank" ∧ 0 ≤ t.2.2 ∧ t.2.2 < es.length ∨ t.2.1 = "book" ∧ 0 ≤ t.2.2 ∧ t.2.2 < fs.length) ∧ ∃ e, (e ∈ es ∨ e ∈ fs) ∧ e.1 = t.1 := by
  rcases List.mem_append.mp h with h | h
  · obtain ⟨h1, h2, h3, e, he, h4⟩ := rowsK_mem h
    exact ⟨.inl ⟨h1, by lia, by lia⟩, e, .inl he, h4⟩
  · obtain ⟨h1, h2, h3, e, he, h4⟩ := rowsK_mem h
    exact ⟨.inr ⟨h1, by lia, by lia⟩, e, .inr he, h4⟩
/-- what a group of the parting is -/
theorem grp_ok {es fs : List (Int × Int)} {g : List Mark} (hn : g.Nodup) (hm : ∀ m ∈ g, ∃ t ∈ allT es fs, mkOf t = m) (he : es.length ≤ 5) (hf : fs.length ≤ 5) : GrpOk g es.length fs.length := by
  have side : ∀ (s : Str) (n : Nat), n ≤ 5 → (∀ m ∈ g, m.1 = s → 0 ≤ m.2 ∧ m.2 < n) → SideOk (sidePs s g) n := fun s n h5 h => by
    have inn : ∀ p ∈ sidePs s g, 0 ≤ p ∧ p < n := fun p hp => by
      obtain ⟨m, hm, rfl⟩ := List.mem_map.mp hp
      obtain ⟨h1, h2⟩ := List.mem_filter.mp hm
      exact h m h1 (by simpa using h2)
    have nd : (sidePs s g).Nodup := nodup_on (List.Nodup.sublist List.filter_sublist hn) fun a ha b hb e => by
      have h1 : a.1 = s := by simpa using (List.mem_filter.mp ha).2
      have h2 : b.1 = s := by simpa using (List.mem_filter.mp hb).2
      exact Prod.ext (h1.trans h2.symm) e
    refine ⟨nd, inn, ?_, h5⟩
    have := nodup_le (u := (List.range n).map fun i : Nat => (i : Int)) nd fun p hp => by
      have := inn p hp
      exact List.mem_map.mpr ⟨p.toNat, List.mem_range.mpr (by lia), by lia⟩
    rw [List.length_map, List.length_range] at this
    lia
  have all : ∀ m ∈ g, (m.1 = "bank" ∧ 0 ≤ m.2 ∧ m.2 < es.length) ∨ (m.1 = "book" ∧ 0 ≤ m.2 ∧ m.2 < fs.length) := fun m h => by
    obtain ⟨t, ht, rfl⟩ := hm m h
    exact (all_mem ht).1
  refine ⟨fun m h => ?_, side _ _ he fun m h e => ?_, side _ _ hf fun m h e => ?_, ?_⟩
  · rcases all m h with h | h <;> rw [h.1] <;> decide +kernel
  · rcases all m h with h | h
    · exact h.2
    · exact absurd (e.symm.trans h.1) bb_ne
  · rcases all m h with h | h
    · exact absurd (h.1.symm.trans e) bb_ne
    · exact h.2
  · have := nodup_le hn (u := (allT es fs).map mkOf) fun m h => by
      obtain ⟨t, ht, e⟩ := hm m h
      exact List.mem_map.mpr ⟨t, ht, e⟩
    rw [List.length_map] at this
    unfold allT at this
    rw [List.length_append, rowsK_len, rowsK_len] at this
    lia
end
end Mine

set_option maxRecDepth 100000
set_option linter.unusedVariables false
set_option autoImplicit false
set_option linter.unusedSimpArgs false
set_option maxHeartbeats 8000000
set_option pp.deepTerms false
namespace Mine
open PySem PyProof.Rows PySem.SeqAt PySem.W
section
variable {X : Cx} {P : Params} {Q : Post} {Z : XP} {σ : AHeap} {d : Nat}
theorem tr_ok {t : Tr} {es fs : List (Int × Int)} (h : t ∈ allT es fs) (h0 : ∀ e, e ∈ es ∨ e ∈ fs → 0 ≤ e.1) (he : es.length ≤ 5) (hf : fs.length ≤ 5) : TrOk t := by
  obtain ⟨h1, e, he', h2⟩ := all_mem h
  have := h0 e he'
  exact ⟨by lia, h1.imp (·.1) (·.1), by lia, by lia⟩
theorem groups_ok (G : Gd X (hK P)) (hd : d < 599) {pb pk : Addr} {es fs : List (Int × Int)} {span : Int} (hb : listAt pb (entL es) σ) (hk : listAt pk (entL fs) σ) (he : es.length ≤ 5) (hf : fs.length ≤ 5) (h0 : ∀ e, e ∈ es ∨ e ∈ fs → 0 ≤ e.1)
    (q : ∀ (σ' : AHeap) (r : Addr) (rs : List Addr) (gs : List (List Mark)), Ext σ σ' → listAt r (rs.map .ref) σ' → Holds σ' rs (gs.map fun g => g.map mkAV) → (∀ g ∈ gs, GrpOk g es.length fs.length) → rs.length ≤ 10 → Q (.ref r) σ') :
    CallOk X 74 d [.ref pb, .ref pk, .int span] Q Z σ := by
  refine' callK (m := _) ["_law_banks", "_law_books", "_law_span"] [("_law_banks", 0), ("_law_books", 1), ("_law_span", 2), ("_law_rows", 3), ("_law_found", 4), ("_law_k", 5)] G rfl rfl (bind3 fun a b c => rfl) rfl rfl rfl rfl rfl rfl rfl rfl (fun env E => ?snd) (by lia) rfl ?bd
  case snd =>
    repeat' first
      | ((with_reducible show SoundSs _ _ _ [] _); (with_reducible refine' sound_nil))
      | ((with_reducible show SoundSs _ _ _ (_ :: _) _); (with_reducible refine' sound_cons ?_ ?_))
      | ((with_reducible show SoundS _ _ _ (.If _ _ _ _) _); (with_reducible refine' sound_if ?_ ?_ ?_))
      | ((with_reducible show SoundS _ _ _ (.Return (some _) _) _); (with_reducible refine' sound_ret ?_))
      | ((with_reducible show SoundS _ _ _ (.Assign [.Name _ _] (.ListComp _ _ _ _) _) _); (with_reducible refine' w_setComp (by assumption) ?r1 ?r2 ?r3 ?r4 ?r5 ?_ (fun env' E' => ?_) (fun env' E' => ?_) (fun env' E' => ?_)); (case r1 => exact rfl); (case r2 => exact rfl); (case r3 => exact rfl); (case r4 => exact rfl); (case r5 => exact rfl))
      | ((with_reducible show SoundS _ _ _ (.Assign [.Name _ _] _ _) _); (with_reducible refine' w_set (by assumption) ?r1 ?r2 ?_ ?r3); (case r1 => exact rfl); (case r2 => exact rfl); (case r3 => exact rfl))
      | ((with_reducible show SoundS _ _ _ (.For _ _ _ _ _) _); (with_reducible refine' w_for ?r1 ?_ ?_ ?_); (case r1 => exact rfl))
      | ((with_reducible show SoundS _ _ _ (.Expr _ _) _); (with_reducible refine' w_ex (by assumption) ?_ ?r1); (case r1 => exact rfl))
      | ((with_reducible show SoundC _ _ _ [] _); (with_reducible refine' w_cNone))
      | ((with_reducible show SoundT _ _ _ (.Name _ _) _); (with_reducible refine' w_tOne (by assumption) ?r1 ?r2); (case r1 => exact rfl); (case r2 => exact rfl))
      | ((with_reducible show SoundTC _ _ _ (.Tuple _ _ _) _); (with_reducible refine' w_tcMany (by assumption) ?_))
      | ((with_reducible show NamesL _ _ [] _); (with_reducible refine' w_nlNil))
      | ((with_reducible show NamesL _ _ (_ :: _) _); (with_reducible refine' w_nlCons (by assumption) ?r1 ?r2 ?_); (case r1 => exact rfl); (case r2 => exact rfl))
      | ((with_reducible show SoundI _ _ _ _ (.Call (.Name "enumerate" _) _ _ _) _); (with_reducible refine' w_enum (by assumption) (by assumption) bi_enumerate ?r1 ?r2 ?_); (case r1 => exact rfl); (case r2 => exact rfl))
      | ((with_reducible show SoundI _ _ _ _ _ _); (with_reducible refine' w_it ?_))
      | ((with_reducible show SoundB _ _ _ (.Compare _ _ _ _) _); (with_reducible refine' soundB_cmp ?_ ?_))
      | ((with_reducible show SoundB _ _ _ (.BoolOp .Or _ _) _); (with_reducible refine' soundB_or ?_))
      | ((with_reducible show SoundE _ _ _ (.Name _ _) _); (with_reducible refine' w_loc (by assumption) ?r1 ?r2 ?r3); (case r1 => exact rfl); (case r2 => exact rfl); (case r3 => exact rfl))
      | ((with_reducible show SoundE _ _ _ (.Constant (.int _) _ _) _); (with_reducible refine' sound_int))
      | ((with_reducible show SoundE _ _ _ (.Constant (.str _) _ _) _); (with_reducible refine' sound_str))
      | ((with_reducible show SoundE _ _ _ (.Tuple _ _ _) _); (with_reducible refine' sound_tup ?_))
      | ((with_reducible show SoundE _ _ _ (.List _ _) _); (with_reducible refine' sound_lst ?_))
      | ((with_reducible show SoundEs _ _ _ [] _); (with_reducible refine' w_es0))
      | ((with_reducible show SoundEs _ _ _ (_ :: _) _); (with_reducible refine' w_es1 ?r1 ?_ ?_); (case r1 => exact rfl))
      | ((with_reducible show SoundE _ _ _ (.Compare _ _ _ _) _); (with_reducible refine' sound_cmp ?_ ?_))
      | ((with_reducible show SoundOps _ _ _ [_] _ _); (with_reducible refine' SoundOps.one ?_ ?r1); (case r1 => exact rfl))
      | ((with_reducible show SoundE _ _ _ (.BinOp _ _ _ _) _); (with_reducible refine' sound_bin ?_ ?_))
      | ((with_reducible show SoundE _ _ _ (.UnaryOp .USub _ _) _); (with_reducible refine' sound_neg ?_))
      | ((with_reducible show SoundEBs _ _ _ [] _); (with_reducible refine' SoundEBs.nil))
      | ((with_reducible show SoundEBs _ _ _ (_ :: _) _); (with_reducible refine' SoundEBs.cons ?_ ?_ ?_))
      | ((with_reducible show SoundE _ _ _ (.Subscript _ _ _) _); (with_reducible refine' sound_idx ?_ ?_ ?r1); (case r1 => exact rfl))
      | ((with_reducible show SoundE _ _ _ (.ListComp _ _ _ _) _); (with_reducible refine' w_comp (by assumption) ?r1 ?r2 ?r3 ?_ (fun env' E' => ?_) (fun env' E' => ?_) (fun env' E' => ?_)); (case r1 => exact rfl); (case r2 => exact rfl); (case r3 => exact rfl))
      | ((with_reducible show SoundE _ _ _ (.Call (.Attribute _ "append" _) _ [] _) _); (with_reducible refine' w_append ?r1 ?r2 ?r3 ?_ ?_); (case r1 => exact (fun _ => rfl)); (case r2 => exact rfl); (case r3 => exact rfl))
      | ((with_reducible show SoundE _ _ _ (.Call (.Name "len" _) _ [] _) _); (with_reducible refine' w_len (by assumption) (by assumption) bi_len ?r1 ?_); (case r1 => exact rfl))
      | ((with_reducible show SoundE _ _ _ (.Call (.Name "range" _) _ [] _) _); (with_reducible refine' w_range (by assumption) (by assumption) bi_range ?r1 ?_); (case r1 => exact rfl))
      | ((with_reducible show SoundE _ _ _ (.Call (.Name "sorted" _) _ [] _) _); (with_reducible refine' w_prim (by assumption) (by assumption) bi_sorted ?r1 sound_sorted ?r2 ?_); (case r1 => exact (.inl ⟨_, rfl⟩)); (case r2 => exact rfl))
  repeat (first | with_reducible (first | refine q_consO fun S1 kn1 => ?_ | refine q_set ?_) | ((with_reducible refine' q_loc ?e ?_); case e => rfl) | with_reducible (first | refine q_lc ?_ | refine q_itE ?_ | refine q_exE (by assumption) ?_))
  refine compL_list (enumL 0 (entL es)) (rowF "bank") (fun x => match x with | .tup [a, b] => [some (.ref pb), some (.ref pk), some (.int span), none, none, none, none, some a, some b] | _ => []) ?_ ?_ ?_ hb (by rw [enumL_length]; simp [entL]; lia) ?_
  · intro x hx
    obtain ⟨i, e, rfl⟩ := enum_mem _ _ x hx; rfl
  · intro x hx y hy
    obtain ⟨i, e, rfl⟩ := enum_mem _ _ x hx
    obtain ⟨j, e', rfl⟩ := enum_mem _ _ y hy; rfl
  · intro x hx R hR
    obtain ⟨i, e, rfl⟩ := enum_mem _ _ x hx
    unfold ent at hR ⊢
    repeat (first | with_reducible (first | refine q_k ?_ | refine q_idx ?_ | refine q_ev1 ?_ | refine q_ev0 ?_) | ((with_reducible refine' q_loc ?e ?_); case e => rfl) | with_reducible (first | refine q_tup ?_ | refine q_tupIdx rfl ?_) | ((with_reducible refine' q_tl ?e ?_); case e => rfl))
    exact hR
  refine alf fun σ1 r1 e1 hr1 l1 => ?_
  have hk := e1.list hk
  rw [enum_rows] at l1
  repeat (first | with_reducible (first | refine q_consO fun S1 kn1 => ?_ | refine q_set ?_ | refine q_prim ?_ | refine q_ev1 ?_) | ((with_reducible refine' q_loc ?e ?_); case e => rfl) | with_reducible (first | refine q_next (by assumption) ?_ | refine q_bin ?_ | refine q_lc ?_ | refine q_itE ?_ | refine q_exE (by assumption) ?_))
  refine compL_list (enumL 0 (entL fs)) (rowF "book") (fun x => match x with | .tup [a, b] => [some (.ref pb), some (.ref pk), some (.int span), some (.ref r1), none, none, none, some a, some b] | _ => []) ?_ ?_ ?_ hk (by rw [enumL_length]; simp [entL]; lia) ?_
  · intro x hx
    obtain ⟨i, e, rfl⟩ := enum_mem _ _ x hx; rfl
  · intro x hx y hy
    obtain ⟨i, e, rfl⟩ := enum_mem _ _ x hx
    obtain ⟨j, e', rfl⟩ := enum_mem _ _ y hy; rfl
  · intro x hx R hR
    obtain ⟨i, e, rfl⟩ := enum_mem _ _ x hx
    unfold ent at hR ⊢
    repeat (first | with_reducible (first | refine q_k ?_ | refine q_idx ?_ | refine q_ev1 ?_ | refine q_ev0 ?_) | ((with_reducible refine' q_loc ?e ?_); case e => rfl) | with_reducible (first | refine q_tup ?_ | refine q_tupIdx rfl ?_) | ((with_reducible refine' q_tl ?e ?_); case e => rfl))
    exact hR
  refine alf fun σ2 r2 e2 hr2 l2 => ?_
  rw [enum_rows] at l2
  refine addL_of (.inl (e2 _ _ l1)) (.inl l2) (by rw [List.length_map, List.length_map, rowsK_len, rowsK_len]; lia) fun σ3 r3 e3 hr3 l3 => ?_
  have l3 : listAt r3 ((allT es fs).map trAV) σ3 := .inl (by rw [l3]; unfold allT; rw [List.map_append])
  have e03 := e1.trans (e2.trans e3)
  have alen : (allT es fs).length ≤ 10 := by unfold allT; rw [List.length_append, rowsK_len, rowsK_len]; lia
  repeat (first | with_reducible (first | refine q_ev0 ?_))
  refine sorted_of (fun v => rnkT (unTr v)) l3 (by rw [List.length_map]; exact Nat.le_trans alen (by decide)) (.inl fun x hx => ?_) (fun x hx y hy => ?_) fun ys hp hs σ4 r4 e4 hr4 l4 => ?_
  · obtain ⟨t, _, rfl⟩ := List.mem_map.mp hx; exact ⟨_, _, rfl⟩
  · obtain ⟨t, ht, rfl⟩ := List.mem_map.mp hx
    obtain ⟨u, hu, rfl⟩ := List.mem_map.mp hy
    exact tr_lt (tr_ok ht h0 he hf) (tr_ok hu h0 he hf)
  obtain ⟨p1, p2⟩ := perm_un (u := unTr) (fun _ => rfl) hp
  rw [p2] at l4
  generalize ys.map unTr = ts at p1 l4
  clear hs hp p2 ys l3 hr3 hr2 l1 l2 hr1
  have tlen : ts.length ≤ 10 := by rw [p1.length_eq]; exact alen
  have tnd : (ts.map mkOf).Nodup := (p1.map mkOf).nodup_iff.mpr (all_nodup es fs)
  have e04 := e03.trans e4
  have hs4 : σ r4 = none := e03.none hr4
  have l4 : listAt r4 (ts.map trAV) σ4 := .inl l4
  clear e1 e2 e3 e4 hr4
  repeat (first | with_reducible (first | refine q_consO fun S1 kn1 => ?_ | refine q_set ?_ | refine q_ev0 ?_) | with_reducible (first | refine q_next (by assumption) ?_ | refine q_lst ?_) | ((with_reducible refine' q_tl ?e ?_); case e => rfl))
  refine alf fun σ5 r5 e5 hr5 l5 => ?_
  have l45 := e5.list l4
  repeat (first | with_reducible (first | refine q_consO fun S1 kn1 => ?_ | refine q_prim ?_ | refine q_ev1 ?_ | refine q_ev0 ?_) | ((with_reducible refine' q_loc ?e ?_); case e => rfl) | with_reducible (first | refine q_next (by assumption) ?_ | refine q_rng1 ?_ | refine q_fr ?_ | refine q_itP ?_ | refine q_lenLM (by assumption) ?_ | refine q_itemsR (by omega) ?_))
  refine forL_range (fun k l σ' => ∃ (rF : Addr) (rs : List Addr) (gs : List (List Mark)) (v5 : Option AV), Holds σ' rs (gs.map fun g => g.map mkAV) ∧ rs.Nodup ∧ (∀ r ∈ rs, σ r = none ∧ r ≠ r4) ∧ listAt rF (rs.map .ref) σ' ∧ rF ∉ rs ∧ listAt r4 (ts.map trAV) σ' ∧ Ext σ σ' ∧ gs.flatten = (ts.take k).map mkOf ∧ rs.length ≤ k ∧ (0 < k → gs ≠ []) ∧
    l = [some (.ref pb), some (.ref pk), some (.int span), some (.ref r4), some (.ref rF), v5]) ?_ ?_ ⟨r5, [], [], _, .nil, .nil, fun r hr => (nomatch hr), .inl l5, fun h => (nomatch h), l45, e04.trans e5, rfl, Nat.le_refl _, fun h => absurd h (Nat.lt_irrefl _), rfl⟩
  · rintro k l σ' K hk' ⟨rF, rs, gs, v5, hH, hnd, hrs, lF, hF, lY, hE, hfl, hrl, hne, rfl⟩ hK
    refine ⟨_, rfl, ?_⟩
    obtain ⟨t, ht⟩ : ∃ t, ts[k]? = some t := ⟨_, List.getElem?_eq_getElem (by simpa using hk')⟩
    have hat : atIdx (ts.map trAV) (k : Int) = some (.tup [.int t.1, .str t.2.1, .int t.2.2]) := by rw [at_nat, List.getElem?_map, ht]; rfl
    have htk : (ts.take (k + 1)).map mkOf = (ts.take k).map mkOf ++ [mkOf t] := by rw [List.take_add_one, ht, List.map_append]; rfl
    repeat (first | with_reducible (first | refine q_consO fun S1 kn1 => ?_))
    refine q_ifJ (fun l' σ'' => ∃ (rF : Addr) (rs : List Addr) (rl : Addr) (gs : List (List Mark)) (g : List Mark), Holds σ'' rs (gs.map fun g => g.map mkAV) ∧ σ'' rl = some (.list (g.map mkAV)) ∧ rl ∉ rs ∧ rs.Nodup ∧ (∀ r ∈ rs ++ [rl], σ r = none ∧ r ≠ r4) ∧ listAt rF ((rs ++ [rl]).map .ref) σ'' ∧ rF ∉ rs ++ [rl] ∧ listAt r4 (ts.map trAV) σ'' ∧ Ext σ σ'' ∧ (gs ++ [g]).flatten = (ts.take k).map mkOf ∧ rs.length ≤ k ∧
      l' = [some (.ref pb), some (.ref pk), some (.int span), some (.ref r4), some (.ref rF), some (.int (k : Nat))]) (fun S' kr kn => ?_) ?_
    · have newG : ∀ {σa σb σc : AHeap} {rn rm rG : Addr}, Ext σ' σa → σ' rn = none → σa rn = some (.list []) → Ext σa σb → Ext σb σc → σb rG = none → σc rG = some (.list (rs.map .ref ++ [.ref rn])) → S' .next [some (.ref pb), some (.ref pk), some (.int span), some (.ref r4), some (.ref rG), some (.int (k : Nat))] σc := fun {σa σb σc rn rm rG} ea hrn ln eb ec hrG lG => by
        have eac := eb.trans ec
        have e'c := ea.trans eac
        have nn : ∀ r ∈ rs, r ≠ rn := fun r hr e => by
          have : ∀ {rs gs}, Holds σ' rs gs → rn ∉ rs := by
            intro rs gs hh
            induction hh with
            | nil => exact fun h => nomatch h
            | cons h1 h2 ih => exact fun h => (List.mem_cons.mp h).elim (fun e => by rw [← e, hrn] at h1; cases h1) ih
          exact this hH (e ▸ hr)
        have held : ∀ {rs gs}, Holds σ' rs gs → ∀ r ∈ rs, σ' r ≠ none := by
          intro rs gs hh
          induction hh with
          | nil => exact fun r h => nomatch h
          | cons h1 h2 ih => exact fun r h => (List.mem_cons.mp h).elim (fun e => by rw [e, h1]; exact fun q => nomatch q) (ih r)
        refine kn _ _ ⟨rG, rs, rn, gs, [], hH.ext e'c, eac _ _ ln, fun h => nn rn h rfl, hnd, fun r hr => ?_, .inl (by rw [lG, List.map_append]; rfl), fun h => ?_, e'c.list lY, hE.trans e'c, by simpa using hfl, hrl, rfl⟩
        · rcases List.mem_append.mp hr with h | h
          · exact hrs r h
          · have : r = rn := by simpa using h
            rw [this]; exact ⟨hE.none hrn, (list_ne lY hrn).symm⟩
        · rcases List.mem_append.mp h with h | h
          · exact held hH rG h ((ea.trans eb).none hrG)
          · have : rG = rn := by simpa using h
            rw [this, eb _ _ ln] at hrG; cases hrG
      have lFl : (rs.map AV.ref).length + 1 ≤ 1000000 := by rw [List.length_map]; lia
      repeat (first | with_reducible (first | refine q_k ?_ | refine q_cmp ?_ | refine q_chain1 ?_ | refine q_exB ?_) | ((with_reducible refine' q_loc ?e ?_); case e => rfl) | with_reducible (first | refine q_or ?_ | refine q_eqI ?_))
      cases hk0 : (((k : Nat) : Int) == 0) with
      | true =>
        repeat (first | with_reducible (first | refine q_consO fun S1 kn1 => ?_ | refine q_set ?_ | refine q_isB ?_ | refine q_ev1 ?_ | refine q_ev0 ?_) | ((with_reducible refine' q_loc ?e ?_); case e => rfl) | with_reducible (first | refine q_bin ?_ | refine q_lst ?_) | ((with_reducible refine' q_ifTc ?e ?_); case e => rfl) | ((with_reducible refine' q_tl ?e ?_); case e => rfl))
        refine alf fun σa rn ea hrn ln => ?_
        repeat (first | with_reducible (first | refine q_ev0 ?_) | ((with_reducible refine' q_tl ?e ?_); case e => rfl))
        refine alf fun σb rm eb hrm lm => ?_
        refine addL_of ((ea.trans eb).list lF) (.inl lm) lFl fun σc rG ec hrG lG => ?_
        repeat (first | with_reducible (first | refine q_nil ?_ | refine q_next (by assumption) ?_))
        exact newG (rm := rm) ea hrn ln eb ec hrG lG
      | false =>
        have hpos : 0 < k := by
          have : ¬ ((k : Nat) : Int) = 0 := by simpa using hk0
          lia
        obtain ⟨u, hu⟩ : ∃ u, ts[k - 1]? = some u := ⟨_, List.getElem?_eq_getElem (by have : k < ts.length := (List.getElem?_eq_some_iff.mp ht).1; lia)⟩
        have hat2 : atIdx (ts.map trAV) ((k : Int) - 1) = some (.tup [.int u.1, .str u.2.1, .int u.2.2]) := by rw [show (k : Int) - 1 = ((k - 1 : Nat) : Int) by lia, at_nat, List.getElem?_map, hu]; rfl
        repeat (first | with_reducible (first | refine q_isB ?_ | refine q_k ?_ | refine q_idx ?_ | refine q_cmp ?_ | refine q_chain1 ?_) | ((with_reducible refine' q_loc ?e ?_); case e => rfl) | with_reducible (first | refine q_bin ?_ | refine q_or1 ?_ | refine q_gt ?_ | refine q_sub ?_ | refine q_tupIdx rfl ?_ | refine q_listIdx (by assumption) (by assumption) ?_) | ((with_reducible refine' q_ifFc ?e ?_); case e => rfl))
        cases decide (t.1 - u.1 > span) with
        | true =>
          repeat (first | with_reducible (first | refine q_consO fun S1 kn1 => ?_ | refine q_set ?_ | refine q_ev1 ?_ | refine q_ev0 ?_) | ((with_reducible refine' q_loc ?e ?_); case e => rfl) | with_reducible (first | refine q_bin ?_ | refine q_lst ?_) | ((with_reducible refine' q_ifTc ?e ?_); case e => rfl) | ((with_reducible refine' q_tl ?e ?_); case e => rfl))
          refine alf fun σa rn ea hrn ln => ?_
          repeat (first | with_reducible (first | refine q_ev0 ?_) | ((with_reducible refine' q_tl ?e ?_); case e => rfl))
          refine alf fun σb rm eb hrm lm => ?_
          refine addL_of ((ea.trans eb).list lF) (.inl lm) lFl fun σc rG ec hrG lG => ?_
          repeat (first | with_reducible (first | refine q_nil ?_ | refine q_next (by assumption) ?_))
          exact newG (rm := rm) ea hrn ln eb ec hrG lG
        | false =>
          repeat (first | with_reducible (first | refine q_nil ?_) | ((with_reducible refine' q_ifFc ?e ?_); case e => rfl))
          rcases List.eq_nil_or_concat gs with rfl | ⟨gs, g, rfl⟩
          · exact absurd rfl (hne hpos)
          rw [List.concat_eq_append] at *
          rw [List.map_append] at hH
          obtain ⟨rs, rl, rfl, h1, h2⟩ := Holds.unsnoc hH
          obtain ⟨n1, _, n2⟩ := List.nodup_append.mp hnd
          exact kn _ _ ⟨rF, rs, rl, gs, g, h1, h2, fun h => n2 rl h rl (by simp) rfl, n1, hrs, lF, hF, lY, hE, hfl, by simp at hrl; lia, rfl⟩
    · rintro l' σ'' ⟨rF, rs, rl, gs, g, hH, ll, hnl, hnd, hrs, lF, hF, lY, hE, hfl, hrl, rfl⟩
      have hat3 : atIdx ((rs ++ [rl]).map AV.ref) (-1) = some (.ref rl) := by rw [List.map_append]; exact at_last _ _
      have hrl' := hrs rl (by simp)
      have glen : g.length ≤ 10 := by
        have h1 := congrArg List.length hfl
        rw [List.length_map, List.length_take, List.flatten_append, List.length_append] at h1
        simp at h1
        lia
      have hfr : rF ≠ rl := fun e => hF (by rw [e]; simp)
      repeat (first | with_reducible (first | refine q_consO fun S1 kn1 => ?_ | refine q_k ?_ | refine q_idx ?_ | refine q_ev1 ?_ | refine q_ev0 ?_) | ((with_reducible refine' q_loc ?e ?_); case e => rfl) | with_reducible (first | refine q_next (by assumption) ?_ | refine q_tup ?_ | refine q_neg ?_ | refine q_exI ?_ | refine q_ex ?_ | refine q_meth ?_ | refine q_tupIdx rfl ?_ | refine q_exM (by assumption) ?_ | refine q_listIdx (by assumption) (by assumption) ?_) | ((with_reducible refine' q_tl ?e ?_); case e => rfl))
      refine q_app ll (by rw [List.length_map]; lia) ?_
      repeat (first | with_reducible (first | refine q_nil ?_ | refine q_next (by assumption) ?_ | refine q_nr ?_))
      refine ⟨trivial, hK _ _ ⟨rF, rs ++ [rl], gs ++ [g ++ [mkOf t]], _, ?_, ?_, hrs, list_put lF hfr, hF, list_put lY (fun e => hrl'.2 e.symm), hE.put hrl'.1, ?_, by rw [List.length_append]; exact Nat.succ_le_succ hrl, fun _ => by simp, rfl⟩⟩
      · rw [List.map_append]
        refine Holds.snoc (g := (g ++ [mkOf t]).map mkAV) ?_ (hH.set hnl)
        rw [AHeap.set_self, List.map_append]; rfl
      · exact List.nodup_append.mpr ⟨hnd, by simp, fun a ha b hb e => by simp at hb; subst hb; subst e; exact hnl ha⟩
      · rw [htk, ← hfl]; simp
  rintro l σ' ⟨rF, rs, gs, v5, hH, hnd, hrs, lF, hF, lY, hE, hfl, hrl, hne, rfl⟩
  repeat (first | with_reducible (first | refine q_consO fun S1 kn1 => ?_ | refine q_ret ?_) | ((with_reducible refine' q_loc ?e ?_); case e => rfl) | with_reducible (first | refine q_next (by assumption) ?_ | refine q_retK (by assumption) ?_))
  rw [List.take_length] at hfl
  refine q _ _ rs gs hE lF hH (fun g hg => ?_) (Nat.le_trans hrl tlen)
  have hsub : g.Sublist (ts.map mkOf) := by rw [← hfl]; exact List.sublist_flatten_of_mem hg
  refine grp_ok (tnd.sublist hsub) (fun m hm => ?_) he hf
  obtain ⟨t, ht, e⟩ := List.mem_map.mp (hsub.subset hm)
  exact ⟨t, p1.mem_iff.mp ht, e⟩
end
end Mine

set_option maxRecDepth 100000
set_option linter.unusedVariables false
set_option autoImplicit false
set_option linter.unusedSimpArgs false
set_option maxHeartbeats 8000000
set_option pp.deepTerms false
namespace Mine
open PySem PyProof.Rows PySem.SeqAt PySem.W
section
variable {X : Cx} {P : Params} {Q : Post} {Z : XP} {σ : AHeap} {d : Nat}
theorem intL_map : ∀ (n : Nat) (lo : Int), intL lo n = (List.range n).map fun i : Nat => AV.int (lo + i) := by
  intro n
  induction n with
  | zero => intro lo; rfl
  | succ n ih =>
    intro lo
    rw [List.range_succ_eq_map, List.map_cons, List.map_map]
    show AV.int lo :: intL (lo + 1) n = _
    rw [ih]
    refine congr (congrArg _ (by simp)) (List.map_congr_left fun i _ => ?_)
    show AV.int (lo + 1 + i) = AV.int (lo + ((i + 1 : Nat) : Int))
    congr 1; lia
theorem fmod2 (m : Nat) : ((m : Int).fmod 2 == 1) = decide (m % 2 = 1) := by
  have : (m : Int).fmod 2 = ((m % 2 : Nat) : Int) := by rw [Int.fmod_eq_emod_of_nonneg _ (by decide)]; rfl
  rw [this, Bool.eq_iff_iff, beq_iff_eq, decide_eq_true_iff]; lia
theorem fdiv2 (m : Nat) : (m : Int).fdiv 2 = ((m / 2 : Nat) : Int) := by rw [Int.fdiv_eq_ediv_of_nonneg _ (by decide)]; rfl
theorem chosen_cons (p : Int) (ps : List Int) (m : Nat) : chosen (p :: ps) m = if m % 2 = 1 then p :: chosen ps (m / 2) else chosen ps (m / 2) := rfl
theorem chosen_ok (G : Gd X (hK P)) (hd : d < 600) {pp : Addr} {ps : List Int} {n : Nat} (hp : listAt pp (ps.map .int) σ) (hl : ps.length ≤ 100) (q : ∀ σ', Ext σ σ' → Q (rowI (chosen ps n)) σ') : CallOk X 81 d [.ref pp, .int n] Q Z σ := by
  refine' callK (m := _) ["_law_places", "_law_number"] [("_law_places", 0), ("_law_number", 1), ("_law_found", 2), ("_law_place", 3)] G rfl rfl (bind2 fun a b => rfl) rfl rfl rfl rfl rfl rfl rfl rfl (fun env E => ?snd) hd rfl ?bd
  case snd =>
    repeat' first
      | ((with_reducible show SoundSs _ _ _ [] _); (with_reducible refine' sound_nil))
      | ((with_reducible show SoundSs _ _ _ (_ :: _) _); (with_reducible refine' sound_cons ?_ ?_))
      | ((with_reducible show SoundS _ _ _ (.If _ _ _ _) _); (with_reducible refine' sound_if ?_ ?_ ?_))
      | ((with_reducible show SoundS _ _ _ (.Return (some _) _) _); (with_reducible refine' sound_ret ?_))
      | ((with_reducible show SoundS _ _ _ (.Assign [.Name _ _] _ _) _); (with_reducible refine' w_set (by assumption) ?r1 ?r2 ?_ ?r3); (case r1 => exact rfl); (case r2 => exact rfl); (case r3 => exact rfl))
      | ((with_reducible show SoundS _ _ _ (.For _ _ _ _ _) _); (with_reducible refine' w_for ?r1 ?_ ?_ ?_); (case r1 => exact rfl))
      | ((with_reducible show SoundS _ _ _ (.Expr _ _) _); (with_reducible refine' w_ex (by assumption) ?_ ?r1); (case r1 => exact rfl))
      | ((with_reducible show SoundT _ _ _ (.Name _ _) _); (with_reducible refine' w_tOne (by assumption) ?r1 ?r2); (case r1 => exact rfl); (case r2 => exact rfl))
      | ((with_reducible show SoundI _ _ _ _ _ _); (with_reducible refine' w_it ?_))
      | ((with_reducible show SoundB _ _ _ (.Compare _ _ _ _) _); (with_reducible refine' soundB_cmp ?_ ?_))
      | ((with_reducible show SoundE _ _ _ (.Name _ _) _); (with_reducible refine' w_loc (by assumption) ?r1 ?r2 ?r3); (case r1 => exact rfl); (case r2 => exact rfl); (case r3 => exact rfl))
      | ((with_reducible show SoundE _ _ _ (.Constant (.int _) _ _) _); (with_reducible refine' sound_int))
      | ((with_reducible show SoundE _ _ _ (.List _ _) _); (with_reducible refine' sound_lst ?_))
      | ((with_reducible show SoundEs _ _ _ [] _); (with_reducible refine' w_es0))
      | ((with_reducible show SoundEs _ _ _ (_ :: _) _); (with_reducible refine' w_es1 ?r1 ?_ ?_); (case r1 => exact rfl))
      | ((with_reducible show SoundOps _ _ _ [_] _ _); (with_reducible refine' SoundOps.one ?_ ?r1); (case r1 => exact rfl))
      | ((with_reducible show SoundE _ _ _ (.BinOp _ _ _ _) _); (with_reducible refine' sound_bin ?_ ?_))
      | ((with_reducible show SoundE _ _ _ (.Call (.Attribute _ "append" _) _ [] _) _); (with_reducible refine' w_append ?r1 ?r2 ?r3 ?_ ?_); (case r1 => exact (fun _ => rfl)); (case r2 => exact rfl); (case r3 => exact rfl))
      | ((with_reducible show SoundE _ _ _ (.Call (.Name "tuple" _) _ [] _) _); (with_reducible refine' w_prim (by assumption) (by assumption) bi_tuple ?r1 sound_tuple ?r2 ?_); (case r1 => exact (.inr ⟨_, rfl⟩)); (case r2 => exact rfl))
  repeat (first | with_reducible (first | refine q_consO fun S1 kn1 => ?_ | refine q_set ?_ | refine q_ev0 ?_) | with_reducible (first | refine q_lst ?_) | ((with_reducible refine' q_tl ?e ?_); case e => rfl))
  refine alf fun σ1 rf e1 hrf l1 => ?_
  have hp1 := e1.list hp
  repeat (first | with_reducible (first | refine q_consO fun S1 kn1 => ?_) | ((with_reducible refine' q_loc ?e ?_); case e => rfl) | with_reducible (first | refine q_next (by assumption) ?_ | refine q_fr ?_ | refine q_itP ?_ | refine q_itemsL (by assumption) ?_))
  refine forL_at _ (fun k l σ' => Ext σ σ' ∧ ∃ (pre : List Int) (m : Nat) (v3 : Option AV), chosen ps n = pre ++ chosen (ps.drop k) m ∧ pre.length ≤ k ∧ σ' rf = some (.list (pre.map .int)) ∧ l = [some (.ref pp), some (.int (m : Nat)), some (.ref rf), v3]) ?_ ?_ ⟨e1, [], n, _, rfl, Nat.le_refl _, l1, rfl⟩
  · rintro k x l σ' K hx ⟨e', pre, m, v3, hc, hpl, lf, rfl⟩ hK
    have hkl : k < ps.length := by have := (List.getElem?_eq_some_iff.mp hx).1; simpa using this
    rw [List.getElem?_map] at hx
    obtain ⟨p, hpk, rfl⟩ := Option.map_eq_some_iff.mp hx
    have hdr : ps.drop k = p :: ps.drop (k + 1) := by
      rw [List.drop_eq_getElem_cons hkl]
      congr 1
      exact (List.getElem?_eq_some_iff.mp hpk).2
    rw [hdr, chosen_cons] at hc
    refine ⟨_, rfl, ?_⟩
    repeat (first | with_reducible (first | refine q_consO fun S1 kn1 => ?_ | refine q_if ?_ | refine q_isB ?_ | refine q_k ?_ | refine q_cmp ?_ | refine q_chain1 ?_) | ((with_reducible refine' q_loc ?e ?_); case e => rfl) | with_reducible (first | refine q_bin ?_ | refine q_eqI ?_ | refine q_mod (by decide) ?_))
    rw [fmod2]
    by_cases hm : m % 2 = 1
    · rw [if_pos hm] at hc
      rw [decide_eq_true hm]
      repeat (first | with_reducible (first | refine q_consO fun S1 kn1 => ?_ | refine q_ev1 ?_ | refine q_ev0 ?_) | ((with_reducible refine' q_loc ?e ?_); case e => rfl) | with_reducible (first | refine q_ex ?_ | refine q_meth ?_ | refine q_exM (by assumption) ?_) | ((with_reducible refine' q_ifTc ?e ?_); case e => rfl))
      refine q_app lf (by rw [List.length_map]; lia) ?_
      repeat (first | with_reducible (first | refine q_consO fun S1 kn1 => ?_ | refine q_set ?_ | refine q_k ?_) | ((with_reducible refine' q_loc ?e ?_); case e => rfl) | with_reducible (first | refine q_nil ?_ | refine q_next (by assumption) ?_ | refine q_bin ?_ | refine q_nr ?_ | refine q_div (by decide) (by decide) ?_))
      rw [fdiv2]
      refine ⟨(e'.put hrf).list hp, hK _ _ ⟨e'.put hrf, pre ++ [p], m / 2, _, by rw [hc]; simp, by simp; lia, by rw [AHeap.set_self, List.map_append]; rfl, rfl⟩⟩
    · rw [if_neg hm] at hc
      rw [decide_eq_false hm]
      repeat (first | with_reducible (first | refine q_consO fun S1 kn1 => ?_ | refine q_set ?_ | refine q_k ?_) | ((with_reducible refine' q_loc ?e ?_); case e => rfl) | with_reducible (first | refine q_nil ?_ | refine q_next (by assumption) ?_ | refine q_bin ?_ | refine q_div (by decide) (by decide) ?_) | ((with_reducible refine' q_ifFc ?e ?_); case e => rfl))
      rw [fdiv2]
      exact ⟨e'.list hp, hK _ _ ⟨e', pre, m / 2, _, hc, by lia, lf, rfl⟩⟩
  rintro l σ' ⟨e', pre, m, v3, hc, hpl, lf, rfl⟩
  rw [List.length_map, List.drop_length] at hc
  have hc : chosen ps n = pre := by rw [hc]; unfold chosen; simp
  have lf' : listAt rf (pre.map .int) σ' := .inl lf
  repeat (first | with_reducible (first | refine q_consO fun S1 kn1 => ?_ | refine q_ret ?_ | refine q_prim ?_ | refine q_ev1 ?_ | refine q_ev0 ?_) | ((with_reducible refine' q_loc ?e ?_); case e => rfl) | with_reducible (first | refine q_next (by assumption) ?_ | refine q_retK (by assumption) ?_ | refine q_tupL (by assumption) ?_))
  have := q σ' e'
  rw [hc] at this
  exact this
theorem rows2_ok (G : Gd X (hK P)) (hd : d < 599) {pp : Addr} {ps : List Int} (hp : listAt pp (ps.map .int) σ) (hl : ps.length ≤ 5) (q : ∀ σ' r, Ext σ σ' → σ r = none → listAt r ((dueRows ps).map rowI) σ' → Q (.ref r) σ') : CallOk X 88 d [.ref pp] Q Z σ := by
  refine' callK (m := _) ["_law_places"] [("_law_places", 0), ("_law_found", 1), ("_law_many", 2), ("_law_place", 3), ("_law_number", 4), ("_law_row", 5)] G rfl rfl (bind1 fun a => rfl) rfl rfl rfl rfl rfl rfl rfl rfl (fun env E => ?snd) (by lia) rfl ?bd
  case snd =>
    repeat' first
      | ((with_reducible show SoundSs _ _ _ [] _); (with_reducible refine' sound_nil))
      | ((with_reducible show SoundSs _ _ _ (_ :: _) _); (with_reducible refine' sound_cons ?_ ?_))
      | ((with_reducible show SoundS _ _ _ (.If _ _ _ _) _); (with_reducible refine' sound_if ?_ ?_ ?_))
      | ((with_reducible show SoundS _ _ _ (.Return (some _) _) _); (with_reducible refine' sound_ret ?_))
      | ((with_reducible show SoundS _ _ _ (.Assign [.Name _ _] _ _) _); (with_reducible refine' w_set (by assumption) ?r1 ?r2 ?_ ?r3); (case r1 => exact rfl); (case r2 => exact rfl); (case r3 => exact rfl))
      | ((with_reducible show SoundS _ _ _ (.For _ _ _ _ _) _); (with_reducible refine' w_for ?r1 ?_ ?_ ?_); (case r1 => exact rfl))
      | ((with_reducible show SoundS _ _ _ (.Expr _ _) _); (with_reducible refine' w_ex (by assumption) ?_ ?r1); (case r1 => exact rfl))
      | ((with_reducible show SoundT _ _ _ (.Name _ _) _); (with_reducible refine' w_tOne (by assumption) ?r1 ?r2); (case r1 => exact rfl); (case r2 => exact rfl))
      | ((with_reducible show SoundI _ _ _ _ _ _); (with_reducible refine' w_it ?_))
      | ((with_reducible show SoundB _ _ _ (.Compare _ _ _ _) _); (with_reducible refine' soundB_cmp ?_ ?_))
      | ((with_reducible show SoundE _ _ _ (.Name _ _) _); (with_reducible refine' w_loc (by assumption) ?r1 ?r2 ?r3); (case r1 => exact rfl); (case r2 => exact rfl); (case r3 => exact rfl))
      | ((with_reducible show SoundE _ _ _ (.Constant (.int _) _ _) _); (with_reducible refine' sound_int))
      | ((with_reducible show SoundE _ _ _ (.List _ _) _); (with_reducible refine' sound_lst ?_))
      | ((with_reducible show SoundEs _ _ _ [] _); (with_reducible refine' w_es0))
      | ((with_reducible show SoundEs _ _ _ (_ :: _) _); (with_reducible refine' w_es1 ?r1 ?_ ?_); (case r1 => exact rfl))
      | ((with_reducible show SoundOps _ _ _ [_] _ _); (with_reducible refine' SoundOps.one ?_ ?r1); (case r1 => exact rfl))
      | ((with_reducible show SoundE _ _ _ (.BinOp _ _ _ _) _); (with_reducible refine' sound_bin ?_ ?_))
      | ((with_reducible show SoundE _ _ _ (.Call (.Attribute _ "append" _) _ [] _) _); (with_reducible refine' w_append ?r1 ?r2 ?r3 ?_ ?_); (case r1 => exact (fun _ => rfl)); (case r2 => exact rfl); (case r3 => exact rfl))
      | ((with_reducible show SoundE _ _ _ (.Call (.Name "len" _) _ [] _) _); (with_reducible refine' w_len (by assumption) (by assumption) bi_len ?r1 ?_); (case r1 => exact rfl))
      | ((with_reducible show SoundE _ _ _ (.Call (.Name "range" _) _ [] _) _); (with_reducible refine' w_range (by assumption) (by assumption) bi_range ?r1 ?_); (case r1 => exact rfl))
      | ((with_reducible show SoundE _ _ _ (.Call (.Name _ _) _ [] _) _); (with_reducible refine' w_call (by assumption) (by assumption) ?r1 ?r2 ?r3 ?_); (case r1 => exact rfl); (case r2 => exact ⟨_, _, rfl, rfl⟩); (case r3 => exact rfl))
  repeat (first | with_reducible (first | refine q_consO fun S1 kn1 => ?_ | refine q_set ?_ | refine q_ev0 ?_) | with_reducible (first | refine q_lst ?_) | ((with_reducible refine' q_tl ?e ?_); case e => rfl))
  refine alf fun σ1 rf e1 hrf l1 => ?_
  have hp1 := e1.list hp
  repeat (first | with_reducible (first | refine q_consO fun S1 kn1 => ?_ | refine q_set ?_ | refine q_k ?_) | ((with_reducible refine' q_loc ?e ?_); case e => rfl) | with_reducible (first | refine q_next (by assumption) ?_ | refine q_fr ?_ | refine q_itP ?_ | refine q_itemsL (by assumption) ?_))
  refine forL_at _ (fun k l σ' => σ' = σ1 ∧ ∃ (v3 : Option AV), l = [some (.ref pp), some (.ref rf), some (.int ((2 ^ k : Nat) : Int)), v3, none, none]) ?_ ?_ ⟨rfl, _, rfl⟩
  · rintro k x l σ' K hx ⟨rfl, v3, rfl⟩ hK
    have hkl : k < ps.length := by have := (List.getElem?_eq_some_iff.mp hx).1; simpa using this
    rw [List.getElem?_map] at hx
    obtain ⟨p, hpk, rfl⟩ := Option.map_eq_some_iff.mp hx
    refine ⟨_, rfl, ?_⟩
    repeat (first | with_reducible (first | refine q_consO fun S1 kn1 => ?_ | refine q_set ?_ | refine q_k ?_) | ((with_reducible refine' q_loc ?e ?_); case e => rfl) | with_reducible (first | refine q_nil ?_ | refine q_next (by assumption) ?_ | refine q_bin ?_ | refine q_mulR (by decide) ?_))
    exact ⟨hp1, hK _ _ ⟨rfl, _, by rw [Nat.pow_succ]; rfl⟩⟩
  rintro l σ' ⟨rfl, v3, rfl⟩
  rw [List.length_map]
  have hpw : 2 ^ ps.length ≤ 32 := Nat.pow_le_pow_right (by decide) hl
  have hpos : 0 < 2 ^ ps.length := Nat.pow_pos (by decide)
  repeat (first | with_reducible (first | refine q_consO fun S1 kn1 => ?_ | refine q_k ?_ | refine q_prim ?_ | refine q_ev1 ?_ | refine q_ev0 ?_) | ((with_reducible refine' q_loc ?e ?_); case e => rfl) | with_reducible (first | refine q_next (by assumption) ?_ | refine q_fr ?_ | refine q_itP ?_))
  refine .two ?_
  skip
  refine ⟨by lia, by lia, by lia, by lia, ?_⟩
  unfold rngL
  rw [intL_map, show (((2 ^ ps.length : Nat) : Int) - 1).toNat = 2 ^ ps.length - 1 by lia]
  generalize hN : 2 ^ ps.length - 1 = N
  refine forL_at _ (fun k l σ'' => Ext σ σ'' ∧ σ'' rf = some (.list ((((List.range k).map fun i => chosen ps (i + 1)).filter fun r => decide (r.length < 4)).map rowI)) ∧ ∃ (v3 v4 v5 : Option AV), l = [some (.ref pp), some (.ref rf), some (.int ((2 ^ ps.length : Nat) : Int)), v3, v4, v5]) ?_ ?_ ⟨e1, l1, _, _, _, rfl⟩
  · rintro k x l σ'' K hx ⟨e', lf, v3, v4, v5, rfl⟩ hK
    have hkl : k < N := by have := (List.getElem?_eq_some_iff.mp hx).1; simpa using this
    rw [List.getElem?_map] at hx
    obtain ⟨i, hi, rfl⟩ := Option.map_eq_some_iff.mp hx
    have hi : i = k := by
      have := (List.getElem?_eq_some_iff.mp hi).2
      rw [List.getElem_range] at this; exact this.symm
    subst hi
    have htk : ((List.range (i + 1)).map fun i => chosen ps (i + 1)).filter (fun r => decide (r.length < 4)) = ((List.range i).map fun i => chosen ps (i + 1)).filter (fun r => decide (r.length < 4)) ++ [chosen ps (i + 1)].filter (fun r => decide (r.length < 4)) := by rw [List.range_succ, List.map_append, List.filter_append]; rfl
    have hfl : (((List.range i).map fun i => chosen ps (i + 1)).filter fun r => decide (r.length < 4)).length ≤ 100 := Nat.le_trans (List.length_filter_le ..) (by rw [List.length_map, List.length_range]; lia)
    refine ⟨_, rfl, ?_⟩
    repeat (first | with_reducible (first | refine q_consO fun S1 kn1 => ?_ | refine q_set ?_ | refine q_ev1 ?_ | refine q_ev0 ?_ | refine q_callF ?_) | ((with_reducible refine' q_loc ?e ?_); case e => rfl))
    rw [show (1 : Int) + (i : Int) = ((i + 1 : Nat) : Int) by lia]
    refine chosen_ok G (by lia) (e'.list hp) (by lia) fun σ2 e2 => ?_
    have lf2 := e2 _ _ lf
    have e02 := e'.trans e2
    unfold rowI
    repeat (first | with_reducible (first | refine q_consO fun S1 kn1 => ?_ | refine q_if ?_ | refine q_isB ?_ | refine q_k ?_ | refine q_cmp ?_ | refine q_chain1 ?_ | refine q_prim ?_ | refine q_ev1 ?_ | refine q_ev0 ?_) | ((with_reducible refine' q_loc ?e ?_); case e => rfl) | with_reducible (first | refine q_next (by assumption) ?_ | refine q_lenTM ?_ | refine q_lt ?_))
    by_cases h4 : (chosen ps (i + 1)).length < 4
    · rw [show decide (((chosen ps (i + 1)).length : Int) < 4) = true from decide_eq_true (by lia)]
      repeat (first | with_reducible (first | refine q_consO fun S1 kn1 => ?_ | refine q_ev1 ?_ | refine q_ev0 ?_) | ((with_reducible refine' q_loc ?e ?_); case e => rfl) | with_reducible (first | refine q_ex ?_ | refine q_meth ?_ | refine q_exM (by assumption) ?_) | ((with_reducible refine' q_ifTc ?e ?_); case e => rfl))
      refine q_app lf2 (by rw [List.length_map]; lia) ?_
      repeat (first | with_reducible (first | refine q_nil ?_ | refine q_next (by assumption) ?_ | refine q_nr ?_))
      refine ⟨trivial, hK _ _ ⟨e02.put hrf, ?_, _, _, _, rfl⟩⟩
      rw [AHeap.set_self, htk, List.filter_cons, decide_eq_true h4, if_pos rfl, List.filter_nil, List.map_append]; rfl
    · rw [show decide (((chosen ps (i + 1)).length : Int) < 4) = false from decide_eq_false (by lia)]
      repeat (first | with_reducible (first | refine q_nil ?_ | refine q_next (by assumption) ?_) | ((with_reducible refine' q_ifFc ?e ?_); case e => rfl))
      refine ⟨trivial, hK _ _ ⟨e02, ?_, _, _, _, rfl⟩⟩
      rw [htk, List.filter_cons, decide_eq_false h4]
      simpa using lf2
  rintro l σ'' ⟨e', lf, v3, v4, v5, rfl⟩
  rw [List.length_map, List.length_range] at lf
  repeat (first | with_reducible (first | refine q_consO fun S1 kn1 => ?_ | refine q_ret ?_) | ((with_reducible refine' q_loc ?e ?_); case e => rfl) | with_reducible (first | refine q_next (by assumption) ?_ | refine q_retK (by assumption) ?_))
  refine q _ _ e' hrf (.inl ?_)
  unfold dueRows
  rw [hN]; exact lf
end
end Mine

set_option maxRecDepth 100000
set_option linter.unusedVariables false
set_option autoImplicit false
set_option linter.unusedSimpArgs false
set_option maxHeartbeats 8000000
set_option pp.deepTerms false
namespace Mine
open PySem PyProof.Rows PySem.SeqAt PySem.W
section
variable {X : Cx} {P : Params} {Q : Post} {Z : XP} {σ : AHeap} {d : Nat}
theorem or_meet {c1 c2 : Bool} {T : AV → Prop} {E : Prop} (hE : T (.bool c2) → E) (h : T (.bool (c1 || c2))) : if c1 = true then T (.bool true) else E := by
  cases c1 with
  | true => exact h
  | false => exact hE h
def unDue : AV → Mat
  | .tup [_, a, b] => (unRow a, unRow b)
  | _ => ([], [])
theorem un_due (x : Mat) : unDue (dueAV x) = x := by show (unRow (rowI x.1), unRow (rowI x.2)) = x; rw [un_rowI, un_rowI]
theorem due_len {ps : List Int} (h : ps.length ≤ 5) : (dueRows ps).length ≤ 31 := by
  unfold dueRows
  have : 2 ^ ps.length ≤ 32 := Nat.pow_le_pow_right (by decide) h
  exact Nat.le_trans (List.length_filter_le ..) (by rw [List.length_map, List.length_range]; lia)
theorem due_ok (G : Gd X (hK P)) (hd : d < 580) {pb pk pg : Addr} {es fs : List (Int × Int)} {span : Int} {g : List Mark} (hb : listAt pb (entL es) σ) (hk : listAt pk (entL fs) σ) (hg : listAt pg (g.map mkAV) σ) (se : small es) (sf : small fs) (ho : GrpOk g es.length fs.length)
    (q : ∀ σ' r (as bs : List Int) (ys : List Mat), Ext σ σ' → as.Perm (sidePs "bank" g) → as.Pairwise (· < ·) → bs.Perm (sidePs "book" g) → bs.Pairwise (· < ·) → ys.Perm (dueM (fitB es fs span) as bs) → ys.Pairwise (fun x y => num x ≤ num y) → listAt r (ys.map matAV) σ' → Q (.ref r) σ') :
    CallOk X 93 d [.ref pb, .ref pk, .int span, .ref pg] Q Z σ := by
  refine' callK (m := _) ["_law_banks", "_law_books", "_law_span", "_law_group"] [("_law_banks", 0), ("_law_books", 1), ("_law_span", 2), ("_law_group", 3), ("_law_ones", 4), ("_law_others", 5), ("_law_found", 6), ("_law_one", 7), ("_law_other", 8), ("_law_days", 9), ("_law_total", 10)] G rfl rfl (bind4 fun a b c d => rfl) rfl rfl rfl rfl rfl rfl rfl rfl (fun env E => ?snd) (by lia) rfl ?bd
  case snd =>
    repeat' first
      | ((with_reducible show SoundSs _ _ _ [] _); (with_reducible refine' sound_nil))
      | ((with_reducible show SoundSs _ _ _ (_ :: _) _); (with_reducible refine' sound_cons ?_ ?_))
      | ((with_reducible show SoundS _ _ _ (.If _ _ _ _) _); (with_reducible refine' sound_if ?_ ?_ ?_))
      | ((with_reducible show SoundS _ _ _ (.Return (some _) _) _); (with_reducible refine' sound_ret ?_))
      | ((with_reducible show SoundS _ _ _ (.Assign [.Name _ _] _ _) _); (with_reducible refine' w_set (by assumption) ?r1 ?r2 ?_ ?r3); (case r1 => exact rfl); (case r2 => exact rfl); (case r3 => exact rfl))
      | ((with_reducible show SoundS _ _ _ (.For _ _ _ _ _) _); (with_reducible refine' w_for ?r1 ?_ ?_ ?_); (case r1 => exact rfl))
      | ((with_reducible show SoundS _ _ _ (.Expr _ _) _); (with_reducible refine' w_ex (by assumption) ?_ ?r1); (case r1 => exact rfl))
      | ((with_reducible show SoundC _ _ _ [] _); (with_reducible refine' w_cNone))
      | ((with_reducible show SoundC _ _ _ (_ :: _) _); (with_reducible refine' w_cSome ?_))
      | ((with_reducible show SoundT _ _ _ (.Name _ _) _); (with_reducible refine' w_tOne (by assumption) ?r1 ?r2); (case r1 => exact rfl); (case r2 => exact rfl))
      | ((with_reducible show SoundTC _ _ _ (.Name _ _) _); (with_reducible refine' w_tcOne (by assumption) ?r1 ?r2); (case r1 => exact rfl); (case r2 => exact rfl))
      | ((with_reducible show SoundI _ _ _ _ _ _); (with_reducible refine' w_it ?_))
      | ((with_reducible show SoundB _ _ _ (.Compare _ _ _ _) _); (with_reducible refine' soundB_cmp ?_ ?_))
      | ((with_reducible show SoundB _ _ _ (.BoolOp .And _ _) _); (with_reducible refine' soundB_and ?_))
      | ((with_reducible show SoundB _ _ _ (.BoolOp .Or _ _) _); (with_reducible refine' soundB_or ?_))
      | ((with_reducible show SoundE _ _ _ (.Name _ _) _); (with_reducible refine' w_loc (by assumption) ?r1 ?r2 ?r3); (case r1 => exact rfl); (case r2 => exact rfl); (case r3 => exact rfl))
      | ((with_reducible show SoundE _ _ _ (.Constant (.int _) _ _) _); (with_reducible refine' sound_int))
      | ((with_reducible show SoundE _ _ _ (.Constant (.str _) _ _) _); (with_reducible refine' sound_str))
      | ((with_reducible show SoundE _ _ _ (.Tuple _ _ _) _); (with_reducible refine' sound_tup ?_))
      | ((with_reducible show SoundE _ _ _ (.List _ _) _); (with_reducible refine' sound_lst ?_))
      | ((with_reducible show SoundEs _ _ _ [] _); (with_reducible refine' w_es0))
      | ((with_reducible show SoundEs _ _ _ (_ :: _) _); (with_reducible refine' w_es1 ?r1 ?_ ?_); (case r1 => exact rfl))
      | ((with_reducible show SoundE _ _ _ (.Compare _ _ _ _) _); (with_reducible refine' sound_cmp ?_ ?_))
      | ((with_reducible show SoundOps _ _ _ [_] _ _); (with_reducible refine' SoundOps.one ?_ ?r1); (case r1 => exact rfl))
      | ((with_reducible show SoundE _ _ _ (.BinOp _ _ _ _) _); (with_reducible refine' sound_bin ?_ ?_))
      | ((with_reducible show SoundEBs _ _ _ [] _); (with_reducible refine' SoundEBs.nil))
      | ((with_reducible show SoundEBs _ _ _ (_ :: _) _); (with_reducible refine' SoundEBs.cons ?_ ?_ ?_))
      | ((with_reducible show SoundE _ _ _ (.Subscript _ _ _) _); (with_reducible refine' sound_idx ?_ ?_ ?r1); (case r1 => exact rfl))
      | ((with_reducible show SoundE _ _ _ (.ListComp _ _ _ _) _); (with_reducible refine' w_comp (by assumption) ?r1 ?r2 ?r3 ?_ (fun env' E' => ?_) (fun env' E' => ?_) (fun env' E' => ?_)); (case r1 => exact rfl); (case r2 => exact rfl); (case r3 => exact rfl))
      | ((with_reducible show SoundE _ _ _ (.Call (.Attribute _ "append" _) _ [] _) _); (with_reducible refine' w_append ?r1 ?r2 ?r3 ?_ ?_); (case r1 => exact (fun _ => rfl)); (case r2 => exact rfl); (case r3 => exact rfl))
      | ((with_reducible show SoundE _ _ _ (.Call (.Name "len" _) _ [] _) _); (with_reducible refine' w_len (by assumption) (by assumption) bi_len ?r1 ?_); (case r1 => exact rfl))
      | ((with_reducible show SoundE _ _ _ (.Call (.Name "sorted" _) _ [] _) _); (with_reducible refine' w_prim (by assumption) (by assumption) bi_sorted ?r1 sound_sorted ?r2 ?_); (case r1 => exact (.inl ⟨_, rfl⟩)); (case r2 => exact rfl))
      | ((with_reducible show SoundE _ _ _ (.Call (.Name "max" _) _ [] _) _); (with_reducible refine' w_prim (by assumption) (by assumption) bi_max ?r1 sound_max ?r2 ?_); (case r1 => exact (.inl ⟨_, rfl⟩)); (case r2 => exact rfl))
      | ((with_reducible show SoundE _ _ _ (.Call (.Name "min" _) _ [] _) _); (with_reducible refine' w_prim (by assumption) (by assumption) bi_min ?r1 sound_min ?r2 ?_); (case r1 => exact (.inl ⟨_, rfl⟩)); (case r2 => exact rfl))
      | ((with_reducible show SoundE _ _ _ (.Call (.Name "sum" _) _ [] _) _); (with_reducible refine' w_prim (by assumption) (by assumption) bi_sum ?r1 sound_sum ?r2 ?_); (case r1 => exact (.inl ⟨_, rfl⟩)); (case r2 => exact rfl))
      | ((with_reducible show SoundE _ _ _ (.Call (.Name _ _) _ [] _) _); (with_reducible refine' w_call (by assumption) (by assumption) ?r1 ?r2 ?r3 ?_); (case r1 => exact rfl); (case r2 => exact ⟨_, _, rfl, rfl⟩); (case r3 => exact rfl))
  repeat (first | with_reducible (first | refine q_consO fun S1 kn1 => ?_ | refine q_set ?_ | refine q_prim ?_ | refine q_ev1 ?_ | refine q_callF ?_) | ((with_reducible refine' q_loc ?e ?_); case e => rfl) | with_reducible (first | refine q_lc ?_ | refine q_itP ?_ | refine q_itemsL (by assumption) ?_))
  refine compLf_as g (fun m : Mark => m.1 == ("bank" : Str)) mkAV (fun m => .int m.2) (fun m => [some (.ref pb), some (.ref pk), some (.int span), some (.ref pg), none, none, none, none, none, none, none, none, some (.tup [.str m.1, .int m.2])]) (fun x _ => rfl) (fun x _ y _ => rfl) ?_ ?_ hg (by have := ho.few; lia) ?_
  · intro m hm R hR
    have hmo := ho.ok m hm
    repeat (first | with_reducible (first | refine q_isB ?_ | refine q_k ?_ | refine q_idx ?_ | refine q_cmp ?_ | refine q_chain1 ?_) | ((with_reducible refine' q_loc ?e ?_); case e => rfl) | with_reducible (first | refine q_tupIdx rfl ?_) | ((with_reducible refine' q_eqS ?e1 ?e2 ?_); (case e1 => first | assumption | decide +kernel); (case e2 => first | assumption | decide +kernel)))
    exact hR
  · intro m hm _ R hR
    repeat (first | with_reducible (first | refine q_k ?_ | refine q_idx ?_) | ((with_reducible refine' q_loc ?e ?_); case e => rfl) | with_reducible (first | refine q_tupIdx rfl ?_))
    exact hR
  refine alf fun σ1 r1 e1 hr1 l1 => ?_
  have l1 : listAt r1 ((sidePs "bank" g).map .int) σ1 := .inl (by rw [l1]; unfold sidePs; rw [List.map_map]; rfl)
  repeat (first | with_reducible (first | refine q_ev0 ?_))
  refine sortI l1 (by have := ho.bank.few; lia) (fun n hn => (ho.bank.inn n hn).1) ho.bank.nodup fun as σ2 r2 pa ua e2 hr2 l2 => ?_
  have asl : as.length ≤ 5 := by rw [pa.length_eq]; exact ho.bank.few
  repeat (first | with_reducible (first | refine q_ev0 ?_))
  refine rows2_ok G (by lia) l2 asl fun σ3 r3 e3 hr3 l3 => ?_
  have e03 := e1.trans (e2.trans e3)
  have hg3 := e03.list hg
  clear e1 e2 e3 hr1 hr2 hr3 l1 l2
  repeat (first | with_reducible (first | refine q_consO fun S1 kn1 => ?_ | refine q_set ?_ | refine q_prim ?_ | refine q_ev1 ?_ | refine q_callF ?_) | ((with_reducible refine' q_loc ?e ?_); case e => rfl) | with_reducible (first | refine q_next (by assumption) ?_ | refine q_lc ?_ | refine q_itP ?_ | refine q_itemsL (by assumption) ?_))
  refine compLf_as g (fun m : Mark => m.1 == ("book" : Str)) mkAV (fun m => .int m.2) (fun m => [some (.ref pb), some (.ref pk), some (.int span), some (.ref pg), some (.ref r3), none, none, none, none, none, none, none, some (.tup [.str m.1, .int m.2])]) (fun x _ => rfl) (fun x _ y _ => rfl) ?_ ?_ hg3 (by have := ho.few; lia) ?_
  · intro m hm R hR
    have hmo := ho.ok m hm
    repeat (first | with_reducible (first | refine q_isB ?_ | refine q_k ?_ | refine q_idx ?_ | refine q_cmp ?_ | refine q_chain1 ?_) | ((with_reducible refine' q_loc ?e ?_); case e => rfl) | with_reducible (first | refine q_tupIdx rfl ?_) | ((with_reducible refine' q_eqS ?e1 ?e2 ?_); (case e1 => first | assumption | decide +kernel); (case e2 => first | assumption | decide +kernel)))
    exact hR
  · intro m hm _ R hR
    repeat (first | with_reducible (first | refine q_k ?_ | refine q_idx ?_) | ((with_reducible refine' q_loc ?e ?_); case e => rfl) | with_reducible (first | refine q_tupIdx rfl ?_))
    exact hR
  refine alf fun σ4 r4 e4 hr4 l4 => ?_
  have l4 : listAt r4 ((sidePs "book" g).map .int) σ4 := .inl (by rw [l4]; unfold sidePs; rw [List.map_map]; rfl)
  repeat (first | with_reducible (first | refine q_ev0 ?_))
  refine sortI l4 (by have := ho.book.few; lia) (fun n hn => (ho.book.inn n hn).1) ho.book.nodup fun bs σ5 r5 pb' ub e5 hr5 l5 => ?_
  have bsl : bs.length ≤ 5 := by rw [pb'.length_eq]; exact ho.book.few
  repeat (first | with_reducible (first | refine q_ev0 ?_))
  refine rows2_ok G (by lia) l5 bsl fun σ6 r6 e6 hr6 l6 => ?_
  have e36 := e4.trans (e5.trans e6)
  have l3 := e36.list l3
  have e06 := e03.trans e36
  clear e4 e5 e6 hr4 hr5 hr6 l4 l5 hg3 e36 e03
  have ain : ∀ p ∈ as, 0 ≤ p ∧ p < es.length := fun p hp => ho.bank.inn p (pa.mem_iff.mp hp)
  have bin : ∀ p ∈ bs, 0 ≤ p ∧ p < fs.length := fun p hp => ho.book.inn p (pb'.mem_iff.mp hp)
  have adl := due_len asl
  have bdl := due_len bsl
  have dl : ∀ l, (dueOf (fitB es fs span) bs l).length ≤ 31 := fun l => by
    unfold dueOf
    rw [List.length_map]
    exact Nat.le_trans (List.length_filter_le ..) bdl
  repeat (first | with_reducible (first | refine q_consO fun S1 kn1 => ?_ | refine q_set ?_ | refine q_ev0 ?_) | with_reducible (first | refine q_next (by assumption) ?_ | refine q_lst ?_) | ((with_reducible refine' q_tl ?e ?_); case e => rfl))
  refine alf fun σ7 rf e7 hrf lf => ?_
  have l37 := e7.list l3
  repeat (first | with_reducible (first | refine q_consO fun S1 kn1 => ?_) | ((with_reducible refine' q_loc ?e ?_); case e => rfl) | with_reducible (first | refine q_next (by assumption) ?_ | refine q_fr ?_ | refine q_itP ?_ | refine q_itemsL (by assumption) ?_))
  refine forL_at _ (fun j l σ' => Ext σ6 σ' ∧ ((((dueRows as).take j).flatMap (dueOf (fitB es fs span) bs)).length ≤ j * 31) ∧ σ' rf = some (.list ((((dueRows as).take j).flatMap (dueOf (fitB es fs span) bs)).map dueAV)) ∧ ∃ a7 a8 a9 a10 : Option AV, l = [some (.ref pb), some (.ref pk), some (.int span), some (.ref pg), some (.ref r3), some (.ref r6), some (.ref rf), a7, a8, a9, a10]) ?_ ?_ ⟨e7, by simp, lf, _, _, _, _, rfl⟩
  · rintro j x l σ' K hx ⟨e', hjl, lf', a7, a8, a9, a10, rfl⟩ hK
    rw [List.getElem?_map] at hx
    obtain ⟨l, hl, rfl⟩ := Option.map_eq_some_iff.mp hx
    have hj : j < 31 := Nat.lt_of_lt_of_le (List.getElem?_eq_some_iff.mp hl).1 adl
    obtain ⟨ln0, ll4, lu⟩ := (mem_due ua).mp (List.mem_of_getElem? hl)
    have htk : ((dueRows as).take (j + 1)).flatMap (dueOf (fitB es fs span) bs) = ((dueRows as).take j).flatMap (dueOf (fitB es fs span) bs) ++ dueOf (fitB es fs span) bs l := by rw [List.take_add_one, hl, List.flatMap_append]; simp
    generalize ((dueRows as).take j).flatMap (dueOf (fitB es fs span) bs) = acc at hjl lf' htk
    have a1 : ∀ p ∈ l, atIdx (entL es) p = some (.tup [.int (dayAt es p), .int (centsAt es p)]) := fun p hp => at_ent (ain p (lu.2 p hp)).1 (ain p (lu.2 p hp)).2
    refine ⟨_, rfl, ?_⟩
    have l6' := e'.list l6
    repeat (first | with_reducible (first | refine q_consO fun S1 kn1 => ?_) | ((with_reducible refine' q_loc ?e ?_); case e => rfl) | with_reducible (first | refine q_fr ?_ | refine q_itP ?_ | refine q_itemsL (by assumption) ?_))
    refine forL_at _ (fun k l' σ' => Ext σ6 σ' ∧ σ' rf = some (.list ((acc ++ (((dueRows bs).take k).filter fun r => (l.length == 1 || r.length == 1) && fitB es fs span l r).map fun r => (l, r)).map dueAV)) ∧ ∃ a8 a9 a10 : Option AV, l' = [some (.ref pb), some (.ref pk), some (.int span), some (.ref pg), some (.ref r3), some (.ref r6), some (.ref rf), some (rowI l), a8, a9, a10]) ?_ ?_ ⟨e', by simpa using lf', _, _, _, rfl⟩
    · rintro k x l' σ8 K8 hx ⟨e8, lf8, a8', a9', a10', rfl⟩ hK8
      rw [List.getElem?_map] at hx
      obtain ⟨r, hr, rfl⟩ := Option.map_eq_some_iff.mp hx
      obtain ⟨rn0, rl4, ru⟩ := (mem_due ub).mp (List.mem_of_getElem? hr)
      have htk8 : ((dueRows bs).take (k + 1)).filter (fun r => (l.length == 1 || r.length == 1) && fitB es fs span l r) = ((dueRows bs).take k).filter (fun r => (l.length == 1 || r.length == 1) && fitB es fs span l r) ++ [r].filter (fun r => (l.length == 1 || r.length == 1) && fitB es fs span l r) := by rw [List.take_add_one, hr, List.filter_append]; rfl
      have hkl : (((dueRows bs).take k).filter fun r => (l.length == 1 || r.length == 1) && fitB es fs span l r).length ≤ 31 := Nat.le_trans (List.length_filter_le ..) (Nat.le_trans (by rw [List.length_take]; lia) bdl)
      generalize ((dueRows bs).take k).filter (fun r => (l.length == 1 || r.length == 1) && fitB es fs span l r) = acc8 at lf8 htk8 hkl
      have a2 : ∀ p ∈ r, atIdx (entL fs) p = some (.tup [.int (dayAt fs p), .int (centsAt fs p)]) := fun p hp => at_ent (bin p (ru.2 p hp)).1 (bin p (ru.2 p hp)).2
      have hb8 := (e06.trans e8).list hb
      have hk8 := (e06.trans e8).list hk
      refine ⟨_, rfl, ?_⟩
      have hor : (((l.length : Int) == 1) || ((r.length : Int) == 1)) = (l.length == 1 || r.length == 1) := by
        congr 1 <;> (rw [Bool.eq_iff_iff, beq_iff_eq, beq_iff_eq]; lia)
      have no : ((l.length == 1 || r.length == 1) && fitB es fs span l r) = false → ∀ σ9 a9 a10, Ext σ8 σ9 → listAt r6 ((dueRows bs).map rowI) σ9 ∧ K8 [some (.ref pb), some (.ref pk), some (.int span), some (.ref pg), some (.ref r3), some (.ref r6), some (.ref rf), some (rowI l), some (rowI r), a9, a10] σ9 := fun e σ9 a9 a10 e9 => by
        refine ⟨(e8.trans e9).list l6, hK8 _ _ ⟨e8.trans e9, ?_, _, _, _, rfl⟩⟩
        rw [htk8, List.filter_cons, e]
        simpa using e9 _ _ lf8
      unfold rowI at *
      repeat (first | with_reducible (first | refine q_consO fun S1 kn1 => ?_ | refine q_if ?_ | refine q_k ?_ | refine q_cmp ?_ | refine q_chain1 ?_ | refine q_prim ?_ | refine q_ev1 ?_ | refine q_ev0 ?_ | refine q_exB ?_) | ((with_reducible refine' q_loc ?e ?_); case e => rfl) | with_reducible (first | refine q_or ?_ | refine q_lenTM ?_ | refine q_eqI ?_))
      refine or_meet (T := fun v => isB _ v _) (c2 := ((r.length : Int) == 1)) (fun hT => ?_) ?_
      ·
        repeat (first | with_reducible (first | refine q_isB ?_ | refine q_k ?_ | refine q_cmp ?_ | refine q_chain1 ?_ | refine q_prim ?_ | refine q_ev1 ?_ | refine q_ev0 ?_) | ((with_reducible refine' q_loc ?e ?_); case e => rfl) | with_reducible (first | refine q_or1 ?_ | refine q_lenTM ?_ | refine q_eqI ?_))
        obtain ⟨c, hc, hT⟩ := hT
        cases hc
        exact hT
      rw [hor]
      cases h1 : (l.length == 1 || r.length == 1) with
      | false =>
        repeat (first | with_reducible (first | refine q_isB ?_) | with_reducible (first | refine q_nil ?_ | refine q_next (by assumption) ?_) | ((with_reducible refine' q_ifFc ?e ?_); case e => rfl))
        exact no (by rw [h1]; rfl) _ _ _ (.refl _)
      | true =>
        repeat (first | with_reducible (first | refine q_consO fun S1 kn1 => ?_ | refine q_set ?_ | refine q_isB ?_) | ((with_reducible refine' q_loc ?e ?_); case e => rfl) | with_reducible (first | refine q_bin ?_ | refine q_lc ?_ | refine q_itP ?_ | refine q_itemsT ?_) | ((with_reducible refine' q_ifTc ?e ?_); case e => rfl))
        refine compL_map l _ (fun p => .int (dayAt es p)) (fun p => [some (.ref pb), some (.ref pk), some (.int span), some (.ref pg), some (.ref r3), some (.ref r6), some (.ref rf), some (.tup (l.map .int)), some (.tup (r.map .int)), a9', a10', none, some (.int p)]) (fun x => rfl) (fun x y => rfl) ?_ trivial (by lia) ?_
        · intro p hp R hR
          have ap := a1 p hp
          repeat (first | with_reducible (first | refine q_k ?_ | refine q_idx ?_) | ((with_reducible refine' q_loc ?e ?_); case e => rfl) | with_reducible (first | refine q_tupIdx rfl ?_ | refine q_listIdx (by assumption) (by assumption) ?_))
          exact hR
        refine alf fun σ9 r9 e9 hr9 l9 => ?_
        have hk9 := e9.list hk8
        repeat (first | ((with_reducible refine' q_loc ?e ?_); case e => rfl) | with_reducible (first | refine q_lc ?_ | refine q_itP ?_ | refine q_itemsT ?_))
        refine compL_map r _ (fun p => .int (dayAt fs p)) (fun p => [some (.ref pb), some (.ref pk), some (.int span), some (.ref pg), some (.ref r3), some (.ref r6), some (.ref rf), some (.tup (l.map .int)), some (.tup (r.map .int)), a9', a10', none, some (.int p)]) (fun x => rfl) (fun x y => rfl) ?_ trivial (by lia) ?_
        · intro p hp R hR
          have ap := a2 p hp
          repeat (first | with_reducible (first | refine q_k ?_ | refine q_idx ?_) | ((with_reducible refine' q_loc ?e ?_); case e => rfl) | with_reducible (first | refine q_tupIdx rfl ?_ | refine q_listIdx (by assumption) (by assumption) ?_))
          exact hR
        refine alf fun σa ra ea hra la => ?_
        refine addL_of (.inl (ea _ _ l9)) (.inl la) (by rw [List.length_map, List.length_map]; lia) fun σb rb eb hrb lb => ?_
        have lb : listAt rb ((daysOf es fs l r).map .int) σb := .inl (by rw [lb]; unfold daysOf; rw [List.map_append, List.map_map, List.map_map]; rfl)
        have e8b := e9.trans (ea.trans eb)
        have hbb := e8b.list hb8
        have hkb := e8b.list hk8
        clear e9 ea eb hr9 hra hrb l9 la hk9
        repeat (first | with_reducible (first | refine q_consO fun S1 kn1 => ?_ | refine q_set ?_ | refine q_prim ?_ | refine q_ev1 ?_) | ((with_reducible refine' q_loc ?e ?_); case e => rfl) | with_reducible (first | refine q_next (by assumption) ?_ | refine q_bin ?_ | refine q_lc ?_ | refine q_itP ?_ | refine q_itemsT ?_))
        refine compL_map l _ (fun p => .int (centsAt es p)) (fun p => [some (.ref pb), some (.ref pk), some (.int span), some (.ref pg), some (.ref r3), some (.ref r6), some (.ref rf), some (.tup (l.map .int)), some (.tup (r.map .int)), some (.ref rb), a10', none, some (.int p)]) (fun x => rfl) (fun x y => rfl) ?_ trivial (by lia) ?_
        · intro p hp R hR
          have ap := a1 p hp
          repeat (first | with_reducible (first | refine q_k ?_ | refine q_idx ?_) | ((with_reducible refine' q_loc ?e ?_); case e => rfl) | with_reducible (first | refine q_tupIdx rfl ?_ | refine q_listIdx (by assumption) (by assumption) ?_))
          exact hR
        refine alf fun σc rc ec hrc lc => ?_
        have hkc := ec.list hkb
        repeat (first | with_reducible (first | refine q_ev0 ?_))
        refine q_sumL (ns := l.map (centsAt es)) (.inl (by rw [lc, List.map_map]; rfl)) (sum_small se (by lia)) ?_
        repeat (first | with_reducible (first | refine q_prim ?_ | refine q_ev1 ?_) | ((with_reducible refine' q_loc ?e ?_); case e => rfl) | with_reducible (first | refine q_lc ?_ | refine q_itP ?_ | refine q_itemsT ?_))
        refine compL_map r _ (fun p => .int (centsAt fs p)) (fun p => [some (.ref pb), some (.ref pk), some (.int span), some (.ref pg), some (.ref r3), some (.ref r6), some (.ref rf), some (.tup (l.map .int)), some (.tup (r.map .int)), some (.ref rb), a10', none, some (.int p)]) (fun x => rfl) (fun x y => rfl) ?_ trivial (by lia) ?_
        · intro p hp R hR
          have ap := a2 p hp
          repeat (first | with_reducible (first | refine q_k ?_ | refine q_idx ?_) | ((with_reducible refine' q_loc ?e ?_); case e => rfl) | with_reducible (first | refine q_tupIdx rfl ?_ | refine q_listIdx (by assumption) (by assumption) ?_))
          exact hR
        refine alf fun σd rd ed hrd ld => ?_
        have lbd := (ec.trans ed).list lb
        have e8d := e8b.trans (ec.trans ed)
        repeat (first | with_reducible (first | refine q_ev0 ?_))
        refine q_sumL (ns := r.map (centsAt fs)) (.inl (by rw [ld, List.map_map]; rfl)) (sum_small sf (by lia)) ?_
        repeat (first | with_reducible (first | refine q_consO fun S1 kn1 => ?_ | refine q_if ?_ | refine q_k ?_ | refine q_cmp ?_ | refine q_chain1 ?_ | refine q_exB ?_) | ((with_reducible refine' q_loc ?e ?_); case e => rfl) | with_reducible (first | refine q_next (by assumption) ?_ | refine q_and ?_ | refine q_eqI ?_ | refine q_sub ?_))
        have hz : ((l.map (centsAt es)).sum - (r.map (centsAt fs)).sum == 0) = ((l.map (centsAt es)).sum == (r.map (centsAt fs)).sum) := by
          rw [Bool.eq_iff_iff, beq_iff_eq, beq_iff_eq]; lia
        rw [hz]
        cases h2 : ((l.map (centsAt es)).sum == (r.map (centsAt fs)).sum) with
        | false =>
          repeat (first | with_reducible (first | refine q_isB ?_) | with_reducible (first | refine q_nil ?_ | refine q_next (by assumption) ?_) | ((with_reducible refine' q_ifFc ?e ?_); case e => rfl))
          exact no (by unfold fitB; rw [h2, Bool.false_and, Bool.and_false]) _ _ _ e8d
        | true =>
          have hne : daysOf es fs l r ≠ [] := fun e => by
            unfold daysOf at e
            have := (List.append_eq_nil_iff.mp e).1
            exact ln0 (List.map_eq_nil_iff.mp this)
          repeat (first | with_reducible (first | refine q_cmp ?_ | refine q_prim ?_ | refine q_ev1 ?_ | refine q_ev0 ?_) | ((with_reducible refine' q_loc ?e ?_); case e => rfl) | with_reducible (first | refine q_bin ?_ | refine q_and1 ?_) | ((with_reducible refine' q_ifTc ?e ?_); case e => rfl))
          refine q_maxL lbd hne fun M hM1 hM2 => ?_
          repeat (first | with_reducible (first | refine q_prim ?_ | refine q_ev1 ?_ | refine q_ev0 ?_) | ((with_reducible refine' q_loc ?e ?_); case e => rfl))
          refine q_minL lbd hne fun m hm1 hm2 => ?_
          repeat (first | with_reducible (first | refine q_isB ?_ | refine q_chain1 ?_) | ((with_reducible refine' q_loc ?e ?_); case e => rfl) | with_reducible (first | refine q_le ?_ | refine q_sub ?_))
          rw [spread_eq hM1 hM2 hm1 hm2]
          cases h3 : spreadB (daysOf es fs l r) span with
          | false =>
            repeat (first | with_reducible (first | refine q_nil ?_ | refine q_next (by assumption) ?_) | ((with_reducible refine' q_ifFc ?e ?_); case e => rfl))
            exact no (by unfold fitB; rw [h3, Bool.and_false, Bool.and_false]) _ _ _ e8d
          | true =>
            have hfit : ((l.length == 1 || r.length == 1) && fitB es fs span l r) = true := by unfold fitB; rw [h1, h2, h3]; rfl
            have lfd := e8d _ _ lf8
            repeat (first | with_reducible (first | refine q_consO fun S1 kn1 => ?_ | refine q_prim ?_ | refine q_ev1 ?_ | refine q_ev0 ?_) | ((with_reducible refine' q_loc ?e ?_); case e => rfl) | with_reducible (first | refine q_tup ?_ | refine q_bin ?_ | refine q_lenTM ?_ | refine q_add ?_ | refine q_ex ?_ | refine q_meth ?_ | refine q_exM (by assumption) ?_) | ((with_reducible refine' q_ifTc ?e ?_); case e => rfl) | ((with_reducible refine' q_tl ?e ?_); case e => rfl))
            refine q_app lfd (by rw [List.length_map, List.length_append, List.length_map]; lia) ?_
            repeat (first | with_reducible (first | refine q_nil ?_ | refine q_next (by assumption) ?_ | refine q_nr ?_))
            have e6d := (e8.trans e8d).put (o := .list ((acc ++ acc8.map fun r => (l, r)).map dueAV ++ [.tup [.int ((l.length : Int) + r.length), .tup (l.map .int), .tup (r.map .int)]])) hrf
            refine ⟨e6d.list l6, hK8 _ _ ⟨e6d, ?_, _, _, _, rfl⟩⟩
            rw [AHeap.set_self, htk8, List.filter_cons, hfit, if_pos rfl, List.filter_nil, List.map_append (f := fun r => (l, r)), ← List.append_assoc]
            simp only [List.map_append]
            rfl
    · rintro l' σ8 ⟨e8, lf8, a8', a9', a10', rfl⟩
      rw [List.length_map, List.take_length] at lf8
      repeat (first | with_reducible (first | refine q_nil ?_ | refine q_next (by assumption) ?_))
      refine ⟨e8.list l3, hK _ _ ⟨e8, ?_, ?_, _, _, _, _, rfl⟩⟩
      · rw [htk, List.length_append]
        have := dl l
        lia
      · rw [htk]; exact lf8
  rintro l σ8 ⟨e8, hjl, lf8, a7, a8, a9, a10, rfl⟩
  rw [List.length_map, List.take_length] at lf8 hjl
  have lf8 : σ8 rf = some (.list ((dueM (fitB es fs span) as bs).map dueAV)) := lf8
  have hsm : ∀ x ∈ dueM (fitB es fs span) as bs, SmM x := fun x hx => by
    obtain ⟨⟨_, h1, h2⟩, ⟨_, h3, h4⟩, _⟩ := (mem_dueM ua ub).mp hx
    exact ⟨(up_sm ain ho.bank.small h2 (by lia)).1, (up_sm bin ho.book.small h4 (by lia)).1⟩
  have hdl : (dueM (fitB es fs span) as bs).length ≤ 961 := Nat.le_trans hjl (Nat.mul_le_mul_right _ adl)
  repeat (first | with_reducible (first | refine q_consO fun S1 kn1 => ?_ | refine q_ret ?_ | refine q_prim ?_ | refine q_ev1 ?_ | refine q_ev0 ?_) | ((with_reducible refine' q_loc ?e ?_); case e => rfl) | with_reducible (first | refine q_next (by assumption) ?_ | refine q_lc ?_ | refine q_itP ?_))
  refine sorted_of (fun v => num (unDue v)) (.inl lf8) (by rw [List.length_map]; exact Nat.le_trans hdl (by decide)) (.inl fun x hx => ?_) (fun x hx y hy => ?_) fun ys hperm hpw σ9 r9 e9 hr9 l9 => ?_
  · obtain ⟨m, _, rfl⟩ := List.mem_map.mp hx
    exact ⟨_, _, rfl⟩
  · obtain ⟨m, hm, rfl⟩ := List.mem_map.mp hx
    obtain ⟨n, hn, rfl⟩ := List.mem_map.mp hy
    refine ⟨dueD m, dueD n, rd_due m, rd_due n, do_due m, do_due n, ?_⟩
    show _ = some (decide (num (unDue (dueAV m)) < num (unDue (dueAV n))))
    rw [un_due, un_due]
    exact lt_due (hsm m hm) (hsm n hn)
  obtain ⟨p1, p2⟩ := perm_un un_due hperm
  rw [p2] at l9
  have hpw := List.pairwise_map (f := unDue) (R := fun x y => num x ≤ num y) |>.mpr hpw
  generalize ys.map unDue = zs at p1 l9 hpw
  have l9 : listAt r9 (zs.map dueAV) σ9 := .inl l9
  repeat (first | with_reducible (first | refine q_itemsL (by assumption) ?_))
  refine compL_map zs dueAV matAV (fun x => [some (.ref pb), some (.ref pk), some (.int span), some (.ref pg), some (.ref r3), some (.ref r6), some (.ref rf), a7, a8, a9, a10, none, some (dueAV x)]) (fun x => rfl) (fun x y => rfl) ?_ l9 (by rw [p1.length_eq]; lia) ?_
  · intro x hx R hR
    unfold dueAV
    repeat (first | with_reducible (first | refine q_k ?_ | refine q_idx ?_ | refine q_ev1 ?_ | refine q_ev0 ?_) | ((with_reducible refine' q_loc ?e ?_); case e => rfl) | with_reducible (first | refine q_tup ?_ | refine q_tupIdx rfl ?_) | ((with_reducible refine' q_tl ?e ?_); case e => rfl))
    exact hR
  refine alf fun σa ra ea hra la => ?_
  repeat (first | with_reducible (first | refine q_retK (by assumption) ?_))
  exact q _ _ as bs zs ((e06.trans e8).trans (e9.trans ea)) pa ua pb' ub p1 hpw (.inl la)
end
end Mine

set_option maxRecDepth 100000
set_option linter.unusedVariables false
set_option autoImplicit false
set_option linter.unusedSimpArgs false
set_option maxHeartbeats 8000000
set_option pp.deepTerms false
namespace Mine
open PySem PyProof.Rows PySem.SeqAt PySem.W
section
variable {X : Cx} {P : Params} {Q : Post} {Z : XP} {σ : AHeap} {d : Nat}
theorem is_match_ok (G : Gd X (hK P)) (hd : d < 600) {x : Mat} (hl : x.1.length ≤ 3) (hr : x.2.length ≤ 3) (q : Q (.bool true) σ) : CallOk X 100 d [matAV x] Q Z σ := by
  refine' callK (m := _) ["_law_match"] [("_law_match", 0), ("_law_place", 1)] G rfl rfl (bind1 fun a => rfl) rfl rfl rfl rfl rfl rfl rfl rfl (fun env E => ?snd) hd rfl ?bd
  case snd =>
    repeat' first
      | ((with_reducible show SoundSs _ _ _ [] _); (with_reducible refine' sound_nil))
      | ((with_reducible show SoundSs _ _ _ (_ :: _) _); (with_reducible refine' sound_cons ?_ ?_))
      | ((with_reducible show SoundS _ _ _ (.If _ _ _ _) _); (with_reducible refine' sound_if ?_ ?_ ?_))
      | ((with_reducible show SoundS _ _ _ (.Return (some _) _) _); (with_reducible refine' sound_ret ?_))
      | ((with_reducible show SoundS _ _ _ (.For _ _ _ _ _) _); (with_reducible refine' w_for ?r1 ?_ ?_ ?_); (case r1 => exact rfl))
      | ((with_reducible show SoundT _ _ _ (.Name _ _) _); (with_reducible refine' w_tOne (by assumption) ?r1 ?r2); (case r1 => exact rfl); (case r2 => exact rfl))
      | ((with_reducible show SoundI _ _ _ _ _ _); (with_reducible refine' w_it ?_))
      | ((with_reducible show SoundB _ _ _ (.Compare _ _ _ _) _); (with_reducible refine' soundB_cmp ?_ ?_))
      | ((with_reducible show SoundB _ _ _ (.UnaryOp .Not _ _) _); (with_reducible refine' soundB_not ?_))
      | ((with_reducible show SoundB _ _ _ (.BoolOp .Or _ _) _); (with_reducible refine' soundB_or ?_))
      | ((with_reducible show SoundB _ _ _ (_) _); (with_reducible refine' soundB_of ?_ ?r1); (case r1 => exact (fun _ => rfl)))
      | ((with_reducible show SoundE _ _ _ (.Name _ _) _); (with_reducible refine' w_loc (by assumption) ?r1 ?r2 ?r3); (case r1 => exact rfl); (case r2 => exact rfl); (case r3 => exact rfl))
      | ((with_reducible show SoundE _ _ _ (.Constant (.int _) _ _) _); (with_reducible refine' sound_int))
      | ((with_reducible show SoundE _ _ _ (.Constant (.bool _) _ _) _); (with_reducible refine' sound_bool))
      | ((with_reducible show SoundEs _ _ _ [] _); (with_reducible refine' w_es0))
      | ((with_reducible show SoundEs _ _ _ (_ :: _) _); (with_reducible refine' w_es1 ?r1 ?_ ?_); (case r1 => exact rfl))
      | ((with_reducible show SoundE _ _ _ (.Compare _ _ _ _) _); (with_reducible refine' sound_cmp ?_ ?_))
      | ((with_reducible show SoundOps _ _ _ [_] _ _); (with_reducible refine' SoundOps.one ?_ ?r1); (case r1 => exact rfl))
      | ((with_reducible show SoundE _ _ _ (.BinOp _ _ _ _) _); (with_reducible refine' sound_bin ?_ ?_))
      | ((with_reducible show SoundE _ _ _ (.UnaryOp .Not _ _) _); (with_reducible refine' sound_not ?_))
      | ((with_reducible show SoundEBs _ _ _ [] _); (with_reducible refine' SoundEBs.nil))
      | ((with_reducible show SoundEBs _ _ _ (_ :: _) _); (with_reducible refine' SoundEBs.cons ?_ ?_ ?_))
      | ((with_reducible show SoundE _ _ _ (.Subscript _ _ _) _); (with_reducible refine' sound_idx ?_ ?_ ?r1); (case r1 => exact rfl))
      | ((with_reducible show SoundE _ _ _ (.Call (.Name "len" _) _ [] _) _); (with_reducible refine' w_len (by assumption) (by assumption) bi_len ?r1 ?_); (case r1 => exact rfl))
      | ((with_reducible show SoundE _ _ _ (.Call (.Name "isinstance" _) [_, .Name "tuple" _] [] _) _); (with_reducible refine' w_isa .tuple (by assumption) (by assumption) bi_isinstance ?r1 bi_tuple ?r2 ?r3 ?_); (case r1 => exact rfl); (case r2 => exact rfl); (case r3 => exact rfl))
      | ((with_reducible show SoundE _ _ _ (.Call (.Name "isinstance" _) [_, .Name "int" _] [] _) _); (with_reducible refine' w_isa .int (by assumption) (by assumption) bi_isinstance ?r1 bi_int ?r2 ?r3 ?_); (case r1 => exact rfl); (case r2 => exact rfl); (case r3 => exact rfl))
      | ((with_reducible show SoundE _ _ _ (.Call (.Name "isinstance" _) [_, .Name "bool" _] [] _) _); (with_reducible refine' w_isa .bool (by assumption) (by assumption) bi_isinstance ?r1 bi_bool ?r2 ?r3 ?_); (case r1 => exact rfl); (case r2 => exact rfl); (case r3 => exact rfl))
  unfold matAV rowI
  repeat (first | with_reducible (first | refine q_consO fun S1 kn1 => ?_ | refine q_if ?_ | refine q_isB ?_ | refine q_k ?_ | refine q_idx ?_ | refine q_cmp ?_ | refine q_chain1 ?_ | refine q_prim ?_ | refine q_ev1 ?_ | refine q_ev0 ?_ | refine q_exB ?_) | ((with_reducible refine' q_loc ?e ?_); case e => rfl) | with_reducible (first | refine q_nil ?_ | refine q_next (by assumption) ?_ | refine q_bin ?_ | refine q_not ?_ | refine q_or ?_ | refine q_or1 ?_ | refine q_isa ?_ | refine q_lenT ?_ | refine q_neI ?_ | refine q_fr ?_ | refine q_itP ?_ | refine q_tupIdx rfl ?_) | ((with_reducible refine' q_pisa ?e ?_); case e => rfl) | ((with_reducible refine' q_ifFc ?e ?_); case e => rfl))
  refine q_addT (by rw [List.length_map, List.length_map]; lia) ?_
  repeat (first | with_reducible (first | refine q_itemsT ?_))
  rw [← List.map_append]
  refine forL_at _ (fun k l σ' => σ' = σ ∧ ∃ v1 : Option AV, l = [some (.tup [.tup (x.1.map .int), .tup (x.2.map .int)]), v1]) ?_ ?_ ⟨rfl, _, rfl⟩
  · rintro k y l σ' K hx ⟨rfl, v1, rfl⟩ hK
    rw [List.getElem?_map] at hx
    obtain ⟨p, hp, rfl⟩ := Option.map_eq_some_iff.mp hx
    refine ⟨_, rfl, ?_⟩
    repeat (first | with_reducible (first | refine q_consO fun S1 kn1 => ?_ | refine q_if ?_ | refine q_isB ?_ | refine q_exB ?_) | ((with_reducible refine' q_loc ?e ?_); case e => rfl) | with_reducible (first | refine q_nil ?_ | refine q_next (by assumption) ?_ | refine q_not ?_ | refine q_or ?_ | refine q_or1 ?_ | refine q_isa ?_) | ((with_reducible refine' q_pisa ?e ?_); case e => rfl) | ((with_reducible refine' q_ifFc ?e ?_); case e => rfl))
    exact ⟨trivial, hK _ _ ⟨rfl, _, rfl⟩⟩
  rintro l σ' ⟨rfl, v1, rfl⟩
  repeat (first | with_reducible (first | refine q_consO fun S1 kn1 => ?_ | refine q_ret ?_ | refine q_k ?_) | with_reducible (first | refine q_next (by assumption) ?_ | refine q_retK (by assumption) ?_))
  exact q
end
end Mine

set_option maxRecDepth 100000
set_option linter.unusedVariables false
set_option autoImplicit false
set_option linter.unusedSimpArgs false
set_option maxHeartbeats 8000000
set_option pp.deepTerms false
namespace Mine
open PySem PyProof.Rows PySem.SeqAt PySem.W
section
variable {X : Cx} {P : Params} {Q : Post} {Z : XP} {σ : AHeap} {d : Nat}
theorem rd_ents {p : Addr} {es : List (Int × Int)} (h : listAt p (entL es) σ) : Rd σ (.ref p) (.list (es.map fun e => .tuple [.int e.1, .int e.2])) :=
  .list h (rdL_map (fun i => .tup (.cons (.int _) (.cons (.int _) .nil))) _)
theorem dok_ents (es : List (Int × Int)) : DOk (.list (es.map fun e => .tuple [.int e.1, .int e.2])) := dok_list fun d hd => by
  obtain ⟨i, _, rfl⟩ := List.mem_map.mp hd
  simp [PyData.canLay0, PyData.canLayAll0, PyData.depth, PyData.depthAll]
theorem ents_of {α : Type} : ∀ {xs : List α} {vs : List AV}, All2 (fun _ v => ∃ e : Int × Int, v = ent e ∧ 0 ≤ e.1 ∧ e.2.natAbs ≤ 100000000000) xs vs → ∃ es, vs = entL es ∧ small es ∧ (∀ e ∈ es, 0 ≤ e.1) ∧ es.length = xs.length := by
  intro xs vs h
  induction h with
  | nil => exact ⟨[], rfl, fun e h => (nomatch h), fun e h => (nomatch h), rfl⟩
  | cons h r ih =>
    obtain ⟨e, rfl, h0, he⟩ := h
    obtain ⟨es, rfl, ht, h1, hl⟩ := ih
    exact ⟨e :: es, rfl, fun x hx => (List.mem_cons.mp hx).elim (fun q => q ▸ he) (ht x), fun x hx => (List.mem_cons.mp hx).elim (fun q => q ▸ h0) (h1 x), by simp [hl]⟩
def mD (m : Mark) : PyData := .tuple [.str m.1, .int m.2]
theorem rd_marks {p : Addr} {g : List Mark} (h : listAt p (g.map mkAV) σ) : Rd σ (.ref p) (.list (g.map mD)) := .list h (rdL_map (fun m => .tup (.cons (.str _) (.cons (.int _) .nil))) _)
theorem mD_lay {m : Mark} (h : PyData.strOk m.1 = true) : (mD m).canLay0 = true ∧ (mD m).depth = 1 := by
  unfold mD
  simp [PyData.canLay0, PyData.canLayAll0, PyData.depth, PyData.depthAll, h]
theorem do_marks {g : List Mark} (h : ∀ m ∈ g, PyData.strOk m.1 = true) : DOk (.list (g.map mD)) := dok_list fun d hd => by
  obtain ⟨m, hm, rfl⟩ := List.mem_map.mp hd
  have := mD_lay (h m hm)
  exact ⟨this.1, by lia⟩
theorem rd_mats {p : Addr} {ys : List Mat} (h : listAt p (ys.map matAV) σ) : Rd σ (.ref p) (.list (ys.map matD)) := .list h (rdL_map rd_mat _)
theorem do_mats (ys : List Mat) : DOk (.list (ys.map matD)) := dok_list fun d hd => by
  obtain ⟨m, hm, rfl⟩ := List.mem_map.mp hd
  exact ⟨(matD_lay m).1, by rw [(matD_lay m).2]; decide⟩
theorem do_nil : DOk (.list []) := dok_list fun d h => (nomatch h)
theorem Holds.rd {rs : List Addr} {gs : List (List Mark)} (h : Holds σ rs (gs.map fun g => g.map mkAV)) : RdL σ (rs.map .ref) (gs.map fun g => .list (g.map mD)) := by
  induction gs generalizing rs with
  | nil => cases h; exact .nil
  | cons g gs ih => cases h with | cons h1 h2 => exact .cons (rd_marks (.inl h1)) (ih h2)
theorem Holds.at {σ : AHeap} {rs : List Addr} {gs : List (List AV)} (h : Holds σ rs gs) : ∀ {k : Nat}, k < rs.length → ∃ r g, rs[k]? = some r ∧ gs[k]? = some g ∧ σ r = some (.list g) := by
  induction h with
  | nil => intro k hk; cases hk
  | @cons r rs g gs h1 h2 ih =>
    intro k hk
    cases k with
    | zero => exact ⟨r, g, rfl, rfl, h1⟩
    | succ k => exact ih (Nat.lt_of_succ_lt_succ hk)
theorem do_grps {gs : List (List Mark)} (h : ∀ g ∈ gs, ∀ m ∈ g, PyData.strOk m.1 = true) : DOk (.list (gs.map fun g => PyData.list (g.map mD))) := dok_list fun d hd => by
  obtain ⟨g, hg, rfl⟩ := List.mem_map.mp hd
  have : ∀ g : List Mark, (∀ m ∈ g, PyData.strOk m.1 = true) → PyData.canLayAll0 (g.map mD) = true ∧ PyData.depthAll (g.map mD) ≤ 1 := by
    intro g
    induction g with
    | nil => intro _; exact ⟨rfl, by simp [PyData.depthAll]⟩
    | cons m g ih =>
      intro h
      have h1 := mD_lay (h m (by simp))
      have h2 := ih fun m hm => h m (by simp [hm])
      simp only [List.map_cons, PyData.canLayAll0, PyData.depthAll, h1.1, h2.1, h1.2, Bool.and_true]
      exact ⟨by first | rfl | trivial, by lia⟩
  have := this g (h g hg)
  simp only [PyData.canLay0, PyData.depth]
  exact ⟨this.1, by lia⟩
theorem three (k : Nat) (h : k < 3) : ∃ c : Int, atIdx ([.int 4, .int 4, .int 12] : List AV) (k : Int) = some (.int c) ∧ 0 < c := by
  have e : ([.int 4, .int 4, .int 12] : List AV) = ([4, 4, 12] : List Int).map .int := rfl
  have hl : k < ([4, 4, 12] : List Int).length := h
  have hall : ∀ x ∈ ([4, 4, 12] : List Int), 0 < x := by decide
  rw [at_nat, e, List.getElem?_map, List.getElem?_eq_getElem hl]
  exact ⟨_, rfl, hall _ (List.getElem_mem hl)⟩
theorem law_ok (G : Gd X (hK P)) (hd : d < 500) {p : Addr} {ns : List Int} (hp : listAt p (ns.map .int) σ) (q : ∀ σ', Q (.bool true) σ') : CallOk X 105 d [.ref p] Q Z σ := by
  refine' callK (m := _) ["_law_script"] [("_law_script", 0), ("_law_days", 1), ("_law_scale", 2), ("_law_span", 3), ("_law_sizes", 4), ("_law_banks", 5), ("_law_books", 6), ("_law_parts", 7), ("_law_group", 8), ("_law_one", 9), ("_law_other", 10), ("_law_handed", 11), ("_law_found", 12)] G rfl rfl (bind1 fun a => rfl) rfl rfl rfl rfl rfl rfl rfl rfl (fun env E => ?snd) (by lia) rfl ?bd
  case snd =>
    repeat' first
      | ((with_reducible show SoundSs _ _ _ [] _); (with_reducible refine' sound_nil))
      | ((with_reducible show SoundSs _ _ _ (_ :: _) _); (with_reducible refine' sound_cons ?_ ?_))
      | ((with_reducible show SoundS _ _ _ (.If _ _ _ _) _); (with_reducible refine' sound_if ?_ ?_ ?_))
      | ((with_reducible show SoundS _ _ _ (.Return (some _) _) _); (with_reducible refine' sound_ret ?_))
      | ((with_reducible show SoundS _ _ _ (.Assign [.Name _ _] (.ListComp _ _ _ _) _) _); (with_reducible refine' w_setComp (by assumption) ?r1 ?r2 ?r3 ?r4 ?r5 ?_ (fun env' E' => ?_) (fun env' E' => ?_) (fun env' E' => ?_)); (case r1 => exact rfl); (case r2 => exact rfl); (case r3 => exact rfl); (case r4 => exact rfl); (case r5 => exact rfl))
      | ((with_reducible show SoundS _ _ _ (.Assign [.Name _ _] _ _) _); (with_reducible refine' w_set (by assumption) ?r1 ?r2 ?_ ?r3); (case r1 => exact rfl); (case r2 => exact rfl); (case r3 => exact rfl))
      | ((with_reducible show SoundC _ _ _ [] _); (with_reducible refine' w_cNone))
      | ((with_reducible show SoundC _ _ _ (_ :: _) _); (with_reducible refine' w_cSome ?_))
      | ((with_reducible show SoundTC _ _ _ (.Name _ _) _); (with_reducible refine' w_tcOne (by assumption) ?r1 ?r2); (case r1 => exact rfl); (case r2 => exact rfl))
      | ((with_reducible show SoundI _ _ _ _ _ _); (with_reducible refine' w_it ?_))
      | ((with_reducible show SoundB _ _ _ (.Compare _ _ _ _) _); (with_reducible refine' soundB_cmp ?_ ?_))
      | ((with_reducible show SoundB _ _ _ (.UnaryOp .Not _ _) _); (with_reducible refine' soundB_not ?_))
      | ((with_reducible show SoundB _ _ _ (.BoolOp .Or _ _) _); (with_reducible refine' soundB_or ?_))
      | ((with_reducible show SoundB _ _ _ (_) _); (with_reducible refine' soundB_of ?_ ?r1); (case r1 => exact (fun _ => rfl)))
      | ((with_reducible show SoundE _ _ _ (.Name _ _) _); (with_reducible refine' w_loc (by assumption) ?r1 ?r2 ?r3); (case r1 => exact rfl); (case r2 => exact rfl); (case r3 => exact rfl))
      | ((with_reducible show SoundE _ _ _ (.Constant (.int _) _ _) _); (with_reducible refine' sound_int))
      | ((with_reducible show SoundE _ _ _ (.Constant (.bool _) _ _) _); (with_reducible refine' sound_bool))
      | ((with_reducible show SoundE _ _ _ (.Tuple _ _ _) _); (with_reducible refine' sound_tup ?_))
      | ((with_reducible show SoundE _ _ _ (.List _ _) _); (with_reducible refine' sound_lst ?_))
      | ((with_reducible show SoundEs _ _ _ [] _); (with_reducible refine' w_es0))
      | ((with_reducible show SoundEs _ _ _ (_ :: _) _); (with_reducible refine' w_es1 ?r1 ?_ ?_); (case r1 => exact rfl))
      | ((with_reducible show SoundE _ _ _ (.Compare _ _ _ _) _); (with_reducible refine' sound_cmp ?_ ?_))
      | ((with_reducible show SoundOps _ _ _ [_] _ _); (with_reducible refine' SoundOps.one ?_ ?r1); (case r1 => exact rfl))
      | ((with_reducible show SoundE _ _ _ (.BinOp _ _ _ _) _); (with_reducible refine' sound_bin ?_ ?_))
      | ((with_reducible show SoundE _ _ _ (.UnaryOp .Not _ _) _); (with_reducible refine' sound_not ?_))
      | ((with_reducible show SoundEBs _ _ _ [] _); (with_reducible refine' SoundEBs.nil))
      | ((with_reducible show SoundEBs _ _ _ (_ :: _) _); (with_reducible refine' SoundEBs.cons ?_ ?_ ?_))
      | ((with_reducible show SoundE _ _ _ (.Subscript _ _ _) _); (with_reducible refine' sound_idx ?_ ?_ ?r1); (case r1 => exact rfl))
      | ((with_reducible show SoundE _ _ _ (.ListComp _ _ _ _) _); (with_reducible refine' w_comp (by assumption) ?r1 ?r2 ?r3 ?_ (fun env' E' => ?_) (fun env' E' => ?_) (fun env' E' => ?_)); (case r1 => exact rfl); (case r2 => exact rfl); (case r3 => exact rfl))
      | ((with_reducible show SoundE _ _ _ (.Call (.Name "len" _) _ [] _) _); (with_reducible refine' w_len (by assumption) (by assumption) bi_len ?r1 ?_); (case r1 => exact rfl))
      | ((with_reducible show SoundE _ _ _ (.Call (.Name "range" _) _ [] _) _); (with_reducible refine' w_range (by assumption) (by assumption) bi_range ?r1 ?_); (case r1 => exact rfl))
      | ((with_reducible show SoundE _ _ _ (.Call (.Name "list" _) _ [] _) _); (with_reducible refine' w_list (by assumption) (by assumption) bi_list ?r1 ?_); (case r1 => exact rfl))
      | ((with_reducible show SoundE _ _ _ (.Call (.Name "isinstance" _) [_, .Name "list" _] [] _) _); (with_reducible refine' w_isa .list (by assumption) (by assumption) bi_isinstance ?r1 bi_list ?r2 ?r3 ?_); (case r1 => exact rfl); (case r2 => exact rfl); (case r3 => exact rfl))
      | ((with_reducible show SoundE _ _ _ (.Call (.Name _ _) _ [] _) _); (with_reducible refine' w_call (by assumption) (by assumption) ?r1 ?r2 ?r3 ?_); (case r1 => exact rfl); (case r2 => exact ⟨_, _, rfl, rfl⟩); (case r3 => exact rfl))
  have cell : ∀ {k : Int} {σ' : AHeap} {Q' : Post} {Z' : XP}, 0 ≤ k → Ext σ σ' → Q' (.int (ns.getD k.toNat 0)) σ' → CallOk X 62 (d + 1) [.ref p, .int k] Q' Z' σ' := fun h0 e q => cell_at_ok G (by lia) h0 (e.list hp) q
  repeat (first | with_reducible (first | refine q_consO fun S1 kn1 => ?_ | refine q_set ?_ | refine q_k ?_ | refine q_idx ?_ | refine q_ev1 ?_ | refine q_ev0 ?_) | with_reducible (first | refine q_lst ?_) | ((with_reducible refine' q_tl ?e ?_); case e => rfl))
  refine alf fun σ1 r1 e1 hr1 l1 => ?_
  have k1 : listAt r1 _ σ1 := .inl l1
  repeat (first | with_reducible (first | refine q_k ?_ | refine q_ev1 ?_ | refine q_ev0 ?_ | refine q_callF ?_) | ((with_reducible refine' q_loc ?e ?_); case e => rfl) | with_reducible (first | refine q_bin ?_))
  refine cell (by lia) e1 ?_
  repeat (first | with_reducible (first | refine q_k ?_) | with_reducible (first | refine q_mod (by decide) ?_))
  obtain ⟨kk, ek, hkk⟩ := fmod_nat (ns.getD (Int.toNat 1) 0) 3 (by lia)
  obtain ⟨dy, h1, hdy⟩ := three kk hkk
  have ek : (ns.getD (Int.toNat 1) 0).fmod 3 = (kk : Int) := ek
  rw [ek]
  refine q_listIdx k1 h1 ?_
  repeat (first | with_reducible (first | refine q_consO fun S1 kn1 => ?_ | refine q_set ?_ | refine q_k ?_ | refine q_ev1 ?_ | refine q_ev0 ?_ | refine q_callF ?_) | ((with_reducible refine' q_loc ?e ?_); case e => rfl) | with_reducible (first | refine q_next (by assumption) ?_ | refine q_bin ?_))
  refine cell (by lia) e1 ?_
  repeat (first | with_reducible (first | refine q_k ?_ | refine q_ev1 ?_ | refine q_ev0 ?_ | refine q_callF ?_) | ((with_reducible refine' q_loc ?e ?_); case e => rfl) | with_reducible (first | refine q_bin ?_ | refine q_div (by decide) (by decide) ?_ | refine q_mod (by decide) ?_))
  refine cell (by lia) e1 ?_
  repeat (first | with_reducible (first | refine q_k ?_) | with_reducible (first | refine q_bin ?_ | refine q_div (by decide) (by decide) ?_ | refine q_mod (by decide) ?_ | refine q_pow (by decide) (by decide) (by decide) ?_))
  generalize ns.getD (Int.toNat 1) 0 = c1
  obtain ⟨x1, hx1, hx1'⟩ := fmod_nat (c1.fdiv 3) 2 (by lia)
  obtain ⟨y1, hy1, hy1'⟩ := fmod_nat (c1.fdiv 6) 100000000 (by lia)
  have hx1 : (c1.fdiv 3).fmod 2 = (x1 : Int) := hx1
  have hy1 : (c1.fdiv 6).fmod (10 ^ Int.toNat 8) = (y1 : Int) := hy1
  rw [hx1, hy1]
  refine q_mulL (by lia) ?_
  repeat (first | with_reducible (first | refine q_consO fun S1 kn1 => ?_ | refine q_set ?_ | refine q_k ?_ | refine q_ev1 ?_ | refine q_ev0 ?_ | refine q_callF ?_) | ((with_reducible refine' q_loc ?e ?_); case e => rfl) | with_reducible (first | refine q_next (by assumption) ?_ | refine q_bin ?_ | refine q_add ?_))
  have hsc : 0 ≤ 1 + (x1 : Int) * y1 ∧ 1 + (x1 : Int) * y1 ≤ 100000001 := by
    rcases (by lia : x1 = 0 ∨ x1 = 1) with rfl | rfl
    · simp
    · simp; lia
  generalize 1 + (x1 : Int) * y1 = sc at hsc
  refine cell (by lia) e1 ?_
  repeat (first | with_reducible (first | refine q_consO fun S1 kn1 => ?_ | refine q_set ?_ | refine q_k ?_ | refine q_ev1 ?_ | refine q_ev0 ?_ | refine q_callF ?_) | ((with_reducible refine' q_loc ?e ?_); case e => rfl) | with_reducible (first | refine q_next (by assumption) ?_ | refine q_tup ?_ | refine q_bin ?_ | refine q_mod (by decide) ?_))
  generalize (ns.getD (Int.toNat 2) 0).fmod 6 = span
  refine cell (by lia) e1 ?_
  repeat (first | with_reducible (first | refine q_k ?_ | refine q_ev1 ?_ | refine q_ev0 ?_ | refine q_callF ?_) | ((with_reducible refine' q_loc ?e ?_); case e => rfl) | with_reducible (first | refine q_bin ?_ | refine q_mod (by decide) ?_))
  refine cell (by lia) e1 ?_
  repeat (first | with_reducible (first | refine q_consO fun S1 kn1 => ?_ | refine q_set ?_ | refine q_k ?_ | refine q_idx ?_ | refine q_prim ?_ | refine q_ev1 ?_ | refine q_ev0 ?_) | ((with_reducible refine' q_loc ?e ?_); case e => rfl) | with_reducible (first | refine q_next (by assumption) ?_ | refine q_rng1 ?_ | refine q_lc ?_ | refine q_itP ?_ | refine q_tupIdx rfl ?_ | refine q_div (by decide) (by decide) ?_ | refine q_mod (by decide) ?_) | ((with_reducible refine' q_tl ?e ?_); case e => rfl))
  obtain ⟨na, ha, ha'⟩ := fmod_nat (ns.getD (Int.toNat 0) 0) 6 (by lia)
  obtain ⟨nb, hb, hb'⟩ := fmod_nat ((ns.getD (Int.toNat 0) 0).fdiv 6) 6 (by lia)
  have ha : (ns.getD (Int.toNat 0) 0).fmod 6 = (na : Int) := ha
  have hb : ((ns.getD (Int.toNat 0) 0).fdiv 6).fmod 6 = (nb : Int) := hb
  rw [ha, hb]
  repeat (first | with_reducible (first | refine q_itemsR (by omega) ?_))
  refine compL_ext _ (fun i : Nat => [some (.ref p), some (.int dy), some (.int sc), some (.int span), some (.tup [.int na, .int nb]), none, none, none, none, none, none, none, none, none, some (.int i)]) (fun _ v => ∃ e : Int × Int, v = ent e ∧ 0 ≤ e.1 ∧ e.2.natAbs ≤ 100000000000) (fun x y => rfl) (List.range na) [] (fun x => rfl) ?_ (fun _ _ => trivial) (by simp; lia) ?_
  · intro i hi σ2 e2 R hR
    repeat (first | with_reducible (first | refine q_k ?_ | refine q_ev1 ?_ | refine q_ev0 ?_ | refine q_callF ?_) | ((with_reducible refine' q_loc ?e ?_); case e => rfl) | with_reducible (first | refine q_bin ?_ | refine q_add ?_))
    refine cell (by lia) (e1.trans e2) ?_
    repeat (first | with_reducible (first | refine q_ev1 ?_ | refine q_ev0 ?_) | ((with_reducible refine' q_loc ?e ?_); case e => rfl))
    exact entry_ok G (by lia) hdy hsc fun e σ3 e3 h0 he => hR _ _ e3 ⟨e, rfl, h0, he⟩
  intro vs σ2 e2 hall
  obtain ⟨es, rfl, te, ze, hle⟩ := ents_of hall
  rw [List.length_range] at hle
  clear hall
  refine alf fun σ3 r5 e3 hr5 l5 => ?_
  have e03 := e1.trans (e2.trans e3)
  have k5 : listAt r5 (entL es) σ3 := .inl l5
  clear e1 e2 e3 hr5 l5 hr1 l1 k1
  repeat (first | with_reducible (first | refine q_consO fun S1 kn1 => ?_ | refine q_set ?_ | refine q_k ?_ | refine q_idx ?_ | refine q_prim ?_ | refine q_ev1 ?_ | refine q_ev0 ?_) | ((with_reducible refine' q_loc ?e ?_); case e => rfl) | with_reducible (first | refine q_next (by assumption) ?_ | refine q_rng1 ?_ | refine q_lc ?_ | refine q_itP ?_ | refine q_tupIdx rfl ?_ | refine q_itemsR (by omega) ?_))
  refine compL_ext _ (fun i : Nat => [some (.ref p), some (.int dy), some (.int sc), some (.int span), some (.tup [.int na, .int nb]), some (.ref r5), none, none, none, none, none, none, none, none, some (.int i)]) (fun _ v => ∃ e : Int × Int, v = ent e ∧ 0 ≤ e.1 ∧ e.2.natAbs ≤ 100000000000) (fun x y => rfl) (List.range nb) [] (fun x => rfl) ?_ (fun _ _ => trivial) (by simp; lia) ?_
  · intro i hi σ4 e4 R hR
    repeat (first | with_reducible (first | refine q_k ?_ | refine q_ev1 ?_ | refine q_ev0 ?_ | refine q_callF ?_) | ((with_reducible refine' q_loc ?e ?_); case e => rfl) | with_reducible (first | refine q_bin ?_ | refine q_add ?_))
    refine cell (by lia) (e03.trans e4) ?_
    repeat (first | with_reducible (first | refine q_ev1 ?_ | refine q_ev0 ?_) | ((with_reducible refine' q_loc ?e ?_); case e => rfl))
    exact entry_ok G (by lia) hdy hsc fun e σ5 e5 h0 he => hR _ _ e5 ⟨e, rfl, h0, he⟩
  intro vs σ4 e4 hall
  obtain ⟨fs, rfl, tf, zf, hlf⟩ := ents_of hall
  rw [List.length_range] at hlf
  clear hall
  refine alf fun σ5 r6 e5 hr6 l6 => ?_
  have e05 := e03.trans (e4.trans e5)
  have k5 := (e4.trans e5).list k5
  have k6 : listAt r6 (entL fs) σ5 := .inl l6
  clear e03 e4 e5 hr6 l6
  repeat (first | with_reducible (first | refine q_consO fun S1 kn1 => ?_ | refine q_set ?_ | refine q_ev1 ?_ | refine q_ev0 ?_ | refine q_callF ?_) | ((with_reducible refine' q_loc ?e ?_); case e => rfl) | with_reducible (first | refine q_next (by assumption) ?_))
  refine groups_ok G (by lia) k5 k6 (by lia) (by lia) (fun e he => he.elim (ze e) (zf e)) fun σ6 r7 rs gs e6 l7 hH hgo hrl => ?_
  have e06 := e05.trans e6
  have k5 := e6.list k5
  have k6 := e6.list k6
  clear e05 e6
  repeat (first | with_reducible (first | refine q_consO fun S1 kn1 => ?_ | refine q_if ?_ | refine q_cmp ?_ | refine q_chain1 ?_ | refine q_ev0 ?_) | ((with_reducible refine' q_loc ?e ?_); case e => rfl) | with_reducible (first | refine q_next (by assumption) ?_ | refine q_lst ?_) | ((with_reducible refine' q_tl ?e ?_); case e => rfl))
  refine alf fun σ7 r0 e7 hr0 l0 => ?_
  refine q_eqD (.list (e7.list l7) (hH.ext e7).rd) (.list (.inl l0) .nil) (do_grps fun g hg => (hgo g hg).ok) do_nil ?_
  rw [eqv_nilL, List.isEmpty_map]
  by_cases hgs : gs = []
  · subst hgs
    cases hH
    repeat (first | with_reducible (first | refine q_consO fun S1 kn1 => ?_ | refine q_ret ?_ | refine q_isB ?_ | refine q_cmp ?_ | refine q_ev1 ?_ | refine q_ev0 ?_ | refine q_callF ?_) | with_reducible (first | refine q_lst ?_) | ((with_reducible refine' q_ifTc ?e ?_); case e => rfl) | ((with_reducible refine' q_tl ?e ?_); case e => rfl))
    refine alf fun σ8 ra e8 hra la => ?_
    repeat (first | with_reducible (first | refine q_ev1 ?_ | refine q_ev0 ?_) | with_reducible (first | refine q_lst ?_) | ((with_reducible refine' q_tl ?e ?_); case e => rfl))
    refine alf fun σ9 rb e9 hrb lb => ?_
    repeat (first | with_reducible (first | refine q_ev1 ?_ | refine q_ev0 ?_) | ((with_reducible refine' q_loc ?e ?_); case e => rfl) | with_reducible (first | refine q_lst ?_) | ((with_reducible refine' q_tl ?e ?_); case e => rfl))
    refine alf fun σa rc ea hrc lc => ?_
    have sn : small [] := fun e h => (nomatch h)
    refine within_ok G (by lia) (es := []) (fs := []) (g := []) (.inl (ea _ _ (e9 _ _ la))) (.inl (ea _ _ lb)) (.inl lc) sn sn ⟨fun m h => (nomatch h), ⟨.nil, fun p h => (nomatch h), Nat.zero_le _, Nat.zero_le _⟩, ⟨.nil, fun p h => (nomatch h), Nat.zero_le _, Nat.zero_le _⟩, Nat.zero_le _⟩ fun σb rd as bs ys eb pa ua pb ub py hpw hsm hyl ly => ?_
    have h1 : as = [] := List.Perm.eq_nil pa
    have h2 : bs = [] := List.Perm.eq_nil pb
    subst h1 h2
    have h3 : ys = [] := List.Perm.eq_nil (py.trans (by rw [show allM (fitB [] [] span) [] [] = [] from rfl]))
    subst h3
    repeat (first | with_reducible (first | refine q_chain1 ?_ | refine q_ev0 ?_) | with_reducible (first | refine q_lst ?_) | ((with_reducible refine' q_tl ?e ?_); case e => rfl))
    refine alf fun σc re ec hre lre => ?_
    refine q_eqSame (.list (ec.list ly) .nil) (.list (.inl lre) .nil) do_nil ?_
    repeat (first | with_reducible (first | refine q_retK (by assumption) ?_))
    exact q _
  · have hpos : 0 < rs.length := by
      cases gs with
      | nil => exact absurd rfl hgs
      | cons g0 gs0 => cases hH; exact Nat.succ_pos _
    rw [show gs.isEmpty = false by rw [List.isEmpty_eq_false_iff]; exact hgs]
    have l7 := e7.list l7
    have e07 := e06.trans e7
    have hH := hH.ext e7
    have k5 := e7.list k5
    have k6 := e7.list k6
    clear e06 e7 hr0 l0
    repeat (first | with_reducible (first | refine q_consO fun S1 kn1 => ?_ | refine q_set ?_ | refine q_isB ?_ | refine q_k ?_ | refine q_idx ?_ | refine q_ev1 ?_ | refine q_ev0 ?_ | refine q_callF ?_) | ((with_reducible refine' q_loc ?e ?_); case e => rfl) | with_reducible (first | refine q_nil ?_ | refine q_next (by assumption) ?_ | refine q_bin ?_) | ((with_reducible refine' q_ifFc ?e ?_); case e => rfl))
    refine cell (by lia) e07 ?_
    repeat (first | with_reducible (first | refine q_prim ?_ | refine q_ev1 ?_ | refine q_ev0 ?_) | ((with_reducible refine' q_loc ?e ?_); case e => rfl) | with_reducible (first | refine q_lenLM (by assumption) ?_))
    obtain ⟨kx, ekx, hkx⟩ := fmod_nat (ns.getD (Int.toNat 3) 0) rs.length hpos
    obtain ⟨rg, gv, hrg, hgv, lg⟩ := hH.at hkx
    rw [List.getElem?_map] at hgv
    obtain ⟨g, hg, rfl⟩ := Option.map_eq_some_iff.mp hgv
    have hG := hgo g (List.mem_of_getElem? hg)
    have lg : listAt rg (g.map mkAV) σ7 := .inl lg
    refine q_mod (by lia) ?_
    rw [ekx]
    have hat : atIdx (rs.map AV.ref) (kx : Int) = some (.ref rg) := by rw [at_nat, List.getElem?_map, hrg]; rfl
    repeat (first | with_reducible (first | refine q_consO fun S1 kn1 => ?_ | refine q_set ?_ | refine q_prim ?_ | refine q_ev1 ?_ | refine q_ev0 ?_) | ((with_reducible refine' q_loc ?e ?_); case e => rfl) | with_reducible (first | refine q_next (by assumption) ?_ | refine q_listIdx (by assumption) (by assumption) ?_))
    refine list_of k5 fun σ8 r9 e8 hr9 l9 => ?_
    have k6 := e8.list k6
    repeat (first | with_reducible (first | refine q_consO fun S1 kn1 => ?_ | refine q_set ?_ | refine q_prim ?_ | refine q_ev1 ?_ | refine q_ev0 ?_) | ((with_reducible refine' q_loc ?e ?_); case e => rfl) | with_reducible (first | refine q_next (by assumption) ?_))
    refine list_of k6 fun σ9 r10 e9 hr10 l10 => ?_
    have lg := (e8.trans e9).list lg
    repeat (first | with_reducible (first | refine q_consO fun S1 kn1 => ?_ | refine q_set ?_ | refine q_prim ?_ | refine q_ev1 ?_ | refine q_ev0 ?_) | ((with_reducible refine' q_loc ?e ?_); case e => rfl) | with_reducible (first | refine q_next (by assumption) ?_))
    refine list_of lg fun σa r11 ea hr11 l11 => ?_
    have k9 : listAt r9 (entL es) σa := .inl (ea _ _ (e9 _ _ l9))
    have k10 : listAt r10 (entL fs) σa := .inl (ea _ _ l10)
    have k11 : listAt r11 (g.map mkAV) σa := .inl l11
    have k5 := (e8.trans (e9.trans ea)).list k5
    have k6 := (e9.trans ea).list k6
    have lg := ea.list lg
    clear e8 e9 ea hr9 hr10 hr11 l9 l10 l11 hH l7 hrg hg
    repeat (first | with_reducible (first | refine q_consO fun S1 kn1 => ?_ | refine q_set ?_ | refine q_ev1 ?_ | refine q_ev0 ?_ | refine q_callF ?_) | ((with_reducible refine' q_loc ?e ?_); case e => rfl) | with_reducible (first | refine q_next (by assumption) ?_))
    refine within_ok G (by lia) k9 k10 k11 te tf hG fun σb r12 as bs ys eb pa ua pb ub py hpw hsm hyl ly => ?_
    have k9 := eb.list k9
    have k10 := eb.list k10
    have k11 := eb.list k11
    have k5 := eb.list k5
    have k6 := eb.list k6
    have lg := eb.list lg
    clear eb
    repeat (first | with_reducible (first | refine q_consO fun S1 kn1 => ?_ | refine q_if ?_ | refine q_cmp ?_ | refine q_chain1 ?_ | refine q_exB ?_) | ((with_reducible refine' q_loc ?e ?_); case e => rfl) | with_reducible (first | refine q_next (by assumption) ?_ | refine q_not ?_ | refine q_or ?_ | refine q_isa ?_ | refine q_isaL (by assumption) ?_) | ((with_reducible refine' q_ifFc ?e ?_); case e => rfl))
    refine q_neSame (rd_ents k9) (rd_ents k5) (dok_ents es) ?_
    repeat (first | with_reducible (first | refine q_cmp ?_ | refine q_chain1 ?_ | refine q_exB ?_) | ((with_reducible refine' q_loc ?e ?_); case e => rfl) | with_reducible (first | refine q_or ?_) | ((with_reducible refine' q_ifFc ?e ?_); case e => rfl))
    refine q_neSame (rd_ents k10) (rd_ents k6) (dok_ents fs) ?_
    repeat (first | with_reducible (first | refine q_cmp ?_ | refine q_chain1 ?_ | refine q_exB ?_) | ((with_reducible refine' q_loc ?e ?_); case e => rfl) | with_reducible (first | refine q_or1 ?_) | ((with_reducible refine' q_ifFc ?e ?_); case e => rfl))
    refine q_neSame (rd_marks k11) (rd_marks lg) (do_marks hG.ok) ?_
    repeat (first | with_reducible (first | refine q_consO fun S1 kn1 => ?_ | refine q_if ?_ | refine q_isB ?_ | refine q_cmp ?_) | ((with_reducible refine' q_loc ?e ?_); case e => rfl) | with_reducible (first | refine q_nil ?_ | refine q_next (by assumption) ?_ | refine q_lc ?_ | refine q_itP ?_ | refine q_itemsL (by assumption) ?_) | ((with_reducible refine' q_ifFc ?e ?_); case e => rfl))
    refine compLf_as ys (fun _ => false) matAV matAV (fun x => [some (.ref p), some (.int dy), some (.int sc), some (.int span), some (.tup [.int na, .int nb]), some (.ref r5), some (.ref r6), some (.ref r7), some (.ref rg), some (.ref r9), some (.ref r10), some (.ref r11), some (.ref r12), none, some (matAV x)]) (fun x _ => rfl) (fun x _ y _ => rfl) ?_ ?_ ly ?_ ?_
    · intro x hx R hR
      repeat (first | with_reducible (first | refine q_ev1 ?_ | refine q_ev0 ?_ | refine q_callF ?_) | ((with_reducible refine' q_loc ?e ?_); case e => rfl) | with_reducible (first | refine q_not ?_))
      refine is_match_ok G (by lia) (hsm x hx).1.1 (hsm x hx).2.1 ?_
      repeat (first | with_reducible (first | refine q_isB ?_ | refine q_exB ?_))
      exact hR
    · intro x hx hF
      cases hF
    · lia
    refine alf fun σc rc ec hrc lc => ?_
    have lc : listAt rc [] σc := .inl (by rw [lc]; simp)
    repeat (first | with_reducible (first | refine q_chain1 ?_ | refine q_ev0 ?_) | with_reducible (first | refine q_lst ?_) | ((with_reducible refine' q_tl ?e ?_); case e => rfl))
    refine alf fun σd rd ed hrd ld => ?_
    refine q_neSame (.list (ed.list lc) .nil) (.list (.inl ld) .nil) do_nil ?_
    have ecd := ec.trans ed
    have ly := ecd.list ly
    repeat (first | with_reducible (first | refine q_consO fun S1 kn1 => ?_ | refine q_ret ?_ | refine q_isB ?_ | refine q_cmp ?_ | refine q_chain1 ?_ | refine q_ev1 ?_ | refine q_ev0 ?_ | refine q_callF ?_) | ((with_reducible refine' q_loc ?e ?_); case e => rfl) | with_reducible (first | refine q_nil ?_ | refine q_next (by assumption) ?_) | ((with_reducible refine' q_ifFc ?e ?_); case e => rfl))
    refine due_ok G (by lia) (ecd.list k5) (ecd.list k6) (ecd.list lg) te tf hG fun σe re as' bs' zs ee pa' ua' pb' ub' pz hpz lz => ?_
    have h1 : as' = as := List.Perm.eq_of_pairwise (fun a b _ _ h1 h2 => by lia) ua' ua (pa'.trans pa.symm)
    have h2 : bs' = bs := List.Perm.eq_of_pairwise (fun a b _ _ h1 h2 => by lia) ub' ub (pb'.trans pb.symm)
    subst h1 h2
    have h3 : ys = zs := sorted_same py pz (all_due ua ub) (fun x hx => hsm x (py.mem_iff.mpr hx)) hpw hpz
    subst h3
    skip
    refine q_eqSame (rd_mats (ee.list ly)) (rd_mats lz) (do_mats _) ?_
    repeat (first | with_reducible (first | refine q_retK (by assumption) ?_))
    exact q _
end
end Mine

open PySem PySem.W PyProof.Rows
set_option Elab.async false
set_option maxRecDepth 100000
set_option maxHeartbeats 8000000
set_option pp.deepTerms false
theorem PySem.Challenge.cw_uf060002_04_holds : PySem.Challenge.rw_uf060002_04.Holds := by
  refine Mine.hd ?_
  intro w s₀ s₁ mg mb G Y fa o pm cd doc dV kV ho hd hcd hD hmg hg args vals as hpre hlay hrd hwl hlo
  have KX := kIn_of Y
  refine Ground.open G ?_
  intro T B D TE TW
  have hfa := mg_of KX T.g (n := "law") (v := .ref 105) (by kernel_rfl)
  rw [Mine.dL_name, hfa] at hmg
  cases hmg
  wrow_args hpre hlay hrd hwl hlo
  refine enter_call ?_
  refine codeAny_mono ?_ (fun _ _ g => GoodW.toG g)
  refine Mine.head_of (K := Mine.hK w.params) ⟨⟨T.g, T.b, T.nolimit⟩, KX, T.builtins⟩ (by assumption) (by assumption) (by lia) hg (fun _ => rfl) ?post ?_
  case post => exact postW_of rfl (w_eq_bool rfl rfl) rfl
  intro Q Z σ hl q
  exact Mine.law_ok ⟨⟨T.g, T.b, T.nolimit⟩, KX, T.builtins⟩ (by lia) hl q

