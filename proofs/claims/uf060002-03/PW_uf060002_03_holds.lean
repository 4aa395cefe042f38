import PyProof.Rows.All
import Wide.All
import OpenK.AllK
import Wide.FinOn
import PyProof.Logic
import PyProof.CompFree
import PyProof.DictKinds
import PyProof.P3Eq
import PyProof.Cells
import PyProof.RangeIter
import PyProof.EnumIter
import PyProof.Rows.Tup
import PyProof.PureInt
import PyProof.StrOps
import PyProof.ForAny
import PyProof.TupleIter
import PyProof.EnumFor
import PyProof.EnumStmt
import PyProof.WalksMore
import PyProof.DefCall
import PyProof.Rows.Globals
import PyProof.P3In
import PyProof.NeData
import PyProof.Rows.RuleB_mod
import PyProof.Rows.RuleB_floordiv
import PyProof.Rows.RuleB_small
import PyProof.Rows.Exc
import PyProof.RangeFor
import PyProof.Rows.News
import PyProof.Rows.SeqMore
import PyProof.Rows.TupAdd
import PyProof.NoPylong
import PyProof.FactsAll.tuple_2
import PyProof.ListIndexNeg
import PyProof.SliceList
import PyProof.SliceMore
import PyProof.Rows.TupSub
import PyProof.Rows.TupMore
import PyProof.Rows.StrTemp
import PyProof.IsiPairs
import PyProof.IsiSeqPairs
import PyProof.IsiHeapPairs
import PyProof.IsiNone
import PyProof.ListCopy
import PyProof.ListRange
import PyProof.CompUse
import PyProof.EnumMake
import OpenK.KWalk
import OpenK.KCall
import PyProof.Rows.SortRuns
import KE.KSortTup
import PyProof.ListOps
import PyProof.CallRoads
import PyProof.SeqI3
import PyProof.WalkInts
import PyProof.TupleOfSeq
import Wide.Bridge
import Wide.Ends
import PySem.Challenge.RW_uf060002_03
set_option Elab.async false
set_option linter.unusedVariables false
namespace Mine
open PySem

theorem runs_size {M : Model} {Γ : Ctx} {p : Pos} {t : Sem Fin} {fs : List Frame} {s s' : Shared} {e : End} (h : Runs M Γ p t fs s e s') : s.heap.objs.size ≤ s'.heap.objs.size := by
  induction h <;> (try simp only [Shared.setGen, Heap.size_after_update, Heap.size_push] at *) <;> omega

theorem wakes_size {M : Model} {Γ : Ctx} {p : Pos} {g : Nat} {r : Resume} {s s' : Shared} {res : GenResult} (h : Wakes M Γ p g r s res s') : s.heap.objs.size ≤ s'.heap.objs.size := by
  unfold Wakes at h
  split at h
  · exact h.elim
  · split at h
    · obtain ⟨e₁, s₁, hr, _, _, rfl⟩ := h; exact (runs_size hr : (s.setGen g .running).heap.objs.size ≤ s₁.heap.objs.size)
    · rw [h.2]; exact Nat.le_refl _
    · rw [h.2]; exact Nat.le_refl _
  · obtain ⟨e₁, s₁, hr, _, _, rfl⟩ := h; exact (runs_size hr : (s.setGen g .running).heap.objs.size ≤ s₁.heap.objs.size)
  · rw [h.2]; exact Nat.le_refl _
  · rw [h.2]; exact Nat.le_refl _

theorem wp_size {α : Type} (M : Model) (Γ : Ctx) (n : Nat) (t : Sem α) : ∀ (Q : α → Pos → Shared → Prop) (E : Value → Pos → Shared → Prop) (p : Pos) (s : Shared), n ≤ s.heap.objs.size → Sem.wp M Γ t Q E p s →
    Sem.wp M Γ t (fun a p' s' => n ≤ s'.heap.objs.size ∧ Q a p' s') (fun e p' s' => n ≤ s'.heap.objs.size ∧ E e p' s') p s := by
  induction t with
  | pure a => intro Q E p s hn h; exact ⟨hn, h⟩
  | raise e => intro Q E p s hn h; exact ⟨hn, h⟩
  | unsupported _ => intro Q E p s _ h; exact h
  | finish _ => intro Q E p s _ h; exact h
  | rule _ k ih => intro Q E p s hn h; exact ih () Q E p s hn h
  | «at» p' k ih => intro Q E p s hn h; exact ih () Q E p' s hn h
  | load a _ k ih => intro Q E p s hn h; obtain ⟨o, ho, h⟩ := h; exact ⟨o, ho, ih o Q E p s hn h⟩
  | update a _ f k ih => intro Q E p s hn h; exact ⟨h.1, ih () Q E p _ (by simpa using hn) h.2⟩
  | loadIfAlive a k ih => intro Q E p s hn h; exact ih _ Q E p s hn h
  | point _ k ih => intro Q E p s hn h; exact ih () Q E p s hn h
  | register _ _ => intro Q E p s _ h; exact h
  | alloc o k ih => intro Q E p s hn h; exact ih _ Q E p _ (by simp; omega) h
  | fresh k ih => intro Q E p s hn h; exact ih _ Q E p { s with toks := s.toks + 1 } hn h
  | ask k ih => intro Q E p s hn h; exact ih _ Q E p s hn h
  | choose src m k ih => intro Q E p s hn h; exact ⟨h.1, ih _ Q E p { s with drawn := s.drawn.bump src } hn h.2⟩
  | os q _ k ih => intro Q E p s hn h; exact ih _ Q E p { s with os := (Os.step s.os q).1 } hn h
  | call c hd _ _ k ih => intro Q E p s hn h; obtain ⟨r, s', hr, h⟩ := h; exact ⟨r, s', hr, ih r Q E p s' (Nat.le_trans hn (runs_size hr)) h⟩
  | handled own k ih => intro Q E p s hn h; exact ih _ Q E p s hn h
  | genState g k ih => intro Q E p s hn h; obtain ⟨st, hs, h⟩ := h; exact ⟨st, hs, ih _ Q E p s hn h⟩
  | newGen c k ih => intro Q E p s hn h; exact ih _ Q E p { s with gens := s.gens.push (.fresh c) } hn h
  | resume g r _ k ih => intro Q E p s hn h; obtain ⟨res, s', hw, h⟩ := h; exact ⟨res, s', hw, ih res Q E p s' (Nat.le_trans hn (wakes_size hw)) h⟩
  | yield _ _ _ _ => intro Q E p s _ h; exact h
  | stack k ih => intro Q E p s hn h; exact ih _ Q E p s hn h
  | fork _ _ => intro Q E p s _ h; exact h
  | thread k ih => intro Q E p s hn h; exact ih _ Q E p s hn h
  | await _ _ _ _ _ => intro Q E p s _ h; exact h

/-- the heap's array only grows -/
theorem with_size {α : Type} {M : Model} {A : Around} {s : Shared} {t : Sem α} {Q : α → Shared → Prop} {E : Value → Shared → Prop}
    (h : wpAny M A t (fun a s' => s.heap.objs.size ≤ s'.heap.objs.size → Q a s') (fun e s' => s.heap.objs.size ≤ s'.heap.objs.size → E e s') s) : wpAny M A t Q E s :=
  fun Γ p hΓ => by
    have := wp_size M Γ s.heap.objs.size t _ _ p s (Nat.le_refl _) (h Γ p hΓ)
    exact Sem.wp_mono M Γ t (fun a _ s' x => x.2 x.1) (fun e _ s' x => x.2 x.1) p s this
theorem code_size {M : Model} {A : Around} {s : Shared} {c : Code} {R : Result → Shared → Prop} (h : codeAny M A c (fun r s' => s.heap.objs.size ≤ s'.heap.objs.size → R r s') s) : codeAny M A c R s :=
  fun Γ p hc hΓ => by obtain ⟨r, s', hr, hR⟩ := h Γ p hc hΓ; exact ⟨r, s', hr, hR (runs_size hr)⟩
end Mine

set_option maxRecDepth 100000
set_option linter.unusedVariables false
namespace Mine
open PySem PyProof.Rows

/-- abstract values -/
inductive AV where
  | none
  | bool (b : Bool)
  | int (i : Int)
  | str (s : Str)
  | tup (xs : List AV)
  | ref (a : Addr)
  | rng (lo hi : Int)
  | exc (c : Addr)
  deriving Inhabited

/-- abstract objects -/
inductive AO where
  | list (xs : List AV)
  | rolist (xs : List AV)
  | tdict (kvs : List (List (Str × Int) × AV))
  | inst (c : Addr) (d : Addr)
  | idict (fs : List (Str × AV))
  deriving Inhabited

/-- a mark and a row of marks -/
abbrev Mark := Str × Int
def mkAV (m : Mark) : AV := .tup [.str m.1, .int m.2]
def mkH (w : World) (m : Mark) : Int := reduceHash (Builtin.Tuple.tupleHashOf [hashStr w m.1, hashInt m.2])
def rowAV (ms : List Mark) : AV := .tup (ms.map mkAV)
def rowH (w : World) (ms : List Mark) : Int := reduceHash (Builtin.Tuple.tupleHashOf (ms.map (mkH w)))
def mOk (m : Mark) : Prop := PyData.strOk m.1 = true

abbrev AHeap := Addr → Option AO
def AHeap.set (σ : AHeap) (a : Addr) (o : AO) : AHeap := fun b => if b = a then some o else σ b

def listObj (vs : List Value) (n : Nat) : Obj := { cls := .type "list", data := .seq vs.toArray n }
def rangeObj (lo hi : Int) (t u v : Tok) : Obj := { cls := .type "range", data := .fields #[.int lo t, .int hi u, .int 1 v] }

mutual
inductive RepV (h : Heap) : AV → Value → Prop
  | none : RepV h .none .none
  | bool (b : Bool) : RepV h (.bool b) (.bool b)
  | int (i : Int) (t : Tok) : RepV h (.int i) (.int i t)
  | str (x : Str) (t : Tok) : RepV h (.str x) (.str x t)
  | tup {xs : List AV} {a : Addr} {vs : List Value} : xs.length ≤ 1000000 → IsTup h a vs.toArray → RepVs h xs vs → RepV h (.tup xs) (.ref a)
  | ref (a : Addr) : RepV h (.ref a) (.ref a)
  | rng {lo hi : Int} {a : Addr} {t u v : Tok} : h.get? a = some (rangeObj lo hi t u v) → RepV h (.rng lo hi) (.ref a)
  | exc {a c : Addr} {o : Obj} {vs : Array Value} : h.get? a = some o → o.cls = .ref c → o.data = .fields vs → RepV h (.exc c) (.ref a)
inductive RepVs (h : Heap) : List AV → List Value → Prop
  | nil : RepVs h [] []
  | cons {x : AV} {xs : List AV} {v : Value} {vs : List Value} : RepV h x v → RepVs h xs vs → RepVs h (x :: xs) (v :: vs)
end

/-- the objects that values lean on: tuples, ranges, exceptions -/
def Stays (o : Obj) : Prop := (o.cls = .type "tuple" ∧ ∃ xs n, o.data = .seq xs n) ∨ (o.cls = .type "range" ∧ ∃ vs, o.data = .fields vs) ∨ ∃ c vs, o.cls = .ref c ∧ o.data = .fields vs
def KeepV (h h' : Heap) : Prop := ∀ b o, h.get? b = some o → Stays o → h'.get? b = some o

mutual
theorem RepV.mono {h h' : Heap} (k : KeepV h h') : ∀ {x v}, RepV h x v → RepV h' x v
  | _, _, .none => .none
  | _, _, .bool b => .bool b
  | _, _, .int i t => .int i t
  | _, _, .str x t => .str x t
  | _, _, .tup hl ⟨o, ho, hc, n, hd⟩ r => .tup hl ⟨o, k _ _ ho (.inl ⟨hc, _, n, hd⟩), hc, n, hd⟩ (RepVs.mono k r)
  | _, _, .ref a => .ref a
  | _, _, .rng ho => .rng (k _ _ ho (.inr (.inl ⟨rfl, _, rfl⟩)))
  | _, _, .exc ho hc hd => .exc (k _ _ ho (.inr (.inr ⟨_, _, hc, hd⟩))) hc hd
theorem RepVs.mono {h h' : Heap} (k : KeepV h h') : ∀ {xs vs}, RepVs h xs vs → RepVs h' xs vs
  | _, _, .nil => .nil
  | _, _, .cons a r => .cons (RepV.mono k a) (RepVs.mono k r)
end

theorem RepVs.length {h : Heap} : ∀ {xs vs}, RepVs h xs vs → xs.length = vs.length
  | _, _, .nil => rfl
  | _, _, .cons _ r => by simp [r.length]
theorem RepVs.append {h : Heap} : ∀ {xs vs ys us}, RepVs h xs vs → RepVs h ys us → RepVs h (xs ++ ys) (vs ++ us)
  | _, _, _, _, .nil, r => r
  | _, _, _, _, .cons a q, r => .cons a (q.append r)
theorem RepVs.get {h : Heap} : ∀ {xs vs}, RepVs h xs vs → ∀ {i : Nat} {x : AV}, xs[i]? = some x → ∃ v, vs[i]? = some v ∧ RepV h x v
  | _, _, .cons a _, 0, _, e => by cases e; exact ⟨_, rfl, a⟩
  | _, _, .cons _ r, i + 1, x, e => r.get (i := i) (x := x) (by simpa using e)
theorem RepVs.take {h : Heap} : ∀ {xs vs}, RepVs h xs vs → ∀ n, RepVs h (xs.take n) (vs.take n)
  | _, _, .nil, n => by simp; exact .nil
  | _, _, .cons _ _, 0 => .nil
  | _, _, .cons a r, n + 1 => .cons a (r.take n)
theorem RepVs.drop {h : Heap} : ∀ {xs vs}, RepVs h xs vs → ∀ n, RepVs h (xs.drop n) (vs.drop n)
  | _, _, .nil, n => by simp; exact .nil
  | _, _, .cons a r, 0 => .cons a r
  | _, _, .cons _ r, n + 1 => r.drop n
/-- the static ground -/
structure Cx where
  prog : Program
  w : World
  h₀ : Heap
  os : OsState
  mg : Str → Option Value
  mb : Str → Option Value

abbrev Cx.M (X : Cx) : Model := model X.prog X.w

structure Cx.Ok (X : Cx) : Prop where
  g : X.h₀.Ns mainGlobals X.mg
  b : X.h₀.Ns builtinsNs X.mb
  nolimit : X.h₀.NoLimit

/-- entries of a dict whose keys are rows of marks -/
inductive RepT (w : World) (h : Heap) : List (List Mark × AV) → List DictEntry → Prop
  | nil : RepT w h [] []
  | cons {k : List Mark} {x : AV} {r : List (List Mark × AV)} {e : DictEntry} {es : List DictEntry} : RepV h (rowAV k) e.key → RepV h x e.val → e.hash = rowH w k → RepT w h r es → RepT w h ((k, x) :: r) (e :: es)
theorem RepT.mono {w : World} {h h' : Heap} (k : KeepV h h') : ∀ {kvs es}, RepT w h kvs es → RepT w h' kvs es
  | _, _, .nil => .nil
  | _, _, .cons a b c r => .cons (a.mono k) (b.mono k) c (r.mono k)

def RepF (h : Heap) (fs : List (Str × AV)) (m : Str → Option Value) : Prop :=
  ∀ x, match fs.lookup x with | none => m x = Option.none | some a => ∃ v, m x = some v ∧ RepV h a v
theorem RepF.mono {h h' : Heap} {fs m} (k : KeepV h h') (r : RepF h fs m) : RepF h' fs m := fun x => by
  have := r x
  cases e : fs.lookup x with
  | none => rw [e] at this; exact this
  | some a => rw [e] at this; obtain ⟨v, h1, h2⟩ := this; exact ⟨v, h1, h2.mono k⟩

/-- an abstract object stands at an address -/
def RepA (X : Cx) (h : Heap) (a : Addr) : AO → Prop
  | .list xs => ∃ vs n, h.get? a = some (listObj vs n) ∧ RepVs h xs vs ∧ xs.length ≤ 1000000
  | .rolist xs => ∃ vs, h.IsList a vs.toArray ∧ RepVs h xs vs ∧ xs.length ≤ 1000000
  | .tdict kvs => ∃ es n, h.get? a = some { cls := .type "dict", data := .dict es n } ∧ RepT X.w h kvs es.toList ∧ (kvs.map (·.1)).Nodup ∧ (∀ k ∈ kvs, ∀ m ∈ k.1, mOk m) ∧ kvs.length ≤ 1000000 ∧ (a == sysModules) = false
  | .inst c d => h.get? a = some { cls := .ref c, dict := some d, data := .plain }
  | .idict fs => ∃ m es n, h.get? a = some { cls := .type "dict", data := .dict es n } ∧ h.Ns a m ∧ RepF h fs m


theorem RepA.mono {X : Cx} {h h' : Heap} {a : Addr} {o : AO} (k : KeepV h h') (e : ∀ o, h.get? a = some o → h'.get? a = some o) (r : RepA X h a o) : RepA X h' a o := by
  cases o with
  | list xs => obtain ⟨vs, n, h1, h2, hl⟩ := r; exact ⟨vs, n, e _ h1, h2.mono k, hl⟩
  | rolist xs => obtain ⟨vs, ⟨o, h1, h3⟩, h2, hl⟩ := r; exact ⟨vs, ⟨o, e _ h1, h3⟩, h2.mono k, hl⟩
  | tdict kvs => obtain ⟨es, n, h1, h2, h3⟩ := r; exact ⟨es, n, e _ h1, h2.mono k, h3⟩
  | inst c d => exact e _ r
  | idict fs => obtain ⟨m, es, n, h1, ⟨o, es', ep, h3, h4⟩, h2⟩ := r; exact ⟨m, es, n, e _ h1, ⟨o, es', ep, e _ h3, h4⟩, h2.mono k⟩

theorem RepA.some {X : Cx} {h : Heap} {a : Addr} {o : AO} (r : RepA X h a o) : ∃ ob, h.get? a = some ob ∧ ¬ Stays ob := by
  have no : ∀ {ob : Obj} {t : String}, ob.cls = .type t → t ≠ "tuple" → t ≠ "range" → ¬ Stays ob := by
    rintro ob t hc h1 h2 (⟨h, _⟩ | ⟨h, _⟩ | ⟨c, vs, h, _⟩)
    · rw [hc] at h; cases h; exact h1 rfl
    · rw [hc] at h; cases h; exact h2 rfl
    · rw [hc] at h; cases h
  cases o with
  | list xs => obtain ⟨vs, n, h1, _⟩ := r; exact ⟨_, h1, no (t := "list") rfl (by decide) (by decide)⟩
  | rolist xs => obtain ⟨vs, ⟨o, h1, hc, _⟩, _⟩ := r; exact ⟨_, h1, no hc (by decide) (by decide)⟩
  | tdict kvs => obtain ⟨es, n, h1, _⟩ := r; exact ⟨_, h1, no (t := "dict") rfl (by decide) (by decide)⟩
  | inst c d =>
    refine ⟨_, r, ?_⟩
    rintro (⟨h, _⟩ | ⟨h, _⟩ | ⟨c, vs, _, h⟩)
    · cases h
    · cases h
    · cases h
  | idict fs => obtain ⟨m, es, n, h1, _⟩ := r; exact ⟨_, h1, no (t := "dict") rfl (by decide) (by decide)⟩

def AO.ro : AO → Bool
  | .rolist _ => true
  | _ => false

structure At (X : Cx) (σ : AHeap) (s : Shared) : Prop where
  keep : ∀ b o, X.h₀.get? b = some o → s.heap.get? b = some o
  rep : ∀ a o, σ a = some o → RepA X s.heap a o
  own : ∀ a o, σ a = some o → o.ro = false → X.h₀.get? a = none
  gens : s.gens = #[]
  os : s.os = X.os

theorem At.lt {X : Cx} {σ : AHeap} {s : Shared} (a : At X σ s) {b : Addr} {o : AO} (e : σ b = some o) : b < s.heap.objs.size :=
  let ⟨_, h, _⟩ := (a.rep b o e).some; Heap.lt_size h
theorem At.none_of_size {X : Cx} {σ : AHeap} {s : Shared} (a : At X σ s) {b : Addr} (e : s.heap.objs.size ≤ b) : σ b = none := by
  cases h : σ b with
  | none => rfl
  | some o => exact absurd (a.lt h) (Nat.not_lt.mpr e)
theorem At.stays {X : Cx} {σ : AHeap} {s : Shared} (a : At X σ s) {b : Addr} {o : Obj} (e : s.heap.get? b = some o) (h : Stays o) : σ b = none := by
  cases hs : σ b with
  | none => rfl
  | some ao =>
    obtain ⟨ob, h1, h2⟩ := (a.rep b ao hs).some
    rw [e] at h1; cases h1; exact absurd h h2

structure Step (B : Addr → Prop) (σ : AHeap) (s : Shared) (σ' : AHeap) (s' : Shared) : Prop where
  keep : ∀ b o, s.heap.get? b = some o → σ b = none → ¬ B b → s'.heap.get? b = some o
  fresh : ∀ b, σ' b ≠ none → σ b = none → s.heap.objs.size ≤ b
  size : s.heap.objs.size ≤ s'.heap.objs.size

def E0 : Addr → Prop := fun _ => False

theorem Step.refl (B : Addr → Prop) (σ : AHeap) (s : Shared) : Step B σ s σ s := ⟨fun _ _ e _ _ => e, fun _ h1 h2 => absurd h2 h1, Nat.le_refl _⟩
theorem Step.trans {B : Addr → Prop} {σ σ' σ'' : AHeap} {s s' s'' : Shared} (x : Step B σ s σ' s') (y : Step B σ' s' σ'' s'') : Step B σ s σ'' s'' where
  keep := fun b o e h1 h2 => y.keep b o (x.keep b o e h1 h2) (by
    cases h : σ' b with
    | none => rfl
    | some _ => exact absurd (x.fresh b (by rw [h]; simp) h1) (Nat.not_le.mpr (Heap.lt_size e))) h2
  fresh := fun b h1 h2 => by
    cases h : σ' b with
    | none => exact Nat.le_trans x.size (y.fresh b h1 h)
    | some _ => exact x.fresh b (by rw [h]; simp) h2
  size := Nat.le_trans x.size y.size
theorem Step.weaken {B B' : Addr → Prop} {σ σ' : AHeap} {s s' : Shared} (x : Step B σ s σ' s') (h : ∀ b, B b → B' b) : Step B' σ s σ' s' :=
  ⟨fun b o e h1 h2 => x.keep b o e h1 fun q => h2 (h b q), x.fresh, x.size⟩
/-- what is new since s may change -/
theorem Step.drop {B B' : Addr → Prop} {σ σ' : AHeap} {s s' : Shared} (x : Step B' σ s σ' s') (h : ∀ b, B' b → B b ∨ s.heap.objs.size ≤ b) : Step B σ s σ' s' :=
  ⟨fun b o e h1 h2 => x.keep b o e h1 fun q => (h b q).elim h2 fun q' => absurd (Heap.lt_size e) (Nat.not_lt.mpr q'), x.fresh, x.size⟩

def NoStay (B : Addr → Prop) (h : Heap) : Prop := ∀ b o, B b → h.get? b = some o → ¬ Stays o
theorem NoStay.e0 {h : Heap} : NoStay E0 h := fun _ _ h => h.elim

theorem Step.keepV {X : Cx} {B : Addr → Prop} {σ σ' : AHeap} {s s' : Shared} (x : Step B σ s σ' s') (a : At X σ s) (n : NoStay B s.heap) : KeepV s.heap s'.heap :=
  fun b o e h => x.keep b o e (a.stays e h) fun q => n b o q e h
theorem Step.keepV0 {X : Cx} {σ σ' : AHeap} {s s' : Shared} (x : Step E0 σ s σ' s') (a : At X σ s) : KeepV s.heap s'.heap := x.keepV a .e0

theorem AHeap.set_self (σ : AHeap) (a : Addr) (o : AO) : σ.set a o a = some o := by simp [AHeap.set]
theorem AHeap.set_ne (σ : AHeap) {a b : Addr} (o : AO) (h : b ≠ a) : σ.set a o b = σ b := by simp [AHeap.set, h]

section
variable {X : Cx} {σ σ' : AHeap} {s s' : Shared}

theorem At.toks (a : At X σ s) (t : Nat) : At X σ { s with toks := t } := ⟨a.keep, a.rep, a.own, a.gens, a.os⟩
theorem Step.toks {B : Addr → Prop} (σ : AHeap) (s : Shared) (t : Nat) : Step B σ s σ { s with toks := t } := ⟨fun _ _ e _ _ => e, fun _ h1 h2 => absurd h2 h1, Nat.le_refl _⟩

theorem At.push (a : At X σ s) (o : Obj) (t : Nat) : At X σ { s with heap := s.heap.push o, toks := t } where
  keep := fun b ob e => Heap.get?_push_of_some _ (a.keep b ob e)
  rep := fun b ao e => (a.rep b ao e).mono (fun _ _ h _ => Heap.get?_push_of_some _ h) (fun _ h => Heap.get?_push_of_some _ h)
  own := a.own
  gens := a.gens
  os := a.os
theorem Step.push {B : Addr → Prop} (σ : AHeap) (s : Shared) (o : Obj) (t : Nat) : Step B σ s σ { s with heap := s.heap.push o, toks := t } :=
  ⟨fun _ _ e _ _ => Heap.get?_push_of_some _ e, fun _ h1 h2 => absurd h2 h1, by simp⟩

/-- a new object of the abstract heap -/
theorem At.alloc (a : At X σ s) {o : Obj} {ao : AO} (t : Nat) (hr : RepA X (s.heap.push o) s.heap.objs.size ao) : At X (σ.set s.heap.objs.size ao) { s with heap := s.heap.push o, toks := t } where
  keep := fun b ob e => Heap.get?_push_of_some _ (a.keep b ob e)
  rep := fun b bo e => by
    by_cases hb : b = s.heap.objs.size
    · subst hb; rw [AHeap.set_self] at e; cases e; exact hr
    · rw [AHeap.set_ne _ _ hb] at e
      exact (a.rep b bo e).mono (fun _ _ h _ => Heap.get?_push_of_some _ h) (fun _ h => Heap.get?_push_of_some _ h)
  own := fun b bo e hro => by
    by_cases hb : b = s.heap.objs.size
    · subst hb
      cases h : X.h₀.get? s.heap.objs.size with
      | none => rfl
      | some ob => exact absurd (Heap.lt_size (a.keep _ _ h)) (Nat.lt_irrefl _)
    · rw [AHeap.set_ne _ _ hb] at e; exact a.own b bo e hro
  gens := a.gens
  os := a.os
theorem Step.alloc {B : Addr → Prop} (σ : AHeap) (s : Shared) (o : Obj) (ao : AO) (t : Nat) : Step B σ s (σ.set s.heap.objs.size ao) { s with heap := s.heap.push o, toks := t } :=
  ⟨fun _ _ e _ _ => Heap.get?_push_of_some _ e, fun b h1 h2 => by
    by_cases hb : b = s.heap.objs.size
    · rw [hb]; exact Nat.le_refl _
    · rw [AHeap.set_ne _ _ hb] at h1; exact absurd h2 h1, by simp⟩

/-- an object of the abstract heap is changed -/
theorem At.store (a : At X σ s) {b : Addr} {old ao : AO} {h' : Heap} (t : Nat) (e : σ b = some old) (hro : old.ro = false) (hs : Heap.SameBut b s.heap h') (hr : KeepV s.heap h' → RepA X h' b ao) :
    At X (σ.set b ao) { s with heap := h', toks := t } := by
  have kv : KeepV s.heap h' := fun c o ho st => by
    have hc : c ≠ b := by rintro rfl; rw [a.stays ho st] at e; cases e
    rw [hs.2 c hc]; exact ho
  refine ⟨fun c o ho => ?_, fun c co ec => ?_, fun c co ec hr' => ?_, a.gens, a.os⟩
  · have hc : c ≠ b := by rintro rfl; rw [a.own _ _ e hro] at ho; cases ho
    exact (hs.2 c hc).trans (a.keep c o ho)
  · by_cases hc : c = b
    · subst hc; rw [AHeap.set_self] at ec; cases ec; exact hr kv
    · rw [AHeap.set_ne _ _ hc] at ec
      exact (a.rep c co ec).mono kv fun o ho => (hs.2 c hc).trans ho
  · by_cases hc : c = b
    · subst hc; exact a.own _ _ e hro
    · rw [AHeap.set_ne _ _ hc] at ec; exact a.own c co ec hr'
theorem Step.store {B : Addr → Prop} {b : Addr} {old ao : AO} {h' : Heap} (t : Nat) (e : σ b = some old) (hs : Heap.SameBut b s.heap h') : Step B σ s (σ.set b ao) { s with heap := h', toks := t } :=
  ⟨fun c o ho hc _ => (hs.2 c (by rintro rfl; rw [e] at hc; cases hc)).trans ho, fun c h1 h2 => by
    by_cases hc : c = b
    · subst hc; rw [e] at h2; cases h2
    · rw [AHeap.set_ne _ _ hc] at h1; exact absurd h2 h1, Nat.le_of_eq hs.1.symm⟩

/-- an object outside of the abstract heap and of the ground is changed -/
theorem At.aside (a : At X σ s) {b : Addr} {h' : Heap} (t : Nat) (e : σ b = none) (hb : X.h₀.get? b = none) (hn : ∀ o, s.heap.get? b = some o → ¬ Stays o) (hs : Heap.SameBut b s.heap h') :
    At X σ { s with heap := h', toks := t } := by
  have kv : KeepV s.heap h' := fun c o ho st => by
    have hc : c ≠ b := by rintro rfl; exact hn _ ho st
    rw [hs.2 c hc]; exact ho
  refine ⟨fun c o ho => ?_, fun c co ec => ?_, a.own, a.gens, a.os⟩
  · have hc : c ≠ b := by rintro rfl; rw [hb] at ho; cases ho
    exact (hs.2 c hc).trans (a.keep c o ho)
  · have hc : c ≠ b := by rintro rfl; rw [e] at ec; cases ec
    exact (a.rep c co ec).mono kv fun o ho => (hs.2 c hc).trans ho
theorem Step.aside {B : Addr → Prop} {b : Addr} {h' : Heap} (t : Nat) (hB : B b) (hs : Heap.SameBut b s.heap h') : Step B σ s σ { s with heap := h', toks := t } :=
  ⟨fun c o ho _ hc => (hs.2 c (by rintro rfl; exact hc hB)).trans ho, fun _ h1 h2 => absurd h2 h1, Nat.le_of_eq hs.1.symm⟩
end

/-- locals, by number -/
abbrev Loc := List (Option AV)
def RepO (h : Heap) : Option AV → Option Value → Prop
  | none, none => True
  | some a, some v => RepV h a v
  | _, _ => False
theorem RepO.mono {h h' : Heap} (k : KeepV h h') : ∀ {a v}, RepO h a v → RepO h' a v
  | none, none, _ => trivial
  | some _, some _, r => RepV.mono k r
  | none, some _, r => r.elim
  | some _, none, r => r.elim

structure EnvOk (env : Env) : Prop where
  kind : env.scope.kind = .function
  glob : env.globals = mainGlobals
  bi : env.builtins = builtinsNs
  apart : env.cells.Pairwise fun x y => x.2 ≠ y.2

/-- no two names at one number -/
def NmOk (nm : List (Str × Nat)) (n : Nat) : Prop := (∀ x i, nm.lookup x = some i → i < n) ∧ ∀ x y i, nm.lookup x = some i → nm.lookup y = some i → x = y

def lenOf (nm : List (Str × Nat)) : Nat := nm.foldl (fun n p => max n (p.2 + 1)) 0

/-- the frame's names are at their places -/
structure FR (X : Cx) (env : Env) (nm : List (Str × Nat)) (l : Loc) (σ : AHeap) (h : Heap) : Prop where
  ns : ∃ m, h.Ns env.locals m ∧ ∀ x i, nm.lookup x = some i → env.kindOf x = some .local → RepO h (l.getD i none) (m x)
  cell : ∀ x i, nm.lookup x = some i → env.kindOf x = some .cell → ∃ c v, env.cells.lookup x = some c ∧ h.IsCell c v ∧ RepO h (l.getD i none) v
  out : σ env.locals = none ∧ X.h₀.get? env.locals = none
  nmok : NmOk nm l.length
  len : l.length = lenOf nm
  outc : ∀ x c, (x, c) ∈ env.cells → σ c = none ∧ X.h₀.get? c = none ∧ ∃ v, h.IsCell c v

def FB (env : Env) : Addr → Prop := fun b => b = env.locals ∨ ∃ x, (x, b) ∈ env.cells

section
variable {X : Cx} {env : Env} {nm : List (Str × Nat)} {l : Loc} {σ σ' : AHeap} {s s' : Shared}

theorem noStay_dict {o : Obj} {es n} (hd : o.data = .dict es n) : ¬ Stays o := by
  rintro (⟨_, _, _, h⟩ | ⟨_, _, h⟩ | ⟨_, _, _, h⟩) <;> (rw [hd] at h; cases h)
theorem noStay_cell {o : Obj} {v} (hd : o.data = .cell v) : ¬ Stays o := by
  rintro (⟨_, _, _, h⟩ | ⟨_, _, h⟩ | ⟨_, _, _, h⟩) <;> (rw [hd] at h; cases h)
theorem noStay_ns {h : Heap} {a : Addr} {m} (n : h.Ns a m) : ∀ o, h.get? a = some o → ¬ Stays o := by
  intro o e
  obtain ⟨o', es, ep, ho, hd, _⟩ := n
  rw [e] at ho; cases ho; exact noStay_dict hd
theorem noStay_isCell {h : Heap} {a : Addr} {v} (n : h.IsCell a v) : ∀ o, h.get? a = some o → ¬ Stays o := by
  intro o e
  obtain ⟨o', ho, hd⟩ := n
  rw [e] at ho; cases ho; exact noStay_cell hd
theorem ns_ne_cell {h : Heap} {a b : Addr} {m v} (n : h.Ns a m) (c : h.IsCell b v) : a ≠ b := by
  rintro rfl
  obtain ⟨o', es, ep, ho, hd, _⟩ := n
  obtain ⟨o, ho', hd'⟩ := c
  rw [ho] at ho'; cases ho'; rw [hd] at hd'; cases hd'

theorem FR.noStay (F : FR X env nm l σ s.heap) : NoStay (FB env) s.heap := by
  rintro b o (rfl | ⟨x, hx⟩) e
  · obtain ⟨m, hn, _⟩ := F.ns; exact noStay_ns hn o e
  · obtain ⟨_, _, v, hc⟩ := F.outc x b hx; exact noStay_isCell hc o e

theorem FR.stepB {B : Addr → Prop} (F : FR X env nm l σ s.heap) (a : At X σ s) (st : Step B σ s σ' s') (hB : ∀ b, FB env b → ¬ B b) (hn : NoStay B s.heap) : FR X env nm l σ' s'.heap := by
  have kv := st.keepV a hn
  have keep : ∀ b o, FB env b → s.heap.get? b = some o → σ b = none → s'.heap.get? b = some o := fun b o hb e h => st.keep b o e h (hB b hb)
  have out : ∀ b, σ b = none → b < s.heap.objs.size → σ' b = none := fun b h hb => by
    cases h' : σ' b with
    | none => rfl
    | some _ => exact absurd (st.fresh b (by rw [h']; simp) h) (Nat.not_le.mpr hb)
  obtain ⟨m, ⟨o, es, ep, ho, r⟩, hm⟩ := F.ns
  refine ⟨⟨m, ⟨o, es, ep, keep _ _ (.inl rfl) ho F.out.1, r⟩, fun x i hx hk => (hm x i hx hk).mono kv⟩, fun x i hx hk => ?_, ⟨out _ F.out.1 (Heap.lt_size ho), F.out.2⟩, F.nmok, F.len, fun x c hx => ?_⟩
  · obtain ⟨c, v, hc, ⟨o, ho, hd⟩, hr⟩ := F.cell x i hx hk
    exact ⟨c, v, hc, ⟨o, keep _ _ (.inr ⟨x, mem_of_lookup hc⟩) ho (F.outc x c (mem_of_lookup hc)).1, hd⟩, hr.mono kv⟩
  · obtain ⟨h1, h2, v, ⟨o, ho, hd⟩⟩ := F.outc x c hx
    exact ⟨out _ h1 (Heap.lt_size ho), h2, v, ⟨o, keep _ _ (.inr ⟨x, hx⟩) ho h1, hd⟩⟩
theorem FR.step (F : FR X env nm l σ s.heap) (a : At X σ s) (st : Step E0 σ s σ' s') : FR X env nm l σ' s'.heap := F.stepB a st (fun _ _ h => h) .e0

theorem getD_set (l : Loc) (i j : Nat) (v : Option AV) (hi : i < l.length) : (l.set i v).getD j none = if j = i then v else l.getD j none := by
  simp only [List.getD_eq_getElem?_getD, List.getElem?_set]
  by_cases h : i = j
  · subst h; simp [hi]
  · have : ¬ j = i := fun e => h e.symm
    simp [h, this]

/-- a name is stored: in the frame's dict -/
theorem wp_storeL {M : Model} {A : Around} {E : Value → Shared → Prop} {x : Str} {i : Nat} {av : AV} {v : Value} {Q : Unit → Shared → Prop} (EO : EnvOk env) (F : FR X env nm l σ s.heap) (a : At X σ s)
    (hx : nm.lookup x = some i) (hk : env.kindOf x = some .local) (hv : RepV s.heap av v)
    (h : ∀ s', FR X env nm (l.set i (some av)) σ s'.heap → At X σ s' → Step (fun b => b = env.locals) σ s σ s' → Q () s') : wpAny M A (storeName env x v) Q E s := by
  have N := F.nmok
  obtain ⟨m, hn, hm⟩ := F.ns
  refine wpAny_storeName_local hk hn (fun h' hn' hs' => ?_) (by rw [EO.kind]; rfl)
  have kv : KeepV s.heap h' := fun b o e st => (hs'.2 b (by rintro rfl; exact noStay_ns hn o e st)).trans e
  refine h _ ⟨⟨_, hn', fun y j hy hky => ?_⟩, fun y j hy hky => ?_, F.out, by simpa using N, by simpa using F.len, fun y c hy => ?_⟩ (a.aside _ F.out.1 F.out.2 (noStay_ns hn) hs') (Step.aside _ rfl hs')
  · rw [getD_set _ _ _ _ (N.1 x i hx)]
    by_cases hyx : y = x
    · subst hyx
      rw [hx] at hy; cases hy
      simp only [if_true]; exact hv.mono kv
    · have : j ≠ i := fun e => hyx (N.2 y x i (e ▸ hy) hx)
      simp only [hyx, this, if_false]; exact (hm y j hy hky).mono kv
  · obtain ⟨c, u, hc, hcc, hr⟩ := F.cell y j hy hky
    have hyx : y ≠ x := by rintro rfl; rw [hk] at hky; cases hky
    have hji : j ≠ i := fun e => hyx (N.2 y x i (e ▸ hy) hx)
    rw [getD_set _ _ _ _ (N.1 x i hx), if_neg hji]
    exact ⟨c, u, hc, hcc.sameBut hs' (Ne.symm (ns_ne_cell hn hcc)), hr.mono kv⟩
  · obtain ⟨h1, h2, u, hcc⟩ := F.outc y c hy
    exact ⟨h1, h2, u, hcc.sameBut hs' (Ne.symm (ns_ne_cell hn hcc))⟩

/-- a name is stored -/
theorem wp_store {M : Model} {A : Around} {E : Value → Shared → Prop} {x : Str} {i : Nat} {av : AV} {v : Value} {Q : Unit → Shared → Prop} (EO : EnvOk env) (F : FR X env nm l σ s.heap) (a : At X σ s)
    (hx : nm.lookup x = some i) (hk : env.kindOf x = some .local ∨ env.kindOf x = some .cell) (hv : RepV s.heap av v)
    (h : ∀ s', FR X env nm (l.set i (some av)) σ s'.heap → At X σ s' → Step (FB env) σ s σ s' → Q () s') : wpAny M A (storeName env x v) Q E s := by
  have N := F.nmok
  rcases hk with hk | hk
  · exact wp_storeL EO F a hx hk hv fun s' F' a' st => h s' F' a' (st.weaken fun b hb => .inl hb)
  · obtain ⟨m, hn, hm⟩ := F.ns
    obtain ⟨c, u, hc, hcc, hr⟩ := F.cell x i hx hk
    refine wpAny_storeName_cell EO.kind hk hc hcc fun h' hcc' hs' => ?_
    have kv : KeepV s.heap h' := fun b o e st => (hs'.2 b (by rintro rfl; exact noStay_isCell hcc o e st)).trans e
    have oc := F.outc x c (mem_of_lookup hc)
    refine h { s with heap := h' } ⟨⟨m, hn.sameBut hs' (ns_ne_cell hn hcc), fun y j hy hky => ?_⟩, fun y j hy hky => ?_, F.out, by simpa using N, by simpa using F.len, fun y c' hy => ?_⟩ (a.aside (t := s.toks) (h' := h') oc.1 oc.2.1 (noStay_isCell hcc) hs')
      (Step.aside (t := s.toks) (h' := h') (Or.inr ⟨x, mem_of_lookup hc⟩) hs')
    · have hyx : y ≠ x := by rintro rfl; rw [hk] at hky; cases hky
      have hji : j ≠ i := fun e => hyx (N.2 y x i (e ▸ hy) hx)
      rw [getD_set _ _ _ _ (N.1 x i hx), if_neg hji]
      exact (hm y j hy hky).mono kv
    · rw [getD_set _ _ _ _ (N.1 x i hx)]
      by_cases hyx : y = x
      · subst hyx
        rw [hx] at hy; cases hy
        simp only [if_true]; exact ⟨c, some v, hc, hcc', hv.mono kv⟩
      · have hji : j ≠ i := fun e => hyx (N.2 y x i (e ▸ hy) hx)
        simp only [hji, if_false]
        obtain ⟨c', u', hc', hcc'', hr'⟩ := F.cell y j hy hky
        refine ⟨c', u', hc', hcc''.sameBut hs' ?_, hr'.mono kv⟩
        rintro rfl
        exact hyx (name_of_addr EO.apart (mem_of_lookup hc') (mem_of_lookup hc))
    · obtain ⟨h1, h2, u', hcc''⟩ := F.outc y c' hy
      by_cases hcc3 : c' = c
      · subst hcc3; exact ⟨h1, h2, _, hcc'⟩
      · exact ⟨h1, h2, u', hcc''.sameBut hs' hcc3⟩

/-- a name is loaded -/
theorem wp_load {M : Model} {A : Around} {E : Value → Shared → Prop} {x : Str} {i : Nat} {av : AV} {Q : Value → Shared → Prop} (EO : EnvOk env) (F : FR X env nm l σ s.heap)
    (hx : nm.lookup x = some i) (hk : env.kindOf x = some .local ∨ env.kindOf x = some .cell) (hl : l.getD i none = some av) (h : ∀ v, RepV s.heap av v → Q v s) : wpAny M A (loadName env x) Q E s := by
  rcases hk with hk | hk
  · obtain ⟨m, hn, hm⟩ := F.ns
    have hr := hm x i hx hk
    rw [hl] at hr
    cases hv : m x with
    | none => rw [hv] at hr; exact hr.elim
    | some v => rw [hv] at hr; exact wpAny_loadName_local EO.kind hk hn hv (h v hr)
  · obtain ⟨c, u, hc, hcc, hr⟩ := F.cell x i hx hk
    rw [hl] at hr
    cases u with
    | none => exact hr.elim
    | some v => exact wpAny_loadName_cell EO.kind hk hc hcc (h v hr)
end
end Mine

set_option maxRecDepth 100000
set_option linter.unusedVariables false
namespace Mine
open PySem PyProof.Rows

abbrev Post := AV → AHeap → Prop
abbrev XP := Addr → AHeap → Prop
/-- abstract expressions: depth, locals, what is wanted, what is wanted of a raise, the heap -/
abbrev AE := Nat → Loc → Post → XP → AHeap → Prop

structure Live (d : Nat) (A : Around) : Prop where
  depth : A.depth ≤ 301 + d
  units : A.units ≤ 20 + 8 * d
  handled : A.handled = none
  small : d ≤ 600

theorem Live.in1 {d : Nat} {A : Around} (L : Live d A) : A.in1.handled = none := L.handled
theorem Live.room {d : Nat} {A : Around} (L : Live d A) : A.units + 3000 < cLine := by
  have h1 := L.units; have h2 := L.small
  show A.units + 3000 < 9900
  omega

def ExcAt (s : Shared) (e : Value) (c : Addr) (s' : Shared) : Prop := ∃ x, e = .ref x ∧ s.heap.objs.size ≤ x ∧ RepV s'.heap (.exc c) e

def liftQ (X : Cx) (σ : AHeap) (s : Shared) (Q : Post) : Value → Shared → Prop :=
  fun v s' => ∃ av σ', RepV s'.heap av v ∧ At X σ' s' ∧ Step E0 σ s σ' s' ∧ Q av σ'
def liftX (X : Cx) (σ : AHeap) (s : Shared) (Z : XP) : Value → Shared → Prop :=
  fun e s' => ∃ c σ', ExcAt s e c s' ∧ At X σ' s' ∧ Step E0 σ s σ' s' ∧ Z c σ'
def liftB (X : Cx) (σ : AHeap) (s : Shared) (Q : Bool → AHeap → Prop) : Bool → Shared → Prop :=
  fun b s' => ∃ σ', At X σ' s' ∧ Step E0 σ s σ' s' ∧ Q b σ'
def liftL (X : Cx) (σ : AHeap) (s : Shared) (Q : List AV → AHeap → Prop) : List Value → Shared → Prop :=
  fun vs s' => ∃ avs σ', RepVs s'.heap avs vs ∧ At X σ' s' ∧ Step E0 σ s σ' s' ∧ Q avs σ'

section
variable {X : Cx} {A : Around} {σ σ' : AHeap} {s s' : Shared} {Z : XP}

theorem liftX.back {e : Value} {s'' : Shared} (st : Step E0 σ s σ' s') (h : liftX X σ' s' Z e s'') : liftX X σ s Z e s'' :=
  let ⟨c, σ'', ⟨x, h1, h2, h3⟩, a, st', z⟩ := h; ⟨c, σ'', ⟨x, h1, Nat.le_trans st.size h2, h3⟩, a, st.trans st', z⟩
theorem liftQ.back {Q : Post} {v : Value} {s'' : Shared} (st : Step E0 σ s σ' s') (h : liftQ X σ' s' Q v s'') : liftQ X σ s Q v s'' :=
  let ⟨av, σ'', r, a, st', q⟩ := h; ⟨av, σ'', r, a, st.trans st', q⟩
theorem liftB.back {Q : Bool → AHeap → Prop} {v : Bool} {s'' : Shared} (st : Step E0 σ s σ' s') (h : liftB X σ' s' Q v s'') : liftB X σ s Q v s'' :=
  let ⟨σ'', a, st', q⟩ := h; ⟨σ'', a, st.trans st', q⟩
theorem liftL.back {Q : List AV → AHeap → Prop} {v : List Value} {s'' : Shared} (st : Step E0 σ s σ' s') (h : liftL X σ' s' Q v s'') : liftL X σ s Q v s'' :=
  let ⟨av, σ'', r, a, st', q⟩ := h; ⟨av, σ'', r, a, st.trans st', q⟩

/-- one behind the other: the second from where the first ends -/
theorem seqQ {α : Type} {t : Sem Value} {f : Value → Sem α} {Q1 : Post} {R : Value → α → Shared → Prop} (h : wpAny X.M A t (liftQ X σ s Q1) (liftX X σ s Z) s)
    (k : ∀ av v σ1 s1, RepV s1.heap av v → At X σ1 s1 → Step E0 σ s σ1 s1 → Q1 av σ1 → wpAny X.M A (f v) (R v) (liftX X σ s Z) s1) :
    wpAny X.M A t (fun v s1 => wpAny X.M A (f v) (R v) (liftX X σ s Z) s1) (liftX X σ s Z) s :=
  wpAny_mono h (fun v s1 ⟨av, σ1, r, a, st, q⟩ => k av v σ1 s1 r a st q) fun _ _ e => e
theorem backQ {t : Sem Value} {Q : Post} (st : Step E0 σ s σ' s') (h : wpAny X.M A t (liftQ X σ' s' Q) (liftX X σ' s' Z) s') : wpAny X.M A t (liftQ X σ s Q) (liftX X σ s Z) s' :=
  wpAny_mono h (fun _ _ h => h.back st) fun _ _ h => h.back st
theorem backB {t : Sem Bool} {Q : Bool → AHeap → Prop} (st : Step E0 σ s σ' s') (h : wpAny X.M A t (liftB X σ' s' Q) (liftX X σ' s' Z) s') : wpAny X.M A t (liftB X σ s Q) (liftX X σ s Z) s' :=
  wpAny_mono h (fun _ _ h => h.back st) fun _ _ h => h.back st
/-- a value, nothing changed -/
theorem retQ {Q : Post} {av : AV} {v : Value} (a : At X σ s) (r : RepV s.heap av v) (q : Q av σ) : liftQ X σ s Q v s := ⟨av, σ, r, a, .refl .., q⟩
theorem retT {Q : Post} {av : AV} {v : Value} {t : Nat} (a : At X σ s) (r : RepV s.heap av v) (q : Q av σ) : liftQ X σ s Q v { s with toks := t } := ⟨av, σ, r, a.toks t, .toks .., q⟩
end

def SoundE (X : Cx) (env : Env) (nm : List (Str × Nat)) (e : Expr) (m : AE) : Prop :=
  ∀ d A l σ s Q Z, Live d A → At X σ s → FR X env nm l σ s.heap → m d l Q Z σ → wpAny X.M A (eval e env) (liftQ X σ s Q) (liftX X σ s Z) s
def isB (Q : Bool → AHeap → Prop) : Post := fun a σ => ∃ b, a = .bool b ∧ Q b σ
def SoundB (X : Cx) (env : Env) (nm : List (Str × Nat)) (e : Expr) (m : AE) : Prop :=
  ∀ d A l σ s Q Z, Live d A → At X σ s → FR X env nm l σ s.heap → m d l (isB Q) Z σ → wpAny X.M A (isTrue e env (eval e env)) (liftB X σ s Q) (liftX X σ s Z) s

namespace A
def loc (i : Nat) : AE := fun _ l Q _ σ => ∃ a, l.getD i none = some a ∧ Q a σ
def k (a : AV) : AE := fun _ _ Q _ σ => Q a σ
end A

section
variable {X : Cx} {env : Env} {nm : List (Str × Nat)}

theorem sound_loc {x : Str} {pos : Pos} {i : Nat} (EO : EnvOk env) (hx : nm.lookup x = some i) (hk : env.kindOf x = some .local ∨ env.kindOf x = some .cell) (hd : (x == ("__debug__" : Str)) = false) :
    SoundE X env nm (.Name x pos) (A.loc i) := fun d A l σ s Q Z L a F ⟨av, hl, q⟩ =>
  wpAny_Name (wp_load EO F hx hk hl fun v r => retQ a r q) hd

theorem sound_int {i : Int} {k pos} : SoundE X env nm (.Constant (.int i) k pos) (A.k (.int i)) := fun d A l σ s Q Z L a F q =>
  wpAny_Constant_int (retT a (.int _ _) q)
theorem sound_str {x : Str} {k pos} : SoundE X env nm (.Constant (.str x) k pos) (A.k (.str x)) := fun d A l σ s Q Z L a F q => by
  show wpAny X.M A (mkText x) _ _ s
  exact fun _ _ _ => retT a (.str _ _) q
theorem sound_bool {b : Bool} {k pos} : SoundE X env nm (.Constant (.bool b) k pos) (A.k (.bool b)) := fun d A l σ s Q Z L a F q => wpAny_pure (retQ a (.bool b) q)

/-- truth by the value -/
theorem soundB_of {e : Expr} {m : AE} (h : SoundE X env nm e m) (he : ∀ whole, isTrue e env whole = (do let v ← whole; standAt e.pos; holding [v] (truthy v))) : SoundB X env nm e m := fun d A l σ s Q Z L a F q => by
  rw [he]
  refine wpAny_bind (seqQ (h d A l σ s (isB Q) Z L a F q) fun av v σ1 s1 r a1 st ⟨b, e, q1⟩ => ?_)
  subst e
  cases r
  exact wpAny_bind (wpAny_standAt (wpAny_holding (wpAny_truthy_bool ⟨σ1, a1, st, q1⟩)))
end
end Mine

set_option maxRecDepth 100000
set_option linter.unusedVariables false
namespace Mine
open PySem PyProof.Rows

inductive Fl where
  | next
  | ret (v : AV)
abbrev SPost := Fl → Loc → AHeap → Prop
abbrev SXP := Addr → Loc → AHeap → Prop
abbrev AS := Nat → Loc → SPost → SXP → AHeap → Prop

def RepFl (h : Heap) : Fl → Flow → Prop
  | .next, .next => True
  | .ret a, .ret v => RepV h a v
  | _, _ => False

def liftS (X : Cx) (env : Env) (nm : List (Str × Nat)) (σ : AHeap) (s : Shared) (Q : SPost) : Flow → Shared → Prop :=
  fun f s' => ∃ fl l' σ', RepFl s'.heap fl f ∧ At X σ' s' ∧ FR X env nm l' σ' s'.heap ∧ Step (FB env) σ s σ' s' ∧ Q fl l' σ'
def liftSX (X : Cx) (env : Env) (nm : List (Str × Nat)) (σ : AHeap) (s : Shared) (Z : SXP) : Value → Shared → Prop :=
  fun e s' => ∃ c l' σ', ExcAt s e c s' ∧ At X σ' s' ∧ FR X env nm l' σ' s'.heap ∧ Step (FB env) σ s σ' s' ∧ Z c l' σ'

def SoundS (X : Cx) (env : Env) (nm : List (Str × Nat)) (st : Stmt) (m : AS) : Prop :=
  ∀ d A l σ s Q Z, Live d A → At X σ s → FR X env nm l σ s.heap → m d l Q Z σ → wpAny X.M A (exec st env) (liftS X env nm σ s Q) (liftSX X env nm σ s Z) s
def SoundSs (X : Cx) (env : Env) (nm : List (Str × Nat)) (sts : List Stmt) (m : AS) : Prop :=
  ∀ d A l σ s Q Z, Live d A → At X σ s → FR X env nm l σ s.heap → m d l Q Z σ → wpAny X.M A (execs sts env) (liftS X env nm σ s Q) (liftSX X env nm σ s Z) s

namespace A
def nil : AS := fun d l Q Z σ => Q .next l σ
def cons (a b : AS) : AS := fun d l Q Z σ => a d l (fun f l' σ' => match f with | .next => b d l' Q Z σ' | .ret v => Q (.ret v) l' σ') Z σ
def set (i : Nat) (x : AE) : AS := fun d l Q Z σ => x d l (fun a σ' => Q .next (l.set i (some a)) σ') (fun c σ' => Z c l σ') σ
def ret (x : AE) : AS := fun d l Q Z σ => x d l (fun a σ' => Q (.ret a) l σ') (fun c σ' => Z c l σ') σ
def if_ (t : AE) (a b : AS) : AS := fun d l Q Z σ => t d l (isB fun c σ' => if c then a d l Q Z σ' else b d l Q Z σ') (fun c σ' => Z c l σ') σ
end A

section
variable {X : Cx} {env : Env} {nm : List (Str × Nat)} {σ σ' : AHeap} {s s' : Shared}

theorem FB.of_e0 (b : Addr) (h : E0 b) : FB env b := h.elim

theorem liftS.back {Q : SPost} {f : Flow} {s'' : Shared} (st : Step (FB env) σ s σ' s') (h : liftS X env nm σ' s' Q f s'') : liftS X env nm σ s Q f s'' :=
  let ⟨fl, l', σ'', r, a, F, st', q⟩ := h; ⟨fl, l', σ'', r, a, F, st.trans st', q⟩
theorem liftSX.back {Z : SXP} {e : Value} {s'' : Shared} (st : Step (FB env) σ s σ' s') (h : liftSX X env nm σ' s' Z e s'') : liftSX X env nm σ s Z e s'' :=
  let ⟨c, l', σ'', ⟨x, h1, h2, h3⟩, a, F, st', q⟩ := h; ⟨c, l', σ'', ⟨x, h1, Nat.le_trans st.size h2, h3⟩, a, F, st.trans st', q⟩
theorem liftX.toS {l : Loc} {Z : SXP} {e : Value} {s'' : Shared} (a0 : At X σ s) (F : FR X env nm l σ s.heap) (h : liftX X σ s (fun c σ' => Z c l σ') e s'') : liftSX X env nm σ s Z e s'' :=
  let ⟨c, σ'', h1, a, st', q⟩ := h; ⟨c, l, σ'', h1, a, F.step a0 st', st'.weaken FB.of_e0, q⟩

/-- an expression inside a statement -/
theorem inS {α : Type} {A : Around} {l : Loc} {t : Sem Value} {f : Value → Sem α} {Q1 : Post} {Z : SXP} {R : α → Shared → Prop} {E : Value → Shared → Prop} (a0 : At X σ s) (F : FR X env nm l σ s.heap)
    (h : wpAny X.M A t (liftQ X σ s Q1) (liftX X σ s fun c σ' => Z c l σ') s) (hE : ∀ e s', liftSX X env nm σ s Z e s' → E e s')
    (k : ∀ av v σ1 s1, RepV s1.heap av v → At X σ1 s1 → FR X env nm l σ1 s1.heap → Step (FB env) σ s σ1 s1 → Step E0 σ s σ1 s1 → Q1 av σ1 → wpAny X.M A (f v) R E s1) :
    wpAny X.M A t (fun v s1 => wpAny X.M A (f v) R E s1) E s :=
  wpAny_mono h (fun v s1 ⟨av, σ1, r, a, st, q⟩ => k av v σ1 s1 r a (F.step a0 st) (st.weaken FB.of_e0) st q) fun e s' x => hE e s' (x.toS a0 F)

theorem sound_nil : SoundSs X env nm [] A.nil := fun d A l σ s Q Z L a F q => wpAny_execs_nil ⟨.next, l, σ, trivial, a, F, .refl .., q⟩

theorem sound_cons {st : Stmt} {sts : List Stmt} {m ms : AS} (h : SoundS X env nm st m) (hs : SoundSs X env nm sts ms) : SoundSs X env nm (st :: sts) (A.cons m ms) := fun d A l σ s Q Z L a F q => by
  refine wpAny_execs_cons (wpAny_mono (h d A l σ s _ Z L a F q) (fun f s1 ⟨fl, l1, σ1, r, a1, F1, st1, q1⟩ => ?_) fun _ _ e => e)
  cases f with
  | next =>
    cases fl with
    | next => exact wpAny_mono (hs d A l1 σ1 s1 Q Z L a1 F1 q1) (fun _ _ x => x.back st1) fun _ _ x => x.back st1
    | ret v => exact r.elim
  | ret v =>
    cases fl with
    | next => exact r.elim
    | ret av => exact ⟨.ret av, l1, σ1, r, a1, F1, st1, q1⟩
  | brk => cases fl <;> exact r.elim
  | cont => cases fl <;> exact r.elim

theorem sound_ret {e : Expr} {pos : Pos} {m : AE} (h : SoundE X env nm e m) : SoundS X env nm (.Return (some e) pos) (A.ret m) := fun d A l σ s Q Z L a F q =>
  wpAny_Return_some (wpAny_mono (h d A l σ s _ _ L a F q) (fun v s1 ⟨av, σ1, r, a1, st, q1⟩ => ⟨.ret av, l, σ1, r, a1, F.step a st, st.weaken FB.of_e0, q1⟩) fun _ _ x => x.toS a F)
theorem sound_set {x : Str} {pos' pos : Pos} {value : Expr} {m : AE} {i : Nat} (EO : EnvOk env) (h : SoundE X env nm value m) (hx : nm.lookup x = some i) (hk : env.kindOf x = some .local ∨ env.kindOf x = some .cell)
    (hs : swapsWith value (some (.Name x pos')) pos.line env = pure false) : SoundS X env nm (.Assign [.Name x pos'] value pos) (A.set i m) := fun d A l σ s Q Z L a F q =>
  wpAny_Assign_Name (inS a F (h d A l σ s _ _ L a F q) (fun _ _ e => e) fun av v σ1 s1 r a1 F1 st _ q1 =>
    wp_store EO F1 a1 hx hk r fun s2 F2 a2 st2 => ⟨.next, _, σ1, trivial, a2, F2, st.trans st2, q1⟩) hs

theorem sound_if {test : Expr} {body orelse : List Stmt} {pos : Pos} {t : AE} {a b : AS} (ht : SoundB X env nm test t) (ha : SoundSs X env nm body a) (hb : SoundSs X env nm orelse b) :
    SoundS X env nm (.If test body orelse pos) (A.if_ t a b) := fun d A l σ s Q Z L a0 F q => by
  refine wpAny_If (wpAny_mono (ht d A l σ s _ _ L a0 F q) (fun c s1 ⟨σ1, a1, st, q1⟩ => ?_) fun _ _ x => x.toS a0 F)
  have F1 := F.step a0 st
  have st' := st.weaken (B' := FB env) FB.of_e0
  cases c with
  | true => simp only [if_true] at q1 ⊢; exact wpAny_mono (ha d A l σ1 s1 Q Z L a1 F1 q1) (fun _ _ x => x.back st') fun _ _ x => x.back st'
  | false => simp only [Bool.false_eq_true, if_false] at q1 ⊢; exact wpAny_mono (hb d A l σ1 s1 Q Z L a1 F1 q1) (fun _ _ x => x.back st') fun _ _ x => x.back st'

theorem noX {σ : AHeap} {s : Shared} {e : Value} {s' : Shared} {P : Prop} (h : liftX X σ s (fun _ _ => False) e s') : P := let ⟨_, _, _, _, _, z⟩ := h; z.elim
theorem noSX {σ : AHeap} {s : Shared} {e : Value} {s' : Shared} {P : Prop} (h : liftSX X env nm σ s (fun _ _ _ => False) e s') : P := let ⟨_, _, _, _, _, _, _, z⟩ := h; z.elim

end

/-- targets: a name, or a tuple of names -/
inductive Tgt where
  | one (i : Nat)
  | many (is : List Nat)
def sets : List Nat → List AV → Loc → Loc
  | i :: is, x :: xs, l => sets is xs (l.set i (some x))
  | _, _, l => l
def bindT : Tgt → AV → Loc → Option Loc
  | .one i, x, l => some (l.set i (some x))
  | .many is, .tup xs, l => if xs.length = is.length then some (sets is xs l) else none
  | _, _, _ => none

def SoundT (X : Cx) (env : Env) (nm : List (Str × Nat)) (target : Expr) (t : Tgt) : Prop :=
  ∀ d A l l' σ s x v (Q : Unit → Shared → Prop) E, Live d A → At X σ s → FR X env nm l σ s.heap → RepV s.heap x v → bindT t x l = some l' →
    (∀ s', FR X env nm l' σ s'.heap → At X σ s' → Step (FB env) σ s σ s' → Q () s') → wpAny X.M A (assign target env v) Q E s

theorem soundT_one {X : Cx} {env : Env} {nm : List (Str × Nat)} {x : Str} {pos : Pos} {i : Nat} (EO : EnvOk env) (hx : nm.lookup x = some i) (hk : env.kindOf x = some .local ∨ env.kindOf x = some .cell) :
    SoundT X env nm (.Name x pos) (.one i) := fun d A l l' σ s y v Q E L a F r hb h => by
  cases hb
  exact wpAny_assign_Name (wp_store EO F a hx hk r h)

/-- an iterator over known items -/
structure ItOk (X : Cx) (A : Around) (target : Expr) (it : Value) (I : AHeap → Prop) (xs : List AV) (W : Addr → Prop) (St : Nat → Heap → Prop) : Prop where
  stable : ∀ i h h', St i h → KeepV h h' → (∀ b o, W b → h.get? b = some o → h'.get? b = some o) → St i h'
  there : ∀ i h b, St i h → W b → ∃ o, h.get? b = some o ∧ ¬ Stays o ∧ (∀ es n, o.data ≠ .dict es n) ∧ (∀ v, o.data ≠ .cell v)
  item : ∀ i x σ s (Q : Value → Shared → Prop) (Qn : Option Value → Shared → Prop) E, (∀ v s1, wpAny X.M A (letOwnedTupleGo target it v) (fun _ s' => Q v s') E s1 → Qn (some v) s1) →
    xs[i]? = some x → At X σ s → I σ → St i s.heap → (∀ b, W b → σ b = none ∧ X.h₀.get? b = none) →
    (∀ v s', RepV s'.heap x v → At X σ s' → Step W σ s σ s' → St (i + 1) s'.heap → Q v s') → wpAny X.M A (pyNext it) Qn E s
  done : ∀ σ s (Q : Option Value → Shared → Prop) E, At X σ s → I σ → St xs.length s.heap → (∀ b, W b → σ b = none ∧ X.h₀.get? b = none) →
    (∀ s', At X σ s' → Step W σ s σ s' → Q none s') → wpAny X.M A (pyNext it) Q E s
  self : ∀ i s (Q : Value → Shared → Prop) E, St i s.heap → Q it s → wpAny X.M A (pyIter it) Q E s

def forL (I : AHeap → Prop) (t : Tgt) (body : AS) (d : Nat) (Q : SPost) : List AV → Loc → AHeap → Prop
  | [], l, σ => Q .next l σ
  | x :: xs, l, σ => ∃ l', bindT t x l = some l' ∧ body d l' (fun f l'' σ' => match f with | .next => I σ' ∧ forL I t body d Q xs l'' σ' | .ret v => Q (.ret v) l'' σ') (fun _ _ _ => False) σ

section
variable {X : Cx} {env : Env} {nm : List (Str × Nat)} {A : Around} {σ : AHeap} {s : Shared}

theorem for_loop {d : Nat} {target : Expr} {t : Tgt} {body : List Stmt} {m : AS} {it : Value} {I : AHeap → Prop} {xs : List AV} {W : Addr → Prop} {St : Nat → Heap → Prop} {l : Loc} {Q : SPost} {R : Result → Shared → Prop}
    (L : Live d A) (IT : ItOk X A target it I xs W St) (ht : SoundT X env nm target t) (hb : SoundSs X env nm body m) (hW : ∀ b, W b → σ b = none ∧ X.h₀.get? b = none)
    (a0 : At X σ s) (F : FR X env nm l σ s.heap) (hI : I σ) (hSt : St 0 s.heap) (h : forL I t m d Q xs l σ)
    (hR : ∀ f s', (∃ fl l' σ', RepFl s'.heap fl f ∧ At X σ' s' ∧ FR X env nm l' σ' s'.heap ∧ Step (fun b => FB env b ∨ W b) σ s σ' s' ∧ Q fl l' σ') → R (.ok f) s') :
    codeAny X.M A (.forLoop target it body [] env) R s := by
  refine codeAny_forLoop_any (fun k s1 => ∃ i l1 σ1, k = xs.length + 1 - i ∧ i ≤ xs.length ∧ At X σ1 s1 ∧ FR X env nm l1 σ1 s1.heap ∧ Step (fun b => FB env b ∨ W b) σ s σ1 s1 ∧ I σ1 ∧ St i s1.heap ∧
    (∀ b, W b → σ1 b = none ∧ X.h₀.get? b = none) ∧ forL I t m d Q (xs.drop i) l1 σ1) ?_ (xs.length + 1) ⟨0, l, σ, rfl, Nat.zero_le _, a0, F, .refl .., hI, hSt, hW, h⟩
  rintro k s1 ⟨i, l1, σ1, rfl, hi, a1, F1, st1, hI1, hSt1, hW1, hf⟩
  have noW : NoStay W s1.heap := fun b o hb e => by obtain ⟨o', e', h', _⟩ := IT.there i _ b hSt1 hb; rw [e] at e'; cases e'; exact h'
  have dis : ∀ b, FB env b → ¬ W b := fun b hb hw => by
    obtain ⟨o', e', _, h1, h2⟩ := IT.there i _ b hSt1 hw
    rcases hb with rfl | ⟨x, hx⟩
    · obtain ⟨_, ⟨o, es, ep, ho, hd, _⟩, _⟩ := F1.ns
      rw [ho] at e'; cases e'; exact h1 _ _ hd
    · obtain ⟨_, _, v, o, ho, hd⟩ := F1.outc x b hx
      rw [ho] at e'; cases e'; exact h2 _ hd
  cases hx : xs[i]? with
  | none =>
    have hil : i = xs.length := Nat.le_antisymm hi (List.getElem?_eq_none_iff.mp hx)
    subst hil
    refine IT.done σ1 s1 _ _ a1 hI1 hSt1 hW1 fun s2 a2 st2 => ?_
    refine wpAny_execs_nil (hR _ _ ⟨.next, l1, σ1, trivial, a2, F1.stepB a1 st2 dis noW, st1.trans (st2.weaken fun b hb => .inr hb), ?_⟩)
    rw [List.drop_length] at hf; exact hf
  | some x =>
    have hlt : i < xs.length := (List.getElem?_eq_some_iff.mp hx).1
    have hd : xs.drop i = x :: xs.drop (i + 1) := by
      rw [List.drop_eq_getElem_cons hlt, (List.getElem?_eq_some_iff.mp hx).2]
    rw [hd] at hf
    obtain ⟨l2, hb2, hf⟩ := hf
    refine IT.item i x σ1 s1 _ _ _ (fun v s2 hr => hr) hx a1 hI1 hSt1 hW1 fun v s2 rv a2 st2 hSt2 => ?_
    · have F2 := F1.stepB a1 st2 dis noW
      have noF := F2.noStay
      refine ht d A l1 l2 σ1 s2 x v _ _ L a2 F2 rv hb2 fun s3 F3 a3 st3 => ?_
      have hSt3 : St (i + 1) s3.heap := IT.stable _ _ _ hSt2 (st3.keepV a2 noF) fun b o hb e => st3.keep b o e (hW1 b hb).1 fun q => dis b q hb
      refine wpAny_mono (hb d A l2 σ1 s3 _ _ L a3 F3 hf) (fun f s4 ⟨fl, l4, σ4, r, a4, F4, st4, q4⟩ => ?_) fun _ _ x => noSX x
      have stA : Step (fun b => FB env b ∨ W b) σ s σ4 s4 := st1.trans ((st2.weaken fun b hb => .inr hb).trans ((st3.weaken fun b hb => .inl hb).trans (st4.weaken fun b hb => .inl hb)))
      cases f with
      | next =>
        cases fl with
        | next =>
          obtain ⟨hI4, hf4⟩ := q4
          refine ⟨xs.length + 1 - (i + 1), by omega, i + 1, l4, σ4, rfl, hlt, a4, F4, stA, hI4, IT.stable _ _ _ hSt3 (st4.keepV a3 F3.noStay) fun b o hb e => st4.keep b o e (hW1 b hb).1 fun q => dis b q hb, fun b hb => ⟨?_, (hW1 b hb).2⟩, hf4⟩
          obtain ⟨o, ho, _⟩ := IT.there _ _ b hSt3 hb
          cases h4 : σ4 b with
          | none => rfl
          | some ao => exact absurd (st4.fresh b (by rw [h4]; simp) (hW1 b hb).1) (Nat.not_le.mpr (Heap.lt_size ho))
        | ret v => exact r.elim
      | ret v =>
        cases fl with
        | next => exact r.elim
        | ret av => exact hR _ _ ⟨.ret av, l4, σ4, r, a4, F4, stA, q4⟩
      | brk => cases fl <;> exact r.elim
      | cont => cases fl <;> exact r.elim
end
end Mine

set_option maxRecDepth 100000
set_option linter.unusedVariables false
namespace Mine
open PySem PyProof.Rows

section
variable {X : Cx} {σ : AHeap} {s : Shared} {W : Addr → Prop} {h' : Heap}
theorem At.moved (a : At X σ s) (t : Nat) (hW : ∀ b, W b → σ b = none ∧ X.h₀.get? b = none) (nW : NoStay W s.heap) (hk : ∀ b o, ¬ W b → s.heap.get? b = some o → h'.get? b = some o) :
    At X σ { s with heap := h', toks := t } := by
  have kv : KeepV s.heap h' := fun b o e st => hk b o (fun q => nW b o q e st) e
  refine ⟨fun b o e => hk b o (fun q => ?_) (a.keep b o e), fun b ao e => (a.rep b ao e).mono kv fun o ho => hk b o (fun q => ?_) ho, a.own, a.gens, a.os⟩
  · rw [(hW b q).2] at e; cases e
  · rw [(hW b q).1] at e; cases e
theorem Step.moved (σ : AHeap) (t : Nat) (hk : ∀ b o, ¬ W b → s.heap.get? b = some o → h'.get? b = some o) (hsz : s.heap.objs.size ≤ h'.objs.size) : Step W σ s σ { s with heap := h', toks := t } :=
  ⟨fun b o e _ h => hk b o h e, fun _ h1 h2 => absurd h2 h1, hsz⟩
end

/-- the iterator's object is neither a value's nor a frame's -/
def Plain (o : Obj) : Prop := ¬ Stays o ∧ (∀ es n, o.data ≠ .dict es n) ∧ (∀ v, o.data ≠ .cell v)
theorem Plain.of_fields {o : Obj} {T : String} {vs : Array Value} (hc : o.cls = .type T) (hd : o.data = .fields vs) (h2 : T ≠ "range") : Plain o := by
  refine ⟨?_, fun es n h => ?_, fun v h => ?_⟩
  rotate_left
  · rw [hd] at h; cases h
  · rw [hd] at h; cases h
  rintro (⟨h, _, _, h'⟩ | ⟨h, _⟩ | ⟨c, vs, h, _⟩)
  · rw [hd] at h'; cases h'
  · rw [hc] at h; cases h; exact h2 rfl
  · rw [hc] at h; cases h

section
variable {X : Cx} {A : Around} {target : Expr}

/-- letOwnedTupleGo does nothing beside an iterator of another class -/
theorem wp_let_other {M : Model} {it : Addr} {v : Value} {o : Obj} {T : String} {vs : Array Value} {s : Shared} {Q : Unit → Shared → Prop} {E : Value → Shared → Prop} (ho : s.heap.get? it = some o) (hc : o.cls = .type T) (hd : o.data = .fields vs)
    (hT : ["enumerate", "zip", "dict_itemiterator", "dict_reverseitemiterator", "odict_iterator", "itertools.zip_longest", "itertools.pairwise"].contains T = false) (h : Q () s) :
    wpAny M A (letOwnedTupleGo target (.ref it) v) Q E s := by
  unfold letOwnedTupleGo
  split
  · split
    · rename_i r a heq
      cases heq
      refine wpAny_bind (wpAny_load ho ?_)
      rw [hc, hd]
      dsimp only
      rw [hT]
      simp only [Bool.false_and, Bool.false_eq_true, if_false]
      exact wpAny_pure h
    · exact wpAny_pure h
  · split
    · rename_i r a heq
      cases heq
      refine wpAny_bind (wpAny_load ho ?_)
      rw [hc, hd]
      dsimp only
      rw [hT]
      simp only [Bool.false_and, Bool.false_eq_true, if_false]
      exact wpAny_pure h
    · exact wpAny_pure h
  · exact wpAny_pure h

def listAt (a : Addr) (xs : List AV) (σ : AHeap) : Prop := σ a = some (.list xs) ∨ σ a = some (.rolist xs)
theorem At.isList {σ : AHeap} {s : Shared} (a : At X σ s) {b : Addr} {xs : List AV} (h : listAt b xs σ) : ∃ vs : List Value, s.heap.IsList b vs.toArray ∧ RepVs s.heap xs vs := by
  rcases h with h | h
  · obtain ⟨vs, n, e, r, _⟩ := a.rep b _ h; exact ⟨vs, ⟨_, e, rfl, n, rfl⟩, r⟩
  · obtain ⟨vs, e, r, _⟩ := a.rep b _ h; exact ⟨vs, e, r⟩
theorem At.len {σ : AHeap} {s : Shared} (a : At X σ s) {b : Addr} {xs : List AV} (h : listAt b xs σ) : xs.length ≤ 1000000 := by
  rcases h with h | h
  · obtain ⟨vs, n, e, r, hl⟩ := a.rep b _ h; exact hl
  · obtain ⟨vs, e, r, hl⟩ := a.rep b _ h; exact hl

theorem itOk_list (hh : A.handled = none) (it b : Addr) (xs : List AV) : ItOk X A target (.ref it) (listAt b xs) xs (fun c => c = it) (fun i h => h.IsListIter it b i) where
  stable := fun i h h' ⟨o, ho, r⟩ _ k => ⟨o, k _ _ rfl ho, r⟩
  there := fun i h c ⟨o, ho, hc, hd⟩ e => by subst e; exact ⟨o, ho, Plain.of_fields hc hd (by decide)⟩
  item := fun i x σ s Q Qn E hQn hx a hI hSt hW h => by
    obtain ⟨vs, hl, rv⟩ := a.isList hI
    obtain ⟨v, hv, r⟩ := rv.get hx
    obtain ⟨o, ho, hc, hd⟩ := id hSt
    have nW : NoStay (fun c => c = it) s.heap := fun c o' e e' => by subst e; rw [ho] at e'; cases e'; exact (Plain.of_fields hc hd (by decide)).1
    refine wpAny_pyNext_list_item hSt hl (by simpa using hv) fun h' hit' hs' => hQn v _ ?_
    obtain ⟨o', ho', hc', hd'⟩ := id hit'
    have hk : ∀ c o, ¬ c = it → s.heap.get? c = some o → h'.get? c = some o := fun c o hc e => (hs'.2 c hc).trans e
    have kv : KeepV s.heap h' := fun c o' e st => hk c o' (fun q => nW c o' q e st) e
    exact wp_let_other ho' hc' hd' (by decide) (h v { s with heap := h' } (r.mono kv) (a.moved (t := s.toks) hW nW hk) (Step.moved σ s.toks hk (Nat.le_of_eq hs'.1.symm)) hit')
  done := fun σ s Q E a hI hSt hW h => by
    obtain ⟨vs, hl, rv⟩ := a.isList hI
    obtain ⟨o, ho, hc, hd⟩ := id hSt
    have nW : NoStay (fun c => c = it) s.heap := fun c o' e e' => by subst e; rw [ho] at e'; cases e'; exact (Plain.of_fields hc hd (by decide)).1
    refine with_size (wpAny_pyNext_list_end hh hSt hl (by simp [rv.length]) fun h' he' hsz => ?_)
    have hk : ∀ c o, ¬ c = it → s.heap.get? c = some o → h'.get? c = some o := fun c o hc e => he' c o hc e
    exact h { s with heap := h' } (a.moved (t := s.toks) hW nW hk) (Step.moved σ s.toks hk hsz)
  self := fun i s Q E hSt h => wpAny_pyIter_listiter hSt h

theorem itOk_tuple (hh : A.handled = none) (it b : Addr) (xs : List AV) : ItOk X A target (.ref it) (fun _ => True) xs (fun c => c = it) (fun i h => h.IsTupleIter it b i ∧ ∃ vs : List Value, h.IsTuple b vs.toArray ∧ RepVs h xs vs) where
  stable := fun i h h' ⟨⟨o, ho, r⟩, vs, ⟨o2, ho2, hc2, n2, hd2⟩, rv⟩ kv k => ⟨⟨o, k _ _ rfl ho, r⟩, vs, ⟨o2, kv _ _ ho2 (.inl ⟨hc2, _, n2, hd2⟩), hc2, n2, hd2⟩, rv.mono kv⟩
  there := fun i h c ⟨⟨o, ho, hc, hd⟩, _⟩ e => by subst e; exact ⟨o, ho, Plain.of_fields hc hd (by decide)⟩
  item := fun i x σ s Q Qn E hQn hx a hI hSt hW h => by
    obtain ⟨hit, vs, hl, rv⟩ := hSt
    obtain ⟨v, hv, r⟩ := rv.get hx
    obtain ⟨o, ho, hc, hd⟩ := id hit
    have nW : NoStay (fun c => c = it) s.heap := fun c o' e e' => by subst e; rw [ho] at e'; cases e'; exact (Plain.of_fields hc hd (by decide)).1
    refine wpAny_pyNext_tuple_item hit hl (by simpa using hv) fun h' hit' hs' => hQn v _ ?_
    obtain ⟨o', ho', hc', hd'⟩ := id hit'
    have hk : ∀ c o, ¬ c = it → s.heap.get? c = some o → h'.get? c = some o := fun c o hc e => (hs'.2 c hc).trans e
    have kv : KeepV s.heap h' := fun c o' e st => hk c o' (fun q => nW c o' q e st) e
    obtain ⟨o2, ho2, hc2, n2, hd2⟩ := id hl
    exact wp_let_other ho' hc' hd' (by decide) (h v { s with heap := h' } (r.mono kv) (a.moved (t := s.toks) hW nW hk) (Step.moved σ s.toks hk (Nat.le_of_eq hs'.1.symm))
      ⟨hit', vs, ⟨o2, kv _ _ ho2 (.inl ⟨hc2, _, n2, hd2⟩), hc2, n2, hd2⟩, rv.mono kv⟩)
  done := fun σ s Q E a hI hSt hW h => by
    obtain ⟨hit, vs, hl, rv⟩ := hSt
    obtain ⟨o, ho, hc, hd⟩ := id hit
    have nW : NoStay (fun c => c = it) s.heap := fun c o' e e' => by subst e; rw [ho] at e'; cases e'; exact (Plain.of_fields hc hd (by decide)).1
    refine with_size (wpAny_pyNext_tuple_end hh hit hl (by simp [rv.length]) fun h' he' hsz => ?_)
    have hk : ∀ c o, ¬ c = it → s.heap.get? c = some o → h'.get? c = some o := fun c o hc e => he' c o hc e
    exact h { s with heap := h' } (a.moved (t := s.toks) hW nW hk) (Step.moved σ s.toks hk hsz)
  self := fun i s Q E hSt h => wpAny_pyIter_tupleiter hSt.1 h

/-- the intL from lo on, n of them -/
def intL (lo : Int) : Nat → List AV
  | 0 => []
  | n + 1 => .int lo :: intL (lo + 1) n
theorem intL_length : ∀ (n : Nat) (lo : Int), (intL lo n).length = n
  | 0, _ => rfl
  | n + 1, lo => by simp [intL, intL_length n]
theorem ints_get : ∀ (n : Nat) (lo : Int) (i : Nat), (intL lo n)[i]? = if i < n then some (.int (lo + i)) else none
  | 0, _, i => by simp [intL]
  | n + 1, lo, 0 => by simp [intL]
  | n + 1, lo, i + 1 => by
    simp only [intL, List.getElem?_cons_succ, ints_get n]
    have e : lo + 1 + (i : Int) = lo + ((i + 1 : Nat) : Int) := by lia
    by_cases h : i < n
    · have h' : i + 1 < n + 1 := by lia
      simp only [h, h', if_true, e]
    · have h' : ¬ i + 1 < n + 1 := by lia
      simp only [h, h', if_false]

theorem itOk_range (hh : A.handled = none) (it : Addr) (lo : Int) (n : Nat) : ItOk X A target (.ref it) (fun _ => True) (intL lo n) (fun c => c = it) (fun i h => IsRangeIter h it (lo + i) ((n : Int) - i) 1) where
  stable := fun i h h' ho _ k => k _ _ rfl ho
  there := fun i h c ho e => by subst e; exact ⟨_, ho, Plain.of_fields rfl rfl (by decide)⟩
  item := fun i x σ s Q Qn E hQn hx a hI hSt hW h => by
    rw [ints_get] at hx
    by_cases hi : i < n
    · simp only [hi, if_true, Option.some.injEq] at hx
      subst hx
      have nW : NoStay (fun c => c = it) s.heap := fun c o' e e' => by subst e; rw [hSt] at e'; cases e'; exact (Plain.of_fields (T := "range_iterator") rfl rfl (by decide)).1
      refine wpAny_pyNext_range_item hSt (by lia) fun h' hit' hs' => hQn _ _ ?_
      have hk : ∀ c o, ¬ c = it → s.heap.get? c = some o → h'.get? c = some o := fun c o hc e => (hs'.2 c hc).trans e
      have hit'' : IsRangeIter h' it (lo + ((i + 1 : Nat) : Int)) ((n : Int) - ((i + 1 : Nat) : Int)) 1 := by
        have e1 : lo + ((i + 1 : Nat) : Int) = lo + (i : Int) + 1 := by lia
        have e2 : (n : Int) - ((i + 1 : Nat) : Int) = (n : Int) - (i : Int) - 1 := by lia
        rw [e1, e2]; exact hit'
      exact wp_let_other hit' rfl rfl (by decide) (h _ { s with heap := h', toks := s.toks + 1 } (.int _ _) (a.moved (t := s.toks + 1) hW nW hk) (Step.moved σ (s.toks + 1) hk (Nat.le_of_eq hs'.1.symm)) hit'')
    · simp [hi] at hx
  done := fun σ s Q E a hI hSt hW h => by
    rw [intL_length] at hSt
    have nW : NoStay (fun c => c = it) s.heap := fun c o' e e' => by subst e; rw [hSt] at e'; cases e'; exact (Plain.of_fields (T := "range_iterator") rfl rfl (by decide)).1
    refine with_size (wpAny_pyNext_range_end hh hSt (by lia) fun h' he' hsz => ?_)
    have hk : ∀ c o, ¬ c = it → s.heap.get? c = some o → h'.get? c = some o := fun c o hc e => he' c o hc e
    exact h { s with heap := h' } (a.moved (t := s.toks) hW nW hk) (Step.moved σ s.toks hk hsz)
  self := fun i s Q E hSt h => wpAny_pyIter_rangeiter hSt h

end
end Mine

set_option maxRecDepth 100000
set_option linter.unusedVariables false
namespace Mine
open PySem PyProof.Rows

/-- the cells that a comprehension closes over -/
def clo (cells : List (Str × Addr)) : List (Str × NameKind) → List (Str × Addr) → List (Str × Addr)
  | [], acc => acc
  | (x, k) :: r, acc => if k == .free then (match cells.lookup x with | some c => clo cells r ((x, c) :: acc) | none => clo cells r acc) else clo cells r acc

theorem clo_closure {env : Env} : ∀ (names : List (Str × NameKind)) (acc : List (Str × Addr)) (f : Str × NameKind → List (Str × Addr) → Sem (ForInStep (List (Str × Addr)))),
    (∀ n k cs, f (n, k) cs = if k == .free then (do let c ← cellOf env n; pure (.yield ((n, c) :: cs))) else pure (.yield cs)) →
    (∀ x, (x, NameKind.free) ∈ names → (env.cells.lookup x).isSome = true) → (forIn names acc f : Sem (List (Str × Addr))) = pure (clo env.cells names acc)
  | [], acc, f, hf, h => rfl
  | (x, k) :: r, acc, f, hf, h => by
    rw [List.forIn_cons, hf]
    unfold clo
    by_cases hk : (k == NameKind.free) = true
    · have hk' : k = .free := by simpa using hk
      obtain ⟨c, hc⟩ := Option.isSome_iff_exists.mp (h x (by rw [hk']; exact List.mem_cons_self))
      simp only [hk, if_true, hc]
      have : cellOf env x = pure c := by unfold cellOf; rw [hc]
      rw [this]
      show (forIn r ((x, c) :: acc) f : Sem _) = _
      exact clo_closure r _ f hf fun y hy => h y (List.mem_cons_of_mem _ hy)
    · simp only [hk, Bool.false_eq_true, if_false]
      show (forIn r acc f : Sem _) = _
      exact clo_closure r _ f hf fun y hy => h y (List.mem_cons_of_mem _ hy)

theorem closureFor_clo {scope : Scope} {env : Env} (h : ∀ x, (x, NameKind.free) ∈ scope.names → (env.cells.lookup x).isSome = true) : closureFor scope env = pure (clo env.cells scope.names []) := by
  unfold closureFor
  simp only [bind_pure_comp]
  show (do let r ← forIn scope.names [] _; pure r) = _
  rw [clo_closure (env := env) scope.names [] _ (fun n k cs => ?_) h]
  · rfl
  · simp

theorem clo_mem {cells : List (Str × Addr)} : ∀ (names : List (Str × NameKind)) (acc : List (Str × Addr)) {x : Str} {c : Addr}, (x, c) ∈ clo cells names acc → (x, c) ∈ acc ∨ (cells.lookup x = some c ∧ (x, NameKind.free) ∈ names)
  | [], acc, x, c, h => .inl h
  | (y, k) :: r, acc, x, c, h => by
    unfold clo at h
    by_cases hk : (k == NameKind.free) = true
    · simp only [hk, if_true] at h
      have hk' : k = .free := by simpa using hk
      cases hy : cells.lookup y with
      | none => rw [hy] at h; exact (clo_mem r acc h).imp id fun q => ⟨q.1, List.mem_cons_of_mem _ q.2⟩
      | some d =>
        rw [hy] at h
        rcases clo_mem r _ h with q | q
        · rcases List.mem_cons.mp q with e | q
          · cases e; exact .inr ⟨hy, by rw [hk']; exact List.mem_cons_self⟩
          · exact .inl q
        · exact .inr ⟨q.1, List.mem_cons_of_mem _ q.2⟩
    · simp only [hk, Bool.false_eq_true, if_false] at h
      exact (clo_mem r acc h).imp id fun q => ⟨q.1, List.mem_cons_of_mem _ q.2⟩

theorem clo_sub {cells : List (Str × Addr)} : ∀ (names : List (Str × NameKind)) (acc : List (Str × Addr)) {p : Str × Addr}, p ∈ acc → p ∈ clo cells names acc
  | [], acc, p, h => h
  | (y, k) :: r, acc, p, h => by
    unfold clo
    by_cases hk : (k == NameKind.free) = true
    · simp only [hk, if_true]
      cases hy : cells.lookup y with
      | none => exact clo_sub r acc h
      | some d => exact clo_sub r _ (List.mem_cons_of_mem _ h)
    · simp only [hk, Bool.false_eq_true, if_false]; exact clo_sub r acc h
theorem clo_mem_of {cells : List (Str × Addr)} : ∀ (names : List (Str × NameKind)) (acc : List (Str × Addr)) {x : Str} {c : Addr}, (x, NameKind.free) ∈ names → cells.lookup x = some c → (x, c) ∈ clo cells names acc
  | (y, k) :: r, acc, x, c, h, hc => by
    unfold clo
    rcases List.mem_cons.mp h with e | h
    · cases e
      simp only [beq_self_eq_true, if_true, hc]
      exact clo_sub r _ List.mem_cons_self
    · by_cases hk : (k == NameKind.free) = true
      · simp only [hk, if_true]
        cases hy : cells.lookup y with
        | none => exact clo_mem_of r acc h hc
        | some d => exact clo_mem_of r _ h hc
      · simp only [hk, Bool.false_eq_true, if_false]; exact clo_mem_of r acc h hc

theorem clo_apart {cells : List (Str × Addr)} (hp : cells.Pairwise fun x y => x.2 ≠ y.2) : ∀ (names : List (Str × NameKind)) (acc : List (Str × Addr)), (names.map (·.1)).Nodup → (∀ x c, (x, c) ∈ acc → cells.lookup x = some c ∧ x ∉ names.map (·.1)) →
    (acc.Pairwise fun x y => x.2 ≠ y.2) → (clo cells names acc).Pairwise fun x y => x.2 ≠ y.2
  | [], acc, _, _, h => h
  | (y, k) :: r, acc, hn, ha, h => by
    have hn' := List.nodup_cons.mp hn
    have ha' : ∀ x c, (x, c) ∈ acc → cells.lookup x = some c ∧ x ∉ r.map (·.1) := fun x c hx => ⟨(ha x c hx).1, fun q => (ha x c hx).2 (List.mem_cons_of_mem _ q)⟩
    unfold clo
    by_cases hk : (k == NameKind.free) = true
    · simp only [hk, if_true]
      cases hy : cells.lookup y with
      | none => exact clo_apart hp r acc hn'.2 ha' h
      | some d =>
        refine clo_apart hp r _ hn'.2 (fun x c hx => ?_) (List.pairwise_cons.mpr ⟨fun p hp' e => ?_, h⟩)
        · rcases List.mem_cons.mp hx with e | hx
          · cases e; exact ⟨hy, hn'.1⟩
          · exact ha' x c hx
        · obtain ⟨x, c⟩ := p
          have h1 := (ha x c hp').1
          have e' : d = c := e
          subst e'
          have := name_of_addr hp (mem_of_lookup hy) (mem_of_lookup h1)
          subst this
          exact (ha _ _ hp').2 List.mem_cons_self
    · simp only [hk, Bool.false_eq_true, if_false]; exact clo_apart hp r acc hn'.2 ha' h

/-- how a comprehension's scope hangs together with the names around it -/
structure CompOk (sc : List (Str × NameKind)) (nm : List (Str × Nat)) (N : Nat) (names : List (Str × NameKind)) (nm' : List (Str × Nat)) (k : Nat) : Prop where
  nodup : (names.map (·.1)).Nodup
  kinds : ∀ x kd, (x, kd) ∈ names → kd = .local ∨ kd = .globalImplicit ∨ (kd = .free ∧ sc.lookup x = some .cell ∧ ∃ i, nm.lookup x = some i ∧ nm'.lookup x = some i)
  vars : ∀ x i, nm'.lookup x = some i → (names.lookup x = some .local ∧ N ≤ i ∧ i < N + k) ∨ (names.lookup x = some .free ∧ nm.lookup x = some i)
  inj : ∀ x y i, nm'.lookup x = some i → nm'.lookup y = some i → x = y
  len : lenOf nm' = N + k

theorem mem_of_lookup' {α : Type} : ∀ {l : List (Str × α)} {n : Str} {c : α}, l.lookup n = some c → (n, c) ∈ l := mem_of_lookup
theorem lookup_of_nodup {α : Type} : ∀ {l : List (Str × α)} {n : Str} {c : α}, (l.map (·.1)).Nodup → (n, c) ∈ l → l.lookup n = some c
  | (k, v) :: r, n, c, hn, h => by
    have hn' := List.nodup_cons.mp hn
    rw [List.lookup_cons]
    rcases List.mem_cons.mp h with e | h
    · cases e; simp
    · have : (n == k) = false := by
        cases hb : n == k with
        | false => rfl
        | true => rw [beq_iff_eq.mp hb] at h; exact absurd (List.mem_map_of_mem (f := (·.1)) h) hn'.1
      rw [this]; exact lookup_of_nodup hn'.2 h

section
variable {X : Cx} {env : Env} {nm nm' : List (Str × Nat)} {l : Loc} {σ : AHeap} {s : Shared} {scope : Scope} {N k : Nat}

/-- the kinds of names inside -/
theorem relabel_kind (EO : EnvOk env) (CK : CompOk env.scope.names nm N scope.names nm' k) (cl : List (Str × Addr)) (C : Addr) (x : Str) :
    (scope.names.lookup x = some .local → (compEnvC scope cl C env).kindOf x = some .local) ∧ (scope.names.lookup x = some .free → (compEnvC scope cl C env).kindOf x = some .cell) := by
  have gen : ∀ (names : List (Str × NameKind)), (∀ x, (x, NameKind.free) ∈ names → env.kindOf x = some .cell) →
      (names.lookup x = some .local → (names.map fun (n, k) => if (k == NameKind.free && env.scope.kind == .function && env.kindOf n == some .cell) then (n, NameKind.cell) else (n, k)).lookup x = some .local) ∧
      (names.lookup x = some .free → (names.map fun (n, k) => if (k == NameKind.free && env.scope.kind == .function && env.kindOf n == some .cell) then (n, NameKind.cell) else (n, k)).lookup x = some .cell) := by
    intro names
    induction names with
    | nil => intro _; exact ⟨fun h => by simp at h, fun h => by simp at h⟩
    | cons p r ih =>
      intro hk
      obtain ⟨n, kd⟩ := p
      have ih' := ih fun y hy => hk y (List.mem_cons_of_mem _ hy)
      simp only [List.map_cons, List.lookup_cons]
      by_cases hx : (x == n) = true
      · have hxn := beq_iff_eq.mp hx
        subst hxn
        simp only [beq_self_eq_true]
        refine ⟨fun h => ?_, fun h => ?_⟩
        · cases h; simp
        · cases h
          have := hk x List.mem_cons_self
          simp [EO.kind, this]
      · have hx' : (x == n) = false := by simpa using hx
        simp only [hx']
        by_cases hc : (kd == NameKind.free && env.scope.kind == .function && env.kindOf n == some .cell) = true
        · rw [if_pos hc, List.lookup_cons, hx']; exact ih'
        · rw [if_neg hc, List.lookup_cons, hx']; exact ih'
  refine gen scope.names fun y hy => ?_
  rcases CK.kinds y .free hy with h | h | ⟨_, h, _⟩
  · cases h
  · cases h
  · exact h

theorem CompOk.closure (F : FR X env nm l σ s.heap) (CK : CompOk env.scope.names nm N scope.names nm' k) : ∀ x, (x, NameKind.free) ∈ scope.names → (env.cells.lookup x).isSome = true := fun x hx => by
  rcases CK.kinds x .free hx with h | h | ⟨_, h, i, hi, _⟩
  · cases h
  · cases h
  · obtain ⟨c, v, hc, _⟩ := F.cell x i hi h
    rw [hc]; rfl

theorem envOk_comp (EO : EnvOk env) (CK : CompOk env.scope.names nm N scope.names nm' k) (hk : scope.kind = .function) (C : Addr) : EnvOk (compEnvC scope (clo env.cells scope.names []) C env) where
  kind := hk
  glob := EO.glob
  bi := EO.bi
  apart := clo_apart EO.apart _ _ CK.nodup (fun _ _ h => nomatch h) .nil

/-- the frame inside -/
theorem fr_comp (EO : EnvOk env) (F : FR X env nm l σ s.heap) (hl : l.length = N) (CK : CompOk env.scope.names nm N scope.names nm' k) {h' : Heap} {C : Addr} (hk : ∀ b o, s.heap.get? b = some o → h'.get? b = some o)
    (hC : h'.Ns C fun _ => none) (hσC : σ C = none) (hCnew : X.h₀.get? C = none) :
    FR X (compEnvC scope (clo env.cells scope.names []) C env) nm' (l ++ List.replicate k none) σ h' := by
  have kv : KeepV s.heap h' := fun b o e _ => hk b o e
  refine ⟨⟨_, hC, fun x i hx hkx => ?_⟩, fun x i hx hkx => ?_, ⟨hσC, hCnew⟩, ⟨fun x i hx => ?_, CK.inj⟩, by rw [List.length_append, List.length_replicate, hl, CK.len], fun x c hx => ?_⟩
  · rcases CK.vars x i hx with ⟨_, h1, h2⟩ | ⟨h1, _⟩
    · have : (l ++ List.replicate k none).getD i none = none := by
        rw [List.getD_eq_getElem?_getD, List.getElem?_append_right (by omega), List.getElem?_replicate]
        split <;> rfl
      rw [this]; trivial
    · rw [(relabel_kind EO CK _ C x).2 h1] at hkx; cases hkx
  · rcases CK.vars x i hx with ⟨h1, _⟩ | ⟨h1, h2⟩
    · rw [(relabel_kind EO CK _ C x).1 h1] at hkx; cases hkx
    · have hm := mem_of_lookup' h1
      rcases CK.kinds x .free hm with h | h | ⟨_, h, _⟩
      · cases h
      · cases h
      · obtain ⟨c, v, hc, hcc, hr⟩ := F.cell x i h2 h
        refine ⟨c, v, ?_, hcc.keeps hk, ?_⟩
        · have h3 : (x, c) ∈ clo env.cells scope.names [] := clo_mem_of _ _ hm hc
          cases h4 : (clo env.cells scope.names []).lookup x with
          | none =>
            exfalso
            have := List.lookup_eq_none_iff.mp h4 (x, c) h3
            simp at this
          | some c' =>
            rcases clo_mem _ _ (mem_of_lookup' h4) with q | ⟨q, _⟩
            · cases q
            · rw [hc] at q; cases q; exact h4
        · have hi : i < l.length := F.nmok.1 x i h2
          rw [List.getD_eq_getElem?_getD, List.getElem?_append_left hi, ← List.getD_eq_getElem?_getD]
          exact hr.mono kv
  · rw [List.length_append, List.length_replicate, hl]
    rcases CK.vars x i hx with ⟨_, h1, h2⟩ | ⟨_, h2⟩
    · omega
    · have := F.nmok.1 x i h2; omega
  · rcases clo_mem _ _ hx with q | ⟨q, _⟩
    · cases q
    · obtain ⟨h1, h2, v, h3⟩ := F.outc x c (mem_of_lookup' q)
      exact ⟨h1, h2, v, h3.keeps hk⟩
end
end Mine

set_option maxRecDepth 100000
set_option linter.unusedVariables false
namespace Mine
open PySem PyProof.Rows

/-- the test of a comprehension, if there is one -/
def testA (c : Option AE) (d : Nat) (l : Loc) (Q : Bool → AHeap → Prop) (σ : AHeap) : Prop :=
  match c with
  | none => Q true σ
  | some m => m d l (isB Q) (fun _ _ => False) σ

def compL (I : AHeap → Prop) (t : Tgt) (c : Option AE) (elt : AE) (d : Nat) (Q : List AV → AHeap → Prop) : List AV → List AV → Loc → AHeap → Prop
  | [], acc, l, σ => Q acc σ
  | x :: xs, acc, l, σ => ∃ l', bindT t x l = some l' ∧ testA c d l' (fun ok σ1 => if ok then elt d l' (fun v σ2 => I σ2 ∧ acc.length < 1000000 ∧ compL I t c elt d Q xs (acc ++ [v]) l' σ2) (fun _ _ => False) σ1
      else I σ1 ∧ compL I t c elt d Q xs acc l' σ1) σ

def SoundC (X : Cx) (env : Env) (nm : List (Str × Nat)) : List Expr → Option AE → Prop
  | [], none => True
  | [e], some m => SoundB X env nm e m
  | _, _ => False

theorem noStay_list (vs : List Value) (n : Nat) : ¬ Stays (listObj vs n) := by
  rintro (⟨h, _⟩ | ⟨h, _⟩ | ⟨_, _, h, _⟩) <;> simp [listObj] at h

theorem ltA {h : Heap} {a : Nat} {o : Obj} (e : h.get? a = some o) : a < h.objs.size := Heap.lt_size e
theorem neA {a b : Nat} (h : ¬ a = b) : ¬ a = b := h
theorem leA {a b : Nat} (h : a ≤ b) : a ≤ b := h

section
variable {X : Cx} {A : Around}

theorem code_compLoop {elt target iter : Expr} {ifs : List Expr} {scope : Scope} {pos : Pos} {it acc : Value} {env : Env} {R : Result → Shared → Prop} {s : Shared} (J : Nat → Shared → Prop)
    (turn : ∀ n s, J n s → wpAny X.M A (pyNext it) (fun r s₁ => match r with
      | none => R (.ok .next) s₁
      | some v => wpAny X.M A (letOwnedTupleGo target it v) (fun _ s₁' => wpAny X.M A (assign target env v) (fun _ s₂ =>
          wpAny X.M A (forIn ifs true fun c r => if r = true then do let ok ← isTrue c env (eval c env); pure (ForInStep.yield ok) else pure (ForInStep.yield r)) (fun ok s₃ =>
            if ok = true then wpAny X.M A (eval elt env) (fun x s₄ => wpAny X.M A (call (.builtin "list.append") [acc, x]) (fun _ s₅ => ∃ m, m < n ∧ J m s₅) (fun _ _ => False) s₄) (fun _ _ => False) s₃
            else ∃ m, m < n ∧ J m s₃) (fun _ _ => False) s₂) (fun _ _ => False) s₁') (fun _ _ => False) s₁) (fun _ _ => False) s)
    (n : Nat) (h : J n s) : codeAny X.M A (.compLoop (.ListComp elt [⟨target, iter, ifs, 0⟩] scope pos) 0 it acc env) R s := by
  refine codeAny_loop rfl J (fun n s hI => ?_) n h
  show wpAny _ A ((compTurn (.ListComp elt [⟨target, iter, ifs, 0⟩] scope pos) 0 it acc env).onRaise (fun x => do noteFrame x env; theTreesLotGoes x)) _ _ s
  refine wpAny_noted ?_
  rw [compTurn_list]
  refine wpAny_bind (wpAny_standAt (wpAny_bind (wpAny_mono (turn n s hI) (fun r s₁ h₁ => ?_) fun _ _ h' => h'.elim)))
  cases r with
  | none => exact wpAny_pure h₁
  | some v =>
    refine wpAny_bind (wpAny_mono h₁ (fun _ s₁' h₁' => ?_) fun _ _ h' => h'.elim)
    refine wpAny_bind (wpAny_mono h₁' (fun _ s₂ h₂ => wpAny_bind (wpAny_mono h₂ (fun ok s₃ h₃ => ?_) fun _ _ h' => h'.elim)) fun _ _ h' => h'.elim)
    cases ok with
    | false => exact wpAny_pure ⟨rfl, h₃⟩
    | true =>
      exact wpAny_bind (wpAny_bind (wpAny_mono h₃ (fun x s₄ h₄ => wpAny_bind (wpAny_mono h₄ (fun _ s₅ h₅ => wpAny_pure (wpAny_pure ⟨rfl, h₅⟩)) fun _ _ h' => h'.elim)) fun _ _ h' => h'.elim))

theorem tests_sound {env : Env} {nm : List (Str × Nat)} {ifs : List Expr} {c : Option AE} {d : Nat} {l : Loc} {σ : AHeap} {s : Shared} {Q : Bool → AHeap → Prop} {R : Bool → Shared → Prop} (hc : SoundC X env nm ifs c) (L : Live d A) (a : At X σ s) (F : FR X env nm l σ s.heap)
    (h : testA c d l Q σ) (k : ∀ b s', liftB X σ s Q b s' → R b s') :
    wpAny X.M A (forIn ifs true fun c r => if r = true then do let ok ← isTrue c env (eval c env); pure (ForInStep.yield ok) else pure (ForInStep.yield r)) R (fun _ _ => False) s := by
  match ifs, c, hc with
  | [], none, _ => exact wpAny_tests_nil (k _ _ ⟨σ, a, .refl .., h⟩)
  | [e], some m, hc => exact wpAny_tests_one (wpAny_mono (hc d A l σ s Q (fun _ _ => False) L a F h) (fun b s' x => k b s' x) fun _ _ x => noX x)

/-- in a comprehension stores go to its own names alone -/
def SoundTC (X : Cx) (env : Env) (nm : List (Str × Nat)) (target : Expr) (t : Tgt) : Prop :=
  ∀ d A l l' σ s x v (Q : Unit → Shared → Prop) E, Live d A → At X σ s → FR X env nm l σ s.heap → RepV s.heap x v → bindT t x l = some l' →
    (∀ s', FR X env nm l' σ s'.heap → At X σ s' → Step (fun b => b = env.locals) σ s σ s' → Q () s') → wpAny X.M A (assign target env v) Q E s

theorem comp_core {env : Env} {nm nm' : List (Str × Nat)} {l : Loc} {σ : AHeap} {s : Shared} {N k d : Nat} {elt target iter : Expr} {ifs : List Expr} {scope : Scope} {pos : Pos} {it : Value} {I : AHeap → Prop} {xs : List AV} {W : Addr → Prop}
    {St : Nat → Heap → Prop} {t : Tgt} {c : Option AE} {m : AE} {Q : List AV → AHeap → Prop} {RR : Value → Addr → Result → Shared → Prop} {E : Value → Shared → Prop}
    (EO : EnvOk env) (L : Live d A) (a : At X σ s) (F : FR X env nm l σ s.heap) (hl : l.length = N) (CK : CompOk env.scope.names nm N scope.names nm' k) (hk : scope.kind = .function)
    (IT : ItOk X A target it I xs W St) (hSt : St 0 s.heap) (hW : ∀ b, W b → σ b = none ∧ X.h₀.get? b = none) (hI : I σ)
    (ht : ∀ C, SoundTC X (compEnvC scope (clo env.cells scope.names []) C env) nm' target t) (hc : ∀ C, SoundC X (compEnvC scope (clo env.cells scope.names []) C env) nm' ifs c) (hm : ∀ C, SoundE X (compEnvC scope (clo env.cells scope.names []) C env) nm' elt m)
    (h : compL I t c m d Q xs [] (l ++ List.replicate k none) σ)
    (hRR : ∀ D C s' σ' acc mC, s.heap.objs.size ≤ D → s.heap.objs.size ≤ C → D ≠ C → σ' D = none → σ' C = none → s'.heap.Ns C mC → At X (σ'.set D (.list acc)) s' → Step W σ s (σ'.set D (.list acc)) s' → Q acc σ' → RR (.ref D) C (.ok .next) s') :
    wpAny X.M A (newList []) (fun acc s₃ => wpAny X.M A (newFunctionEnv scope env.globals (clo env.cells scope.names []) [] env.qual none .none (some env)) (fun cenv s₄ =>
      codeAny X.M A (.compStart (.ListComp elt [⟨target, iter, ifs, 0⟩] scope pos) 0 it acc { cenv with scope := relabel scope env }) (RR acc cenv.locals) s₄) E s₃) E s := by
  have hcell : ∀ y ∈ scope.names, y.2 ≠ .cell := fun y hy e => by
    obtain ⟨x, kd⟩ := y
    rcases CK.kinds x kd hy with h | h | ⟨h, _⟩ <;> (dsimp only at e; rw [h] at e; cases e)
  refine wpAny_newObj_type (wpAny_newFunctionEnv hcell (by intro y hy; simp at hy) (fun h₁ hns₁ hsb₁ => ?_) hk)
  dsimp only at hns₁ hsb₁ ⊢
  generalize hH2 : s.heap.push { cls := .type "list", dict := none, data := .seq ([] : List Value).toArray } = H2 at hns₁ hsb₁ ⊢
  generalize hDD : s.heap.objs.size = D
  generalize hCC : H2.objs.size = C at hns₁ hsb₁ ⊢
  have hCD : C = D + 1 := by rw [← hCC, ← hH2, Heap.size_push, hDD]
  have old : ∀ b o, s.heap.get? b = some o → h₁.get? b = some o := fun b o e => by
    have hb := ltA e
    exact hsb₁.extBut b o (neA (by lia)) (Heap.get?_push_of_some _ (hH2 ▸ Heap.get?_push_of_some _ e))
  have hDobj : h₁.get? D = some (listObj [] 0) := by
    refine hsb₁.extBut _ _ (neA (by lia)) (Heap.get?_push_of_some _ ?_)
    rw [← hH2, ← hDD]; exact Heap.get?_push_size _ rfl
  have hσ : ∀ b, D ≤ b → σ b = none := fun b hb => a.none_of_size (by rw [hDD]; exact hb)
  have hh₀ : ∀ b, D ≤ b → X.h₀.get? b = none := fun b hb => by
    cases e : X.h₀.get? b with
    | none => rfl
    | some o => have := ltA (a.keep b o e); lia
  generalize hs1 : ({ s with heap := h₁, toks := s.toks + ([] : List (Str × Value)).length } : Shared) = s1
  have hs1h : s1.heap = h₁ := by rw [← hs1]
  have hsz1 : s1.heap.objs.size = C + 1 := by rw [hs1h, hsb₁.1]; simp [hCC]
  have kv1 : KeepV s.heap s1.heap := fun b o e _ => by rw [hs1h]; exact old b o e
  have a1 : At X σ s1 := by
    refine ⟨fun b o e => by rw [hs1h]; exact old b o (a.keep b o e), fun b ao e => (a.rep b ao e).mono kv1 fun o ho => by rw [hs1h]; exact old b o ho, a.own, ?_, ?_⟩
    · rw [← hs1]; exact a.gens
    · rw [← hs1]; exact a.os
  have F1 := fr_comp (X := X) EO F hl CK (h' := s1.heap) (C := C) (fun b o e => by rw [hs1h]; exact old b o e) (by rw [hs1h]; exact hns₁) (hσ C (by lia)) (hh₀ C (by lia))
  have hSt1 : St 0 s1.heap := IT.stable _ _ _ hSt kv1 fun b o _ e => by rw [hs1h]; exact old b o e
  let W' : Addr → Prop := fun b => W b ∨ D ≤ b
  have st1 : Step W' σ s σ s1 := ⟨fun b o e _ _ => by rw [hs1h]; exact old b o e, fun b h1 h2 => absurd h2 h1, by rw [hsz1, hDD]; lia⟩
  have loop : codeAny X.M A (.compLoop (.ListComp elt [⟨target, iter, ifs, 0⟩] scope pos) 0 it (.ref D) (compEnvC scope (clo env.cells scope.names []) C env)) (RR (.ref D) C) s1 := by
    refine code_compLoop (fun j s2 => ∃ i l2 σ2 acc ys n, j = xs.length + 1 - i ∧ i ≤ xs.length ∧ At X σ2 s2 ∧ FR X (compEnvC scope (clo env.cells scope.names []) C env) nm' l2 σ2 s2.heap ∧ Step W' σ s σ2 s2 ∧ I σ2 ∧ St i s2.heap ∧
      (∀ b, W b → σ2 b = none ∧ X.h₀.get? b = none) ∧ σ2 D = none ∧ s2.heap.get? D = some (listObj ys n) ∧ RepVs s2.heap acc ys ∧ acc.length ≤ 1000000 ∧ C < s2.heap.objs.size ∧ compL I t c m d Q (xs.drop i) acc l2 σ2) ?_ (xs.length + 1)
      ⟨0, _, σ, [], [], 0, rfl, Nat.zero_le _, a1, F1, st1, hI, hSt1, hW, hσ D (Nat.le_refl _), by rw [hs1h]; exact hDobj, .nil, Nat.zero_le _, by lia, h⟩
    rintro j s2 ⟨i, l2, σ2, acc, ys, n, rfl, hi, a2, F2, st2, hI2, hSt2, hW2, hD2, hDo, rys, hacc2, hC2, hf⟩
    have noW : NoStay W s2.heap := fun b o hb e => by obtain ⟨o', e', h', _⟩ := IT.there i _ b hSt2 hb; rw [e] at e'; cases e'; exact h'
    have dis : ∀ b, FB (compEnvC scope (clo env.cells scope.names []) C env) b → ¬ W b := fun b hb hw => by
      obtain ⟨o', e', _, h1, h2⟩ := IT.there i _ b hSt2 hw
      rcases hb with hb | ⟨x, hx⟩
      · obtain ⟨_, ⟨o, es, ep, ho, hd, _⟩, _⟩ := F2.ns
        rw [← hb, e'] at ho; cases ho; exact h1 _ _ hd
      · obtain ⟨_, _, v, o, ho, hd⟩ := F2.outc x b hx
        rw [ho] at e'; cases e'; exact h2 _ hd
    have disD : ¬ W D := fun hw => by
      obtain ⟨o', e', _⟩ := IT.there 0 _ D hSt hw
      have := ltA e'; lia
    have hDF : ¬ FB (compEnvC scope (clo env.cells scope.names []) C env) D := fun hb => by
      rcases hb with h | ⟨x, hx⟩
      · have h : D = C := h
        lia
      · obtain ⟨_, _, v, o, ho, hd⟩ := F2.outc x D hx
        rw [hDo] at ho; cases ho; cases hd
    cases hx : xs[i]? with
    | none =>
      have hil : i = xs.length := Nat.le_antisymm hi (List.getElem?_eq_none_iff.mp hx)
      subst hil
      refine IT.done σ2 s2 _ _ a2 hI2 hSt2 hW2 fun s3 a3 st3 => ?_
      rw [List.drop_length] at hf
      obtain ⟨mC, hmC, _⟩ := (F2.stepB a2 st3 dis noW).ns
      have hDo3 : s3.heap.get? D = some (listObj ys n) := st3.keep _ _ hDo hD2 disD
      have kv3 : KeepV s2.heap s3.heap := st3.keepV a2 noW
      have a3' : At X (σ2.set D (.list acc)) s3 := by
        refine ⟨a3.keep, fun b ao e => ?_, fun b ao e hro => ?_, a3.gens, a3.os⟩
        · by_cases hb : b = D
          · subst hb; rw [AHeap.set_self] at e; cases e; exact ⟨ys, n, hDo3, rys.mono kv3, hacc2⟩
          · rw [AHeap.set_ne _ _ hb] at e; exact a3.rep b ao e
        · by_cases hb : b = D
          · subst hb; exact hh₀ _ (Nat.le_refl _)
          · rw [AHeap.set_ne _ _ hb] at e; exact a3.own b ao e hro
      have st3' : Step W' σ s σ2 s3 := st2.trans (st3.weaken fun b hb => .inl hb)
      have stF : Step W σ s (σ2.set D (.list acc)) s3 := by
        have := st3'.drop (B := W) fun b hb => hb.imp id fun q => by rw [hDD]; exact q
        refine ⟨this.keep, fun b h1 h2 => ?_, this.size⟩
        by_cases hb : b = D
        · rw [hb, hDD]; exact Nat.le_refl _
        · rw [AHeap.set_ne _ _ hb] at h1; exact this.fresh b h1 h2
      exact hRR D C s3 σ2 acc mC (by lia) (by lia) (by lia) hD2 F2.out.1 hmC a3' stF hf
    | some x =>
      have hlt : i < xs.length := (List.getElem?_eq_some_iff.mp hx).1
      have hd : xs.drop i = x :: xs.drop (i + 1) := by rw [List.drop_eq_getElem_cons hlt, (List.getElem?_eq_some_iff.mp hx).2]
      rw [hd] at hf
      obtain ⟨l3, hb3, hf⟩ := hf
      refine IT.item i x σ2 s2 _ _ _ (fun v s3 hr => hr) hx a2 hI2 hSt2 hW2 fun v s3 rv a3 st3 hSt3 => ?_
      have F3 := F2.stepB a2 st3 dis noW
      have hDo3 : s3.heap.get? D = some (listObj ys n) := st3.keep _ _ hDo hD2 disD
      have rys3 := rys.mono (st3.keepV a2 noW)
      refine ht C d A l2 l3 σ2 s3 x v _ _ L a3 F3 rv hb3 fun s4 F4 a4 st4 => ?_
      have noC : NoStay (fun b => b = C) s3.heap := fun b o hb e => F3.noStay b o (.inl hb) e
      have hDo4 : s4.heap.get? D = some (listObj ys n) := st4.keep _ _ hDo3 hD2 (by show ¬ D = C; lia)
      have rys4 := rys3.mono (st4.keepV a3 noC)
      have hSt4 : St (i + 1) s4.heap := IT.stable _ _ _ hSt3 (st4.keepV a3 noC) fun b o hb e => st4.keep b o e (hW2 b hb).1 fun q => dis b (.inl q) hb
      refine tests_sound (hc C) L a4 F4 hf fun ok s5 ⟨σ5, a5, st5, q5⟩ => ?_
      have hD5 : σ5 D = none := by
        cases e : σ5 D with
        | none => rfl
        | some ao => exact absurd (st5.fresh D (by rw [e]; simp) hD2) (Nat.not_le.mpr (Heap.lt_size hDo4))
      have F5 := F4.step a4 st5
      have hDo5 : s5.heap.get? D = some (listObj ys n) := st5.keep _ _ hDo4 hD2 id
      have rys5 := rys4.mono (st5.keepV0 a4)
      have out5 : ∀ b, W b → σ5 b = none ∧ X.h₀.get? b = none := fun b hb => ⟨by
        obtain ⟨o, ho, _⟩ := IT.there _ _ b hSt4 hb
        cases e : σ5 b with
        | none => rfl
        | some ao => exact absurd (st5.fresh b (by rw [e]; simp) (hW2 b hb).1) (Nat.not_le.mpr (Heap.lt_size ho)), (hW2 b hb).2⟩
      have hSt5 : St (i + 1) s5.heap := IT.stable _ _ _ hSt4 (st5.keepV0 a4) fun b o hb e => st5.keep b o e (hW2 b hb).1 id
      have stA5 : Step W' σ s σ5 s5 := st2.trans ((st3.weaken fun b hb => .inl hb).trans ((st4.weaken fun b hb => .inr (leA (by have hb : @Eq Nat b C := hb; lia))).trans (st5.weaken fun b hb => hb.elim)))
      have hC5 : C < s5.heap.objs.size := Nat.lt_of_lt_of_le hC2 (Nat.le_trans st3.size (Nat.le_trans st4.size st5.size))
      cases ok with
      | false =>
        simp only [Bool.false_eq_true, if_false] at q5 ⊢
        exact ⟨xs.length + 1 - (i + 1), by lia, i + 1, l3, σ5, acc, ys, n, rfl, hlt, a5, F5, stA5, q5.1, hSt5, out5, hD5, hDo5, rys5, hacc2, hC5, q5.2⟩
      | true =>
        simp only [if_true] at q5 ⊢
        refine wpAny_mono (hm C d A l3 σ5 s5 _ _ L a5 F5 q5) (fun y s6 ⟨av, σ6, r6, a6, st6, hI6, hsz6, hf6⟩ => ?_) fun _ _ x => noX x
        have hD6 : σ6 D = none := by
          cases e : σ6 D with
          | none => rfl
          | some ao => exact absurd (st6.fresh D (by rw [e]; simp) hD5) (Nat.not_le.mpr (Heap.lt_size hDo5))
        have F6 := F5.step a5 st6
        have hDo6 : s6.heap.get? D = some (listObj ys n) := st6.keep _ _ hDo5 hD5 id
        have rys6 := rys5.mono (st6.keepV0 a5)
        have hSt6 : St (i + 1) s6.heap := IT.stable _ _ _ hSt5 (st6.keepV0 a5) fun b o hb e => st6.keep b o e (out5 b hb).1 id
        have out6 : ∀ b, W b → σ6 b = none ∧ X.h₀.get? b = none := fun b hb => ⟨by
          obtain ⟨o, ho, _⟩ := IT.there _ _ b hSt5 hb
          cases e : σ6 b with
          | none => rfl
          | some ao => exact absurd (st6.fresh b (by rw [e]; simp) (out5 b hb).1) (Nat.not_le.mpr (Heap.lt_size ho)), (hW2 b hb).2⟩
        refine wpAny_list_append_plain (items := ys.toArray) ⟨n, hDo6⟩ (fun h7 ⟨n7, hl7⟩ hs7 => ?_) (by
          have := rys6.length; rw [sizeLine_eq]; simp; lia)
        have kv7 : KeepV s6.heap h7 := fun b o e stb => by
          have hb : b ≠ D := by rintro rfl; rw [hDo6] at e; cases e; exact noStay_list _ _ stb
          exact (hs7.2 b hb).trans e
        have a7 : At X σ6 { s6 with heap := h7 } := a6.aside (t := s6.toks) (h' := h7) hD6 (hh₀ D (Nat.le_refl _)) (fun o e => by rw [hDo6] at e; cases e; exact noStay_list _ _) hs7
        have st7 : Step (fun b => b = D) σ6 s6 σ6 { s6 with heap := h7 } := Step.aside (t := s6.toks) (h' := h7) rfl hs7
        have noD : NoStay (fun b => b = D) s6.heap := fun b o hb e => by subst hb; rw [hDo6] at e; cases e; exact noStay_list _ _
        have F7 := F6.stepB a6 st7 (fun b hb q => hDF (q ▸ hb)) noD
        refine ⟨xs.length + 1 - (i + 1), by lia, i + 1, l3, σ6, acc ++ [av], ys ++ [y], n7, rfl, hlt, a7, F7, stA5.trans ((st6.weaken fun b hb => hb.elim).trans (st7.weaken fun b hb => .inr (leA (by have hb : @Eq Nat b D := hb; lia)))), hI6,
          IT.stable _ _ _ hSt6 kv7 fun b o hb e => (hs7.2 b fun q => disD (q ▸ hb)).trans e, out6, hD6, ?_, (rys6.mono kv7).append (.cons (r6.mono kv7) .nil), by rw [List.length_append]; exact hsz6, ?_, hf6⟩
        · have : (ys.toArray.push y) = (ys ++ [y]).toArray := by simp
          rw [this] at hl7; exact hl7
        · show C < h7.objs.size
          rw [hs7.1]; exact Nat.lt_of_lt_of_le hC5 st6.size
  show codeAny X.M A (.compStart (.ListComp elt [⟨target, iter, ifs, 0⟩] scope pos) 0 it (.ref D) (compEnvC scope (clo env.cells scope.names []) C env)) (RR (.ref D) C) s1
  exact codeAny_compStart_list loop (IT.self 0 s1 _ _ hSt1 loop)
end
end Mine

set_option maxRecDepth 100000
set_option linter.unusedVariables false
namespace Mine
open PySem PyProof.Rows

def resR (X : Cx) (σ : AHeap) (s : Shared) (Q : Post) (Z : XP) : Result → Shared → Prop := fun r s' => match r with
  | .ok (.ret v) => liftQ X σ s Q v s'
  | .ok _ => False
  | .error e => liftX X σ s Z e s'

/-- a call of the function at f -/
def CallOk (X : Cx) (f : Addr) (d : Nat) (args : List AV) (Q : Post) (Z : XP) (σ : AHeap) : Prop :=
  ∀ A s vs, Live d A → At X σ s → RepVs s.heap args vs → codeAny X.M A (.call (.ref f) ⟨vs, []⟩) (resR X σ s Q Z) s

structure FnOk (X : Cx) (f : Addr) (ps : List Str) (body : List Stmt) (scope : Scope) : Prop where
  ex : ∃ o fd, X.h₀.get? f = some o ∧ o.data = .func fd ∧ fd.scope = scope ∧ fd.body = .stmts body ∧ fd.closure = [] ∧ fd.globals = mainGlobals ∧ fd.builtins = builtinsNs ∧ X.h₀.CodeRec fd.code fd.qualname ∧
    ∀ vs, vs.length = ps.length → bindArgs fd ⟨vs, []⟩ = pure (ps.zip vs)

/-- names by number: the parameters first -/
structure NamesOk (names : List (Str × NameKind)) (nm : List (Str × Nat)) (ps : List Str) (N : Nat) : Prop where
  nodup : (names.map (·.1)).Nodup
  kinds : ∀ x i, nm.lookup x = some i → i < N ∧ (names.lookup x = some .local ∨ names.lookup x = some .cell)
  inj : ∀ x y i, nm.lookup x = some i → nm.lookup y = some i → x = y
  par : ∀ x i, nm.lookup x = some i → ∀ p, ps[i]? = some p → p = x
  par' : ∀ (i : Nat) p, ps[i]? = some p → nm.lookup p = some i
  le : ps.length ≤ N
  len : lenOf nm = N
  psnd : ps.Nodup

theorem cellsFrom_has {x : Str} : ∀ (names : List (Str × NameKind)) (n : Nat) (acc : List (Str × Addr)), names.lookup x = some .cell ∨ (acc.lookup x).isSome = true → ((cellsFrom n names acc).lookup x).isSome = true
  | [], _, _, h => h.elim (fun e => by simp at e) id
  | (y, k) :: r, n, acc, h => by
    unfold cellsFrom
    by_cases hk : (k == .cell) = true
    · rw [if_pos hk]
      refine cellsFrom_has r (n + 1) ((y, n) :: acc) ?_
      by_cases hy : (x == y) = true
      · exact .inr (by rw [List.lookup_cons, hy]; rfl)
      · have hy' : (x == y) = false := by simpa using hy
        refine h.imp (fun e => ?_) fun e => ?_
        · rw [List.lookup_cons, hy'] at e; exact e
        · rw [List.lookup_cons, hy']; exact e
    · rw [if_neg hk]
      refine cellsFrom_has r n acc ?_
      by_cases hy : (x == y) = true
      · refine .inr (h.elim (fun e => ?_) id)
        rw [List.lookup_cons, hy] at e
        cases e; simp at hk
      · have hy' : (x == y) = false := by simpa using hy
        refine h.imp (fun e => ?_) id
        rw [List.lookup_cons, hy'] at e; exact e

theorem cellsFrom_keys : ∀ (names : List (Str × NameKind)) (n : Nat) (acc : List (Str × Addr)), (names.map (·.1)).Nodup → (acc.map (·.1)).Nodup → (∀ x, x ∈ acc.map (·.1) → x ∉ names.map (·.1)) → ((cellsFrom n names acc).map (·.1)).Nodup
  | [], _, _, _, h, _ => h
  | (y, k) :: r, n, acc, hn, ha, hd => by
    have hn' := List.nodup_cons.mp hn
    unfold cellsFrom
    split
    · refine cellsFrom_keys r _ _ hn'.2 (List.nodup_cons.mpr ⟨fun q => hd y q List.mem_cons_self, ha⟩) fun x hx q => ?_
      rcases List.mem_cons.mp hx with e | hx
      · subst e; exact hn'.1 q
      · exact hd x hx (List.mem_cons_of_mem _ q)
    · exact cellsFrom_keys r _ _ hn'.2 ha fun x hx q => hd x hx (List.mem_cons_of_mem _ q)

theorem bindL_at {kindOf : Str → Option NameKind} {x : Str} (hx : kindOf x = some .local) : ∀ (binds : List (Str × Value)) (m : Str → Option Value), (binds.map (·.1)).Nodup → bindL kindOf binds m x = (binds.lookup x).or (m x)
  | [], m, _ => by simp [bindL]
  | (y, v) :: r, m, hn => by
    have hn' := List.nodup_cons.mp hn
    unfold bindL
    rw [bindL_at hx r _ hn'.2, List.lookup_cons]
    by_cases hy : (x == y) = true
    · have e := beq_iff_eq.mp hy
      subst e
      have : r.lookup x = none := by
        cases h : r.lookup x with
        | none => rfl
        | some c => exact absurd (List.mem_map_of_mem (f := (·.1)) (mem_of_lookup h)) hn'.1
      rw [this]; simp [hx]
    · have hy' : (x == y) = false := by simpa using hy
      have hne : x ≠ y := by simpa using hy
      simp only [hy']
      split
      · simp [hne]
      · rfl
theorem bindC_at {kindOf : Str → Option NameKind} {x : Str} (hx : kindOf x = some .cell) : ∀ (binds : List (Str × Value)) (m : Str → Option Value), (binds.map (·.1)).Nodup → bindC kindOf binds m x = (binds.lookup x).or (m x)
  | [], m, _ => by simp [bindC]
  | (y, v) :: r, m, hn => by
    have hn' := List.nodup_cons.mp hn
    unfold bindC
    rw [bindC_at hx r _ hn'.2, List.lookup_cons]
    by_cases hy : (x == y) = true
    · have e := beq_iff_eq.mp hy
      subst e
      have : r.lookup x = none := by
        cases h : r.lookup x with
        | none => rfl
        | some c => exact absurd (List.mem_map_of_mem (f := (·.1)) (mem_of_lookup h)) hn'.1
      rw [this]; simp [hx]
    · have hy' : (x == y) = false := by simpa using hy
      have hne : x ≠ y := by simpa using hy
      simp only [hy']
      split
      · rfl
      · simp [hne]

theorem zip_lookup : ∀ {ps : List Str} {vs : List Value} {i : Nat} {x : Str}, ps.Nodup → ps.length = vs.length → ps[i]? = some x → (ps.zip vs).lookup x = vs[i]?
  | p :: ps, v :: vs, 0, x, _, _, h => by simp at h; subst h; simp
  | p :: ps, v :: vs, i + 1, x, hn, hl, h => by
    have hn' := List.nodup_cons.mp hn
    simp only [List.getElem?_cons_succ] at h
    have hne : (x == p) = false := by
      cases hb : x == p with
      | false => rfl
      | true => rw [beq_iff_eq.mp hb] at h; exact absurd (List.mem_of_getElem? h) hn'.1
    simp only [List.zip_cons_cons, List.lookup_cons, hne, List.getElem?_cons_succ]
    exact zip_lookup hn'.2 (by simpa using hl) h
  | [], [], i, x, _, _, h => by simp at h
theorem zip_lookup_none : ∀ {ps : List Str} {vs : List Value} {x : Str}, x ∉ ps → (ps.zip vs).lookup x = none
  | [], _, x, _ => by simp
  | p :: ps, [], x, _ => by simp
  | p :: ps, v :: vs, x, h => by
    have hne : (x == p) = false := by
      cases hb : x == p with
      | false => rfl
      | true => rw [beq_iff_eq.mp hb] at h; exact absurd List.mem_cons_self h
    simp only [List.zip_cons_cons, List.lookup_cons, hne]
    exact zip_lookup_none fun q => h (List.mem_cons_of_mem _ q)

def loc0 (args : List AV) (N : Nat) : Loc := args.map some ++ List.replicate (N - args.length) none
theorem loc0_get (args : List AV) (N i : Nat) : (loc0 args N).getD i none = args[i]? := by
  unfold loc0
  rw [List.getD_eq_getElem?_getD]
  by_cases h : i < args.length
  · rw [List.getElem?_append_left (by simpa using h), List.getElem?_map]
    rw [List.getElem?_eq_getElem h]; rfl
  · rw [List.getElem?_append_right (by simpa using Nat.not_lt.mp h), List.getElem?_replicate, List.getElem?_eq_none (Nat.not_lt.mp h)]
    split <;> rfl

def retOf : Fl → AV
  | .next => .none
  | .ret v => v

theorem RepVs.getO {h : Heap} : ∀ {xs vs}, RepVs h xs vs → ∀ (i : Nat), RepO h xs[i]? vs[i]?
  | _, _, .nil, i => by simp; trivial
  | _, _, .cons a _, 0 => a
  | _, _, .cons _ r, i + 1 => by simpa using r.getO i

section
variable {X : Cx}

/-- a call, by its body: nothing is raised -/
theorem callOk_of {f : Addr} {ps : List Str} {body : List Stmt} {scope : Scope} {nm : List (Str × Nat)} {N d : Nat} {m : AS} {args : List AV} {Q : Post} {Z : XP} {σ : AHeap} (XO : X.Ok) (FN : FnOk X f ps body scope) (NO : NamesOk scope.names nm ps N)
    (hk : scope.kind = .function) (hco : scope.isCoroutine = false) (hgen : scope.isGenerator = false) (hs : ∀ env, EnvOk env → env.scope = scope → SoundSs X env nm body m) (hd : d < 600) (hlen : args.length = ps.length)
    (h : m (d + 1) (loc0 args N) (fun fl _ σ' => Q (retOf fl) σ') (fun _ _ _ => False) σ) : CallOk X f d args Q Z σ := by
  intro A s vs L a rv
  obtain ⟨o, fd, ho, hfd, hsc, hbd, hcl, hgl, hbi, hcd, hbind⟩ := FN.ex
  have hvl : vs.length = ps.length := by rw [← rv.length]; exact hlen
  have hps : ps.Nodup := NO.psnd
  have hbn : ((ps.zip vs).map (·.1)).Nodup := by
    have : (ps.zip vs).map (·.1) = ps := by
      rw [List.map_fst_zip]; lia
    rw [this]; exact hps
  subst hsc
  refine codeAny_call_function (fd := fd) (by have := L.depth; have := L.small; show A.depth < 1000; lia) (a.keep _ _ ho) hfd hco hgen hbd (hcd.keeps a.keep) ?_
  rw [hbind vs hvl, hcl, hgl, hbi]
  refine wpAny_pure (wpAny_newFunctionEnv_cells hk (fun x hx => ?_) fun env he s1 IC => ?_)
  · have hm : x.1 ∈ ps := by
      have := List.mem_map_of_mem (f := (·.1)) hx
      rwa [List.map_fst_zip (by lia)] at this
    obtain ⟨i, hi⟩ := List.mem_iff_getElem?.mp hm
    rcases (NO.kinds x.1 i (NO.par' i _ hi)).2 with q | q
    · exact .inl q
    · exact .inr ⟨q, cellsFrom_has _ _ _ (.inl q)⟩
  subst he
  generalize henv : newEnv fd.scope s.heap.objs.size mainGlobals (cellsFrom (s.heap.objs.size + 1) fd.scope.names []) (fd.qualname ++ ".<locals>.") (some f) fd.code none builtinsNs = env at IC ⊢
  have eL : env.locals = s.heap.objs.size := by rw [← henv]; rfl
  have eC : env.cells = cellsFrom (s.heap.objs.size + 1) fd.scope.names [] := by rw [← henv]; rfl
  have eS : env.scope = fd.scope := by rw [← henv]; rfl
  have eK : ∀ x, env.kindOf x = fd.scope.names.lookup x := fun x => by unfold Env.kindOf; rw [eS]
  have EO : EnvOk env := ⟨by rw [eS]; exact hk, by rw [← henv]; rfl, by rw [← henv]; rfl, IC.apart⟩
  have keep := IC.toInCall.keep
  obtain ⟨h1, tk, hs1⟩ := IC.toInCall.same
  have kv : KeepV s.heap s1.heap := fun b o e _ => keep b o e
  have a1 : At X σ s1 := ⟨fun b o e => keep b o (a.keep b o e), fun b ao e => (a.rep b ao e).mono kv fun o ho => keep b o ho, a.own, by rw [hs1]; exact a.gens, by rw [hs1]; exact a.os⟩
  have cnd : (env.cells.map (·.1)).Nodup := by rw [eC]; exact cellsFrom_keys _ _ _ NO.nodup .nil fun x hx => by simp at hx
  have new : ∀ c : Nat, s.heap.objs.size ≤ c → σ c = none ∧ X.h₀.get? c = none := fun c hc => ⟨a.none_of_size hc, by
    cases e : X.h₀.get? c with
    | none => rfl
    | some o => have := ltA (a.keep c o e); lia⟩
  have val : ∀ x i, nm.lookup x = some i → RepO s1.heap ((loc0 args N).getD i none) ((ps.zip vs).lookup x) := fun x i hx => by
    rw [loc0_get]
    by_cases hi : i < ps.length
    · have hp : ps[i]? = some ps[i] := List.getElem?_eq_getElem hi
      have hpx := NO.par x i hx _ hp
      rw [← hpx, zip_lookup hps (by lia) hp]
      exact (rv.getO i).mono kv
    · have : x ∉ ps := fun q => by
        obtain ⟨j, hj⟩ := List.mem_iff_getElem?.mp q
        have h2 := NO.par' j x hj
        rw [hx] at h2; cases h2
        exact hi (List.getElem?_eq_some_iff.mp hj).1
      rw [zip_lookup_none this, List.getElem?_eq_none (by lia)]
      trivial
  have F1 : FR X env nm (loc0 args N) σ s1.heap := by
    refine ⟨⟨_, IC.toInCall.ns, fun x i hx hkx => ?_⟩, fun x i hx hkx => ?_, by rw [eL]; exact new _ (Nat.le_refl _), ⟨fun x i hx => ?_, NO.inj⟩, ?_, fun x c hx => ?_⟩
    · rw [bindL_at hkx _ _ hbn, Option.or_none]; exact val x i hx
    · have hsome := cellsFrom_has (x := x) fd.scope.names (s.heap.objs.size + 1) [] (.inl (by rw [← eK]; exact hkx))
      rw [← eC] at hsome
      obtain ⟨c, hc⟩ := Option.isSome_iff_exists.mp hsome
      refine ⟨c, _, hc, IC.cell x c hc, ?_⟩
      rw [bindC_at hkx _ _ hbn, Option.or_none]; exact val x i hx
    · have := (NO.kinds x i hx).1
      have hle := NO.le
      unfold loc0
      rw [List.length_append, List.length_map, List.length_replicate]; lia
    · have hle := NO.le
      unfold loc0
      rw [List.length_append, List.length_map, List.length_replicate, NO.len]; lia
    · have hc := IC.above x c hx
      rw [eL] at hc
      have hc' : s.heap.objs.size ≤ c := Nat.le_of_lt hc
      exact ⟨(new c hc').1, (new c hc').2, _, IC.cell x c (lookup_of_nodup cnd hx)⟩
  refine ⟨XO.nolimit.keeps fun b o e => keep b o (a.keep b o e), ?_⟩
  refine code_size (codeAny_func ?_)
  have L1 : Live (d + 1) (A.deeper env) := ⟨by have := L.depth; show A.depth + 1 ≤ _; lia, by have := L.units; show A.units + 3 ≤ _; lia, L.handled, hd⟩
  have szL : s.heap.objs.size < s1.heap.objs.size := by
    have := IC.toInCall.ns.lt; rw [eL] at this; exact this
  refine wpAny_mono (hs env EO eS (d + 1) (A.deeper env) _ σ s1 _ _ L1 a1 F1 h) (fun fl s2 ⟨afl, l2, σ2, r2, a2, F2, st2, q2⟩ hsz => ?_) fun _ _ x => noSX x
  have st : Step E0 σ s σ2 s2 := by
    have st0 : Step (FB env) σ s σ s1 := ⟨fun b o e _ _ => keep b o e, fun _ h1 h2 => absurd h2 h1, Nat.le_of_lt szL⟩
    refine (st0.trans st2).drop fun b hb => ?_
    rcases hb with hb | ⟨x, hx⟩
    · rw [eL] at hb; rw [hb]; exact .inr (Nat.le_refl _)
    · have hc := IC.above x b hx
      rw [eL] at hc
      exact .inr (Nat.le_of_lt hc)
  refine ⟨retOf afl, σ2, ?_, a2, st, q2⟩
  cases fl with
  | next => cases afl with
    | next => exact RepV.none
    | ret v => exact r2.elim
  | ret v => cases afl with
    | next => exact r2.elim
    | ret av => exact r2
  | brk => cases afl <;> exact r2.elim
  | cont => cases afl <;> exact r2.elim
end
end Mine

set_option maxRecDepth 100000
set_option linter.unusedVariables false
namespace Mine
open PySem PyProof.Rows

def evalL : List AE → Nat → Loc → (List AV → AHeap → Prop) → XP → AHeap → Prop
  | [], _, _, Q, _, σ => Q [] σ
  | m :: ms, d, l, Q, Z, σ => m d l (fun a σ1 => evalL ms d l (fun as σ2 => Q (a :: as) σ2) Z σ1) Z σ

def notStar : Expr → Bool
  | .Starred .. => false
  | _ => true
theorem starEach_cons {e : Expr} {rest : List Expr} {env : Env} (h : notStar e = true) : starEach (e :: rest) env = (false, eval e env) :: starEach rest env := by
  cases e <;> first | rfl | (simp [notStar] at h)

inductive SoundEs (X : Cx) (env : Env) (nm : List (Str × Nat)) : List Expr → List AE → Prop
  | nil : SoundEs X env nm [] []
  | cons {e es m ms} : notStar e = true → SoundE X env nm e m → SoundEs X env nm es ms → SoundEs X env nm (e :: es) (m :: ms)

section
variable {X : Cx} {env : Env} {nm : List (Str × Nat)}

theorem SoundEs.plain {pos : Pos} : ∀ {es ms}, SoundEs X env nm es ms → (backTo pos (starEach es env)).any (·.1) = false
  | _, _, .nil => rfl
  | _, _, .cons hs _ r => by
    rw [starEach_cons hs]
    show (false || (backTo pos (starEach _ env)).any (·.1)) = false
    rw [r.plain]; rfl

theorem sound_spliced {pos : Pos} : ∀ {es ms}, SoundEs X env nm es ms → ∀ {d A l σ s Q Z}, Live d A → At X σ s → FR X env nm l σ s.heap → evalL ms d l Q Z σ →
    wpAny X.M A (spliced (backTo pos (starEach es env))) (liftL X σ s Q) (liftX X σ s Z) s
  | _, _, .nil, d, A, l, σ, s, Q, Z, L, a, F, q => wpAny_pure ⟨[], σ, .nil, a, .refl .., q⟩
  | _, _, .cons (e := e) (es := es) hs he r, d, A, l, σ, s, Q, Z, L, a, F, q => by
    rw [starEach_cons hs]
    show wpAny X.M A (spliced ((false, eval e env) :: backTo pos (starEach es env))) _ _ s
    refine Calls.spliced_cons (seqQ (he d A l σ s _ Z L a F q) fun av v σ1 s1 rv a1 st1 q1 => ?_)
    refine wpAny_mono (sound_spliced (pos := pos) r L a1 (F.step a st1) q1) (fun vs s2 ⟨avs, σ2, rvs, a2, st2, q2⟩ => ?_) fun _ _ x => x.back st1
    exact ⟨av :: avs, σ2, .cons (rv.mono (st2.keepV0 a1)) rvs, a2, st1.trans st2, q2⟩

/-- arguments -/
theorem sound_args {f : Value} {pos : Pos} {es ms} (h : SoundEs X env nm es ms) {d A l σ s Q Z} (L : Live d A) (a : At X σ s) (F : FR X env nm l σ s.heap) (q : evalL ms d l Q Z σ) {R : Args → Shared → Prop}
    (k : ∀ vs s', liftL X σ s Q vs s' → R ⟨vs, []⟩ s') : wpAny X.M A (evalArgs f true (backTo pos (starEach es env)) []) R (liftX X σ s Z) s := by
  cases h with
  | nil => exact PyProof.Rows.evalArgs_none (k [] s ⟨[], σ, .nil, a, .refl .., q⟩)
  | cons hs he r =>
    have := sound_spliced (pos := pos) (.cons hs he r) L a F q
    rw [starEach_cons hs] at this ⊢
    exact Calls.evalArgs_plain (wpAny_mono this (fun vs s' x => k vs s' x) fun _ _ x => x)
end

namespace A
def tup (xs : List AE) : AE := fun d l Q Z σ => evalL xs d l (fun as σ' => as.length ≤ 1000000 ∧ Q (.tup as) σ') Z σ
def lst (xs : List AE) : AE := fun d l Q Z σ => evalL xs d l (fun as σ' => as.length ≤ 1000000 ∧ ∀ r, σ' r = none → Q (.ref r) (σ'.set r (.list as))) Z σ
/-- a call of a def of the text -/
def call (X : Cx) (g : Str) (args : List AE) : AE := fun d l Q Z σ => ∃ f, X.mg g = some (.ref f) ∧ (∃ o fd, X.h₀.get? f = some o ∧ o.data = .func fd) ∧ evalL args d l (fun as σ' => CallOk X f d as Q Z σ') Z σ
end A

section
variable {X : Cx} {env : Env} {nm : List (Str × Nat)}

theorem newTuple_sound {A : Around} {σ : AHeap} {s : Shared} {Q : Post} {E} {as : List AV} {vs : List Value} (a : At X σ s) (r : RepVs s.heap as vs) (hl : as.length ≤ 1000000) (q : Q (.tup as) σ) : wpAny X.M A (newTuple vs) (liftQ X σ s Q) E s := by
  refine wpAny_newObj_type ?_ (by show vs.toArray.size ≤ sizeLine; rw [List.size_toArray, ← r.length, sizeLine_eq]; lia)
  have kv : KeepV s.heap (s.heap.push { cls := .type "tuple", data := .seq vs.toArray }) := fun b o e _ => Heap.get?_push_of_some _ e
  exact ⟨.tup as, σ, .tup hl ⟨_, Heap.get?_push_size _ rfl, rfl, 0, rfl⟩ (r.mono kv), a.push _ s.toks, Step.push σ s _ s.toks, q⟩
theorem newList_sound {A : Around} {σ : AHeap} {s : Shared} {Q : Post} {E} {as : List AV} {vs : List Value} (a : At X σ s) (r : RepVs s.heap as vs) (hl : as.length ≤ 1000000) (q : ∀ r, σ r = none → Q (.ref r) (σ.set r (.list as))) :
    wpAny X.M A (newList vs) (liftQ X σ s Q) E s := by
  refine wpAny_newObj_type ?_ (by show vs.toArray.size ≤ sizeLine; rw [List.size_toArray, ← r.length, sizeLine_eq]; lia)
  have kv : KeepV s.heap (s.heap.push { cls := .type "list", data := .seq vs.toArray }) := fun b o e _ => Heap.get?_push_of_some _ e
  exact ⟨.ref s.heap.objs.size, _, .ref _, a.alloc (ao := .list as) s.toks ⟨vs, 0, Heap.get?_push_size _ rfl, r.mono kv, hl⟩, Step.alloc σ s _ _ s.toks, q _ (a.none_of_size (Nat.le_refl _))⟩

theorem sound_tup {es : List Expr} {ms : List AE} {k : Nat} {pos : Pos} (h : SoundEs X env nm es ms) : SoundE X env nm (.Tuple es k pos) (A.tup ms) := fun d A l σ s Q Z L a F q =>
  Tuple_ (wpAny_mono (sound_spliced h L a F q) (fun vs s1 ⟨avs, σ1, r, a1, st, hl, q1⟩ => backQ st (newTuple_sound a1 r hl q1)) fun _ _ x => x)
theorem sound_lst {es : List Expr} {ms : List AE} {pos : Pos} (h : SoundEs X env nm es ms) : SoundE X env nm (.List es pos) (A.lst ms) := fun d A l σ s Q Z L a F q =>
  List_ (wpAny_mono (sound_spliced h L a F q) (fun vs s1 ⟨avs, σ1, r, a1, st, hl, q1⟩ => backQ st (newList_sound a1 r hl q1)) fun _ _ x => x)

/-- a global name -/
theorem wp_global {A : Around} {s : Shared} {σ : AHeap} {x : Str} {pos : Pos} {v : Value} {Q : Value → Shared → Prop} {E} (XO : X.Ok) (EO : EnvOk env) (a : At X σ s) (hx : env.kindOf x = some .globalImplicit) (hd : (x == ("__debug__" : Str)) = false)
    (hv : X.mg x = some v) (h : Q v s) : wpAny X.M A (eval (.Name x pos) env) Q E s :=
  Calls.Name_function_global EO.kind hx (Calls.loadGlobal_global (by rw [EO.glob]; exact XO.g.keeps a.keep) hv h) hd
theorem wp_builtin {A : Around} {s : Shared} {σ : AHeap} {x : Str} {pos : Pos} {v : Value} {Q : Value → Shared → Prop} {E} (XO : X.Ok) (EO : EnvOk env) (a : At X σ s) (hx : env.kindOf x = some .globalImplicit) (hd : (x == ("__debug__" : Str)) = false)
    (hn : X.mg x = none) (hv : X.mb x = some v) (h : Q v s) : wpAny X.M A (eval (.Name x pos) env) Q E s :=
  Calls.Name_function_global EO.kind hx (Calls.loadGlobal_builtin (by rw [EO.glob]; exact XO.g.keeps a.keep) hn (by rw [EO.bi]; exact XO.b.keeps a.keep) hv h) hd

theorem CallOk.call {A : Around} {σ : AHeap} {s : Shared} {f : Addr} {d : Nat} {args : List AV} {Q : Post} {Z : XP} {vs : List Value} (h : CallOk X f d args Q Z σ) (L : Live d A) (a : At X σ s) (r : RepVs s.heap args vs) :
    wpAny X.M A (PySem.call (.ref f) vs []) (liftQ X σ s Q) (liftX X σ s Z) s := wpAny_call (codeAny_mono (h A s vs L a r) fun res s' x => x)

theorem sound_call {g : Str} {es : List Expr} {ms : List AE} {gp pos : Pos} (XO : X.Ok) (EO : EnvOk env) (hx : env.kindOf g = some .globalImplicit) (hd : (g == ("__debug__" : Str)) = false) (h : SoundEs X env nm es ms) :
    SoundE X env nm (.Call (.Name g gp) es [] pos) (A.call X g ms) := fun d A l σ s Q Z L a F ⟨f, hf, ⟨o, fd, ho, hfd⟩, q⟩ => by
  refine Call_ (wp_global XO EO a hx hd hf ?_)
  refine callWith_function_kw (o := o) (fd := fd) (sound_args h L a F q fun vs s1 ⟨avs, σ1, r, a1, st, q1⟩ => ⟨⟨a1.keep _ _ ho, hfd⟩, ?_⟩)
  exact backQ st (q1.call L a1 r)
end
end Mine

set_option maxRecDepth 100000
set_option linter.unusedVariables false
namespace Mine
open PySem PyProof.Rows

/-- one factor is short -/
def MulOk (i j : Int) : Prop := i.natAbs < 2 ^ 60 ∨ j.natAbs < 2 ^ 60

inductive binA : Operator → AV → AV → Post → AHeap → Prop
  | add {i j : Int} {Q : Post} {σ : AHeap} (h : Q (.int (i + j)) σ) : binA .Add (.int i) (.int j) Q σ
  | addT {xs ys : List AV} {Q : Post} {σ : AHeap} (hl : xs.length + ys.length ≤ 1000000) (h : Q (.tup (xs ++ ys)) σ) : binA .Add (.tup xs) (.tup ys) Q σ
  | addL {p q : Addr} {xs ys : List AV} {Q : Post} {σ : AHeap} (h1 : listAt p xs σ) (h2 : listAt q ys σ) (hl : xs.length + ys.length ≤ 1000000) (h : ∀ r, σ r = none → Q (.ref r) (σ.set r (.list (xs ++ ys)))) : binA .Add (.ref p) (.ref q) Q σ
  | sub {i j : Int} {Q : Post} {σ : AHeap} (h : Q (.int (i - j)) σ) : binA .Sub (.int i) (.int j) Q σ
  | mul {i j : Int} {Q : Post} {σ : AHeap} (hm : MulOk i j) (h : Q (.int (i * j)) σ) : binA .Mult (.int i) (.int j) Q σ
  | div {i j : Int} {Q : Post} {σ : AHeap} (h0 : j ≠ 0) (h1 : j.natAbs < 1073741824) (h : Q (.int (i.fdiv j)) σ) : binA .FloorDiv (.int i) (.int j) Q σ
  | mod {i j : Int} {Q : Post} {σ : AHeap} (h0 : j ≠ 0) (h : Q (.int (i.fmod j)) σ) : binA .Mod (.int i) (.int j) Q σ
  | pow {i j : Int} {Q : Post} {σ : AHeap} (h0 : 0 ≤ j) (h1 : j ≤ 1000) (h2 : i.natAbs < 2 ^ 64) (h : Q (.int (i ^ j.toNat)) σ) : binA .Pow (.int i) (.int j) Q σ

section
variable {X : Cx} {A : Around} {σ : AHeap} {s : Shared} {Q : Post} {E : Value → Shared → Prop}

theorem bits_of_natAbs {i : Int} (h : i.natAbs < 2 ^ 60) : Builtin.Int.intBits i ≤ 64 := by
  unfold Builtin.Int.intBits
  split
  · lia
  · rename_i h0
    have : i.natAbs.log2 < 60 := (Nat.log2_lt (by intro e; simp [Int.natAbs_eq_zero] at e; subst e; simp at h0)).mpr h
    lia

theorem bin_sound {op : Operator} {x y : AV} {u v : Value} (a : At X σ s) (rx : RepV s.heap x u) (ry : RepV s.heap y v) (q : binA op x y Q σ) : wpAny X.M A (binaryOp op u v) (liftQ X σ s Q) E s := by
  cases q with
  | add q => cases rx; cases ry; exact P.add_int (retT a (.int _ _) q)
  | addT hq q => cases rx with
    | tup hla ht rs => cases ry with
      | tup hlb ht2 rs2 =>
        rename_i t vs t2 ws
        obtain ⟨⟨cls, dd, data, sl⟩, ho, hc, n, hd⟩ := id ht
        obtain ⟨⟨cls2, dd2, data2, sl2⟩, ho2, hc2, n2, hd2⟩ := id ht2
        simp only at hc hd hc2 hd2
        subst hc hd hc2 hd2
        have l1 := rs.length
        have l2 := rs2.length
        have e : vs.toArray ++ ws.toArray = (vs ++ ws).toArray := by simp
        by_cases hv : vs = []
        · subst hv; cases rs
          exact concat_meets ⟨_, ho, rfl⟩ ⟨_, ho2, rfl⟩ noFill_tuple_add seq_tuple_add PySem.F.slot_tuple_add PySem.F.entry_tuple_add (PySem.F.args_tuple_add_2 _ _)
            (tuple_addW0 t t2 _ ws.toArray n n2 dd dd2 sl sl2 (by simp)) ⟨ho, ho2, retQ a (.tup hlb ht2 rs2) q⟩
        · by_cases hw : ws = []
          · subst hw; cases rs2
            refine concat_meets ⟨_, ho, rfl⟩ ⟨_, ho2, rfl⟩ noFill_tuple_add seq_tuple_add PySem.F.slot_tuple_add PySem.F.entry_tuple_add (PySem.F.args_tuple_add_2 _ _)
              (tuple_addW1 t t2 vs.toArray _ n n2 dd dd2 sl sl2 (by simpa using hv) (by simp)) ⟨ho, ho2, retQ a (.tup hla ht rs) ?_⟩
            rwa [List.append_nil] at q
          · refine concat_meets ⟨_, ho, rfl⟩ ⟨_, ho2, rfl⟩ noFill_tuple_add seq_tuple_add PySem.F.slot_tuple_add PySem.F.entry_tuple_add (PySem.F.args_tuple_add_2 _ _)
              (tuple_addW2 t t2 vs.toArray ws.toArray n n2 dd dd2 sl sl2 (by simpa using hv) (by simpa using hw) (by rw [List.size_toArray, List.size_toArray, sizeLine_eq]; lia)) ⟨ho, ho2, ?_⟩
            rw [e]
            have kv : KeepV s.heap (s.heap.push { cls := .type "tuple", data := .seq (vs ++ ws).toArray }) := fun b o e _ => Heap.get?_push_of_some _ e
            exact ⟨_, σ, .tup (by rw [List.length_append]; exact hq) ⟨_, Heap.get?_push_size _ rfl, rfl, 0, rfl⟩ ((rs.append rs2).mono kv), a.push _ s.toks, Step.push σ s _ s.toks, q⟩
  | @addL p p2 xs ys _ _ hx hy hl q =>
    cases rx; cases ry
    obtain ⟨vs, ht, rs⟩ := a.isList hx
    obtain ⟨ws, ht2, rs2⟩ := a.isList hy
    obtain ⟨⟨cls, dd, data, sl⟩, ho, hc, n, hd⟩ := id ht
    obtain ⟨⟨cls2, dd2, data2, sl2⟩, ho2, hc2, n2, hd2⟩ := id ht2
    simp only at hc hd hc2 hd2
    subst hc hd hc2 hd2
    have l1 := rs.length
    have l2 := rs2.length
    have e : vs.toArray ++ ws.toArray = (vs ++ ws).toArray := by simp
    refine concat_meets ⟨_, ho, rfl⟩ ⟨_, ho2, rfl⟩ noFill_list_add seq_list_add PySem.F.slot_list_add PySem.F.entry_list_add (PySem.F.args_list_add_2 _ _)
      (list_addW p p2 vs.toArray ws.toArray n n2 dd dd2 sl sl2 (by rw [List.size_toArray, List.size_toArray, sizeLine_eq]; lia)) ⟨ho, ho2, ?_⟩
    rw [e]
    have kv : KeepV s.heap (s.heap.push { cls := .type "list", data := .seq (vs ++ ws).toArray }) := fun b o e _ => Heap.get?_push_of_some _ e
    exact ⟨.ref s.heap.objs.size, _, .ref _, a.alloc (ao := .list (xs ++ ys)) s.toks ⟨vs ++ ws, 0, Heap.get?_push_size _ rfl, (rs.append rs2).mono kv, by rw [List.length_append]; exact hl⟩, Step.alloc σ s _ _ s.toks, q _ (a.none_of_size (Nat.le_refl _))⟩
  | sub q => cases rx; cases ry; exact P.sub_int (retT a (.int _ _) q)
  | mul hq q =>
    cases rx; cases ry
    exact P.mul_int (retT a (.int _ _) q) (hq.elim (fun h => IntMulOk.of_left (bits_of_natAbs h)) fun h => IntMulOk.of_right (bits_of_natAbs h))
  | div h0 h1 q =>
    cases rx; cases ry
    exact floordiv_int h0 (retT a (.int _ _) q) (.inl (PyProof.noPylong_small h1))
  | mod h0 q =>
    cases rx; cases ry
    exact mod_int' h0 (retT a (.int _ _) q)
  | pow h0 h1 h2 q =>
    cases rx; cases ry
    exact pow_int_small h0 (by lia) h2 (retT a (.int _ _) q)
end
end Mine

set_option maxRecDepth 100000
set_option linter.unusedVariables false
namespace Mine
open PySem PyProof.Rows PySem.SeqAt

mutual
/-- a value read as a tree -/
inductive Rd (σ : AHeap) : AV → PyData → Prop
  | none : Rd σ .none .none
  | bool (b : Bool) : Rd σ (.bool b) (.bool b)
  | int (i : Int) : Rd σ (.int i) (.int i)
  | str (x : Str) : Rd σ (.str x) (.str x)
  | tup {xs ds} : RdL σ xs ds → Rd σ (.tup xs) (.tuple ds)
  | list {a xs ds} : listAt a xs σ → RdL σ xs ds → Rd σ (.ref a) (.list ds)
inductive RdL (σ : AHeap) : List AV → List PyData → Prop
  | nil : RdL σ [] []
  | cons {x xs d ds} : Rd σ x d → RdL σ xs ds → RdL σ (x :: xs) (d :: ds)
end

theorem Rd.both {X : Cx} {σ : AHeap} {s : Shared} (a : At X σ s) : (∀ {x d}, Rd σ x d → ∀ v, RepV s.heap x v → ∃ as, Reads s.heap v d as) ∧ ∀ {xs ds}, RdL σ xs ds → ∀ vs, RepVs s.heap xs vs → ∃ as, ReadsAll s.heap vs ds as := by
  have c1 : ∀ v, RepV s.heap .none v → ∃ as, Reads s.heap v .none as := fun v r => by cases r; exact ⟨_, .none⟩
  have c2 : ∀ b v, RepV s.heap (.bool b) v → ∃ as, Reads s.heap v (.bool b) as := fun b v r => by cases r; exact ⟨_, .bool b⟩
  have c3 : ∀ i v, RepV s.heap (.int i) v → ∃ as, Reads s.heap v (.int i) as := fun i v r => by cases r; exact ⟨_, .int i _⟩
  have c4 : ∀ x v, RepV s.heap (.str x) v → ∃ as, Reads s.heap v (.str x) as := fun i v r => by cases r; exact ⟨_, .str i _⟩
  have c5 : ∀ xs ds, (∀ vs, RepVs s.heap xs vs → ∃ as, ReadsAll s.heap vs ds as) → ∀ v, RepV s.heap (.tup xs) v → ∃ as, Reads s.heap v (.tuple ds) as := fun xs ds ih v r => by
    cases r with
    | tup _ ht rv =>
      obtain ⟨o, ho, hc, n, hd⟩ := ht
      obtain ⟨as, h⟩ := ih _ rv
      exact ⟨as, .tuple ho hc hd (by simpa using h)⟩
  have c6 : ∀ p xs ds, listAt p xs σ → (∀ vs, RepVs s.heap xs vs → ∃ as, ReadsAll s.heap vs ds as) → ∀ v, RepV s.heap (.ref p) v → ∃ as, Reads s.heap v (.list ds) as := fun p xs ds hl ih v r => by
    cases r
    obtain ⟨vs, ⟨o, ho, hc, n, hd⟩, rv⟩ := a.isList hl
    obtain ⟨as, h⟩ := ih _ rv
    exact ⟨_, .list ho hc hd (by simpa using h)⟩
  have c7 : ∀ vs, RepVs s.heap [] vs → ∃ as, ReadsAll s.heap vs [] as := fun vs r => by cases r; exact ⟨_, .nil⟩
  have c8 : ∀ x xs d ds, (∀ v, RepV s.heap x v → ∃ as, Reads s.heap v d as) → (∀ vs, RepVs s.heap xs vs → ∃ as, ReadsAll s.heap vs ds as) → ∀ vs, RepVs s.heap (x :: xs) vs → ∃ as, ReadsAll s.heap vs (d :: ds) as := fun x xs d ds h1 h2 vs r => by
    cases r with
    | cons rv rvs =>
      obtain ⟨as, g1⟩ := h1 _ rv
      obtain ⟨bs, g2⟩ := h2 _ rvs
      exact ⟨_, .cons g1 g2⟩
  constructor
  · intro x d h
    exact Rd.rec (motive_1 := fun x d _ => ∀ v, RepV s.heap x v → ∃ as, Reads s.heap v d as) (motive_2 := fun xs ds _ => ∀ vs, RepVs s.heap xs vs → ∃ as, ReadsAll s.heap vs ds as)
      c1 c2 c3 c4 (fun {xs ds} _ ih => c5 xs ds ih) (fun {p xs ds} hl _ ih => c6 p xs ds hl ih) c7 (fun {x xs d ds} _ _ h1 h2 => c8 x xs d ds h1 h2) h
  · intro x d h
    exact RdL.rec (motive_1 := fun x d _ => ∀ v, RepV s.heap x v → ∃ as, Reads s.heap v d as) (motive_2 := fun xs ds _ => ∀ vs, RepVs s.heap xs vs → ∃ as, ReadsAll s.heap vs ds as)
      c1 c2 c3 c4 (fun {xs ds} _ ih => c5 xs ds ih) (fun {p xs ds} hl _ ih => c6 p xs ds hl ih) c7 (fun {x xs d ds} _ _ h1 h2 => c8 x xs d ds h1 h2) h
theorem Rd.reads {X : Cx} {σ : AHeap} {s : Shared} (a : At X σ s) {x : AV} {d : PyData} (h : Rd σ x d) {v : Value} (r : RepV s.heap x v) : ∃ as, Reads s.heap v d as := (Rd.both a).1 h v r
theorem RdL.reads {X : Cx} {σ : AHeap} {s : Shared} (a : At X σ s) {xs : List AV} {ds : List PyData} (h : RdL σ xs ds) {vs : List Value} (r : RepVs s.heap xs vs) : ∃ as, ReadsAll s.heap vs ds as := (Rd.both a).2 h vs r

def LtAt (A : Around) (s : Shared) (x y : Value) (t : Bool) : Prop :=
  ∀ (prog : Program) (w : World) (E : Value → Shared → Prop) (Q : Value → Shared → Prop), Q (.bool t) s → wpAny (model prog w) A (richCompare .Lt x y) Q E s

inductive LtL (A : Around) (s : Shared) : List Value → List Value → Bool → Prop
  | nn : LtL A s [] [] false
  | nc {y ys} : LtL A s [] (y :: ys) true
  | cn {x xs} : LtL A s (x :: xs) [] false
  | eq {x y xs ys t} : EqAt A s x y true → LtL A s xs ys t → LtL A s (x :: xs) (y :: ys) t
  | ne {x y xs ys t} : EqAt A s x y false → LtAt A s x y t → LtL A s (x :: xs) (y :: ys) t

theorem tuple_lt_tree (l b : Value) : Builtin.«tuple.__lt__» ⟨[l, b], []⟩ = (do
    if !(← isInstance b (.type "tuple")) then return ← ret .notImplemented
    let xs ← Builtin.Tuple.tupleItemsOf l
    let ys ← Builtin.Tuple.tupleItemsOf b
    for (x, y) in xs.toList.zip ys.toList do
      if !(← eqBool x y) then
        rule "tuple.compare.by-the-first-pair-that-differs"; return ← ret (← richCompare .Lt x y)
    ret (Builtin.Tuple.tupleCompareSizes .Lt xs.size ys.size)) := rfl

theorem lt_tuples {A : Around} {s : Shared} {l b : Addr} {xs ys : List Value} {t : Bool} (hl : IsTup s.heap l xs.toArray) (hb : IsTup s.heap b ys.toArray) (hu : A.units < cLine) (h : LtL A.in1 s xs ys t) : LtAt A s (.ref l) (.ref b) t := by
  intro prog w E Q q
  refine wpAny_richCompare_same_or (op := .Lt) hl.typeIs hb.typeIs F.slot_tuple_lt (wpAny_call_entry F.slot_tuple_lt hl.typeIs F.entry_tuple_lt ?_ (F.args_tuple_lt_2 _ _)) (.inr hu)
  rw [tuple_lt_tree]
  refine wpAny_bind (wpAny_isInstance (T := "tuple") (b := true) hb.typeIs AutoSeq1.sub_tuple_tuple ?_)
  simp only [Bool.not_true, Bool.false_eq_true, if_false]
  refine wpAny_bind (tupleItemsOf_ hl (wpAny_bind (tupleItemsOf_ hb ?_)))
  simp only [List.size_toArray]
  refine wpAny_bind ?_
  refine wpAny_forIn_list _ (fun rest b s' => b = (none, ()) ∧ s' = s ∧ ∃ xs' ys', rest = xs'.zip ys' ∧ LtL A.in1 s xs' ys' t ∧ (xs'.length < ys'.length ↔ xs.length < ys.length)) _ ?_ ?_ _ _ ⟨rfl, rfl, xs, ys, rfl, h, Iff.rfl⟩
  · rintro ⟨x, y⟩ rest b s' ⟨rfl, rfl, xs', ys', hz, hL, hlen⟩
    cases hL with
    | nn => cases hz
    | nc => cases hz
    | cn => cases hz
    | eq he hr =>
      simp only [List.zip_cons_cons, List.cons.injEq, Prod.mk.injEq] at hz
      obtain ⟨⟨rfl, rfl⟩, rfl⟩ := hz
      dsimp only
      refine wpAny_bind (he prog w _ _ ?_)
      simp only [Bool.not_true, Bool.false_eq_true, if_false]
      exact wpAny_pure ⟨rfl, rfl, _, _, rfl, hr, by simpa using hlen⟩
    | ne he hr =>
      simp only [List.zip_cons_cons, List.cons.injEq, Prod.mk.injEq] at hz
      obtain ⟨⟨rfl, rfl⟩, rfl⟩ := hz
      dsimp only
      refine wpAny_bind (he prog w _ _ ?_)
      simp only [Bool.not_false, if_true]
      refine wpAny_bind (wpAny_rule (wpAny_bind (hr prog w _ _ ?_)))
      refine wpAny_bind (wpAny_pure (wpAny_pure ?_))
      exact wpAny_pure ⟨_, rfl, (fun e => nomatch e), q⟩
  · rintro b s' ⟨rfl, rfl, xs', ys', hz, hL, hlen⟩
    refine wpAny_pure ⟨_, rfl, (fun e => nomatch e), ?_⟩
    have : t = decide (xs.length < ys.length) := by
      cases hL with
      | nn => simp at hlen ⊢; lia
      | nc => simp at hlen ⊢; lia
      | cn => simp at hlen ⊢; lia
      | eq _ _ => cases hz
      | ne _ _ => cases hz
    subst this; exact q

mutual
/-- the order of trees, where Python has one -/
def ltD : PyData → PyData → Option Bool
  | .int i, .int j => some (decide (i < j))
  | .str x, .str y => some (decide (x.cps.toList < y.cps.toList))
  | .tuple xs, .tuple ys => ltDL xs ys
  | _, _ => none
def ltDL : List PyData → List PyData → Option Bool
  | [], [] => some false
  | [], _ :: _ => some true
  | _ :: _, [] => some false
  | x :: xs, y :: ys => if PyData.eqv x y then ltDL xs ys else ltD x y
end

mutual
theorem lt_reads {A : Around} {s : Shared} (da db : PyData) {a b : Value} {as bs : List Addr} {t : Bool} (ra : Reads s.heap a da as) (rb : Reads s.heap b db bs) (ha : da.canLay0 = true) (hb : db.canLay0 = true) (hu : A.units + 2 * da.depth + 10 < cLine) (e : ltD da db = some t) : LtAt A s a b t := by
  cases da with
  | int i =>
    cases db with
    | int j =>
      cases ra; cases rb
      simp only [ltD, Option.some.injEq] at e; subst e
      intro prog w E Q q; exact P.lt_int q
    | _ => simp [ltD] at e
  | str x =>
    cases db with
    | str y =>
      cases ra; cases rb
      simp only [ltD, Option.some.injEq] at e; subst e
      intro prog w E Q q; exact P.lt_str q
    | _ => simp [ltD] at e
  | tuple xs =>
    cases db with
    | tuple ys =>
      simp only [ltD] at e
      simp only [PyData.canLay0] at ha hb
      cases ra with
      | @tuple a1 o1 vs n _ _ ho hc hd hr =>
        cases rb with
        | @tuple a2 o2 vs2 n2 _ _ ho2 hc2 hd2 hr2 =>
          refine lt_tuples (xs := vs.toList) (ys := vs2.toList) ⟨_, ho, hc, _, by simpa using hd⟩ ⟨_, ho2, hc2, _, by simpa using hd2⟩ (by lia) (ltL_reads xs ys hr hr2 ha hb ?_ e)
          simp only [PyData.depth] at hu
          rw [Around.in1_units]
          lia
    | _ => simp [ltD] at e
  | _ => simp [ltD] at e
termination_by structural da
theorem ltL_reads {A : Around} {s : Shared} (xs ys : List PyData) {vs ws : List Value} {as bs : List Addr} {t : Bool} (rx : ReadsAll s.heap vs xs as) (ry : ReadsAll s.heap ws ys bs) (ha : PyData.canLayAll0 xs = true) (hb : PyData.canLayAll0 ys = true) (hu : A.units + 2 * PyData.depthAll xs + 10 < cLine)
    (e : ltDL xs ys = some t) : LtL A s vs ws t := by
  cases xs with
  | nil =>
    cases rx
    cases ys with
    | nil => cases ry; simp only [ltDL, Option.some.injEq] at e; subst e; exact .nn
    | cons y ys => cases ry; simp only [ltDL, Option.some.injEq] at e; subst e; exact .nc
  | cons x xs =>
    cases rx with
    | cons h1 h2 =>
      cases ys with
      | nil => cases ry; simp only [ltDL, Option.some.injEq] at e; subst e; exact .cn
      | cons y ys =>
        cases ry with
        | cons k1 k2 =>
          simp only [PyData.canLayAll0, Bool.and_eq_true] at ha hb
          simp only [PyData.depthAll] at hu
          have h5 : x.depth ≤ max x.depth (PyData.depthAll xs) := Nat.le_max_left _ _
          have h6 : PyData.depthAll xs ≤ max x.depth (PyData.depthAll xs) := Nat.le_max_right _ _
          have hmin : min x.depth y.depth ≤ x.depth := Nat.min_le_left _ _
          have heq := eqAt_reads x y A s _ _ _ _ h1 k1 ha.1 hb.1 (by lia)
          simp only [ltDL] at e
          cases hE : PyData.eqv x y with
          | true => rw [hE] at e heq; exact .eq heq (ltL_reads xs ys h2 k2 ha.2 hb.2 (by lia) e)
          | false => rw [hE] at e heq; exact .ne heq (lt_reads x y h1 k1 ha.1 hb.1 (by lia) (by simpa using e))
termination_by structural xs
end
end Mine

set_option maxRecDepth 100000
set_option linter.unusedVariables false
set_option autoImplicit false
namespace Mine
open PySem PyProof.Rows PySem.SeqAt

def DOk (d : PyData) : Prop := d.canLay0 = true ∧ d.depth ≤ 100

def AV.isNone : AV → Bool
  | .none => true
  | _ => false

/-- what «in» asks of: a list or a tuple read as trees; a dict by its keys -/
def inA (X : Cx) (x c : AV) (Q : Bool → AHeap → Prop) (σ : AHeap) : Prop :=
  ∃ ds d, (Rd σ c (.list ds) ∨ Rd σ c (.tuple ds)) ∧ Rd σ x d ∧ DOk (.list ds) ∧ DOk d ∧ Q (ds.any fun y => PyData.eqv y d) σ

inductive cmpA (X : Cx) : CmpOp → AV → AV → Post → AHeap → Prop
  | eq {a b : AV} {x y : PyData} {Q : Post} {σ : AHeap} (h1 : Rd σ a x) (h2 : Rd σ b y) (k1 : DOk x) (k2 : DOk y) (h : Q (.bool (PyData.eqv x y)) σ) : cmpA X .Eq a b Q σ
  | ne {a b : AV} {x y : PyData} {Q : Post} {σ : AHeap} (h1 : Rd σ a x) (h2 : Rd σ b y) (k1 : DOk x) (k2 : DOk y) (h : Q (.bool (!PyData.eqv x y)) σ) : cmpA X .NotEq a b Q σ
  | lt {i j : Int} {Q : Post} {σ : AHeap} (h : Q (.bool (decide (i < j))) σ) : cmpA X .Lt (.int i) (.int j) Q σ
  | ltT {xs ys : List AV} {x y : PyData} {t : Bool} {Q : Post} {σ : AHeap} (h1 : Rd σ (.tup xs) x) (h2 : Rd σ (.tup ys) y) (k1 : DOk x) (k2 : DOk y) (ht : ltD x y = some t) (h : Q (.bool t) σ) : cmpA X .Lt (.tup xs) (.tup ys) Q σ
  | le {i j : Int} {Q : Post} {σ : AHeap} (h : Q (.bool (decide (i ≤ j))) σ) : cmpA X .LtE (.int i) (.int j) Q σ
  | gt {i j : Int} {Q : Post} {σ : AHeap} (h : Q (.bool (decide (i > j))) σ) : cmpA X .Gt (.int i) (.int j) Q σ
  | ge {i j : Int} {Q : Post} {σ : AHeap} (h : Q (.bool (decide (i ≥ j))) σ) : cmpA X .GtE (.int i) (.int j) Q σ
  | inn {a b : AV} {Q : Post} {σ : AHeap} (h : inA X a b (fun t σ' => Q (.bool t) σ') σ) : cmpA X .In a b Q σ
  | notIn {a b : AV} {Q : Post} {σ : AHeap} (h : inA X a b (fun t σ' => Q (.bool (!t)) σ') σ) : cmpA X .NotIn a b Q σ
  | is {a : AV} {Q : Post} {σ : AHeap} (h : Q (.bool a.isNone) σ) : cmpA X .Is a .none Q σ
  | isNot {a : AV} {Q : Post} {σ : AHeap} (h : Q (.bool (!a.isNone)) σ) : cmpA X .IsNot a .none Q σ

section
variable {X : Cx} {A : Around} {σ : AHeap} {s : Shared} {Q : Post} {E : Value → Shared → Prop} {d : Nat}

theorem isSame_none {x : AV} {u : Value} {R : Bool → Shared → Prop} (rx : RepV s.heap x u) (h : R x.isNone s) : wpAny X.M A (isSame u .none) R E s := by
  cases rx <;> exact wpAny_pure h

theorem in_sound {x y : AV} {u v : Value} {R : Bool → AHeap → Prop} (L : Live d A) (a : At X σ s) (rx : RepV s.heap x u) (ry : RepV s.heap y v) (q : inA X x y R σ) :
    wpAny X.M A (compareOp .In u v) (fun w s' => ∃ t, w = .bool t ∧ liftB X σ s R t s') E s ∧ wpAny X.M A (compareOp .NotIn u v) (fun w s' => ∃ t, w = .bool (!t) ∧ liftB X σ s R t s') E s := by
  have room := L.room
  obtain ⟨ds, dd, hc, hx, kc, kd, q⟩ := q
  obtain ⟨as, r1⟩ := hx.reads a rx
  have hd1 : PyData.depthAll ds ≤ 100 := by have := kc.2; simp only [PyData.depth] at this; lia
  have hu : A.units + 1 + min (PyData.depthAll ds) dd.depth < cLine := by
    have : min (PyData.depthAll ds) dd.depth ≤ PyData.depthAll ds := Nat.min_le_left _ _
    lia
  have kc1 : PyData.canLayAll0 ds = true := by have := kc.1; simpa only [PyData.canLay0] using this
  rcases hc with hc | hc
  · obtain ⟨bs, r2⟩ := hc.reads a ry
    exact ⟨in_list_reads r2 r1 kc1 kd.1 hu ⟨_, rfl, σ, a, .refl .., q⟩, notIn_list_reads r2 r1 kc1 kd.1 hu ⟨_, rfl, σ, a, .refl .., q⟩⟩
  · obtain ⟨bs, r2⟩ := hc.reads a ry
    exact ⟨in_tuple_reads r2 r1 kc1 kd.1 hu ⟨_, rfl, σ, a, .refl .., q⟩, notIn_tuple_reads r2 r1 kc1 kd.1 hu ⟨_, rfl, σ, a, .refl .., q⟩⟩

theorem cmp_sound {op : CmpOp} {x y : AV} {u v : Value} (L : Live d A) (a : At X σ s) (rx : RepV s.heap x u) (ry : RepV s.heap y v) (q : cmpA X op x y Q σ) : wpAny X.M A (compareOp op u v) (liftQ X σ s Q) E s := by
  have room := L.room
  cases q with
  | @eq _ _ da db _ _ h1 h2 k1 k2 q =>
    obtain ⟨as, r1⟩ := h1.reads a rx
    obtain ⟨bs, r2⟩ := h2.reads a ry
    have hm : min da.depth db.depth ≤ da.depth := Nat.min_le_left _ _
    exact compareEq_reads r1 r2 k1.1 k2.1 (by have := k1.2; lia) (retQ a (.bool _) q)
  | @ne _ _ da db _ _ h1 h2 k1 k2 q =>
    obtain ⟨as, r1⟩ := h1.reads a rx
    obtain ⟨bs, r2⟩ := h2.reads a ry
    have hm : min da.depth db.depth ≤ da.depth := Nat.min_le_left _ _
    exact compareNe_reads r1 r2 k1.1 k2.1 (by have := k1.2; lia) (retQ a (.bool _) q)
  | lt q => cases rx; cases ry; exact P.lt_int (retQ a (.bool _) q)
  | @ltT _ _ da db t _ _ h1 h2 k1 k2 ht q =>
    obtain ⟨as, r1⟩ := h1.reads a rx
    obtain ⟨bs, r2⟩ := h2.reads a ry
    exact lt_reads da db r1 r2 k1.1 k2.1 (by have := k1.2; lia) ht _ _ _ _ (retQ a (.bool _) q)
  | le q => cases rx; cases ry; exact P.le_int (retQ a (.bool _) q)
  | gt q => cases rx; cases ry; exact P.gt_int (retQ a (.bool _) q)
  | ge q => cases rx; cases ry; exact P.ge_int (retQ a (.bool _) q)
  | inn q =>
    refine wpAny_mono (in_sound L a rx ry q).1 (fun w s' x => ?_) fun _ _ e => e
    obtain ⟨t, e, σ', a', st, q'⟩ := x
    subst e; exact ⟨_, σ', .bool _, a', st, q'⟩
  | notIn q =>
    refine wpAny_mono (in_sound L a rx ry q).2 (fun w s' x => ?_) fun _ _ e => e
    obtain ⟨t, e, σ', a', st, q'⟩ := x
    subst e; exact ⟨_, σ', .bool _, a', st, q'⟩
  | is q =>
    cases ry
    exact wpAny_bind (isSame_none rx (wpAny_pure (retQ a (.bool _) q)))
  | isNot q =>
    cases ry
    exact wpAny_bind (isSame_none rx (wpAny_pure (retQ a (.bool _) q)))
end

namespace A
def bin (op : Operator) (x y : AE) : AE := fun d l Q Z σ => x d l (fun a σ1 => y d l (fun b σ2 => binA op a b Q σ2) Z σ1) Z σ
def neg (x : AE) : AE := fun d l Q Z σ => x d l (fun a σ1 => ∃ i, a = .int i ∧ Q (.int (-i)) σ1) Z σ
def not_ (x : AE) : AE := fun d l Q Z σ => x d l (fun a σ1 => ∃ b, a = .bool b ∧ Q (.bool (!b)) σ1) Z σ
def and_ (x y : AE) : AE := fun d l Q Z σ => x d l (fun a σ1 => ∃ b, a = .bool b ∧ if b then y d l Q Z σ1 else Q (.bool false) σ1) Z σ
def or_ (x y : AE) : AE := fun d l Q Z σ => x d l (fun a σ1 => ∃ b, a = .bool b ∧ if b then Q (.bool true) σ1 else y d l Q Z σ1) Z σ
def chain (X : Cx) (d : Nat) (l : Loc) (Q : Post) (Z : XP) : AV → List (CmpOp × AE) → AHeap → Prop
  | _, [], _ => False
  | a, [(op, y)], σ => y d l (fun b σ1 => cmpA X op a b Q σ1) Z σ
  | a, (op, y) :: r, σ => y d l (fun b σ1 => cmpA X op a b (fun c σ2 => ∃ t, c = .bool t ∧ if t then chain X d l Q Z b r σ2 else Q (.bool false) σ2) σ1) Z σ
def cmp (X : Cx) (x : AE) (ops : List (CmpOp × AE)) : AE := fun d l Q Z σ => x d l (fun a σ1 => chain X d l Q Z a ops σ1) Z σ
end A

section
variable {X : Cx} {env : Env} {nm : List (Str × Nat)}

theorem sound_bin {op : Operator} {e1 e2 : Expr} {m1 m2 : AE} {pos : Pos} (h1 : SoundE X env nm e1 m1) (h2 : SoundE X env nm e2 m2) : SoundE X env nm (.BinOp e1 op e2 pos) (A.bin op m1 m2) := fun d A l σ s Q Z L a F q =>
  wpAny_BinOp (seqQ (h1 d A l σ s _ Z L a F q) fun av v σ1 s1 rv a1 st1 q1 =>
    wpAny_mono (h2 d A l σ1 s1 _ Z L a1 (F.step a st1) q1) (fun v2 s2 ⟨av2, σ2, rv2, a2, st2, q2⟩ => backQ (st1.trans st2) (bin_sound a2 (rv.mono (st2.keepV0 a1)) rv2 q2)) fun _ _ x => x.back st1)

theorem sound_neg {e : Expr} {m : AE} {pos : Pos} (h : SoundE X env nm e m) : SoundE X env nm (.UnaryOp .USub e pos) (A.neg m) := fun d A l σ s Q Z L a F q => by
  show wpAny X.M A (do let v ← eval e env; standAt pos; holding [v] (unaryOp .USub v)) _ _ s
  refine wpAny_bind (seqQ (h d A l σ s _ Z L a F q) fun av v σ1 s1 rv a1 st1 ⟨i, hi, q1⟩ => ?_)
  subst hi; cases rv
  exact wpAny_bind (wpAny_standAt (wpAny_holding (P.neg_int (liftQ.back st1 (retT a1 (.int _ _) q1)))))

theorem sound_not {e : Expr} {m : AE} {pos : Pos} (h : SoundE X env nm e m) : SoundE X env nm (.UnaryOp .Not e pos) (A.not_ m) := fun d A l σ s Q Z L a F q => by
  show wpAny X.M A (do let v ← eval e env; standAt pos; holding [v] (unaryOp .Not v)) _ _ s
  refine wpAny_bind (seqQ (h d A l σ s _ Z L a F q) fun av v σ1 s1 rv a1 st1 ⟨b, hb, q1⟩ => ?_)
  subst hb; cases rv
  refine wpAny_bind (wpAny_standAt (wpAny_holding ?_))
  show wpAny X.M A (holding [Value.bool b] (do return Value.bool (!(← truthy (.bool b))))) _ _ s1
  exact wpAny_holding (wpAny_bind (wpAny_truthy_bool (wpAny_pure (liftQ.back st1 (retQ a1 (.bool _) q1)))))
theorem soundB_not {e : Expr} {m : AE} {pos : Pos} (h : SoundB X env nm e m) : SoundB X env nm (.UnaryOp .Not e pos) (A.not_ m) := fun d A l σ s Q Z L a F q => by
  show wpAny X.M A (do return !(← isTrue e env (eval e env))) _ _ s
  have q' : m d l (isB fun b σ1 => Q (!b) σ1) Z σ := by
    refine (show m d l (isB fun b σ1 => Q (!b) σ1) Z σ from ?_)
    have e : (fun a σ1 => ∃ b, a = AV.bool b ∧ isB Q (.bool (!b)) σ1) = isB fun b σ1 => Q (!b) σ1 := by
      funext a σ1
      unfold isB
      refine propext ⟨?_, ?_⟩
      · rintro ⟨b, rfl, c, hc, q⟩; cases hc; exact ⟨b, rfl, q⟩
      · rintro ⟨b, rfl, q⟩; exact ⟨b, rfl, _, rfl, q⟩
    have q0 : m d l (fun a σ1 => ∃ b, a = AV.bool b ∧ isB Q (.bool (!b)) σ1) Z σ := q
    rw [e] at q0; exact q0
  exact wpAny_bind (wpAny_mono (h d A l σ s _ Z L a F q') (fun b s1 ⟨σ1, a1, st1, q1⟩ => wpAny_pure ⟨σ1, a1, st1, q1⟩) fun _ _ x => x)

/-- and, or: as a value, as a test -/
theorem evalEach_cons (e : Expr) (r : List Expr) : evalEach (e :: r) env = eval e env :: evalEach r env := rfl
theorem boolOp_cons2 {pos : Pos} {op : BoolOp} {x y : Sem Value} {r : List (Sem Value)} : boolOp pos op (x :: y :: r) = (do
    let v ← x
    standAt pos
    let t ← holding [v] (truthy v)
    match op, t with
    | .And, false | .Or, true => pure v
    | _, _ => boolOp pos op (y :: r)) := rfl

def andL : List AE → AE
  | [] => fun _ _ _ _ _ => False
  | [x] => x
  | x :: y :: r => A.and_ x (andL (y :: r))
def orL : List AE → AE
  | [] => fun _ _ _ _ _ => False
  | [x] => x
  | x :: y :: r => A.or_ x (orL (y :: r))

inductive SoundEBs (X : Cx) (env : Env) (nm : List (Str × Nat)) : List Expr → List AE → Prop
  | nil : SoundEBs X env nm [] []
  | cons {e es m ms} : SoundE X env nm e m → SoundB X env nm e m → SoundEBs X env nm es ms → SoundEBs X env nm (e :: es) (m :: ms)

theorem boolOp_and {pos : Pos} : ∀ {es ms}, SoundEBs X env nm es ms → ∀ {d A l σ s Q Z}, Live d A → At X σ s → FR X env nm l σ s.heap → andL ms d l Q Z σ → wpAny X.M A (boolOp pos .And (evalEach es env)) (liftQ X σ s Q) (liftX X σ s Z) s
  | _, _, .nil, _, _, _, _, _, _, _, _, _, _, q => q.elim
  | _, _, .cons h hb .nil, d, A, l, σ, s, Q, Z, L, a, F, q => h d A l σ s Q Z L a F q
  | _, _, .cons h hb (.cons h2 hb2 r), d, A, l, σ, s, Q, Z, L, a, F, q => by
    rw [evalEach_cons, evalEach_cons, boolOp_cons2]
    refine wpAny_bind (seqQ (h d A l σ s _ Z L a F q) fun av v σ1 s1 rv a1 st1 ⟨b, hb', q1⟩ => ?_)
    subst hb'; cases rv
    refine wpAny_bind (wpAny_standAt (wpAny_bind (wpAny_holding (wpAny_truthy_bool ?_))))
    cases b with
    | false => exact wpAny_pure (liftQ.back st1 (retQ a1 (.bool _) (by simpa using q1)))
    | true => exact backQ st1 (boolOp_and (.cons h2 hb2 r) L a1 (F.step a st1) (by simpa using q1))
theorem sound_and {pos : Pos} {es : List Expr} {ms : List AE} (h : SoundEBs X env nm es ms) : SoundE X env nm (.BoolOp .And es pos) (andL ms) := fun d A l σ s Q Z L a F q => boolOp_and h L a F q
theorem allTrue_cons (op : BoolOp) (x : Expr) (r : List Expr) : allTrue op (x :: r) env = (do
    match op, ← isTrue x env (eval x env) with
    | .And, false => pure false
    | .Or, true => pure true
    | _, _ => allTrue op r env) := rfl

theorem isB_and {Q : Bool → AHeap → Prop} {y : AE} {d : Nat} {l : Loc} {Z : XP} : (fun a σ1 => ∃ b, a = AV.bool b ∧ if b then y d l (isB Q) Z σ1 else isB Q (.bool false) σ1) = isB fun b σ1 => if b then y d l (isB Q) Z σ1 else Q false σ1 := by
  funext a σ1
  unfold isB
  refine propext ⟨?_, ?_⟩
  · rintro ⟨b, rfl, h⟩
    refine ⟨b, rfl, ?_⟩
    cases b with
    | true => exact h
    | false => simp only [Bool.false_eq_true, if_false] at h ⊢; obtain ⟨c, hc, q⟩ := h; cases hc; exact q
  · rintro ⟨b, rfl, h⟩
    refine ⟨b, rfl, ?_⟩
    cases b with
    | true => exact h
    | false => simp only [Bool.false_eq_true, if_false] at h ⊢; exact ⟨_, rfl, h⟩
theorem isB_or {Q : Bool → AHeap → Prop} {y : AE} {d : Nat} {l : Loc} {Z : XP} : (fun a σ1 => ∃ b, a = AV.bool b ∧ if b then isB Q (.bool true) σ1 else y d l (isB Q) Z σ1) = isB fun b σ1 => if b then Q true σ1 else y d l (isB Q) Z σ1 := by
  funext a σ1
  unfold isB
  refine propext ⟨?_, ?_⟩
  · rintro ⟨b, rfl, h⟩
    refine ⟨b, rfl, ?_⟩
    cases b with
    | false => exact h
    | true => simp only [if_true] at h ⊢; obtain ⟨c, hc, q⟩ := h; cases hc; exact q
  · rintro ⟨b, rfl, h⟩
    refine ⟨b, rfl, ?_⟩
    cases b with
    | false => exact h
    | true => simp only [if_true] at h ⊢; exact ⟨_, rfl, h⟩

theorem allTrue_and : ∀ {es ms}, SoundEBs X env nm es ms → ∀ {d A l σ s Q Z}, Live d A → At X σ s → FR X env nm l σ s.heap → andL ms d l (isB Q) Z σ → wpAny X.M A (allTrue .And es env) (liftB X σ s Q) (liftX X σ s Z) s
  | _, _, .nil, _, _, _, _, _, _, _, _, _, _, q => q.elim
  | _, _, .cons h hb .nil, d, A, l, σ, s, Q, Z, L, a, F, q => by
    rw [allTrue_cons]
    refine wpAny_bind (wpAny_mono (hb d A l σ s Q Z L a F q) (fun b s1 x => ?_) fun _ _ x => x)
    cases b with
    | false => exact wpAny_pure x
    | true => exact wpAny_pure x
  | _, _, .cons h hb (.cons h2 hb2 r), d, A, l, σ, s, Q, Z, L, a, F, q => by
    rw [allTrue_cons]
    have q0 := q
    simp only [andL, Mine.A.and_] at q0
    rw [isB_and] at q0
    refine wpAny_bind (wpAny_mono (hb d A l σ s _ Z L a F q0) (fun b s1 ⟨σ1, a1, st1, q1⟩ => ?_) fun _ _ x => x)
    cases b with
    | false => exact wpAny_pure ⟨σ1, a1, st1, by simpa using q1⟩
    | true => exact backB st1 (allTrue_and (.cons h2 hb2 r) L a1 (F.step a st1) (by simpa using q1))
theorem allTrue_or : ∀ {es ms}, SoundEBs X env nm es ms → ∀ {d A l σ s Q Z}, Live d A → At X σ s → FR X env nm l σ s.heap → orL ms d l (isB Q) Z σ → wpAny X.M A (allTrue .Or es env) (liftB X σ s Q) (liftX X σ s Z) s
  | _, _, .nil, _, _, _, _, _, _, _, _, _, _, q => q.elim
  | _, _, .cons h hb .nil, d, A, l, σ, s, Q, Z, L, a, F, q => by
    rw [allTrue_cons]
    refine wpAny_bind (wpAny_mono (hb d A l σ s Q Z L a F q) (fun b s1 x => ?_) fun _ _ x => x)
    cases b with
    | false => exact wpAny_pure x
    | true => exact wpAny_pure x
  | _, _, .cons h hb (.cons h2 hb2 r), d, A, l, σ, s, Q, Z, L, a, F, q => by
    rw [allTrue_cons]
    have q0 := q
    simp only [orL, Mine.A.or_] at q0
    rw [isB_or] at q0
    refine wpAny_bind (wpAny_mono (hb d A l σ s _ Z L a F q0) (fun b s1 ⟨σ1, a1, st1, q1⟩ => ?_) fun _ _ x => x)
    cases b with
    | true => exact wpAny_pure ⟨σ1, a1, st1, by simpa using q1⟩
    | false => exact backB st1 (allTrue_or (.cons h2 hb2 r) L a1 (F.step a st1) (by simpa using q1))
theorem soundB_and {pos : Pos} {es : List Expr} {ms : List AE} (h : SoundEBs X env nm es ms) : SoundB X env nm (.BoolOp .And es pos) (andL ms) := fun d A l σ s Q Z L a F q => allTrue_and h L a F q
theorem soundB_or {pos : Pos} {es : List Expr} {ms : List AE} (h : SoundEBs X env nm es ms) : SoundB X env nm (.BoolOp .Or es pos) (orL ms) := fun d A l σ s Q Z L a F q => allTrue_or h L a F q

/-- comparisons, in a row -/
inductive SoundOps (X : Cx) (env : Env) (nm : List (Str × Nat)) : List CmpOp → List Expr → List (CmpOp × AE) → Prop
  | one {op e m} : SoundE X env nm e m → behindInMarks op e = false → SoundOps X env nm [op] [e] [(op, m)]
  | cons {op e m op2 ops es ms} : SoundE X env nm e m → SoundOps X env nm (op2 :: ops) es ms → SoundOps X env nm (op :: op2 :: ops) (e :: es) ((op, m) :: ms)

theorem SoundOps.ne {ops es ms} (h : SoundOps X env nm ops es ms) : ms ≠ [] := by cases h <;> simp

theorem wp_release {M : Model} {A : Around} {vs keep : List Value} {Q : Unit → Shared → Prop} {E : Value → Shared → Prop} {s : Shared} (h : Q () s) : wpAny M A (release vs keep) Q E s := fun Γ p hΓ => by rw [Sem.wp_release]; exact h

theorem chain_sound {pos : Pos} : ∀ {ops es ms}, SoundOps X env nm ops es ms → ∀ {d A l σ s Q Z av v}, Live d A → At X σ s → FR X env nm l σ s.heap → RepV s.heap av v → Mine.A.chain X d l Q Z av ms σ →
    wpAny X.M A (compareChain pos v ops (markedEach ops es (evalEach es env))) (liftQ X σ s Q) (liftX X σ s Z) s
  | _, _, _, .one (op := op) (e := e) (m := m) h hm, d, A, l, σ, s, Q, Z, av, v, L, a, F, rv, q => by
    show wpAny X.M A (do let rv ← holding [v] (markedBehindIn op e (eval e env)); standAt pos; operate [v, rv] (compareOp op v rv)) _ _ s
    rw [markedBehindIn_of_false hm]
    refine wpAny_bind (wpAny_holding (seqQ (h d A l σ s _ Z L a F q) fun av2 v2 σ1 s1 rv2 a1 st1 q1 => ?_))
    refine wpAny_bind (wpAny_standAt ?_)
    refine backQ st1 ?_
    unfold operate
    refine wpAny_bind (wpAny_holding (wpAny_mono (cmp_sound L a1 (rv.mono (st1.keepV0 a)) rv2 q1) (fun r s2 x => ?_) fun _ _ x => x))
    exact wpAny_bind (wp_release (wpAny_pure x))
  | _, _, _, .cons (op := op) (e := e) (m := m) (op2 := op2) (ops := ops) (es := es) (ms := ms) h hr, d, A, l, σ, s, Q, Z, av, v, L, a, F, rv, q => by
    obtain ⟨e2, es2, hes⟩ : ∃ e2 es2, es = e2 :: es2 := by cases hr <;> exact ⟨_, _, rfl⟩
    obtain ⟨m2, ms2, hms⟩ : ∃ m2 ms2, ms = m2 :: ms2 := by
      cases ms with
      | nil => exact absurd rfl hr.ne
      | cons m2 ms2 => exact ⟨m2, ms2, rfl⟩
    have e1 : markedEach (op :: op2 :: ops) (e :: es) (evalEach (e :: es) env) = eval e env :: markedEach (op2 :: ops) es (evalEach es env) := by subst hes; rfl
    rw [e1]
    have q' : m d l (fun b σ1 => cmpA X op av b (fun c σ2 => ∃ t, c = .bool t ∧ if t then Mine.A.chain X d l Q Z b ms σ2 else Q (.bool false) σ2) σ1) Z σ := by subst hms; exact q
    have e3 : compareChain pos v (op :: op2 :: ops) (eval e env :: markedEach (op2 :: ops) es (evalEach es env)) = (do
        let rv ← holding [v] (eval e env)
        standAt pos
        let c ← holding [v, rv] (compareOp op v rv)
        release [v, rv] [c]
        if ← holding [c, rv] (truthy c) then compareChain pos rv (op2 :: ops) (markedEach (op2 :: ops) es (evalEach es env)) else pure c) := by
      subst hes
      cases ops <;> cases es2 <;> rfl
    rw [e3]
    refine wpAny_bind (wpAny_holding (seqQ (h d A l σ s _ Z L a F q') fun av2 v2 σ1 s1 rv2 a1 st1 q1 => ?_))
    refine wpAny_bind (wpAny_standAt ?_)
    refine backQ st1 ?_
    refine wpAny_bind (wpAny_holding (wpAny_mono (cmp_sound L a1 (rv.mono (st1.keepV0 a)) rv2 q1) (fun c s2 ⟨ac, σ2, rc, a2, st2, t, ht, q2⟩ => ?_) fun _ _ x => x))
    subst ht; cases rc
    refine wpAny_bind (wp_release ?_)
    refine wpAny_bind (wpAny_holding (wpAny_truthy_bool ?_))
    cases t with
    | false => exact wpAny_pure (liftQ.back st2 (retQ a2 (.bool _) (by simpa using q2)))
    | true =>
      refine backQ st2 ?_
      exact chain_sound hr L a2 ((F.step a st1).step a1 st2) (rv2.mono (st2.keepV0 a1)) (by simpa using q2)

theorem sound_cmp {pos : Pos} {e : Expr} {m : AE} {ops es ms} (h : SoundE X env nm e m) (hr : SoundOps X env nm ops es ms) : SoundE X env nm (.Compare e ops es pos) (A.cmp X m ms) := fun d A l σ s Q Z L a F q => by
  show wpAny X.M A (do compareChain pos (← eval e env) ops (markedEach ops es (evalEach es env))) _ _ s
  refine wpAny_bind (seqQ (h d A l σ s _ Z L a F q) fun av v σ1 s1 rv a1 st1 q1 => ?_)
  exact backQ st1 (chain_sound hr L a1 (F.step a st1) rv q1)
end
end Mine

set_option maxRecDepth 100000
set_option linter.unusedVariables false
set_option autoImplicit false
namespace Mine
open PySem PyProof.Rows PySem.SeqAt

section
variable {X : Cx} {env : Env} {nm : List (Str × Nat)}

theorem testChain_sound {pos : Pos} : ∀ {ops es ms}, SoundOps X env nm ops es ms → ∀ {d A l σ s Q Z av v}, Live d A → At X σ s → FR X env nm l σ s.heap → RepV s.heap av v → Mine.A.chain X d l (isB Q) Z av ms σ →
    wpAny X.M A (testChain pos v ops (markedEach ops es (evalEach es env))) (liftB X σ s Q) (liftX X σ s Z) s
  | _, _, _, .one (op := op) (e := e) (m := m) h hm, d, A, l, σ, s, Q, Z, av, v, L, a, F, rv, q => by
    show wpAny X.M A (do let rv ← holding [v] (markedBehindIn op e (eval e env)); standAt pos; let c ← operate [v, rv] (compareOp op v rv); holding [c] (truthy c)) _ _ s
    rw [markedBehindIn_of_false hm]
    refine wpAny_bind (wpAny_holding (seqQ (h d A l σ s _ Z L a F q) fun av2 v2 σ1 s1 rv2 a1 st1 q1 => ?_))
    refine wpAny_bind (wpAny_standAt ?_)
    refine backB st1 ?_
    unfold operate
    refine wpAny_bind (wpAny_bind (wpAny_holding (wpAny_mono (cmp_sound L a1 (rv.mono (st1.keepV0 a)) rv2 q1) (fun r s2 ⟨ac, σ2, rc, a2, st2, t, ht, q2⟩ => ?_) fun _ _ x => x)))
    subst ht; cases rc
    exact wpAny_bind (wp_release (wpAny_pure (wpAny_holding (wpAny_truthy_bool ⟨σ2, a2, st2, q2⟩))))
  | _, _, _, .cons (op := op) (e := e) (m := m) (op2 := op2) (ops := ops) (es := es) (ms := ms) h hr, d, A, l, σ, s, Q, Z, av, v, L, a, F, rv, q => by
    obtain ⟨e2, es2, hes⟩ : ∃ e2 es2, es = e2 :: es2 := by cases hr <;> exact ⟨_, _, rfl⟩
    obtain ⟨m2, ms2, hms⟩ : ∃ m2 ms2, ms = m2 :: ms2 := by
      cases ms with
      | nil => exact absurd rfl hr.ne
      | cons m2 ms2 => exact ⟨m2, ms2, rfl⟩
    have e1 : markedEach (op :: op2 :: ops) (e :: es) (evalEach (e :: es) env) = eval e env :: markedEach (op2 :: ops) es (evalEach es env) := by subst hes; rfl
    rw [e1]
    have q' : m d l (fun b σ1 => cmpA X op av b (fun c σ2 => ∃ t, c = .bool t ∧ if t then Mine.A.chain X d l (isB Q) Z b ms σ2 else isB Q (.bool false) σ2) σ1) Z σ := by subst hms; exact q
    have e3 : testChain pos v (op :: op2 :: ops) (eval e env :: markedEach (op2 :: ops) es (evalEach es env)) = (do
        let rv ← holding [v] (eval e env)
        standAt pos
        let c ← holding [v, rv] (compareOp op v rv)
        release [v, rv] [c]
        if ← holding [c, rv] (truthy c) then testChain pos rv (op2 :: ops) (markedEach (op2 :: ops) es (evalEach es env)) else pure false) := by
      subst hes
      cases ops <;> cases es2 <;> rfl
    rw [e3]
    refine wpAny_bind (wpAny_holding (seqQ (h d A l σ s _ Z L a F q') fun av2 v2 σ1 s1 rv2 a1 st1 q1 => ?_))
    refine wpAny_bind (wpAny_standAt ?_)
    refine backB st1 ?_
    refine wpAny_bind (wpAny_holding (wpAny_mono (cmp_sound L a1 (rv.mono (st1.keepV0 a)) rv2 q1) (fun c s2 ⟨ac, σ2, rc, a2, st2, t, ht, q2⟩ => ?_) fun _ _ x => x))
    subst ht; cases rc
    refine wpAny_bind (wp_release ?_)
    refine wpAny_bind (wpAny_holding (wpAny_truthy_bool ?_))
    cases t with
    | false =>
      simp only [Bool.false_eq_true, if_false] at q2 ⊢
      obtain ⟨b, hb, q3⟩ := q2; cases hb
      exact wpAny_pure ⟨σ2, a2, st2, q3⟩
    | true =>
      refine backB st2 ?_
      exact testChain_sound hr L a2 ((F.step a st1).step a1 st2) (rv2.mono (st2.keepV0 a1)) (by simpa using q2)

theorem soundB_cmp {pos : Pos} {e : Expr} {m : AE} {ops es ms} (h : SoundE X env nm e m) (hr : SoundOps X env nm ops es ms) : SoundB X env nm (.Compare e ops es pos) (A.cmp X m ms) := fun d A l σ s Q Z L a F q => by
  show wpAny X.M A (do testChain pos (← eval e env) ops (markedEach ops es (evalEach es env))) _ _ s
  refine wpAny_bind (seqQ (h d A l σ s _ Z L a F q) fun av v σ1 s1 rv a1 st1 q1 => ?_)
  exact backB st1 (testChain_sound hr L a1 (F.step a st1) rv q1)
end
end Mine

set_option maxRecDepth 100000
set_option linter.unusedVariables false
set_option autoImplicit false
namespace Mine
open PySem PyProof.Rows PySem.SeqAt

def atIdx {α : Type} (xs : List α) (k : Int) : Option α := if 0 ≤ k then xs[k.toNat]? else if -(xs.length : Int) ≤ k then xs[(k + xs.length).toNat]? else none

/-- hook for dicts -/

inductive idxA (X : Cx) : AV → AV → Post → AHeap → Prop
  | tup {xs : List AV} {k : Int} {x : AV} {Q : Post} {σ : AHeap} (e : atIdx xs k = some x) (h : Q x σ) : idxA X (.tup xs) (.int k) Q σ
  | list {p : Addr} {xs : List AV} {k : Int} {x : AV} {Q : Post} {σ : AHeap} (hp : listAt p xs σ) (e : atIdx xs k = some x) (h : Q x σ) : idxA X (.ref p) (.int k) Q σ

def cut (xs : List AV) (lo hi : Option Int) : List AV := (xs.drop (lo.elim 0 (clipAt xs.length))).take (hi.elim xs.length (clipAt xs.length) - lo.elim 0 (clipAt xs.length))
def sliceA (a : AV) (lo hi : Option Int) (Q : Post) (σ : AHeap) : Prop := match a with
  | .ref p => ∃ xs, listAt p xs σ ∧ ∀ r, σ r = none → Q (.ref r) (σ.set r (.list (cut xs lo hi)))
  | .tup xs => ∃ k : Nat, lo = some (k : Int) ∧ hi = none ∧ 1 ≤ k ∧ k ≤ xs.length ∧ Q (.tup (xs.drop k)) σ
  | _ => False

section
variable {X : Cx} {A : Around} {σ : AHeap} {s : Shared} {Q : Post} {E : Value → Shared → Prop} {d : Nat}

theorem atIdx_rep {h : Heap} {xs : List AV} {vs : List Value} {k : Int} {x : AV} (r : RepVs h xs vs) (e : atIdx xs k = some x) : ∃ v, RepV h x v ∧ ((0 ≤ k ∧ vs[k.toNat]? = some v) ∨ (k < 0 ∧ -(vs.length : Int) ≤ k ∧ vs[(k + vs.length).toNat]? = some v)) := by
  unfold atIdx at e
  split at e
  · obtain ⟨v, h1, h2⟩ := r.get e; exact ⟨v, h2, .inl ⟨by assumption, h1⟩⟩
  · split at e
    · obtain ⟨v, h1, h2⟩ := r.get e
      rw [r.length] at h1
      rename_i h3 h4
      rw [r.length] at h4
      exact ⟨v, h2, .inr ⟨by lia, h4, h1⟩⟩
    · cases e

theorem getItem_sound {x i : AV} {u v : Value} (a : At X σ s) (rx : RepV s.heap x u) (ri : RepV s.heap i v) (q : idxA X x i Q σ) :
    wpAny X.M A (getItem u v) (liftQ X σ s Q) E s ∧ ∃ T id, s.TypeIs u T ∧ typeLookup (.type T) "__getitem__" = pure (some (.builtin id)) := by
  cases q with
  | @tup xs k y _ _ hy q =>
    cases rx with
    | @tup _ t vs hl ht rs =>
      cases ri
      obtain ⟨w, rw_, hw⟩ := atIdx_rep rs hy
      have hlen := rs.length
      refine ⟨?_, "tuple", _, ht.typeIs, slot_tuple_getitem.lookup⟩
      rcases hw with ⟨h1, h2⟩ | ⟨h1, h2, h3⟩
      · have h4 : k.toNat < vs.length := (List.getElem?_eq_some_iff.mp h2).1
        exact getItem_tuple ht (by lia) (by lia) (seqIndex_of h1 (by simp; lia)) (by simpa using h2) (retQ a rw_ q)
      · exact getItem_tuple ht (by lia) (by lia) (seqIndex_neg h1 (by simpa using h2)) (by simpa using h3) (retQ a rw_ q)
  | @list p xs k y _ _ hp hy q =>
      cases rx; cases ri
      obtain ⟨vs, hl, rs⟩ := a.isList hp
      obtain ⟨w, rw_, hw⟩ := atIdx_rep rs hy
      have hlen := rs.length
      have hm := a.len hp
      refine ⟨?_, "list", _, hl.typeIs, slot_list_getitem.lookup⟩
      rcases hw with ⟨h1, h2⟩ | ⟨h1, h2, h3⟩
      · have h4 : k.toNat < vs.length := (List.getElem?_eq_some_iff.mp h2).1
        exact wpAny_getItem_list hl h1 (by lia) (by simpa using h2) (retQ a rw_ q)
      · exact wpAny_getItem_list_neg hl h1 (by simpa using h2) (by lia) (by simpa using h3) (retQ a rw_ q)

theorem RepVs.cut {h : Heap} {xs : List AV} {vs : List Value} (r : RepVs h xs vs) (lo hi : Option Int) : RepVs h (cut xs lo hi) (slicePick vs.toArray lo hi none).toList := by
  rw [slicePick_plain]
  unfold Mine.cut
  simp only [List.size_toArray, r.length]
  exact (r.drop _).take _

theorem cut_length (xs : List AV) (lo hi : Option Int) : (cut xs lo hi).length ≤ xs.length := by
  unfold cut
  rw [List.length_take, List.length_drop]; lia
end

def notSlice : Expr → Bool
  | .Slice .. => false
  | _ => true
theorem subscripted_plain {e : Expr} (h : notSlice e = true) (o i : Value) : subscripted e false o i = operate [o, i] (getItem o i) := by
  cases e <;> first | rfl | (simp [notSlice] at h)

namespace A
def idx (X : Cx) (x i : AE) : AE := fun d l Q Z σ => x d l (fun a σ1 => i d l (fun b σ2 => idxA X a b Q σ2) Z σ1) Z σ
def opt (m : Option AE) (d : Nat) (l : Loc) (Q : Option Int → AHeap → Prop) (Z : XP) (σ : AHeap) : Prop := match m with
  | none => Q none σ
  | some m => m d l (fun v σ1 => ∃ i, v = .int i ∧ Q (some i) σ1) Z σ
def slice (x : AE) (lo hi : Option AE) : AE := fun d l Q Z σ => x d l (fun a σ1 => opt lo d l (fun lo' σ2 => opt hi d l (fun hi' σ3 => sliceA a lo' hi' Q σ3) Z σ2) Z σ1) Z σ
end A

def SoundO (X : Cx) (env : Env) (nm : List (Str × Nat)) : Option Expr → Option AE → Prop
  | none, none => True
  | some e, some m => SoundE X env nm e m
  | _, _ => False

section
variable {X : Cx} {env : Env} {nm : List (Str × Nat)}

theorem sound_idx {e i : Expr} {m mi : AE} {pos : Pos} (h : SoundE X env nm e m) (hi : SoundE X env nm i mi) (hn : notSlice i = true) : SoundE X env nm (.Subscript e i pos) (A.idx X m mi) := fun d A l σ s Q Z L a F q => by
  refine Subscript_ (seqQ (h d A l σ s _ Z L a F q) fun av v σ1 s1 rv a1 st1 q1 => ?_)
  refine wpAny_mono (hi d A l σ1 s1 _ Z L a1 (F.step a st1) q1) (fun v2 s2 ⟨av2, σ2, rv2, a2, st2, q2⟩ => ?_) fun _ _ x => x.back st1
  obtain ⟨h1, T, id, hT, hl⟩ := getItem_sound (A := A) (E := liftX X σ2 s2 Z) a2 (rv.mono (st2.keepV0 a1)) rv2 q2
  exact backQ (st1.trans st2) (tail_any hT hl h1 (subscripted_plain hn _ _))

theorem opt_sound {e : Option Expr} {m : Option AE} (h : SoundO X env nm e m) {d A l σ s Q Z} (L : Live d A) (a : At X σ s) (F : FR X env nm l σ s.heap) (q : Mine.A.opt m d l Q Z σ) {R : Value → Shared → Prop}
    (k : ∀ v o s' σ', IsPart v o → At X σ' s' → Step E0 σ s σ' s' → Q o σ' → R v s') : wpAny X.M A (valueOrNone (evalOpt e env)) R (liftX X σ s Z) s := by
  cases e with
  | none =>
    cases m with
    | none => exact wpAny_pure (k _ _ _ _ .none a (.refl ..) q)
    | some m => exact h.elim
  | some e =>
    cases m with
    | none => exact h.elim
    | some m =>
      refine wpAny_mono (h d A l σ s _ Z L a F q) (fun v s1 ⟨av, σ1, rv, a1, st1, i, hi, q1⟩ => ?_) fun _ _ x => x
      subst hi; cases rv
      exact k _ _ _ _ (.int _ _) a1 st1 q1

theorem sound_slice {e : Expr} {lo hi : Option Expr} {m : AE} {mlo mhi : Option AE} {p pos : Pos} (h : SoundE X env nm e m) (hlo : SoundO X env nm lo mlo) (hhi : SoundO X env nm hi mhi) :
    SoundE X env nm (.Subscript e (.Slice lo hi none p) pos) (A.slice m mlo mhi) := fun d A l σ s Q Z L a F q => by
  refine Subscript_ (seqQ (h d A l σ s _ Z L a F q) fun av v σ1 s1 rv a1 st1 q1 => ?_)
  have F1 := F.step a st1
  show wpAny X.M A (do let l ← valueOrNone (evalOpt lo env); let u ← holding [l] (valueOrNone (evalOpt hi env)); let s ← holding [l, u] (valueOrNone (evalOpt none env)); newFields "slice" [l, u, s]) _ _ s1
  refine wpAny_bind (wpAny_mono (opt_sound hlo L a1 F1 q1 (R := fun v2 s2 => ∃ o σ2, IsPart v2 o ∧ At X σ2 s2 ∧ Step E0 σ1 s1 σ2 s2 ∧ _) fun v2 o s2 σ2 p2 a2 st2 q2 => ⟨o, σ2, p2, a2, st2, q2⟩) (fun v2 s2 ⟨o, σ2, p2, a2, st2, q2⟩ => ?_) fun _ _ x => x.back st1)
  have F2 := F1.step a1 st2
  refine wpAny_bind (wpAny_holding (wpAny_mono (opt_sound hhi L a2 F2 q2 (R := fun v3 s3 => ∃ o σ3, IsPart v3 o ∧ At X σ3 s3 ∧ Step E0 σ2 s2 σ3 s3 ∧ _) fun v3 o s3 σ3 p3 a3 st3 q3 => ⟨o, σ3, p3, a3, st3, q3⟩) (fun v3 s3 ⟨o3, σ3, p3, a3, st3, q3⟩ => ?_) fun _ _ x => x.back (st1.trans st2)))
  refine wpAny_bind (wpAny_holding (wpAny_pure ?_))
  refine wpAny_newObj_type ?_
  have rv3 := (rv.mono (st2.keepV0 a1)).mono (st3.keepV0 a2)
  have st13 := st1.trans (st2.trans st3)
  generalize hso : ({ cls := .type "slice", data := .fields #[v2, v3, Value.none] } : Obj) = so
  have st4 : Step E0 σ3 s3 σ3 { s3 with heap := s3.heap.push so } := Step.push σ3 s3 so s3.toks
  have a4 : At X σ3 { s3 with heap := s3.heap.push so } := a3.push so s3.toks
  have rv4 := rv3.mono (st4.keepV0 a3)
  have hsl : (s3.heap.push so).IsSliceOf s3.heap.objs.size v2 v3 .none := by rw [← hso]; exact Heap.IsSliceOf.new ..
  refine backQ (st13.trans st4) ?_
  unfold sliceA at q3
  split at q3
  · obtain ⟨xs, hp, q3⟩ := q3
    cases rv4
    obtain ⟨vs, hl, rs⟩ := a4.isList hp
    have hm := a4.len hp
    refine tail_any (ops := [.ref s3.heap.objs.size, _]) hl.typeIs slot_list_getitem.lookup (wpAny_getItem_list_slice hl hsl p2 p3 .none (by simp) ?_ (by simp [← rs.length, sizeLine_eq]; lia)) rfl
    generalize hH : ({ s3 with heap := s3.heap.push so } : Shared) = s4 at a4 rs hl ⊢
    have hh : s4.heap = s3.heap.push so := by rw [← hH]
    have kv : KeepV s4.heap (s4.heap.push { cls := .type "list", data := .seq (slicePick vs.toArray o o3 none) }) := fun b o e _ => Heap.get?_push_of_some _ e
    refine ⟨.ref s4.heap.objs.size, _, ?_, a4.alloc (ao := .list (cut xs o o3)) s4.toks ⟨(slicePick vs.toArray o o3 none).toList, 0, ?_, (rs.cut o o3).mono kv, Nat.le_trans (cut_length ..) hm⟩, Step.alloc σ3 s4 _ _ s4.toks, q3 _ (a4.none_of_size (Nat.le_refl _))⟩
    · rw [hh]; exact .ref _
    · exact Heap.get?_push_size _ rfl
  · obtain ⟨k, rfl, rfl, h1, h2, q3⟩ := q3
    cases rv4 with
    | @tup xs t vs hl ht rs =>
      cases p2; cases p3
      have hlen := rs.length
      refine tail_any (ops := [.ref s3.heap.objs.size, _]) ht.typeIs slot_tuple_getitem.lookup (getItem_tuple_from ht hsl h1 (by simp; lia) ?_ (by simp [sizeLine_eq]; lia)) rfl
      generalize hH : ({ s3 with heap := s3.heap.push so } : Shared) = s4 at a4 rs ht ⊢
      have hh : s4.heap = s3.heap.push so := by rw [← hH]
      have kv : KeepV s4.heap (s4.heap.push { cls := .type "tuple", data := .seq (vs.toArray.toList.drop k).toArray }) := fun b o e _ => Heap.get?_push_of_some _ e
      refine ⟨_, σ3, .tup (by rw [List.length_drop]; lia) (vs := vs.drop k) ⟨{ cls := .type "tuple", data := .seq (vs.toArray.toList.drop k).toArray }, ?_, rfl, 0, by simp⟩ ((rs.drop k).mono kv), a4.push _ s4.toks, Step.push σ3 s4 _ s4.toks, q3⟩
      rw [hh]; exact Heap.get?_push_size _ rfl
  · exact q3.elim
end
end Mine

set_option maxRecDepth 100000
set_option linter.unusedVariables false
set_option autoImplicit false
namespace Mine
open PySem PyProof.Rows PySem.SeqAt

abbrev Prim := List AV → Post → AHeap → Prop
def SoundPrim (X : Cx) (f : Value) (p : Prim) : Prop :=
  ∀ d A σ s as vs Q E, Live d A → At X σ s → RepVs s.heap as vs → p as Q σ → wpAny X.M A (PySem.call f vs) (liftQ X σ s Q) E s

namespace A
def prim (p : Prim) (args : List AE) : AE := fun d l Q Z σ => evalL args d l (fun as σ' => p as Q σ') Z σ
end A

section
variable {X : Cx} {env : Env} {nm : List (Str × Nat)}

theorem sound_prim {x : Str} {f : Value} {p : Prim} {es : List Expr} {ms : List AE} {gp pos : Pos} (XO : X.Ok) (EO : EnvOk env) (hx : env.kindOf x = some .globalImplicit) (hd : (x == ("__debug__" : Str)) = false) (hn : X.mg x = none) (hv : X.mb x = some f)
    (hf : (∃ id, f = .builtin id) ∨ ∃ T, f = .type T) (hp : SoundPrim X f p) (h : SoundEs X env nm es ms) : SoundE X env nm (.Call (.Name x gp) es [] pos) (A.prim p ms) := fun d A l σ s Q Z L a F q => by
  refine Call_ (wp_builtin XO EO a hx hd hn hv ?_)
  rcases hf with ⟨id, rfl⟩ | ⟨T, rfl⟩
  · refine Calls.callWith_builtin h.plain (sound_args h L a F q fun vs s1 ⟨avs, σ1, r, a1, st, q1⟩ => ?_)
    exact backQ st (hp d A σ1 s1 avs vs Q _ L a1 r q1)
  · refine PyProof.Rows.callWith_type h.plain (sound_args h L a F q fun vs s1 ⟨avs, σ1, r, a1, st, q1⟩ => ?_)
    exact backQ st (hp d A σ1 s1 avs vs Q _ L a1 r q1)
end

inductive pLen : List AV → Post → AHeap → Prop
  | tup {xs : List AV} {Q : Post} {σ : AHeap} (h : Q (.int xs.length) σ) : pLen [.tup xs] Q σ
  | list {p : Addr} {xs : List AV} {Q : Post} {σ : AHeap} (hp : listAt p xs σ) (h : Q (.int xs.length) σ) : pLen [.ref p] Q σ
inductive pRange : List AV → Post → AHeap → Prop
  | one {n : Int} {Q : Post} {σ : AHeap} (h : Q (.rng 0 n) σ) : pRange [.int n] Q σ
  | two {a b : Int} {Q : Post} {σ : AHeap} (h : Q (.rng a b) σ) : pRange [.int a, .int b] Q σ
/-- the intL of a range -/
def rngL (lo hi : Int) : List AV := intL lo (hi - lo).toNat
inductive pList : List AV → Post → AHeap → Prop
  | list {p : Addr} {xs : List AV} {Q : Post} {σ : AHeap} (hp : listAt p xs σ) (h : ∀ r, σ r = none → Q (.ref r) (σ.set r (.list xs))) : pList [.ref p] Q σ
  | tup {xs : List AV} {Q : Post} {σ : AHeap} (h : ∀ r, σ r = none → Q (.ref r) (σ.set r (.list xs))) : pList [.tup xs] Q σ

section
variable {X : Cx}

theorem repVs1 {h : Heap} {x : AV} {vs : List Value} (r : RepVs h [x] vs) : ∃ v, vs = [v] ∧ RepV h x v := by
  cases r with
  | cons a r => cases r; exact ⟨_, rfl, a⟩
theorem repVs2 {h : Heap} {x y : AV} {vs : List Value} (r : RepVs h [x, y] vs) : ∃ v w, vs = [v, w] ∧ RepV h x v ∧ RepV h y w := by
  cases r with
  | cons a r => cases r with
    | cons b r => cases r; exact ⟨_, _, rfl, a, b⟩

theorem sound_len : SoundPrim X (.builtin "len") pLen := fun d A σ s as vs Q E L a r q => by
  cases q with
  | tup q =>
    obtain ⟨v, rfl, rv⟩ := repVs1 r
    cases rv with
    | @tup xs t vs hl ht rs =>
      have hlen := rs.length
      refine len_tuple ht (by simp; lia) ?_
      have e : (vs.toArray.size : Int) = vs.length := by simp
      rw [e, ← hlen]; exact retT a (.int _ _) q
  | @list p xs _ _ hp q =>
    obtain ⟨v, rfl, rv⟩ := repVs1 r
    cases rv
    obtain ⟨vs, hl, rs⟩ := a.isList hp
    have hlen := rs.length
    have hm := a.len hp
    refine Calls.call_len_list hl (by simp; lia) ?_
    have e : (vs.toArray.size : Int) = xs.length := by simp [hlen]
    rw [e]; exact retT a (.int _ _) q

theorem sound_range : SoundPrim X (.type "range") pRange := fun d A σ s as vs Q E L a r q => by
  cases q with
  | one q =>
    obtain ⟨v, rfl, rv⟩ := repVs1 r
    cases rv
    exact call_range_1 ⟨_, σ, .rng (Heap.get?_push_size _ rfl), a.push _ _, Step.push σ s _ _, q⟩
  | two q =>
    obtain ⟨v, w, rfl, rv, rw_⟩ := repVs2 r
    cases rv; cases rw_
    exact call_range_2 ⟨_, σ, .rng (Heap.get?_push_size _ rfl), a.push _ _, Step.push σ s _ _, q⟩

theorem newListAt {σ : AHeap} {s : Shared} {h' : Heap} {t : Nat} {xs : List AV} {vs : List Value} {n : Nat} {Q : Post} (a : At X σ s) (hk : ∀ b o, s.heap.get? b = some o → h'.get? b = some o) (hn : h'.get? s.heap.objs.size = some (listObj vs n)) (r : RepVs h' xs vs)
    (hl : xs.length ≤ 1000000) (hsz : s.heap.objs.size ≤ h'.objs.size) (q : ∀ r, σ r = none → Q (.ref r) (σ.set r (.list xs))) : liftQ X σ s Q (.ref s.heap.objs.size) { s with heap := h', toks := t } := by
  have kv : KeepV s.heap h' := fun b o e _ => hk b o e
  have hσ := a.none_of_size (b := s.heap.objs.size) (Nat.le_refl _)
  refine ⟨.ref _, σ.set s.heap.objs.size (.list xs), .ref _, ⟨fun b o e => hk b o (a.keep b o e), fun b ao e => ?_, fun b ao e hro => ?_, a.gens, a.os⟩, ⟨fun b o e _ _ => hk b o e, fun b h1 h2 => ?_, hsz⟩, q _ hσ⟩
  · by_cases hb : b = s.heap.objs.size
    · subst hb; rw [AHeap.set_self] at e; cases e; exact ⟨vs, n, hn, r, hl⟩
    · rw [AHeap.set_ne _ _ hb] at e; exact (a.rep b ao e).mono kv fun o ho => hk b o ho
  · by_cases hb : b = s.heap.objs.size
    · subst hb
      cases h : X.h₀.get? s.heap.objs.size with
      | none => rfl
      | some ob => exact absurd (Heap.lt_size (a.keep _ _ h)) (Nat.lt_irrefl _)
    · rw [AHeap.set_ne _ _ hb] at e; exact a.own b ao e hro
  · by_cases hb : b = s.heap.objs.size
    · rw [hb]; exact Nat.le_refl _
    · rw [AHeap.set_ne _ _ hb] at h1; exact absurd h2 h1

theorem sound_list : SoundPrim X (.type "list") pList := fun d A σ s as vs Q E L a r q => by
  cases q with
  | list hp q =>
    obtain ⟨v, rfl, rv⟩ := repVs1 r
    cases rv
    obtain ⟨vs, ⟨o, ho, hc, n, hd⟩, rs⟩ := a.isList hp
    have hlen := rs.length
    have hm := a.len hp
    refine with_size (call_list_seq _ (.inl rfl) ho hc hd (fun h' c' hk hn hsz => ?_) (by simp [sizeLine_eq]; lia))
    exact newListAt (t := s.toks) a hk hn (rs.mono fun b o e _ => hk b o e) hm hsz q
  | tup q =>
    obtain ⟨v, rfl, rv⟩ := repVs1 r
    cases rv with
    | @tup xs t vs hl ht rs =>
      obtain ⟨o, ho, hc, n, hd⟩ := ht
      have hlen := rs.length
      refine with_size (call_list_seq _ (.inr rfl) ho hc hd (fun h' c' hk hn hsz => ?_) (by simp [sizeLine_eq]; lia))
      exact newListAt (t := s.toks) a hk hn (rs.mono fun b o e _ => hk b o e) hl hsz q
end

/-- kinds that the text asks for -/
inductive PyT where
  | tuple | str | int | bool | list | dict
  deriving DecidableEq
def PyT.name : PyT → String
  | .tuple => "tuple" | .str => "str" | .int => "int" | .bool => "bool" | .list => "list" | .dict => "dict"
/-- whether a value is of a kind -/
def isA (T : PyT) (x : AV) (σ : AHeap) : Option Bool := match x with
  | .none => some false
  | .bool _ => some (T == .bool || T == .int)
  | .int _ => some (T == .int)
  | .str _ => some (T == .str)
  | .tup _ => some (T == .tuple)
  | .ref p => match σ p with
    | some (.list _) => some (T == .list)
    | some (.rolist _) => some (T == .list)
    | some (.tdict _) => some (T == .dict)
    | _ => none
  | _ => none

theorem meta_T (T : PyT) : typeOf (.type T.name) = pure (.type "type") := by cases T <;> (unfold PyT.name; kernel_rfl)

theorem sub_T (K : String) (hK : K = "int" ∨ K = "bool" ∨ K = "str" ∨ K = "tuple" ∨ K = "list" ∨ K = "dict" ∨ K = "NoneType") (T : PyT) :
    isSubtype (.type K) (.type T.name) = pure (K == T.name || (K == "bool" && T.name == "int")) := by
  rcases hK with rfl | rfl | rfl | rfl | rfl | rfl | rfl <;> cases T <;> (unfold PyT.name; rw [isSubtype_type]; kernel_rfl)

def pIsA (T : PyT) (x : AV) (Q : Post) (σ : AHeap) : Prop := ∃ b, isA T x σ = some b ∧ Q (.bool b) σ

section
variable {X : Cx} {A : Around} {σ : AHeap} {s : Shared} {Q : Post} {E : Value → Shared → Prop}

theorem isa_sound {T : PyT} {x : AV} {v : Value} (a : At X σ s) (rx : RepV s.heap x v) (q : pIsA T x Q σ) : wpAny X.M A (PySem.call (.builtin "isinstance") [v, .type T.name]) (liftQ X σ s Q) E s := by
  obtain ⟨b, hb, q⟩ := q
  have tt : ∀ {K : String} (hK : K = "int" ∨ K = "bool" ∨ K = "str" ∨ K = "tuple" ∨ K = "list" ∨ K = "dict" ∨ K = "NoneType"), s.TypeIs v K → (K == T.name || (K == "bool" && T.name == "int")) = true → Q (.bool true) σ →
      wpAny X.M A (PySem.call (.builtin "isinstance") [v, .type T.name]) (liftQ X σ s Q) E s := fun {K} hK hT e q' =>
    call_isinstance (isinstance_true (Tx := K) (meta_T T) (by rw [sub_T K hK, e])) ⟨hT, retQ a (.bool _) q'⟩
  have nb : ∀ {K : String}, (K == T.name || (K == "bool" && T.name == "int")) = false → (Value.type K == Value.type T.name) = false := fun {K} h => by
    simp only [Bool.or_eq_false_iff] at h
    have h1 : K ≠ T.name := by simpa using h.1
    simpa using h1
  have nsb : ∀ {K : String} (hK : K = "int" ∨ K = "bool" ∨ K = "str" ∨ K = "tuple" ∨ K = "list" ∨ K = "dict" ∨ K = "NoneType"), (K == T.name || (K == "bool" && T.name == "int")) = false → isSubtype (.type K) (.type T.name) = pure false :=
    fun {K} hK h => by rw [sub_T K hK, h]
  have fin : liftQ X σ s Q (.bool b) { s with toks := s.toks + 1 } := retT a (.bool _) q
  cases rx with
  | none =>
    simp only [isA, Option.some.injEq] at hb; subst hb
    have h0 : ("NoneType" == T.name || ("NoneType" == "bool" && T.name == "int")) = false := by cases T <;> decide
    exact call_isinstance (isinstance_false_none (nb h0) (meta_T T) (nsb (by simp) h0)) fin
  | bool c =>
    simp only [isA, Option.some.injEq] at hb
    have h0 : ("bool" == T.name || ("bool" == "bool" && T.name == "int")) = b := by rw [← hb]; cases T <;> decide
    cases b with
    | true => exact tt (K := "bool") (by simp) rfl h0 q
    | false => exact call_isinstance (isinstance_false_bool (nb h0) (meta_T T) (nsb (by simp) h0)) fin
  | int c t =>
    simp only [isA, Option.some.injEq] at hb
    have h0 : ("int" == T.name || ("int" == "bool" && T.name == "int")) = b := by rw [← hb]; cases T <;> decide
    cases b with
    | true => exact tt (K := "int") (by simp) rfl h0 q
    | false => exact call_isinstance (isinstance_false_int (nb h0) (meta_T T) (nsb (by simp) h0)) fin
  | str c t =>
    simp only [isA, Option.some.injEq] at hb
    have h0 : ("str" == T.name || ("str" == "bool" && T.name == "int")) = b := by rw [← hb]; cases T <;> decide
    cases b with
    | true => exact tt (K := "str") (by simp) rfl h0 q
    | false => exact call_isinstance (isinstance_false_str (nb h0) (meta_T T) (nsb (by simp) h0)) fin
  | tup hl ht rs =>
    simp only [isA, Option.some.injEq] at hb
    have h0 : ("tuple" == T.name || ("tuple" == "bool" && T.name == "int")) = b := by rw [← hb]; cases T <;> decide
    cases b with
    | true => exact tt (K := "tuple") (by simp) ht.typeIs h0 q
    | false =>
      obtain ⟨o, ho, hc, _⟩ := ht
      exact call_isinstance (isinstance_false_tuple (nb h0) (meta_T T) (nsb (by simp) h0)) ⟨⟨o, ho, hc⟩, fin⟩
  | ref p =>
    unfold isA at hb
    dsimp only at hb
    split at hb
    · rename_i xs hp
      simp only [Option.some.injEq] at hb
      obtain ⟨vs, ⟨o, ho, hc, n, hd⟩, rs⟩ := a.isList (.inl hp)
      have h0 : ("list" == T.name || ("list" == "bool" && T.name == "int")) = b := by rw [← hb]; cases T <;> decide
      cases b with
      | true => exact tt (K := "list") (by simp) ⟨o, ho, hc⟩ h0 q
      | false => exact call_isinstance (isinstance_false_list (nb h0) (meta_T T) (nsb (by simp) h0)) ⟨⟨o, ho, hc⟩, fin⟩
    · rename_i xs hp
      simp only [Option.some.injEq] at hb
      obtain ⟨vs, ⟨o, ho, hc, n, hd⟩, rs⟩ := a.isList (.inr hp)
      have h0 : ("list" == T.name || ("list" == "bool" && T.name == "int")) = b := by rw [← hb]; cases T <;> decide
      cases b with
      | true => exact tt (K := "list") (by simp) ⟨o, ho, hc⟩ h0 q
      | false => exact call_isinstance (isinstance_false_list (nb h0) (meta_T T) (nsb (by simp) h0)) ⟨⟨o, ho, hc⟩, fin⟩
    · rename_i kvs hp
      simp only [Option.some.injEq] at hb
      obtain ⟨es, n, ho, rs⟩ := a.rep _ _ hp
      have h0 : ("dict" == T.name || ("dict" == "bool" && T.name == "int")) = b := by rw [← hb]; cases T <;> decide
      cases b with
      | true => exact tt (K := "dict") (by simp) ⟨_, ho, rfl⟩ h0 q
      | false => exact call_isinstance (isinstance_false_dict (nb h0) (meta_T T) (nsb (by simp) h0)) ⟨⟨_, ho, rfl⟩, fin⟩
    · cases hb
  | rng _ => simp [isA] at hb
  | exc _ _ _ => simp [isA] at hb
end

namespace A
def isa (T : PyT) (x : AE) : AE := fun d l Q Z σ => x d l (fun a σ1 => pIsA T a Q σ1) Z σ
end A

section
variable {X : Cx} {env : Env} {nm : List (Str × Nat)}
theorem sound_isa {T : PyT} {Tn : Str} {e : Expr} {m : AE} {gp tp pos : Pos} (XO : X.Ok) (EO : EnvOk env) (hx : env.kindOf "isinstance" = some .globalImplicit) (hn : X.mg "isinstance" = none) (hv : X.mb "isinstance" = some (.builtin "isinstance"))
    (hxT : env.kindOf Tn = some .globalImplicit) (hd : (Tn == ("__debug__" : Str)) = false) (hnT : X.mg Tn = none) (hvT : X.mb Tn = some (.type T.name)) (hs : notStar e = true) (h : SoundE X env nm e m) :
    SoundE X env nm (.Call (.Name "isinstance" gp) [e, .Name Tn tp] [] pos) (A.isa T m) := fun d A l σ s Q Z L a F q => by
  refine Call_ (wp_builtin XO EO a hx (by decide) hn hv ?_)
  refine Calls.callWith_builtin ?_ ?_
  · rw [starEach_cons hs]; rfl
  rw [starEach_cons hs]
  refine Calls.evalArgs_plain ?_
  show wpAny X.M A (spliced ((false, eval e env) :: backTo pos (starEach [.Name Tn tp] env))) _ _ s
  refine Calls.spliced_cons (seqQ (h d A l σ s _ Z L a F q) fun av v σ1 s1 rv a1 st1 q1 => ?_)
  show wpAny X.M A (spliced ((false, eval (.Name Tn tp) env) :: [])) _ _ s1
  refine Calls.spliced_cons (wp_builtin XO EO a1 hxT hd hnT hvT (Calls.spliced_nil ?_))
  exact backQ st1 (isa_sound a1 rv q1)
end
end Mine

set_option maxRecDepth 100000
set_option linter.unusedVariables false
set_option autoImplicit false
namespace Mine
open PySem PyProof.Rows PySem.SeqAt

section
variable {X : Cx} {env : Env} {nm : List (Str × Nat)}

/-- names of a tuple target, each with its number -/
inductive Names (env : Env) (nm : List (Str × Nat)) : List Expr → List Nat → Prop
  | nil : Names env nm [] []
  | cons {x pos es i is} : nm.lookup x = some i → (env.kindOf x = some .local ∨ env.kindOf x = some .cell) → Names env nm es is → Names env nm (.Name x pos :: es) (i :: is)

theorem Names.length {env : Env} {nm : List (Str × Nat)} : ∀ {es is}, Names env nm es is → es.length = is.length
  | _, _, .nil => rfl
  | _, _, .cons _ _ r => by simp [r.length]

/-- the same inside a comprehension: its own names alone -/
inductive NamesL (env : Env) (nm : List (Str × Nat)) : List Expr → List Nat → Prop
  | nil : NamesL env nm [] []
  | cons {x pos es i is} : nm.lookup x = some i → env.kindOf x = some .local → NamesL env nm es is → NamesL env nm (.Name x pos :: es) (i :: is)
theorem soundTC_one {x : Str} {pos : Pos} {i : Nat} (EO : EnvOk env) (hx : nm.lookup x = some i) (hk : env.kindOf x = some .local) : SoundTC X env nm (.Name x pos) (.one i) := fun d A l l' σ s y v Q E L a F r hb h => by
  cases hb
  exact wpAny_assign_Name (wp_storeL EO F a hx hk r h)

end
end Mine

set_option maxRecDepth 100000
set_option linter.unusedVariables false
set_option autoImplicit false
namespace Mine
open PySem PyProof.Rows PySem.SeqAt

def itemsA (v : AV) (σ : AHeap) (K : (AHeap → Prop) → List AV → Prop) : Prop := match v with
  | .ref p => ∃ xs, listAt p xs σ ∧ K (listAt p xs) xs
  | .tup xs => K (fun _ => True) xs
  | .rng lo hi => -1000000000000 < lo ∧ lo < 1000000000000 ∧ -1000000000000 < hi ∧ hi < 1000000000000 ∧ K (fun _ => True) (rngL lo hi)
  | _ => False

structure IterAt (X : Cx) (A : Around) (target : Expr) (σ : AHeap) (s : Shared) (K : (AHeap → Prop) → List AV → Prop) (it : Value) (s' : Shared) : Prop where
  ex : ∃ I xs W St, ItOk X A target it I xs W St ∧ St 0 s'.heap ∧ (∀ b, W b → σ b = none ∧ X.h₀.get? b = none ∧ s.heap.objs.size ≤ b) ∧ I σ ∧ K I xs
  at_ : At X σ s'
  step : Step E0 σ s σ s'

section
variable {X : Cx} {A : Around} {σ : AHeap} {s : Shared} {E : Value → Shared → Prop} {d : Nat} {target : Expr}

theorem new_out (a : At X σ s) {b : Nat} (hb : s.heap.objs.size ≤ b) : σ b = none ∧ X.h₀.get? b = none ∧ s.heap.objs.size ≤ b := ⟨a.none_of_size hb, by
  cases h : X.h₀.get? b with
  | none => rfl
  | some ob => exact absurd (Heap.lt_size (a.keep _ _ h)) (Nat.not_lt.mpr hb), hb⟩

theorem iter_sound {v : AV} {u : Value} {K : (AHeap → Prop) → List AV → Prop} (L : Live d A) (a : At X σ s) (r : RepV s.heap v u) (h : itemsA v σ K) : wpAny X.M A (pyIter u) (IterAt X A target σ s K) E s := by
  unfold itemsA at h
  split at h
  · cases r
    obtain ⟨xs, hp, k⟩ := h
    obtain ⟨vs, hl, rs⟩ := a.isList hp
    refine wpAny_pyIter_list hl ⟨⟨_, xs, _, _, itOk_list L.handled s.heap.objs.size _ xs, ⟨_, Heap.get?_push_size _ rfl, rfl, rfl⟩, fun b hb => by subst hb; exact new_out a (Nat.le_refl _), hp, k⟩, a.push _ s.toks, Step.push σ s _ s.toks⟩
  · cases r with
    | @tup xs t vs hl ht rs =>
      refine wpAny_pyIter_tuple ht ⟨⟨_, _, _, _, itOk_tuple L.handled s.heap.objs.size t _, ⟨⟨_, Heap.get?_push_size _ rfl, rfl, rfl⟩, vs, ?_, ?_⟩, fun b hb => by subst hb; exact new_out a (Nat.le_refl _), trivial, h⟩, a.push _ s.toks, Step.push σ s _ s.toks⟩
      · obtain ⟨o, ho, q⟩ := ht; exact ⟨o, Heap.get?_push_of_some _ ho, q⟩
      · exact rs.mono fun b o e _ => Heap.get?_push_of_some _ e
  · rename_i lo hi
    cases r with
    | @rng _ _ t x y z ho =>
      obtain ⟨h1, h2, h3, h4, k⟩ := h
      have hsz : Builtin.Range.rangeSize lo hi 1 = (((hi - lo).toNat : Nat) : Int) := by
        rw [rangeSize_one]; split <;> lia
      have fl : ∀ z : Int, -1000000000000000 < z → z < 1000000000000000 → Builtin.Range.rangeFitsLong z = true := fun z hz1 hz2 => by
        unfold Builtin.Range.rangeFitsLong
        simp only [Bool.and_eq_true, decide_eq_true_eq]
        constructor <;> lia
      have hsmall : Builtin.Range.small lo hi 1 = true := by
        unfold Builtin.Range.small
        rw [hsz, fl lo (by lia) (by lia), fl hi (by lia) (by lia), fl 1 (by lia) (by lia), fl _ (by lia) (by lia)]
        simp only [Bool.true_and, Bool.and_true]
        have : (1 : Int) > 0 := by lia
        simp only [this, if_true]
        rw [show hi + (1 - 1) = hi by lia, fl hi (by lia) (by lia)]
        simp
      refine wpAny_pyIter_range (t := x) (u := y) (v := z) ho hsmall ?_
      refine ⟨⟨_, rngL lo hi, _, _, itOk_range L.handled s.heap.objs.size lo (hi - lo).toNat, ?_, fun b hb => by subst hb; exact new_out a (Nat.le_refl _), trivial, k⟩, a.push _ s.toks, Step.push σ s _ s.toks⟩
      show (s.heap.push _).get? s.heap.objs.size = some _
      rw [Heap.get?_push_size _ rfl, hsz]
      simp [rawInt]
  · exact h.elim
end

def notSet : Expr → Bool
  | .Set .. => false
  | _ => true
theorem folded_plain {e : Expr} {env : Env} (h : notSet e = true) (x : Value) : foldedSetIterable e env x = pure x := by
  cases e <;> first | rfl | (simp [notSet] at h)

namespace A
def fin (Q : Post) : List AV → AHeap → Prop := fun acc σ' => ∀ r, σ' r = none → Q (.ref r) (σ'.set r (.list acc))
def comp (t : Tgt) (k : Nat) (iter : AE) (c : Option AE) (elt : AE) : AE := fun d l Q Z σ => iter d l (fun v σ1 => itemsA v σ1 fun I xs => compL I t c elt d (fin Q) xs [] (l ++ List.replicate k none) σ1) Z σ
end A

section
variable {X : Cx} {env : Env} {nm : List (Str × Nat)}

/-- the iterable as the statement's head gives it: an iterator, and what is wanted of its items -/
def SoundI (X : Cx) (env : Env) (nm : List (Str × Nat)) (target iter : Expr) (m : Nat → Loc → (AHeap → (AHeap → Prop) → List AV → Prop) → XP → AHeap → Prop) : Prop :=
  ∀ d A l σ s K Z (R : Value → Shared → Prop) E, Live d A → At X σ s → FR X env nm l σ s.heap → m d l K Z σ → (∀ e s', liftX X σ s Z e s' → E e s') →
    (∀ σ1 s1 it s2, At X σ1 s1 → Step E0 σ s σ1 s1 → IterAt X A target σ1 s1 (K σ1) it s2 → R it s2) →
    wpAny X.M A (eval iter env) (fun x s1 => wpAny X.M A (pyIter x) R E s1) E s

theorem soundI_plain {target iter : Expr} {m : AE} (h : SoundE X env nm iter m) : SoundI X env nm target iter (fun d l K Z σ => m d l (fun v σ1 => itemsA v σ1 fun I xs => K σ1 I xs) Z σ) := fun d A l σ s K Z R E L a F q hE hR =>
  wpAny_mono (h d A l σ s _ Z L a F q) (fun x s1 ⟨av, σ1, rv, a1, st1, q1⟩ => wpAny_mono (iter_sound (target := target) L a1 rv q1) (fun it s2 x => hR σ1 s1 it s2 a1 st1 x) fun _ _ (e : False) => e.elim) fun e s' x => hE e s' x

theorem sound_for {target iter : Expr} {body : List Stmt} {pos : Pos} {t : Tgt} {b : AS} {m : Nat → Loc → (AHeap → (AHeap → Prop) → List AV → Prop) → XP → AHeap → Prop} (hn : notSet iter = true) (hi : SoundI X env nm target iter m) (ht : SoundT X env nm target t) (hb : SoundSs X env nm body b) :
    SoundS X env nm (.For target iter body [] pos) (fun d l Q Z σ => m d l (fun σ1 I xs => forL I t b d Q xs l σ1) (fun c σ' => Z c l σ') σ) := fun d A l σ s Q Z L a F q => by
  refine wpAny_For (hi d A l σ s _ _ _ _ L a F q (fun e s' x => x.toS a F) fun σ1 s1 it s2 a1 st1 IA => ?_) (folded_plain hn)
  obtain ⟨I, xs, W, St, IT, hSt, hW, hI, q1⟩ := IA.ex
  have F2 := (F.step a st1).step a1 IA.step
  refine for_loop (σ := σ1) (Q := Q) L IT ht hb (fun b hb => ⟨(hW b hb).1, (hW b hb).2.1⟩) IA.at_ F2 hI hSt q1 fun f s' ⟨fl, l', σ', r, a', F', st', q'⟩ => ?_
  refine ⟨fl, l', σ', r, a', F', ?_, q'⟩
  have st12 : Step (fun b => FB env b ∨ W b) σ1 s1 σ1 s2 := IA.step.weaken fun b hb => hb.elim
  have := (st12.trans st').drop (B := FB env) fun b hb => hb.imp id fun hb => (hW b hb).2.2
  exact (st1.weaken FB.of_e0).trans this

/-- a comprehension's parts -/
structure SoundLC (X : Cx) (env : Env) (nm : List (Str × Nat)) (N : Nat) (elt target iter : Expr) (ifs : List Expr) (scope : Scope) (nm' : List (Str × Nat)) (k : Nat) (t : Tgt) (c : Option AE) (e : AE)
    (m : Nat → Loc → (AHeap → (AHeap → Prop) → List AV → Prop) → XP → AHeap → Prop) : Prop where
  ns : notSet iter = true
  ck : CompOk env.scope.names nm N scope.names nm' k
  kind : scope.kind = .function
  iter : SoundI X env nm target iter m
  tgt : ∀ C, SoundTC X (compEnvC scope (clo env.cells scope.names []) C env) nm' target t
  test : ∀ C, SoundC X (compEnvC scope (clo env.cells scope.names []) C env) nm' ifs c
  elt : ∀ C, SoundE X (compEnvC scope (clo env.cells scope.names []) C env) nm' elt e

theorem names_local {sc : List (Str × NameKind)} {N : Nat} {names : List (Str × NameKind)} {nm' : List (Str × Nat)} {k : Nat} (CK : CompOk sc nm N names nm' k) : ∀ x ∈ names, x.2 = .local → names.lookup x.1 = some .local := fun x hx h => by
  have := lookup_of_nodup CK.nodup (n := x.1) (c := x.2) hx
  rw [h] at this; exact this

theorem sound_comp {elt target iter : Expr} {ifs : List Expr} {scope : Scope} {pos : Pos} {nm' : List (Str × Nat)} {N k : Nat} {t : Tgt} {c : Option AE} {e : AE} {m : Nat → Loc → (AHeap → (AHeap → Prop) → List AV → Prop) → XP → AHeap → Prop}
    (EO : EnvOk env) (hN : lenOf nm = N) (S : SoundLC X env nm N elt target iter ifs scope nm' k t c e m) :
    SoundE X env nm (.ListComp elt [⟨target, iter, ifs, 0⟩] scope pos) (fun d l Q Z σ => m d l (fun σ1 I xs => compL I t c e d (A.fin Q) xs [] (l ++ List.replicate k none) σ1) Z σ) := fun d A l σ s Q Z L a F q => by
  rw [eval_ListComp]
  refine wpAny_comprehension_free (use := none) rfl (folded_plain S.ns) (closureFor_clo (S.ck.closure F)) S.kind (names_local S.ck) ?_
  refine S.iter d A l σ s _ Z _ _ L a F q (fun e s' x => x) fun σ1 s1 it s2 a1 st1 IA => ?_
  obtain ⟨I, xs, W, St, IT, hSt, hW, hI, q1⟩ := IA.ex
  have F2 := (F.step a st1).step a1 IA.step
  refine comp_core (RR := fun acc C => compPost X.M A (liftX X σ s Z) none (liftQ X σ s Q) acc C) EO L IA.at_ F2 (F.len.trans hN) S.ck S.kind IT hSt (fun b hb => ⟨(hW b hb).1, (hW b hb).2.1⟩) hI S.tgt S.test S.elt q1 ?_
  intro D C s' σ' acc mC hD hC hDC hσD hσC hns a3 st3 q3
  refine ⟨mC, hns, fun h' hs' => ?_⟩
  have hC0 : X.h₀.get? C = none := (new_out IA.at_ hC).2.1
  have hCσ : (σ'.set D (.list acc)) C = none := by rw [AHeap.set_ne _ _ (Ne.symm hDC)]; exact hσC
  have a4 : At X (σ'.set D (.list acc)) { s' with heap := h' } := a3.aside (t := s'.toks) (h' := h') hCσ hC0 (noStay_ns hns) hs'
  have st4 : Step (fun b => W b ∨ s1.heap.objs.size ≤ b) σ1 s1 (σ'.set D (.list acc)) { s' with heap := h' } := by
    have x1 : Step (fun b => W b ∨ s1.heap.objs.size ≤ b) σ1 s1 σ1 s2 := IA.step.weaken fun b hb => hb.elim
    have x2 : Step (fun b => W b ∨ s1.heap.objs.size ≤ b) σ1 s2 (σ'.set D (.list acc)) s' := st3.weaken fun b hb => .inl hb
    have x3 : Step (fun b => W b ∨ s1.heap.objs.size ≤ b) (σ'.set D (.list acc)) s' (σ'.set D (.list acc)) { s' with heap := h' } := Step.aside (t := s'.toks) (h' := h') (.inr (Nat.le_trans IA.step.size hC)) hs'
    exact x1.trans (x2.trans x3)
  refine ⟨.ref D, _, .ref D, a4, st1.trans (st4.drop fun b hb => .inr (hb.elim (fun hb => (hW b hb).2.2) id)), q3 D hσD⟩
end
end Mine

set_option maxRecDepth 100000
set_option linter.unusedVariables false
set_option autoImplicit false
namespace Mine
open PySem PyProof.Rows PySem.SeqAt

section
variable {X : Cx} {env : Env} {nm : List (Str × Nat)}

theorem FB.lt {l : Loc} {σ : AHeap} {s : Shared} (F : FR X env nm l σ s.heap) {b : Nat} (h : FB env b) : b < s.heap.objs.size := by
  rcases h with h | ⟨x, hx⟩
  · obtain ⟨m, hn, _⟩ := F.ns; rw [h]; exact hn.lt
  · obtain ⟨_, _, v, hc⟩ := F.outc x b hx; exact hc.lt

theorem sound_setComp {elt target iter : Expr} {ifs : List Expr} {scope : Scope} {cpos py pos : Pos} {y : Str} {i : Nat} {nm' : List (Str × Nat)} {N k : Nat} {t : Tgt} {c : Option AE} {e : AE} {m : Nat → Loc → (AHeap → (AHeap → Prop) → List AV → Prop) → XP → AHeap → Prop}
    (EO : EnvOk env) (hN : lenOf nm = N) (S : SoundLC X env nm N elt target iter ifs scope nm' k t c e m) (hy : nm.lookup y = some i) (hky : env.kindOf y = some .local ∨ env.kindOf y = some .cell) :
    SoundS X env nm (.Assign [.Name y py] (.ListComp elt [⟨target, iter, ifs, 0⟩] scope cpos) pos) (A.set i (fun d l Q Z σ => m d l (fun σ1 I xs => compL I t c e d (A.fin Q) xs [] (l ++ List.replicate k none) σ1) Z σ)) := by
  have hsw : swapsWith (.ListComp elt [⟨target, iter, ifs, 0⟩] scope cpos) (some (.Name y py)) pos.line env = pure (env.blockKind == .function && env.kindOf y == some .local && py.line == cpos.line && !(scope.names.any fun (n, k) => n == y && (k == .local || k == .cell))) := rfl
  cases hb : (env.blockKind == .function && env.kindOf y == some .local && py.line == cpos.line && !(scope.names.any fun (n, k) => n == y && (k == .local || k == .cell))) with
  | false => rw [hb] at hsw; exact sound_set EO (sound_comp EO hN S) hy hky hsw
  | true =>
    rw [hb] at hsw
    intro d A l σ s Q Z L a F q
    rw [exec_Assign_Name_used _ _ _ _ hsw]
    refine wpAny_bind (wpAny_standAt (wpAny_bind ?_))
    show wpAny X.M A (do let _ ← comprehension (.ListComp elt [⟨target, iter, ifs, 0⟩] scope cpos) scope env _ (newList []) false (eval iter env) (some (assign (.Name y py) env))) _ _ s
    refine wpAny_bind (wpAny_mono (wpAny_comprehension_free (use := some (assign (.Name y py) env)) (Q := fun _ s' => liftS X env nm σ s Q .next s') rfl (folded_plain S.ns) (closureFor_clo (S.ck.closure F)) S.kind (names_local S.ck) ?_) (fun _ s' hq => wpAny_pure (wpAny_pure hq)) fun _ _ e => e)
    refine S.iter d A l σ s _ _ _ _ L a F q (fun e s' x => x.toS a F) fun σ1 s1 it s2 a1 st1 IA => ?_
    obtain ⟨I, xs, W, St, IT, hSt, hW, hI, q1⟩ := IA.ex
    have F1 := F.step a st1
    have F2 := F1.step a1 IA.step
    refine comp_core (RR := fun acc C => compPost X.M A (liftSX X env nm σ s Z) (some (assign (.Name y py) env)) (fun _ s' => liftS X env nm σ s Q .next s') acc C) EO L IA.at_ F2 (F.len.trans hN) S.ck S.kind IT hSt (fun b hb => ⟨(hW b hb).1, (hW b hb).2.1⟩) hI S.tgt S.test S.elt q1 ?_
    intro D C s' σ' acc mC hD hC hDC hσD hσC hns a3 st3 q3
    have noW : NoStay W s2.heap := fun b o hb e => by obtain ⟨o', e', h', _⟩ := IT.there 0 _ b hSt hb; rw [e] at e'; cases e'; exact h'
    have dis : ∀ b, FB env b → ¬ W b := fun b hb hw => absurd (FB.lt F1 hb) (Nat.not_lt.mpr (hW b hw).2.2)
    have F3 := F2.stepB IA.at_ st3 dis noW
    show wpAny X.M A (assign (.Name y py) env (.ref D)) _ _ s'
    refine wpAny_assign_Name (wp_store EO F3 a3 hy hky (.ref D) fun s4 F4 a4 st4 => ?_)
    have hCF : ¬ FB env C := fun hb => absurd (FB.lt F2 hb) (Nat.not_lt.mpr hC)
    have hCσ : (σ'.set D (.list acc)) C = none := by rw [AHeap.set_ne _ _ (Ne.symm hDC)]; exact hσC
    obtain ⟨oC, es, ep, hoC, hdC, hr⟩ := id hns
    have hoC4 : s4.heap.get? C = some oC := st4.keep C oC hoC hCσ hCF
    refine ⟨mC, ⟨oC, es, ep, hoC4, hdC, hr⟩, fun h' hs' => ?_⟩
    have hC0 : X.h₀.get? C = none := (new_out IA.at_ hC).2.1
    have nC : ∀ o, s4.heap.get? C = some o → ¬ Stays o := fun o ho => by rw [hoC4] at ho; cases ho; exact noStay_dict hdC
    have a5 : At X (σ'.set D (.list acc)) { s4 with heap := h' } := a4.aside (t := s4.toks) (h' := h') hCσ hC0 nC hs'
    have st5 : Step (fun b => b = C) (σ'.set D (.list acc)) s4 (σ'.set D (.list acc)) { s4 with heap := h' } := Step.aside (t := s4.toks) (h' := h') rfl hs'
    have F5 := F4.stepB a4 st5 (fun b hb e => hCF (e ▸ hb)) (fun b o hb e => by subst hb; exact nC o e)
    have stA : Step (fun b => FB env b ∨ s1.heap.objs.size ≤ b) σ1 s1 (σ'.set D (.list acc)) { s4 with heap := h' } := by
      have x1 : Step (fun b => FB env b ∨ s1.heap.objs.size ≤ b) σ1 s1 σ1 s2 := IA.step.weaken fun b hb => hb.elim
      have x2 : Step (fun b => FB env b ∨ s1.heap.objs.size ≤ b) σ1 s2 (σ'.set D (.list acc)) s' := st3.weaken fun b hb => .inr (hW b hb).2.2
      have x3 : Step (fun b => FB env b ∨ s1.heap.objs.size ≤ b) (σ'.set D (.list acc)) s' (σ'.set D (.list acc)) s4 := st4.weaken fun b hb => .inl hb
      have x4 : Step (fun b => FB env b ∨ s1.heap.objs.size ≤ b) (σ'.set D (.list acc)) s4 (σ'.set D (.list acc)) { s4 with heap := h' } := st5.weaken fun b hb => .inr (by rw [hb]; exact Nat.le_trans IA.step.size hC)
      exact x1.trans (x2.trans (x3.trans x4))
    exact ⟨.next, _, _, trivial, a5, F5, (st1.weaken FB.of_e0).trans (stA.drop fun b hb => hb), q3 D hσD⟩
end
end Mine

set_option maxRecDepth 100000
set_option linter.unusedVariables false
set_option autoImplicit false
namespace Mine
open PySem PyProof.Rows PySem.SeqAt PySem.W

/-- the ground: the heap that the top leaves, as a table -/
structure Gd (X : Cx) (K : Frag) : Prop where
  ok : X.Ok
  inn : K.In X.h₀
  bi : ∀ x : Str, x ≠ "__name__" → X.mb x = bootBuiltins x

structure EK (env : Env) (names : List (Str × NameKind)) : Prop where
  eo : EnvOk env
  nm : env.scope.names = names
def isVar (names : List (Str × NameKind)) (x : Str) : Bool := names.lookup x == some .local || names.lookup x == some .cell
def isGlob (names : List (Str × NameKind)) (x : Str) : Bool := names.lookup x == some .globalImplicit && !(x == ("__debug__" : Str))

section
variable {X : Cx} {K : Frag} {env : Env} {nm : List (Str × Nat)} {names : List (Str × NameKind)}

theorem EK.var (E : EK env names) {x : Str} (h : isVar names x = true) : env.kindOf x = some .local ∨ env.kindOf x = some .cell := by
  unfold Env.kindOf; rw [E.nm]
  unfold isVar at h
  simpa using h
theorem EK.glob (E : EK env names) {x : Str} (h : isGlob names x = true) : env.kindOf x = some .globalImplicit ∧ (x == ("__debug__" : Str)) = false := by
  unfold Env.kindOf; rw [E.nm]
  unfold isGlob at h
  simp only [Bool.and_eq_true, beq_iff_eq, Bool.not_eq_true'] at h
  exact h

/-- a builtin's name: hidden by no global -/
def isBi (K : Frag) (x : Str) (v : Value) : Prop := nsIn K mainGlobals x = some none ∧ bootBuiltins x = some v ∧ x ≠ "__name__"
theorem Gd.none (G : Gd X K) {x : Str} {v : Value} (h : isBi K x v) : X.mg x = none := mg_none_of G.inn G.ok.g h.1
theorem Gd.some (G : Gd X K) {x : Str} {v : Value} (h : isBi K x v) : X.mb x = some v := (G.bi x h.2.2).trans h.2.1

/-! comprehensions: names by number -/
def relab (names ns : List (Str × NameKind)) : List (Str × NameKind) := ns.map fun (n, k) => if (k == NameKind.free && true && names.lookup n == some NameKind.cell) then (n, NameKind.cell) else (n, k)
def compNm (nm : List (Str × Nat)) : Nat → List (Str × NameKind) → List (Str × Nat)
  | _, [] => []
  | n, (x, .local) :: r => (x, n) :: compNm nm (n + 1) r
  | n, (x, .free) :: r => (match nm.lookup x with | some i => (x, i) :: compNm nm n r | none => compNm nm n r)
  | n, _ :: r => compNm nm n r
def locsOf (ns : List (Str × NameKind)) : Nat := (ns.filter fun p => p.2 == .local).length
def nodupB : List Str → Bool
  | [] => true
  | x :: r => !r.contains x && nodupB r
theorem nodup_of : ∀ {l : List Str}, nodupB l = true → l.Nodup
  | [], _ => .nil
  | x :: r, h => by
    unfold nodupB at h
    simp only [Bool.and_eq_true, Bool.not_eq_true'] at h
    have h1 := h.1
    refine List.nodup_cons.mpr ⟨fun q => ?_, nodup_of h.2⟩
    rw [List.contains_iff_mem.mpr q] at h1; cases h1
def injB : List (Str × Nat) → Bool
  | [] => true
  | p :: r => r.all (fun q => !(q.2 == p.2)) && injB r
theorem inj_of : ∀ {l : List (Str × Nat)}, injB l = true → ∀ x y i, (x, i) ∈ l → (y, i) ∈ l → x = y
  | [], _, _, _, _, h, _ => nomatch h
  | p :: r, h, x, y, i, h1, h2 => by
    unfold injB at h
    simp only [Bool.and_eq_true, List.all_eq_true, Bool.not_eq_true', beq_eq_false_iff_ne, ne_eq] at h
    rcases List.mem_cons.mp h1 with e1 | h1 <;> rcases List.mem_cons.mp h2 with e2 | h2
    · rw [← e1] at e2; cases e2; rfl
    · rw [← e1] at h; exact absurd rfl (h.1 (y, i) h2)
    · rw [← e2] at h; exact absurd rfl (h.1 (x, i) h1)
    · exact inj_of h.2 x y i h1 h2
def compB (names : List (Str × NameKind)) (nm : List (Str × Nat)) (N : Nat) (ns : List (Str × NameKind)) : Bool :=
  nodupB (ns.map (·.1)) && ns.all (fun p => p.2 == .local || p.2 == .globalImplicit || (p.2 == .free && names.lookup p.1 == some .cell && (nm.lookup p.1).isSome)) &&
  (compNm nm N ns).all (fun p => (ns.lookup p.1 == some .local && N ≤ p.2 && p.2 < N + locsOf ns) || (ns.lookup p.1 == some .free && nm.lookup p.1 == some p.2)) && injB (compNm nm N ns) && lenOf (compNm nm N ns ++ nm) == N + locsOf ns &&
  ns.all (fun p => !(p.2 == .free) || (compNm nm N ns ++ nm).lookup p.1 == nm.lookup p.1) && lenOf (compNm nm N ns) == N + locsOf ns
theorem compOk_of {N : Nat} {ns : List (Str × NameKind)} (h : compB names nm N ns = true) : CompOk names nm N ns (compNm nm N ns) (locsOf ns) := by
  unfold compB at h
  simp only [Bool.and_eq_true, List.all_eq_true, beq_iff_eq, Bool.or_eq_true, decide_eq_true_eq, Bool.not_eq_true', beq_eq_false_iff_ne, ne_eq] at h
  obtain ⟨⟨⟨⟨⟨⟨h1, h2⟩, h3⟩, h4⟩, h5⟩, h6⟩, h7⟩ := h
  have nd := nodup_of h1
  have fr : ∀ (n : Nat) (l : List (Str × NameKind)) x i, (x, NameKind.free) ∈ l → nm.lookup x = some i → (x, i) ∈ compNm nm n l := by
    intro n l
    induction l generalizing n with
    | nil => intro x i hx; cases hx
    | cons p r ih =>
      intro x i hx hi
      obtain ⟨y, k⟩ := p
      rcases List.mem_cons.mp hx with e | hx'
      · cases e; unfold compNm; rw [hi]; exact List.mem_cons_self
      · clear hx
        cases k <;> unfold compNm
        all_goals first
          | exact ih _ x i hx' hi
          | exact List.mem_cons_of_mem _ (ih _ x i hx' hi)
          | (split
             · exact List.mem_cons_of_mem _ (ih _ x i hx' hi)
             · exact ih _ x i hx' hi)
  have nd' : ∀ (l : List (Str × NameKind)) (n : Nat), (l.map (·.1)).Nodup → ((compNm nm n l).map (·.1)).Nodup ∧ ∀ x, x ∈ (compNm nm n l).map (·.1) → x ∈ l.map (·.1) := by
    intro l
    induction l with
    | nil => intro n _; exact ⟨.nil, fun x hx => by simp [compNm] at hx⟩
    | cons p r ih =>
      intro n hn
      obtain ⟨y, k⟩ := p
      have hn' := List.nodup_cons.mp hn
      have stay : ∀ m, ((compNm nm m r).map (·.1)).Nodup ∧ ∀ x, x ∈ (compNm nm m r).map (·.1) → x ∈ ((y, k) :: r).map (·.1) := fun m => ⟨(ih m hn'.2).1, fun x hx => List.mem_cons_of_mem _ ((ih m hn'.2).2 x hx)⟩
      have more : ∀ m i, (((y, i) :: compNm nm m r).map (·.1)).Nodup ∧ ∀ x, x ∈ ((y, i) :: compNm nm m r).map (·.1) → x ∈ ((y, k) :: r).map (·.1) := fun m i =>
        ⟨List.nodup_cons.mpr ⟨fun q => hn'.1 ((ih m hn'.2).2 y q), (ih m hn'.2).1⟩, fun x hx => by
          rcases List.mem_cons.mp hx with e | hx
          · rw [e]; exact List.mem_cons_self
          · exact List.mem_cons_of_mem _ ((ih m hn'.2).2 x hx)⟩
      cases k <;> unfold compNm
      all_goals first
        | exact stay _
        | exact more _ _
        | (split
           · exact more _ _
           · exact stay _)
  refine ⟨nd, fun x kd hx => ?_, fun x i hx => ?_, fun x y i hx hy => inj_of h4 x y i (mem_of_lookup hx) (mem_of_lookup hy), h7⟩
  · rcases h2 (x, kd) hx with (q | q) | ⟨⟨q1, q2⟩, q3⟩
    · exact .inl q
    · exact .inr (.inl q)
    · obtain ⟨i, hi⟩ := Option.isSome_iff_exists.mp q3
      simp only at q1; subst q1
      exact .inr (.inr ⟨rfl, q2, i, hi, lookup_of_nodup (nd' _ _ nd).1 (fr _ _ _ _ hx hi)⟩)
  · rcases h3 (x, i) (mem_of_lookup hx) with ⟨⟨q1, q2⟩, q3⟩ | ⟨q1, q2⟩
    · exact .inl ⟨q1, q2, q3⟩
    · exact .inr ⟨q1, q2⟩

theorem EK.comp (E : EK env names) {N : Nat} {scope : Scope} (hc : compB names nm N scope.names = true) (hk : scope.kind = .function) (C : Addr) : EK (compEnvC scope (clo env.cells scope.names []) C env) (relab names scope.names) := by
  have CK : CompOk env.scope.names nm N scope.names (compNm nm N scope.names) (locsOf scope.names) := by rw [E.nm]; exact compOk_of hc
  refine ⟨envOk_comp E.eo CK hk C, ?_⟩
  show List.map _ scope.names = relab names scope.names
  unfold relab
  have : ∀ n, env.kindOf n = names.lookup n := fun n => by unfold Env.kindOf; rw [E.nm]
  simp only [this, E.eo.kind]
  rfl

namespace A
def lc (m : Nat → Loc → (AHeap → (AHeap → Prop) → List AV → Prop) → XP → AHeap → Prop) (t : Tgt) (k : Nat) (c : Option AE) (e : AE) : AE := fun d l Q Z σ => m d l (fun σ1 I xs => compL I t c e d (A.fin Q) xs [] (l ++ List.replicate k none) σ1) Z σ
def fr (m : Nat → Loc → (AHeap → (AHeap → Prop) → List AV → Prop) → XP → AHeap → Prop) (t : Tgt) (b : AS) : AS := fun d l Q Z σ => m d l (fun σ1 I xs => forL I t b d Q xs l σ1) (fun c σ' => Z c l σ') σ
def itP (m : AE) : Nat → Loc → (AHeap → (AHeap → Prop) → List AV → Prop) → XP → AHeap → Prop := fun d l K Z σ => m d l (fun v σ1 => itemsA v σ1 fun I xs => K σ1 I xs) Z σ
def callF (X : Cx) (f : Addr) (args : List AE) : AE := fun d l Q Z σ => evalL args d l (fun as σ' => CallOk X f d as Q Z σ') Z σ
end A

theorem lcOk {elt target iter : Expr} {ifs : List Expr} {scope : Scope} {N : Nat} {t : Tgt} {c : Option AE} {e : AE} {m : Nat → Loc → (AHeap → (AHeap → Prop) → List AV → Prop) → XP → AHeap → Prop}
    (E : EK env names) (hc : compB names nm N scope.names = true) (hk : scope.kind = .function) (hn : notSet iter = true) (hi : SoundI X env nm target iter m)
    (ht : ∀ env', EK env' (relab names scope.names) → SoundTC X env' (compNm nm N scope.names) target t) (hcc : ∀ env', EK env' (relab names scope.names) → SoundC X env' (compNm nm N scope.names) ifs c)
    (he : ∀ env', EK env' (relab names scope.names) → SoundE X env' (compNm nm N scope.names) elt e) : SoundLC X env nm N elt target iter ifs scope (compNm nm N scope.names) (locsOf scope.names) t c e m :=
  ⟨hn, by rw [E.nm]; exact compOk_of hc, hk, hi, fun C => ht _ (E.comp hc hk C), fun C => hcc _ (E.comp hc hk C), fun C => he _ (E.comp hc hk C)⟩

/-! the rules, each with what it looks at -/
theorem w_comp {elt target iter : Expr} {ifs : List Expr} {scope : Scope} {pos : Pos} {t : Tgt} {c : Option AE} {e : AE} {m : Nat → Loc → (AHeap → (AHeap → Prop) → List AV → Prop) → XP → AHeap → Prop}
    (E : EK env names) (hc : compB names nm (lenOf nm) scope.names = true) (hk : scope.kind = .function) (hn : notSet iter = true) (hi : SoundI X env nm target iter m)
    (ht : ∀ env', EK env' (relab names scope.names) → SoundTC X env' (compNm nm (lenOf nm) scope.names) target t) (hcc : ∀ env', EK env' (relab names scope.names) → SoundC X env' (compNm nm (lenOf nm) scope.names) ifs c)
    (he : ∀ env', EK env' (relab names scope.names) → SoundE X env' (compNm nm (lenOf nm) scope.names) elt e) : SoundE X env nm (.ListComp elt [⟨target, iter, ifs, 0⟩] scope pos) (A.lc m t (locsOf scope.names) c e) :=
  sound_comp E.eo rfl (lcOk E hc hk hn hi ht hcc he)
theorem w_setComp {elt target iter : Expr} {ifs : List Expr} {scope : Scope} {cpos py pos : Pos} {y : Str} {i : Nat} {t : Tgt} {c : Option AE} {e : AE} {m : Nat → Loc → (AHeap → (AHeap → Prop) → List AV → Prop) → XP → AHeap → Prop}
    (E : EK env names) (hy : nm.lookup y = some i) (hv : isVar names y = true) (hc : compB names nm (lenOf nm) scope.names = true) (hk : scope.kind = .function) (hn : notSet iter = true) (hi : SoundI X env nm target iter m)
    (ht : ∀ env', EK env' (relab names scope.names) → SoundTC X env' (compNm nm (lenOf nm) scope.names) target t) (hcc : ∀ env', EK env' (relab names scope.names) → SoundC X env' (compNm nm (lenOf nm) scope.names) ifs c)
    (he : ∀ env', EK env' (relab names scope.names) → SoundE X env' (compNm nm (lenOf nm) scope.names) elt e) :
    SoundS X env nm (.Assign [.Name y py] (.ListComp elt [⟨target, iter, ifs, 0⟩] scope cpos) pos) (A.set i (A.lc m t (locsOf scope.names) c e)) :=
  sound_setComp E.eo rfl (lcOk E hc hk hn hi ht hcc he) hy (E.var hv)
theorem w_cNone {env : Env} {nm : List (Str × Nat)} : SoundC X env nm [] none := trivial
theorem w_cSome {env : Env} {nm : List (Str × Nat)} {e : Expr} {m : AE} (h : SoundB X env nm e m) : SoundC X env nm [e] (some m) := h
theorem w_tOne {x : Str} {pos : Pos} {i : Nat} (E : EK env names) (hx : nm.lookup x = some i) (hv : isVar names x = true) : SoundT X env nm (.Name x pos) (.one i) := soundT_one E.eo hx (E.var hv)
theorem EK.loc (E : EK env names) {x : Str} (h : (names.lookup x == some .local) = true) : env.kindOf x = some .local := by
  unfold Env.kindOf; rw [E.nm]; exact beq_iff_eq.mp h
theorem w_tcOne {x : Str} {pos : Pos} {i : Nat} (E : EK env names) (hx : nm.lookup x = some i) (hv : (names.lookup x == some .local) = true) : SoundTC X env nm (.Name x pos) (.one i) := soundTC_one E.eo hx (E.loc hv)
theorem w_loc {x : Str} {pos : Pos} {i : Nat} (E : EK env names) (hx : nm.lookup x = some i) (hv : isVar names x = true) (hd : (x == ("__debug__" : Str)) = false) : SoundE X env nm (.Name x pos) (A.loc i) := sound_loc E.eo hx (E.var hv) hd
theorem w_set {x : Str} {pos' pos : Pos} {value : Expr} {m : AE} {i : Nat} (E : EK env names) (hx : nm.lookup x = some i) (hv : isVar names x = true) (h : SoundE X env nm value m)
    (hs : swapsWith value (some (.Name x pos')) pos.line env = pure false) : SoundS X env nm (.Assign [.Name x pos'] value pos) (A.set i m) := sound_set E.eo h hx (E.var hv) hs
theorem w_prim {x : Str} {f : Value} {p : Prim} {es : List Expr} {ms : List AE} {gp pos : Pos} (G : Gd X K) (E : EK env names) (hb : isBi K x f) (hf : (∃ id, f = .builtin id) ∨ ∃ T, f = .type T) (hp : SoundPrim X f p) (hg : isGlob names x = true) (h : SoundEs X env nm es ms) :
    SoundE X env nm (.Call (.Name x gp) es [] pos) (A.prim p ms) := sound_prim G.ok E.eo (E.glob hg).1 (E.glob hg).2 (G.none hb) (G.some hb) hf hp h
theorem w_len {es : List Expr} {ms : List AE} {gp pos : Pos} (G : Gd X K) (E : EK env names) (hb : isBi K "len" (.builtin "len")) (hg : isGlob names "len" = true) (h : SoundEs X env nm es ms) :
    SoundE X env nm (.Call (.Name "len" gp) es [] pos) (A.prim pLen ms) := w_prim G E hb (.inl ⟨_, rfl⟩) sound_len hg h
theorem w_range {es : List Expr} {ms : List AE} {gp pos : Pos} (G : Gd X K) (E : EK env names) (hb : isBi K "range" (.type "range")) (hg : isGlob names "range" = true) (h : SoundEs X env nm es ms) :
    SoundE X env nm (.Call (.Name "range" gp) es [] pos) (A.prim pRange ms) := w_prim G E hb (.inr ⟨_, rfl⟩) sound_range hg h
theorem w_list {es : List Expr} {ms : List AE} {gp pos : Pos} (G : Gd X K) (E : EK env names) (hb : isBi K "list" (.type "list")) (hg : isGlob names "list" = true) (h : SoundEs X env nm es ms) :
    SoundE X env nm (.Call (.Name "list" gp) es [] pos) (A.prim pList ms) := w_prim G E hb (.inr ⟨_, rfl⟩) sound_list hg h
theorem w_isa {Tn : Str} (T : PyT) {e : Expr} {m : AE} {gp tp pos : Pos} (G : Gd X K) (E : EK env names) (hb : isBi K "isinstance" (.builtin "isinstance")) (hg : isGlob names "isinstance" = true) (hbT : isBi K Tn (.type T.name)) (hgT : isGlob names Tn = true) (hs : notStar e = true) (h : SoundE X env nm e m) :
    SoundE X env nm (.Call (.Name "isinstance" gp) [e, .Name Tn tp] [] pos) (A.isa T m) := sound_isa G.ok E.eo (E.glob hg).1 (G.none hb) (G.some hb) (E.glob hgT).1 (E.glob hgT).2 (G.none hbT) (G.some hbT) hs h
theorem w_it {target iter : Expr} {m : AE} (h : SoundE X env nm iter m) : SoundI X env nm target iter (A.itP m) := soundI_plain h
theorem w_for {target iter : Expr} {body : List Stmt} {pos : Pos} {t : Tgt} {b : AS} {m : Nat → Loc → (AHeap → (AHeap → Prop) → List AV → Prop) → XP → AHeap → Prop} (hn : notSet iter = true) (hi : SoundI X env nm target iter m) (ht : SoundT X env nm target t) (hb : SoundSs X env nm body b) :
    SoundS X env nm (.For target iter body [] pos) (A.fr m t b) := sound_for hn hi ht hb
/-- a def of the text -/
def isFn (K : Frag) (f : Addr) : Prop := ∃ o fd, K.lookup f = some o ∧ o.data = .func fd
theorem w_call {g : Str} {f : Addr} {es : List Expr} {ms : List AE} {gp pos : Pos} (G : Gd X K) (E : EK env names) (hf : nsIn K mainGlobals g = some (some (.ref f))) (hF : isFn K f) (hg : isGlob names g = true) (h : SoundEs X env nm es ms) :
    SoundE X env nm (.Call (.Name g gp) es [] pos) (A.callF X f ms) := fun d A l σ s Q Z L a F q =>
  sound_call G.ok E.eo (E.glob hg).1 (E.glob hg).2 h d A l σ s Q Z L a F ⟨f, mg_of G.inn G.ok.g hf, let ⟨o, fd, h1, h2⟩ := hF; ⟨o, fd, G.inn _ _ h1, h2⟩, q⟩
theorem w_es0 {env : Env} {nm : List (Str × Nat)} : SoundEs X env nm [] [] := .nil
theorem w_es1 {e : Expr} {es : List Expr} {m : AE} {ms : List AE} (hs : notStar e = true) (h : SoundE X env nm e m) (r : SoundEs X env nm es ms) : SoundEs X env nm (e :: es) (m :: ms) := .cons hs h r

/-! a call, by the table -/
def namesB (names : List (Str × NameKind)) (nm : List (Str × Nat)) (ps : List Str) : Bool :=
  nodupB (names.map (·.1)) && nm.all (fun p => names.lookup p.1 == some .local || names.lookup p.1 == some .cell) && injB nm && nodupB (nm.map (·.1)) && (nm.take ps.length == ps.zipIdx) && nodupB ps
theorem mem_lt_lenOf {nm : List (Str × Nat)} {x : Str} {i : Nat} (h : (x, i) ∈ nm) : i < lenOf nm := by
  unfold lenOf
  have gen : ∀ (l : List (Str × Nat)) (n : Nat), n ≤ l.foldl (fun n p => max n (p.2 + 1)) n ∧ ∀ x i, (x, i) ∈ l → i < l.foldl (fun n p => max n (p.2 + 1)) n := by
    intro l
    induction l with
    | nil => intro n; exact ⟨Nat.le_refl _, fun _ _ h => nomatch h⟩
    | cons p r ih =>
      intro n
      rw [List.foldl_cons]
      have := ih (max n (p.2 + 1))
      refine ⟨by omega, fun x i hx => ?_⟩
      rcases List.mem_cons.mp hx with e | hx
      · rw [← e] at this ⊢; simp only at this ⊢; omega
      · exact this.2 x i hx
  exact (gen nm 0).2 x i h
theorem namesOk_of {ps : List Str} (h : namesB names nm ps = true) : NamesOk names nm ps (lenOf nm) := by
  unfold namesB at h
  simp only [Bool.and_eq_true, List.all_eq_true, beq_iff_eq, Bool.or_eq_true] at h
  obtain ⟨⟨⟨⟨⟨h1, h2⟩, h3⟩, h4⟩, h5⟩, h6⟩ := h
  have nd := nodup_of h4
  have hz : ∀ (i : Nat) p, ps[i]? = some p → (p, i) ∈ nm := fun i p hp => by
    have : (p, i) ∈ ps.zipIdx := List.mk_mem_zipIdx_iff_getElem?.mpr hp
    rw [← h5] at this
    exact List.mem_of_mem_take this
  refine ⟨nodup_of h1, fun x i hx => ⟨mem_lt_lenOf (mem_of_lookup hx), h2 _ (mem_of_lookup hx)⟩, fun x y i hx hy => inj_of h3 x y i (mem_of_lookup hx) (mem_of_lookup hy), fun x i hx p hp => inj_of h3 p x i (hz i p hp) (mem_of_lookup hx),
    fun i p hp => lookup_of_nodup nd (hz i p hp), ?_, rfl, nodup_of h6⟩
  rcases Nat.eq_zero_or_pos ps.length with e | e
  · rw [e]; exact Nat.zero_le _
  · have : (ps[ps.length - 1], ps.length - 1) ∈ nm := hz _ _ (List.getElem?_eq_getElem (by omega))
    have := mem_lt_lenOf this; omega

theorem len1 {α : Type} {l : List α} {n : Nat} (h : l.length = n + 1) : ∃ a r, l = a :: r ∧ r.length = n := by
  cases l with
  | nil => simp at h
  | cons a r => exact ⟨a, r, rfl, by simpa using h⟩
theorem bind1 {fd : FuncData} {p : Str} (h : ∀ a0, bindArgs fd ⟨[a0], []⟩ = pure [(p, a0)]) (vs : List Value) (hl : vs.length = [p].length) : bindArgs fd ⟨vs, []⟩ = pure ([p].zip vs) := by
  obtain ⟨a0, v0, rfl, h0⟩ := len1 hl
  have e := List.length_eq_zero_iff.mp h0
  subst e
  exact h a0
theorem bind2 {fd : FuncData} {p q : Str} (h : ∀ a0 a1, bindArgs fd ⟨[a0, a1], []⟩ = pure [(p, a0), (q, a1)]) (vs : List Value) (hl : vs.length = [p, q].length) : bindArgs fd ⟨vs, []⟩ = pure ([p, q].zip vs) := by
  obtain ⟨a0, v0, rfl, h0⟩ := len1 hl
  obtain ⟨a1, v1, rfl, h1⟩ := len1 h0
  have e := List.length_eq_zero_iff.mp h1
  subst e
  exact h a0 a1
theorem bind3 {fd : FuncData} {p q r : Str} (h : ∀ a0 a1 a2, bindArgs fd ⟨[a0, a1, a2], []⟩ = pure [(p, a0), (q, a1), (r, a2)]) (vs : List Value) (hl : vs.length = [p, q, r].length) : bindArgs fd ⟨vs, []⟩ = pure ([p, q, r].zip vs) := by
  obtain ⟨a0, v0, rfl, h0⟩ := len1 hl
  obtain ⟨a1, v1, rfl, h1⟩ := len1 h0
  obtain ⟨a2, v2, rfl, h2⟩ := len1 h1
  have e := List.length_eq_zero_iff.mp h2
  subst e
  exact h a0 a1 a2
theorem bind4 {fd : FuncData} {p q r t : Str} (h : ∀ a0 a1 a2 a3, bindArgs fd ⟨[a0, a1, a2, a3], []⟩ = pure [(p, a0), (q, a1), (r, a2), (t, a3)]) (vs : List Value) (hl : vs.length = [p, q, r, t].length) : bindArgs fd ⟨vs, []⟩ = pure ([p, q, r, t].zip vs) := by
  obtain ⟨a0, v0, rfl, h0⟩ := len1 hl
  obtain ⟨a1, v1, rfl, h1⟩ := len1 h0
  obtain ⟨a2, v2, rfl, h2⟩ := len1 h1
  obtain ⟨a3, v3, rfl, h3⟩ := len1 h2
  have e := List.length_eq_zero_iff.mp h3
  subst e
  exact h a0 a1 a2 a3
/-- what a call of the def at f comes to -/
theorem callK {f : Addr} {oc : Value} {od : Option Addr} {fd : FuncData} {osl : Array (Option Value)} {body : List Stmt} (ps : List Str) (nm : List (Str × Nat)) {d : Nat} {m : AS} {args : List AV} {Q : Post} {Z : XP} {σ : AHeap} (G : Gd X K)
    (ho : K.lookup f = some ⟨oc, od, .func fd, osl⟩) (hb : fd.body = .stmts body) (hbind : ∀ vs, vs.length = ps.length → bindArgs fd ⟨vs, []⟩ = pure (ps.zip vs)) (hc : fd.closure = []) (hg : fd.globals = mainGlobals) (hbi : fd.builtins = builtinsNs) (hcd : codeIn K fd.code fd.qualname = true)
    (hN : namesB fd.scope.names nm ps = true) (hk : fd.scope.kind = .function) (hco : fd.scope.isCoroutine = false) (hgen : fd.scope.isGenerator = false)
    (hs : ∀ env, EK env fd.scope.names → SoundSs X env nm body m) (hd : d < 600) (hlen : args.length = ps.length)
    (h : m (d + 1) (loc0 args (lenOf nm)) (fun fl _ σ' => Q (retOf fl) σ') (fun _ _ _ => False) σ) : CallOk X f d args Q Z σ :=
  callOk_of G.ok (scope := fd.scope) ⟨_, fd, G.inn _ _ ho, rfl, rfl, hb, hc, hg, hbi, codeRec_of G.inn hcd, hbind⟩ (namesOk_of hN) hk hco hgen (fun env EO es => hs env ⟨EO, by rw [es]⟩) hd hlen h
end
end Mine
namespace Mine
open PySem
theorem w_oNone {X : Cx} {env : Env} {nm : List (Str × Nat)} : SoundO X env nm none none := trivial
theorem w_oSome {X : Cx} {env : Env} {nm : List (Str × Nat)} {e : Expr} {m : AE} (h : SoundE X env nm e m) : SoundO X env nm (some e) (some m) := h
end Mine

set_option maxRecDepth 100000
set_option linter.unusedVariables false
set_option autoImplicit false
namespace Mine
open PySem PyProof.Rows

/-! ## the model's sort, for any run and any order by rank -/
structure SB (κ : SortKind) (a₀ : Array Keyed) (st : SortSt) : Prop where
  perm : (arrOf st).Perm a₀
  kind : kindOf st = κ
  failed : failedOf st = none

/-- the rank at a place -/
def Rk (ρ : Keyed → Nat) (xs : Array Keyed) (i : Nat) : Nat := match xs[i]? with | some p => ρ p | none => 0
def Srt (ρ : Keyed → Nat) (xs : Array Keyed) (a b : Nat) : Prop := ∀ i j, a ≤ i → i ≤ j → j < b → Rk ρ xs i ≤ Rk ρ xs j
def Dsc (ρ : Keyed → Nat) (xs : Array Keyed) (a b : Nat) : Prop := ∀ i j, a ≤ i → i ≤ j → j < b → Rk ρ xs j ≤ Rk ρ xs i
/-- nothing outside of a..b is touched -/
def Out (xs ys : Array Keyed) (a b : Nat) : Prop := ∀ k, (k < a ∨ b ≤ k) → ys[k]? = xs[k]?

theorem Rk_congr {ρ : Keyed → Nat} {xs ys : Array Keyed} {i j : Nat} (h : xs[i]? = ys[j]?) : Rk ρ xs i = Rk ρ ys j := by unfold Rk; rw [h]
theorem Rk_bubble {ρ : Keyed → Nat} {xs : Array Keyed} {src d : Nat} (hs : src < xs.size) (hd : d ≤ src) (k : Nat) :
    Rk ρ (bubble xs src d) k = if k = src - d then Rk ρ xs src else if src - d < k ∧ k ≤ src then Rk ρ xs (k - 1) else Rk ρ xs k := by
  have e := getElem?_bubble hs d hd k
  split at e
  · rw [if_pos (by assumption)]; exact Rk_congr e
  · rw [if_neg (by assumption)]
    split at e
    · rw [if_pos (by assumption)]; exact Rk_congr e
    · rw [if_neg (by assumption)]; exact Rk_congr e
theorem Rk_mirror {ρ : Keyed → Nat} {xs : Array Keyed} {i j : Nat} (hj : j ≤ xs.size) (k : Nat) :
    Rk ρ (mirror xs i j ((j - i) / 2)) k = if i ≤ k ∧ k < j then Rk ρ xs (i + j - 1 - k) else Rk ρ xs k := by
  have e := getElem?_mirror_all (i := i) hj k
  split at e
  · rw [if_pos (by assumption)]; exact Rk_congr e
  · rw [if_neg (by assumption)]; exact Rk_congr e
theorem Rk_mirror_eq {ρ : Keyed → Nat} {xs : Array Keyed} {i j : Nat} (hj : j ≤ xs.size) (he : ∀ k, i ≤ k → k < j → Rk ρ xs k = Rk ρ xs (j - 1)) (k : Nat) : Rk ρ (mirror xs i j ((j - i) / 2)) k = Rk ρ xs k := by
  rw [Rk_mirror hj]
  split
  · rw [he _ (by lia) (by lia), he k (by lia) (by lia)]
  · rfl

theorem Out.refl (xs : Array Keyed) (a b : Nat) : Out xs xs a b := fun _ _ => rfl
theorem Out.trans {xs ys zs : Array Keyed} {a b : Nat} (h : Out xs ys a b) (h' : Out ys zs a b) : Out xs zs a b := fun k hk => (h' k hk).trans (h k hk)
theorem Out.wide {xs ys : Array Keyed} {a b a' b' : Nat} (h : Out xs ys a b) (h1 : a' ≤ a) (h2 : b ≤ b') : Out xs ys a' b' := fun k hk => h k (by lia)
theorem out_mirror {xs : Array Keyed} {i j : Nat} (hj : j ≤ xs.size) : Out xs (mirror xs i j ((j - i) / 2)) i j := fun k hk => by
  rw [getElem?_mirror_all hj, if_neg (by lia)]
theorem out_bubble {xs : Array Keyed} {src d : Nat} (hs : src < xs.size) (hd : d ≤ src) : Out xs (bubble xs src d) (src - d) (src + 1) := fun k hk => by
  rw [getElem?_bubble hs d hd, if_neg (by lia), if_neg (by lia)]

theorem SB.size {κ : SortKind} {a₀ : Array Keyed} {st : SortSt} (h : SB κ a₀ st) : (arrOf st).size = a₀.size := h.perm.size_eq
theorem SB.setArr {κ : SortKind} {a₀ : Array Keyed} {st : SortSt} (h : SB κ a₀ st) {xs : Array Keyed} (hp : xs.Perm (arrOf st)) : SB κ a₀ (PyProof.Rows.setArr st xs) := ⟨hp.trans h.perm, h.kind, h.failed⟩
theorem SB.at_ {κ : SortKind} {a₀ : Array Keyed} {st : SortSt} (h : SB κ a₀ st) {i : Nat} (hi : i < a₀.size) : ∃ p, (arrOf st)[i]? = some p ∧ p ∈ a₀.toList := by
  have hi' : i < (arrOf st).size := by rw [h.size]; exact hi
  exact ⟨(arrOf st)[i], getElem?_pos _ i hi', (Array.perm_iff_toList_perm.mp h.perm).mem_iff.mp (by simp)⟩

/-- what the comparison of keys answers, in the state s -/
def CmpOk (prog : Program) (w : World) (A : Around) (s : Shared) (κ : SortKind) (ρ : Keyed → Nat) (a₀ : Array Keyed) : Prop :=
  ∀ p q, p ∈ a₀.toList → q ∈ a₀.toList → ∀ (Q : Bool → Shared → Prop) (E : Value → Shared → Prop), Q (decide (ρ p < ρ q)) s → wpAny (model prog w) A (keyLt' κ p.1 q.1) Q E s

section
variable {prog : Program} {w : World} {A : Around} {E : Value → Shared → Prop} {s : Shared} {a₀ : Array Keyed} {κ : SortKind} {ρ : Keyed → Nat}

theorem s_lt (H : CmpOk prog w A s κ ρ a₀) {st : SortSt} (hB : SB κ a₀ st) {p q : Keyed} (hp : p ∈ a₀.toList) (hq : q ∈ a₀.toList) {Q : Option Bool → SortSt → Prop} (h : Q (some (decide (ρ p < ρ q))) st) : wpS (model prog w) A E s (lt' p q) Q st := by
  rw [lt'_eq]
  refine wpS_bind (wpS_get ?_)
  rw [hB.kind]
  refine wpS_bind (wpS_lift (wpAny_attempt (H p q hp hq _ _ ⟨rfl, ?_⟩)))
  exact wpS_pure h
theorem s_elem {arr : Array Keyed} {i : Nat} {p : Keyed} {st : SortSt} {Q : Keyed → SortSt → Prop} (hp : arr[i]? = some p) (h : Q p st) : wpS (model prog w) A E s (elem' arr i) Q st := by
  rw [elem'_eq, hp]; exact wpS_pure h
theorem s_ltAt (H : CmpOk prog w A s κ ρ a₀) {st : SortSt} (hB : SB κ a₀ st) {i j : Nat} (hi : i < a₀.size) (hj : j < a₀.size) {Q : Option Bool → SortSt → Prop} (h : Q (some (decide (Rk ρ (arrOf st) i < Rk ρ (arrOf st) j))) st) :
    wpS (model prog w) A E s (ltAt' i j) Q st := by
  obtain ⟨p, e1, h1⟩ := hB.at_ hi
  obtain ⟨q, e2, h2⟩ := hB.at_ hj
  rw [ltAt'_eq]
  refine wpS_bind (wpS_get ?_)
  refine wpS_bind (s_elem e1 (wpS_bind (s_elem e2 (s_lt H hB h1 h2 ?_))))
  unfold Rk at h; rw [e1, e2] at h; exact h
theorem s_reverse {st : SortSt} {i j : Nat} {Q : Unit → SortSt → Prop} (h : Q () (setArr st (mirror (arrOf st) i j ((j - i) / 2)))) : wpS (model prog w) A E s (reverseSlice' i j) Q st := by
  rw [reverseSlice'_eq]; exact wpS_modify h
end

def upL (lo a nrem : Nat) : StateT SortSt Sem AscSt :=
  forIn [a:nrem] ((none, a) : AscSt) fun _ r => do
    let x ← ltAt' (lo + r.snd) (lo + r.snd - 1)
    match x with
    | some smaller => if smaller = true then pure (ForInStep.done (none, r.snd)) else pure (ForInStep.yield (none, r.snd + 1))
    | _ => pure (ForInStep.done (some none, r.snd))
def endL (lo n nrem : Nat) : StateT SortSt Sem (Option Nat) := do
  reverseSlice' lo (lo + n)
  let r ← upL lo n nrem
  match r.fst with
  | some r => pure r
  | none => pure (some r.snd)
def downL (lo n nrem : Nat) : StateT SortSt Sem DescSt :=
  forIn [n:nrem] ((none, n, 0) : DescSt) fun _ r => do
    let x ← ltAt' (lo + r.snd.fst) (lo + r.snd.fst - 1)
    match x with
    | some smaller =>
      if smaller = true then
        if r.snd.snd > 0 then do
          reverseSlice' (lo + r.snd.fst - (r.snd.snd + 1)) (lo + r.snd.fst)
          pure (ForInStep.yield (none, r.snd.fst + 1, 0))
        else pure (ForInStep.yield (none, r.snd.fst + 1, 0))
      else do
        let x ← ltAt' (lo + r.snd.fst - 1) (lo + r.snd.fst)
        match x with
        | some larger =>
          if larger = true then pure (ForInStep.done (none, r.snd.fst, r.snd.snd))
          else pure (ForInStep.yield (none, r.snd.fst + 1, r.snd.snd + 1))
        | _ => pure (ForInStep.done (some none, r.snd.fst, r.snd.snd))
    | _ => pure (ForInStep.done (some none, r.snd.fst, r.snd.snd))
def downP (lo n nrem : Nat) : StateT SortSt Sem (Option Nat) := do
  liftM (rule "list.sort.descending-run")
  let r ← downL lo (n + 1) nrem
  match r.fst with
  | some r => pure r
  | none =>
    if r.snd.snd > 0 then do
      reverseSlice' (lo + r.snd.fst - (r.snd.snd + 1)) (lo + r.snd.fst)
      endL lo r.snd.fst nrem
    else endL lo r.snd.fst nrem

theorem countRun_eq (lo nrem : Nat) : countRun' lo nrem = (do
    let r ← upL lo 1 nrem
    match r.fst with
    | some r => pure r
    | none =>
      if (r.snd == nrem) = true then pure (some r.snd)
      else if r.snd > 1 then do
        let x ← ltAt' lo (lo + r.snd - 1)
        match x with
        | some rose => if rose = true then pure (some r.snd) else do
            reverseSlice' lo (lo + r.snd)
            downP lo r.snd nrem
        | _ => pure none
      else downP lo r.snd nrem) := by
  rw [countRun'_eq]
  unfold downP endL downL upL
  dsimp only
  congr 1
  funext r
  obtain ⟨r, n⟩ := r
  cases r with
  | some r => rfl
  | none =>
    dsimp only
    split
    · rfl
    · split
      · congr 1
        funext x
        cases x with
        | none => rfl
        | some rose =>
          dsimp only
          split
          · rfl
          · congr 1
            funext _r
            congr 1; funext _u; congr 1; congr 1; funext s2; obtain ⟨r2, n2, q2⟩ := s2
            cases r2 with
            | some r2 => rfl
            | none =>
              dsimp only
              split
              · congr 1; funext _v; congr 1; funext _w; congr 1; funext s3; obtain ⟨r3, n3⟩ := s3; cases r3 <;> rfl
              · congr 1; funext _w; congr 1; funext s3; obtain ⟨r3, n3⟩ := s3; cases r3 <;> rfl
      · congr 1; funext _u; congr 1; congr 1; funext s2; obtain ⟨r2, n2, q2⟩ := s2
        cases r2 with
        | some r2 => rfl
        | none =>
          dsimp only
          split
          · congr 1; funext _v; congr 1; funext _w; congr 1; funext s3; obtain ⟨r3, n3⟩ := s3; cases r3 <;> rfl
          · congr 1; funext _w; congr 1; funext s3; obtain ⟨r3, n3⟩ := s3; cases r3 <;> rfl

section
variable {prog : Program} {w : World} {A : Around} {E : Value → Shared → Prop} {s : Shared} {a₀ : Array Keyed} {κ : SortKind} {ρ : Keyed → Nat}

theorem Srt.snoc {xs : Array Keyed} {lo x : Nat} (h : Srt ρ xs lo (lo + x)) (hx : 1 ≤ x) (h' : Rk ρ xs (lo + x - 1) ≤ Rk ρ xs (lo + x)) : Srt ρ xs lo (lo + (x + 1)) := fun i j hi hij hj => by
  by_cases hjx : j < lo + x
  · exact h i j hi hij hjx
  · have e : j = lo + x := by lia
    subst e
    by_cases hi' : i = lo + x
    · rw [hi']; exact Nat.le_refl _
    · exact Nat.le_trans (h i (lo + x - 1) hi (by lia) (by lia)) h'
theorem Dsc.snoc {xs : Array Keyed} {lo x : Nat} (h : Dsc ρ xs lo (lo + x)) (hx : 1 ≤ x) (h' : Rk ρ xs (lo + x) ≤ Rk ρ xs (lo + x - 1)) : Dsc ρ xs lo (lo + (x + 1)) := fun i j hi hij hj => by
  by_cases hjx : j < lo + x
  · exact h i j hi hij hjx
  · have e : j = lo + x := by lia
    subst e
    by_cases hi' : i = lo + x
    · rw [hi']; exact Nat.le_refl _
    · exact Nat.le_trans h' (h i (lo + x - 1) hi (by lia) (by lia))

theorem s_upL (H : CmpOk prog w A s κ ρ a₀) {st : SortSt} {lo a nrem : Nat} {Q : AscSt → SortSt → Prop} (hn : lo + nrem ≤ a₀.size) (ha : 1 ≤ a) (han : a ≤ nrem) (hB : SB κ a₀ st) (hs : Srt ρ (arrOf st) lo (lo + a))
    (h : ∀ n, a ≤ n → n ≤ nrem → Srt ρ (arrOf st) lo (lo + n) → (n = nrem ∨ Rk ρ (arrOf st) (lo + n) < Rk ρ (arrOf st) (lo + n - 1)) → Q (none, n) st) : wpS (model prog w) A E s (upL lo a nrem) Q st := by
  unfold upL
  refine wpS_forRange (I := fun x c st' => st' = st ∧ c = (none, x) ∧ Srt ρ (arrOf st) lo (lo + x)) ?step ?fin ⟨rfl, rfl, hs⟩
  case fin =>
    rintro c st' ⟨rfl, rfl, hs'⟩
    rw [show max a nrem = nrem by lia] at hs' ⊢
    exact h nrem han (Nat.le_refl _) hs' (.inl rfl)
  case step =>
    rintro x c st' hax hxn ⟨rfl, rfl, hs'⟩
    dsimp only
    refine wpS_bind (s_ltAt H hB (by lia) (by lia) ?_)
    by_cases hl : Rk ρ (arrOf st') (lo + x) < Rk ρ (arrOf st') (lo + x - 1)
    · simp only [hl, decide_true, if_true]
      exact wpS_pure (h x hax (by lia) hs' (.inr hl))
    · simp only [hl, decide_false, Bool.false_eq_true, if_false]
      exact wpS_pure ⟨rfl, rfl, hs'.snoc (by lia) (by lia)⟩

/-- what a run's search leaves -/
structure RunOk (κ : SortKind) (ρ : Keyed → Nat) (a₀ : Array Keyed) (st : SortSt) (lo nrem m : Nat) (st' : SortSt) : Prop where
  sb : SB κ a₀ st'
  m1 : 1 ≤ m
  le : m ≤ nrem
  srt : Srt ρ (arrOf st') lo (lo + m)
  out : Out (arrOf st) (arrOf st') lo (lo + nrem)
  pend : pendingOf st' = pendingOf st

theorem s_endL (H : CmpOk prog w A s κ ρ a₀) {st st₀ : SortSt} {lo n nrem : Nat} {Q : Option Nat → SortSt → Prop} (hn : lo + nrem ≤ a₀.size) (h1 : 1 ≤ n) (hnn : n ≤ nrem) (hB : SB κ a₀ st) (hs : Dsc ρ (arrOf st) lo (lo + n))
    (ho : Out (arrOf st₀) (arrOf st) lo (lo + nrem)) (hp : pendingOf st = pendingOf st₀) (h : ∀ m st', RunOk κ ρ a₀ st₀ lo nrem m st' → Q (some m) st') : wpS (model prog w) A E s (endL lo n nrem) Q st := by
  unfold endL
  have hsz : lo + n ≤ (arrOf st).size := by rw [hB.size]; lia
  refine wpS_bind (s_reverse ?_)
  have hB' : SB κ a₀ (setArr st (mirror (arrOf st) lo (lo + n) ((lo + n - lo) / 2))) := hB.setArr (mirror_perm _ _ _ _)
  refine wpS_bind (s_upL H hn h1 hnn hB' ?_ fun m hm1 hm2 hsm _ => wpS_pure (h m _ ⟨hB', by lia, hm2, hsm, ho.trans ((out_mirror hsz).wide (Nat.le_refl _) (by lia)), hp⟩))
  intro i j hi hij hj
  show Rk ρ (mirror (arrOf st) lo (lo + n) ((lo + n - lo) / 2)) i ≤ Rk ρ (mirror (arrOf st) lo (lo + n) ((lo + n - lo) / 2)) j
  rw [Rk_mirror hsz, Rk_mirror hsz, if_pos (by lia), if_pos (by lia)]
  exact hs _ _ (by lia) (by lia) (by lia)

theorem s_downL (H : CmpOk prog w A s κ ρ a₀) {st st₀ : SortSt} {lo n nrem : Nat} {Q : DescSt → SortSt → Prop} (hn : lo + nrem ≤ a₀.size) (h1 : 1 ≤ n) (hnn : n ≤ nrem) (hB : SB κ a₀ st) (hs : Dsc ρ (arrOf st) lo (lo + n))
    (ho : Out (arrOf st₀) (arrOf st) lo (lo + nrem)) (hp : pendingOf st = pendingOf st₀)
    (h : ∀ m neq st', SB κ a₀ st' → n ≤ m → m ≤ nrem → Dsc ρ (arrOf st') lo (lo + m) → neq + 1 ≤ m → (∀ i, lo + m - (neq + 1) ≤ i → i < lo + m → Rk ρ (arrOf st') i = Rk ρ (arrOf st') (lo + m - 1)) →
      Out (arrOf st₀) (arrOf st') lo (lo + nrem) → pendingOf st' = pendingOf st₀ → Q (none, m, neq) st') : wpS (model prog w) A E s (downL lo n nrem) Q st := by
  unfold downL
  refine wpS_forRange (I := fun x c st' => ∃ neq, c = (none, x, neq) ∧ SB κ a₀ st' ∧ Dsc ρ (arrOf st') lo (lo + x) ∧ neq + 1 ≤ x ∧
      (∀ i, lo + x - (neq + 1) ≤ i → i < lo + x → Rk ρ (arrOf st') i = Rk ρ (arrOf st') (lo + x - 1)) ∧ Out (arrOf st₀) (arrOf st') lo (lo + nrem) ∧ pendingOf st' = pendingOf st₀) ?step ?fin
    ⟨0, rfl, hB, hs, by lia, fun i h1 h2 => by congr 1; lia, ho, hp⟩
  case fin =>
    rintro c st' ⟨neq, rfl, hB', hs', hq, he, ho', hp'⟩
    rw [show max n nrem = nrem by lia] at hs' hq he ⊢
    exact h nrem neq st' hB' hnn (Nat.le_refl _) hs' hq he ho' hp'
  case step =>
    rintro x c st' hax hxn ⟨neq, rfl, hB', hs', hq, he, ho', hp'⟩
    dsimp only
    have hsz : lo + x ≤ (arrOf st').size := by rw [hB'.size]; lia
    refine wpS_bind (s_ltAt H hB' (by lia) (by lia) ?_)
    by_cases hl : Rk ρ (arrOf st') (lo + x) < Rk ρ (arrOf st') (lo + x - 1)
    · simp only [hl, decide_true, if_true]
      by_cases hneq : neq > 0
      · rw [if_pos hneq]
        refine wpS_bind (s_reverse (wpS_pure ⟨0, rfl, hB'.setArr (mirror_perm _ _ _ _), ?_, by lia, fun i h1 h2 => by congr 1; lia, ho'.trans ((out_mirror hsz).wide (by lia) (by lia)), hp'⟩))
        have e := Rk_mirror_eq (ρ := ρ) (i := lo + x - (neq + 1)) hsz he
        refine Dsc.snoc (fun i j hi hij hj => ?_) (by lia) ?_
        · show Rk ρ (mirror _ _ _ _) j ≤ Rk ρ (mirror _ _ _ _) i
          rw [e, e]; exact hs' i j hi hij hj
        · show Rk ρ (mirror _ _ _ _) _ ≤ Rk ρ (mirror _ _ _ _) _
          rw [e, e]; lia
      · rw [if_neg hneq]
        exact wpS_pure ⟨0, rfl, hB', hs'.snoc (by lia) (by lia), by lia, fun i h1 h2 => by congr 1; lia, ho', hp'⟩
    · simp only [hl, decide_false, Bool.false_eq_true, if_false]
      refine wpS_bind (s_ltAt H hB' (by lia) (by lia) ?_)
      by_cases hg : Rk ρ (arrOf st') (lo + x - 1) < Rk ρ (arrOf st') (lo + x)
      · simp only [hg, decide_true, if_true]
        exact wpS_pure (h x neq st' hB' hax (by lia) hs' hq he ho' hp')
      · simp only [hg, decide_false, Bool.false_eq_true, if_false]
        have hx : Rk ρ (arrOf st') (lo + x) = Rk ρ (arrOf st') (lo + x - 1) := by lia
        refine wpS_pure ⟨neq + 1, rfl, hB', hs'.snoc (by lia) (by lia), by lia, fun i h1 h2 => ?_, ho', hp'⟩
        rw [show lo + (x + 1) - 1 = lo + x by lia]
        by_cases hix : i = lo + x
        · rw [hix]
        · rw [hx]; exact he i (by lia) (by lia)

theorem s_downP (H : CmpOk prog w A s κ ρ a₀) {st st₀ : SortSt} {lo n nrem : Nat} {Q : Option Nat → SortSt → Prop} (hn : lo + nrem ≤ a₀.size) (hnn : n + 1 ≤ nrem) (hB : SB κ a₀ st) (hs : Dsc ρ (arrOf st) lo (lo + (n + 1)))
    (ho : Out (arrOf st₀) (arrOf st) lo (lo + nrem)) (hp : pendingOf st = pendingOf st₀) (h : ∀ m st', RunOk κ ρ a₀ st₀ lo nrem m st' → Q (some m) st') : wpS (model prog w) A E s (downP lo n nrem) Q st := by
  unfold downP
  refine wpS_bind (wpS_lift (wpAny_rule ⟨rfl, ?_⟩))
  refine wpS_bind (s_downL H hn (by lia) hnn hB hs ho hp fun m neq st' hB' hm1 hm2 hs' hq he ho' hp' => ?_)
  dsimp only
  have hsz : lo + m ≤ (arrOf st').size := by rw [hB'.size]; lia
  by_cases hneq : neq > 0
  · rw [if_pos hneq]
    have e := Rk_mirror_eq (ρ := ρ) (i := lo + m - (neq + 1)) hsz he
    refine wpS_bind (s_reverse (s_endL H hn (by lia) hm2 (hB'.setArr (mirror_perm _ _ _ _)) ?_ (ho'.trans ((out_mirror hsz).wide (by lia) (by lia))) hp' h))
    intro i j hi hij hj
    show Rk ρ (mirror _ _ _ _) j ≤ Rk ρ (mirror _ _ _ _) i
    rw [e, e]; exact hs' i j hi hij hj
  · rw [if_neg hneq]
    exact s_endL H hn (by lia) hm2 hB' hs' ho' hp' h

theorem s_countRun (H : CmpOk prog w A s κ ρ a₀) {st : SortSt} {lo nrem : Nat} {Q : Option Nat → SortSt → Prop} (hn : lo + nrem ≤ a₀.size) (h1 : 1 ≤ nrem) (hB : SB κ a₀ st)
    (h : ∀ m st', RunOk κ ρ a₀ st lo nrem m st' → Q (some m) st') : wpS (model prog w) A E s (countRun' lo nrem) Q st := by
  rw [countRun_eq]
  refine wpS_bind (s_upL H hn (Nat.le_refl 1) h1 hB (fun i j hi hij hj => by rw [show i = j by lia]; exact Nat.le_refl _) fun n hn1 hn2 hsn hor => ?_)
  dsimp only
  by_cases hnn : n = nrem
  · rw [if_pos (by simpa using hnn)]
    exact wpS_pure (h n st ⟨hB, hn1, hn2, hsn, Out.refl _ _ _, rfl⟩)
  · rw [if_neg (by simpa using hnn)]
    have hlt := hor.resolve_left hnn
    by_cases hgt : n > 1
    · rw [if_pos hgt]
      refine wpS_bind (s_ltAt H hB (by lia) (by lia) ?_)
      by_cases hr : Rk ρ (arrOf st) lo < Rk ρ (arrOf st) (lo + n - 1)
      · simp only [hr, decide_true, if_true]
        exact wpS_pure (h n st ⟨hB, hn1, hn2, hsn, Out.refl _ _ _, rfl⟩)
      · simp only [hr, decide_false, Bool.false_eq_true, if_false]
        have hsz : lo + n ≤ (arrOf st).size := by rw [hB.size]; lia
        have hall : ∀ k, lo ≤ k → k < lo + n → Rk ρ (arrOf st) k = Rk ρ (arrOf st) (lo + n - 1) := by
          intro k hk1 hk2
          have a1 := hsn lo k (by lia) hk1 hk2
          have a2 := hsn k (lo + n - 1) hk1 (by lia) (by lia)
          lia
        have e := Rk_mirror_eq (ρ := ρ) (i := lo) hsz hall
        refine wpS_bind (s_reverse (s_downP H hn (by lia) (hB.setArr (mirror_perm _ _ _ _)) ?_ ((out_mirror hsz).wide (Nat.le_refl _) (by lia)) rfl h))
        refine Dsc.snoc (fun i j hi hij hj => ?_) (by lia) ?_
        · show Rk ρ (mirror _ _ _ _) j ≤ Rk ρ (mirror _ _ _ _) i
          rw [e, e, hall i (by lia) (by lia), hall j (by lia) (by lia)]; exact Nat.le_refl _
        · show Rk ρ (mirror _ _ _ _) _ ≤ Rk ρ (mirror _ _ _ _) _
          rw [e, e]; lia
    · rw [if_neg hgt]
      have hn1' : n = 1 := by lia
      subst hn1'
      refine s_downP H hn (by lia) hB (Dsc.snoc (fun i j hi hij hj => by rw [show i = j by lia]; exact Nat.le_refl _) (Nat.le_refl _) (by lia)) (Out.refl _ _ _) rfl h

theorem s_binarySort (H : CmpOk prog w A s κ ρ a₀) {st : SortSt} {lo n ok : Nat} {Q : Bool → SortSt → Prop} (hn : lo + n ≤ a₀.size) (hn1 : 1 ≤ n) (hok : ok ≤ n) (hB : SB κ a₀ st) (hs : Srt ρ (arrOf st) lo (lo + ok))
    (h : ∀ st', RunOk κ ρ a₀ st lo n n st' → Q true st') : wpS (model prog w) A E s (binarySort' lo n ok) Q st := by
  rw [binarySort'_eq]
  refine wpS_bind (wpS_mono (wpS_forRange (I := fun k c st' => c = (none, ()) ∧ SB κ a₀ st' ∧ Srt ρ (arrOf st') lo (lo + min k n) ∧ Out (arrOf st) (arrOf st') lo (lo + n) ∧ pendingOf st' = pendingOf st)
    (Q := fun c st' => c = (none, ()) ∧ RunOk κ ρ a₀ st lo n n st') ?step ?fin ?init) ?post)
  case post =>
    rintro c st' ⟨rfl, hR⟩
    exact wpS_pure (h st' hR)
  case init =>
    refine ⟨rfl, hB, fun i j hi hij hj => ?_, Out.refl _ _ _, rfl⟩
    by_cases h1 : ok = 0
    · rw [show i = j by lia]; exact Nat.le_refl _
    · exact hs i j hi hij (by lia)
  case fin =>
    rintro c st' ⟨hc, hB', hs', ho', hp'⟩
    rw [show min (max (max ok 1) n) n = n by lia] at hs'
    exact ⟨hc, hB', hn1, Nat.le_refl _, hs', ho', hp'⟩
  case step =>
    rintro k c st' hak hkn ⟨rfl, hB', hs', ho', hp'⟩
    rw [show min k n = k by lia] at hs'
    have hk : lo + k < a₀.size := by lia
    refine wpS_bind (wpS_mono (wpS_forRange (I := fun x c st'' => st'' = st' ∧ ∃ l r, c = (none, l, r) ∧ l ≤ r ∧ r ≤ k ∧ r - l ≤ k - x ∧
        (∀ i, i < l → Rk ρ (arrOf st') (lo + i) ≤ Rk ρ (arrOf st') (lo + k)) ∧ (∀ i, r ≤ i → i < k → Rk ρ (arrOf st') (lo + k) < Rk ρ (arrOf st') (lo + i)))
      (Q := fun c st'' => st'' = st' ∧ ∃ l r, c = (none, l, r) ∧ l ≤ k ∧
        (∀ i, i < l → Rk ρ (arrOf st') (lo + i) ≤ Rk ρ (arrOf st') (lo + k)) ∧ (∀ i, l ≤ i → i < k → Rk ρ (arrOf st') (lo + k) < Rk ρ (arrOf st') (lo + i))) ?istep ?ifin ?iinit) ?ipost)
    case iinit => exact ⟨rfl, 0, k, rfl, by lia, by lia, by lia, fun i hi => by lia, fun i h1 h2 => by lia⟩
    case ifin =>
      rintro c st'' ⟨rfl, l, r, rfl, hlr, hrk, hm, hlo, hhi⟩
      have : l = r := by lia
      subst this
      exact ⟨rfl, l, l, rfl, hrk, hlo, hhi⟩
    case istep =>
      rintro x c st'' _ hxk ⟨rfl, l, r, rfl, hlr, hrk, hm, hlo, hhi⟩
      dsimp only
      by_cases hge : l ≥ r
      · rw [if_pos hge]
        have : l = r := by lia
        subst this
        exact wpS_pure ⟨rfl, l, l, rfl, hrk, hlo, hhi⟩
      · rw [if_neg hge]
        refine wpS_bind (s_ltAt H hB' hk (by lia) ?_)
        by_cases hless : Rk ρ (arrOf st'') (lo + k) < Rk ρ (arrOf st'') (lo + (l + r) / 2)
        · simp only [hless, decide_true, if_true]
          refine wpS_pure ⟨rfl, l, (l + r) / 2, rfl, by lia, by lia, by lia, hlo, fun i h1 h2 => ?_⟩
          exact Nat.lt_of_lt_of_le hless (hs' _ _ (by lia) (by lia) (by lia))
        · simp only [hless, decide_false, Bool.false_eq_true, if_false]
          refine wpS_pure ⟨rfl, (l + r) / 2 + 1, r, rfl, by lia, by lia, by lia, fun i h1 => ?_, hhi⟩
          exact Nat.le_trans (hs' (lo + i) (lo + (l + r) / 2) (by lia) (by lia) (by lia)) (Nat.not_lt.mp hless)
    case ipost =>
      rintro c st'' ⟨rfl, l, r, rfl, hlk, hlo, hhi⟩
      show wpS _ _ _ _ (do moveDown' (lo + k) (lo + l); pure (ForInStep.yield (none, ()))) _ _
      rw [moveDown'_eq]
      have hks : lo + k < (arrOf st'').size := by rw [hB'.size]; exact hk
      have hd : lo + k - (lo + l) ≤ lo + k := by lia
      refine wpS_bind (wpS_modify (wpS_pure ⟨rfl, hB'.setArr (bubble_perm _ _ _), ?_, ho'.trans ((out_bubble hks hd).wide (by lia) (by lia)), hp'⟩))
      rw [show min (k + 1) n = k + 1 by lia]
      intro i j hi hij hj
      show Rk ρ (bubble (arrOf st'') (lo + k) (lo + k - (lo + l))) i ≤ Rk ρ (bubble (arrOf st'') (lo + k) (lo + k - (lo + l))) j
      rw [Rk_bubble hks hd, Rk_bubble hks hd, show lo + k - (lo + k - (lo + l)) = lo + l by lia]
      have hlo' : ∀ i, lo ≤ i → i < lo + l → Rk ρ (arrOf st'') i ≤ Rk ρ (arrOf st'') (lo + k) := fun i h1 h2 => by have := hlo (i - lo) (by lia); rwa [show lo + (i - lo) = i by lia] at this
      have hhi' : ∀ i, lo + l ≤ i → i < lo + k → Rk ρ (arrOf st'') (lo + k) < Rk ρ (arrOf st'') i := fun i h1 h2 => by have := hhi (i - lo) (by lia) (by lia); rwa [show lo + (i - lo) = i by lia] at this
      repeat' split
      all_goals first
        | (exfalso; lia)
        | exact Nat.le_refl _
        | exact hlo' _ (by lia) (by lia)
        | exact Nat.le_of_lt (hhi' _ (by lia) (by lia))
        | exact hs' _ _ (by lia) (by lia) (by lia)
end
theorem srt_pair {ρ : Keyed → Nat} {a : Array Keyed} (SA : Srt ρ a 0 a.size) : a.toList.Pairwise fun x y => ρ x ≤ ρ y := by
  rw [List.pairwise_iff_getElem]
  intro i j hi hj hij
  have h1 : i < a.size := by simpa using hi
  have h2 : j < a.size := by simpa using hj
  have := SA i j (Nat.zero_le _) (by lia) h2
  have e1 : Rk ρ a i = ρ a.toList[i] := by unfold Rk; rw [getElem?_pos a i h1]; simp
  have e2 : Rk ρ a j = ρ a.toList[j] := by unfold Rk; rw [getElem?_pos a j h2]; simp
  rw [e1, e2] at this; exact this
end Mine

set_option maxRecDepth 100000
set_option linter.unusedVariables false
set_option autoImplicit false
namespace Mine
open PySem PyProof.Rows

def colL (sz pw : Nat) : StateT SortSt Sem (ForInStep (Option Unit × Unit)) := do
  let g ← get
  match (if (pendingOf g).size > 1 then (pendingOf g)[(pendingOf g).size - 2]? else none) with
  | some (_, _, older) =>
    if older ≤ pw then pure (.done (none, ()))
    else do
      let b ← mergeAt' ((pendingOf g).size - 2)
      if (!b) = true then pure (.done (some (), ())) else pure (.yield (none, ()))
  | _ => pure (.done (none, ()))
def tR (sz lo n : Nat) : StateT SortSt Sem (ForInStep (Option Unit × Nat)) := do
  let g ← get
  match (pendingOf g).back? with
  | some (s1, n1, _) => do
    let r ← forIn [0:sz] ((none, ()) : Option Unit × Unit) fun _ _ => colL sz (power' sz (2 * s1 + n1) (2 * s1 + n1 + n1 + n) sz)
    match r.1 with
    | some r => pure (.done (some r, lo))
    | none => do
      modify fun s => setPending s ((pendingOf s).modify ((pendingOf s).size - 1) fun (st, len, _) => (st, len, power' sz (2 * s1 + n1) (2 * s1 + n1 + n1 + n) sz))
      modify fun s => setPending s ((pendingOf s).push (lo, n, 0))
      pure (.yield (none, lo + n))
  | _ => do
    modify fun s => setPending s ((pendingOf s).push (lo, n, 0))
    pure (.yield (none, lo + n))
def oL (sz mr : Nat) (c : Option Unit × Nat) : StateT SortSt Sem (ForInStep (Option Unit × Nat)) :=
  if c.2 ≥ sz then pure (.done (none, c.2))
  else do
    let x ← countRun' c.2 (sz - c.2)
    match x with
    | some found =>
      if found < mr then do
        liftM (rule "list.sort.binary-insertion")
        let b ← binarySort' c.2 (min (sz - c.2) mr) found
        if (!b) = true then pure (.done (some (), c.2)) else tR sz c.2 (min (sz - c.2) mr)
      else tR sz c.2 found
    | _ => pure (.done (some (), c.2))
def fL : StateT SortSt Sem (ForInStep (Option Unit × Unit)) := do
  let g ← get
  if (pendingOf g).size ≤ 1 then pure (.done (none, ()))
  else do
    let b ← mergeAt' (if Option.any (fun x => decide (x < (pendingOf g)[(pendingOf g).size - 2 + 1]?.elim 0 fun x => x.snd.fst)) (if (pendingOf g).size - 2 > 0 then Option.map (fun x => x.snd.fst) (pendingOf g)[(pendingOf g).size - 2 - 1]? else none) = true then (pendingOf g).size - 2 - 1 else (pendingOf g).size - 2)
    if (!b) = true then pure (.done (some (), ())) else pure (.yield (none, ()))
def mRuns : StateT SortSt Sem Unit := do
  let g ← get
  let r ← forIn [0:(arrOf g).size] ((none, 0) : Option Unit × Nat) fun _ c => oL (arrOf g).size (minRun' (arrOf g).size (arrOf g).size 0) c
  match r.1 with
  | some r => pure r
  | none => do
    let q ← forIn [0:(arrOf g).size] ((none, ()) : Option Unit × Unit) fun _ _ => fL
    match q.1 with
    | some r => pure r
    | none => pure ()
theorem mRuns_eq : sortRuns' = mRuns := by kernel_rfl
/-- how long a list this text can sort -/
def sortMax : Nat := 63


section
variable {prog : Program} {w : World} {A : Around} {E : Value → Shared → Prop} {s : Shared} {a₀ : Array Keyed} {κ : SortKind} {ρ : Keyed → Nat}
theorem s_sortRuns (H : CmpOk prog w A s κ ρ a₀) {st : SortSt} (hB : SB κ a₀ st) (hp : pendingOf st = #[]) (h2 : 2 ≤ a₀.size) (hmx : a₀.size ≤ sortMax) {Q : Unit → SortSt → Prop}
    (h : ∀ st', SB κ a₀ st' → Srt ρ (arrOf st') 0 a₀.size → Q () st') : wpS (model prog w) A E s sortRuns' Q st := by
  rw [mRuns_eq]
  unfold mRuns
  refine wpS_bind (wpS_get ?_)
  simp only [hB.size]
  have hmx' : a₀.size < 64 := Nat.lt_succ_of_le hmx
  have hmr : minRun' a₀.size a₀.size 0 = a₀.size := by
    cases hn : a₀.size with
    | zero => rfl
    | succ n => rw [minRun'_succ, if_pos (by lia)]
  rw [hmr]
  have tr : ∀ (st' : SortSt) {Q : ForInStep (Option Unit × Nat) → SortSt → Prop}, pendingOf st' = #[] → Q (.yield (none, 0 + a₀.size)) (setPending st' ((pendingOf st').push (0, a₀.size, 0))) → wpS (model prog w) A E s (tR a₀.size 0 a₀.size) Q st' := by
    intro st' Q hp' q
    unfold tR
    refine wpS_bind (wpS_get ?_)
    rw [hp'] at q ⊢
    exact wpS_bind (wpS_modify (wpS_pure (by rw [hp']; exact q)))
  refine wpS_bind (wpS_mono (wpS_forRange (I := fun x c st' => (x = 0 ∧ c = (none, 0) ∧ SB κ a₀ st' ∧ pendingOf st' = #[]) ∨ (c = (none, a₀.size) ∧ SB κ a₀ st' ∧ (pendingOf st').size = 1 ∧ Srt ρ (arrOf st') 0 a₀.size))
    (Q := fun c st' => c = (none, a₀.size) ∧ SB κ a₀ st' ∧ (pendingOf st').size = 1 ∧ Srt ρ (arrOf st') 0 a₀.size) ?step ?fin (.inl ⟨rfl, rfl, hB, hp⟩)) ?post)
  case fin =>
    rintro c st' (⟨h0, _⟩ | hh)
    · lia
    · exact hh
  case step =>
    rintro x c st' _ hx (⟨rfl, rfl, hB', hp'⟩ | ⟨rfl, hB', hp', hs'⟩)
    · unfold oL
      dsimp only
      rw [if_neg (by lia)]
      refine wpS_bind (s_countRun H (by lia) (by lia) hB' fun m st2 R => ?_)
      dsimp only
      have hm := R.le
      have hm1 := R.m1
      simp only [Nat.sub_zero, Nat.min_self] at hm ⊢
      have hsrt := R.srt
      split
      · rename_i hlt
        refine wpS_bind (wpS_lift (wpAny_rule ⟨rfl, ?_⟩))
        refine wpS_bind (s_binarySort H (n := a₀.size) (by lia) (by lia) (by lia) R.sb R.srt fun st3 R3 => ?_)
        simp only [Bool.not_true, Bool.false_eq_true, if_false]
        have hs3 := R3.srt
        refine tr st3 (by rw [R3.pend, R.pend]; exact hp') (.inr ⟨by simp, ⟨R3.sb.perm, R3.sb.kind, R3.sb.failed⟩, ?_, ?_⟩)
        · show ((pendingOf st3).push _).size = 1
          rw [R3.pend, R.pend, hp']; rfl
        · rw [Nat.zero_add] at hs3; exact hs3
      · rename_i hlt
        have hmm : m = a₀.size := by lia
        subst hmm
        refine tr st2 (by rw [R.pend]; exact hp') (.inr ⟨by simp, ⟨R.sb.perm, R.sb.kind, R.sb.failed⟩, ?_, ?_⟩)
        · show ((pendingOf st2).push _).size = 1
          rw [R.pend, hp']; rfl
        · rw [Nat.zero_add] at hsrt; exact hsrt
    · unfold oL
      dsimp only
      rw [if_pos (Nat.le_refl _)]
      exact wpS_pure ⟨rfl, hB', hp', hs'⟩
  case post =>
    rintro c st' ⟨rfl, hB', hp', hs'⟩
    dsimp only
    refine wpS_bind (wpS_mono (wpS_forRange (I := fun x c st'' => c = (none, ()) ∧ st'' = st') (Q := fun c st'' => c = (none, ()) ∧ st'' = st') ?step2 (fun c st'' hh => hh) ⟨rfl, rfl⟩) ?post2)
    case step2 =>
      rintro x c st'' _ hx ⟨rfl, rfl⟩
      unfold fL
      refine wpS_bind (wpS_get ?_)
      rw [if_pos (by lia)]
      exact wpS_pure ⟨rfl, rfl⟩
    case post2 =>
      rintro c st'' ⟨rfl, rfl⟩
      exact wpS_pure (h st'' hB' hs')
end
end Mine

set_option maxRecDepth 100000
set_option linter.unusedVariables false
set_option autoImplicit false
namespace Mine
open PySem PyProof.Rows PySem.SeqAt PySem.W

theorem zip_self_map {vs : List Value} {out : Array Keyed} (h : out.Perm (vs.toArray.zip vs.toArray)) : (out.map (·.2)).toList.Perm vs ∧ ∀ p ∈ out.toList, p.1 = p.2 := by
  have h' := Array.perm_iff_toList_perm.mp h
  have e : (vs.toArray.zip vs.toArray).toList = vs.zip vs := by simp
  rw [e] at h'
  have z : ∀ (l : List Value), (l.zip l).map (·.2) = l ∧ ∀ p ∈ l.zip l, p.1 = p.2 := by
    intro l
    induction l with
    | nil => exact ⟨rfl, fun p hp => by simp at hp⟩
    | cons x l ih => exact ⟨by simp [ih.1], fun p hp => by
        rcases List.mem_cons.mp hp with e | hp
        · rw [e]
        · exact ih.2 p hp⟩
  refine ⟨?_, fun p hp => (z vs).2 p (h'.mem_iff.mp hp)⟩
  have := h'.map (·.2)
  rw [(z vs).1] at this
  simpa using this

section
variable {prog : Program} {w : World} {A : Around} {E : Value → Shared → Prop} {s : Shared}

theorem s_listSort {a : Addr} {vs : List Value} {n : Nat} {P : PySem.Fin → Shared → Prop} (ρ : Value → Nat) (ho : s.heap.get? a = some (seqObj "list" vs.toArray n)) (hlen : vs.length ≤ 1000000) (hmx : vs.length ≤ sortMax)
    (hk : ∀ h' : Heap, (∀ b o, b ≠ a → s.heap.get? b = some o → h'.get? b = some o) → 2 ≤ vs.length → ∃ κ, (∀ (Q : SortKind → Shared → Prop), Q κ { s with heap := h' } → wpAny (model prog w) A (keyKind' vs.toArray) Q E { s with heap := h' }) ∧
      CmpOk prog w A { s with heap := h' } κ (fun p => ρ p.1) (vs.toArray.zip vs.toArray))
    (h : ∀ (out : List Value) c (h3 : Heap), out.Perm vs → out.Pairwise (fun x y => ρ x ≤ ρ y) → h3.get? a = some (seqObj "list" out.toArray c) → (∀ b o, b ≠ a → s.heap.get? b = some o → h3.get? b = some o) → P (.done (.ret .none)) { s with heap := h3 }) :
    wpAny (model prog w) A (Builtin.«list.sort» ⟨[.ref a], []⟩) P E s := by
  have ha : a < s.heap.objs.size := Heap.lt_size ho
  obtain ⟨e1, ho1⟩ : ∃ e1, (s.heap.update a (Obj.mapSeq fun _ => (#[] : Array Value))).get? a = some (seqObj "list" #[] e1) := ⟨_, get?_update_seq ho fun _ => #[]⟩
  have s1 := Heap.SameBut.update s.heap a (Obj.mapSeq fun _ => (#[] : Array Value))
  obtain ⟨h2, hh2⟩ : ∃ x, x = ((s.heap.update a (Obj.mapSeq fun _ => (#[] : Array Value))).push (seqObj "tuple" vs.toArray 0)).push (seqObj "list" #[] 0) := ⟨_, rfl⟩
  have keep2 : ∀ b o, b ≠ a → s.heap.get? b = some o → h2.get? b = some o := fun b o hb e => by
    rw [hh2]; exact Heap.get?_push_of_some _ (Heap.get?_push_of_some _ ((s1.2 b hb).trans e))
  have ho2 : h2.get? a = some (seqObj "list" #[] e1) := by rw [hh2]; exact Heap.get?_push_of_some _ (Heap.get?_push_of_some _ ho1)
  rw [list_sort_plain]
  refine wpAny_bind (listItems_at ho rfl ?_)
  refine wpAny_bind (listUpdate_at ho rfl ?_ (by rw [List.size_toArray, sizeLine_eq]; lia) (Nat.zero_le _))
  refine wpAny_bind (seqEpoch_at ho1 rfl ?_)
  refine wpAny_bind (wpAny_newTuple ?_ (by show vs.length ≤ _; rw [sizeLine_eq]; lia))
  refine wpAny_bind (wpAny_newList ?_ (Nat.zero_le _))
  refine wpAny_holding ?_
  show wpAny (model prog w) A _ P E { s with heap := ((s.heap.update a (Obj.mapSeq fun _ => (#[] : Array Value))).push (seqObj "tuple" vs.toArray 0)).push (seqObj "list" #[] 0) }
  rw [← hh2]
  dsimp only
  have rest : ∀ st' : SortSt, (arrOf st').Perm (vs.toArray.zip vs.toArray) → failedOf st' = none → (arrOf st').toList.Pairwise (fun x y => ρ x.1 ≤ ρ y.1) → wpAny (model prog w) A (do
      let touched := (← seqEpoch a) != e1
      Builtin.List.listUpdate (.ref a) fun _ => (arrOf st').map (·.2)
      if let some e := failedOf st' then rule "list.sort.comparison-raised"; throw e
      if touched then rule "list.sort.modified"; raiseError "ValueError" "list modified during sort"
      ret .none) P E { s with heap := h2 } := by
    intro st' hp hf hs
    obtain ⟨z1, z2⟩ := zip_self_map hp
    have hl := z1.length_eq
    obtain ⟨c2, hc2⟩ : ∃ c2, (h2.update a (Obj.mapSeq fun _ => (arrOf st').map (·.2))).get? a = some (seqObj "list" ((arrOf st').map (·.2)) c2) := ⟨_, get?_update_seq ho2 fun _ => (arrOf st').map (·.2)⟩
    have s2 := Heap.SameBut.update h2 a (Obj.mapSeq fun _ => (arrOf st').map (·.2))
    refine wpAny_bind (seqEpoch_at ho2 rfl ?_)
    refine wpAny_bind (listUpdate_at ho2 rfl ?_ (Nat.zero_le _) (by
      have : ((arrOf st').map (·.2)).size = vs.length := by rw [← hl]; simp
      rw [this, sizeLine_eq]; lia))
    rw [hf]
    simp only [bne_self_eq_false, Bool.false_eq_true, if_false]
    refine wpAny_pure (h ((arrOf st').map (·.2)).toList c2 _ z1 ?_ (by rw [hc2]) fun b o hb e => (s2.2 b hb).trans (keep2 b o hb e))
    rw [Array.toList_map, List.pairwise_map]
    exact hs.imp_of_mem fun {x y} hx hy hxy => by rw [← z2 x hx, ← z2 y hy]; exact hxy
  by_cases hn : vs.length < 2
  · have hn2 : vs.toArray.size < 2 := by rw [List.size_toArray]; exact hn
    rw [if_pos hn2, if_pos hn2]
    refine wpAny_bind (wpAny_pure ?_)
    refine wpAny_bind ?_
    show wpAny (model prog w) A (pure ((), SortSt.mk' general' (vs.toArray.zip vs.toArray) #[] 7 none) : Sem (Unit × SortSt)) _ E _
    refine wpAny_pure ?_
    refine rest (SortSt.mk' general' (vs.toArray.zip vs.toArray) #[] 7 none) (.refl _) rfl ?_
    have : (vs.toArray.zip vs.toArray).toList.length < 2 := by simp; lia
    show (vs.toArray.zip vs.toArray).toList.Pairwise _
    generalize (vs.toArray.zip vs.toArray).toList = l at this
    match l, this with
    | [], _ => exact .nil
    | [x], _ => exact List.pairwise_singleton _ _
    | _ :: _ :: _, h => simp only [List.length_cons] at h; lia
  · have hn2 : ¬ vs.toArray.size < 2 := by rw [List.size_toArray]; exact hn
    rw [if_neg hn2, if_neg hn2]
    obtain ⟨κ, hq, H⟩ := hk h2 keep2 (by lia)
    refine wpAny_bind (hq _ ?_)
    have hB : SB κ (vs.toArray.zip vs.toArray) (SortSt.mk' κ (vs.toArray.zip vs.toArray) #[] 7 none) := ⟨.refl _, rfl, rfl⟩
    have run := s_sortRuns (E := E) (Q := fun _ st' => (arrOf st').Perm (vs.toArray.zip vs.toArray) ∧ failedOf st' = none ∧ (arrOf st').toList.Pairwise (fun x y => ρ x.1 ≤ ρ y.1)) H hB rfl (by simp; lia) (by simpa using hmx) fun st' hB' hs => ⟨hB'.perm, hB'.failed, by
      have := hB'.size
      exact srt_pair (ρ := fun p => ρ p.1) (by rw [this]; exact hs)⟩
    refine wpAny_bind (wpAny_mono run (fun r s' hr => ?_) fun _ _ e => e)
    obtain ⟨⟨⟩, st'⟩ := r
    obtain ⟨rfl, hp, hf, hs⟩ := hr
    exact rest st' hp hf hs

/-- the tuples' own loop, by what they read -/
theorem lex_reads {b : Bool} {t : Bool} {Q : Bool → Shared → Prop} (xs : List PyData) : ∀ (ys : List PyData) {vs ws : List Value} {as bs : List Addr} {fin : Bool} {i : Nat}, ReadsAll s.heap vs xs as → ReadsAll s.heap ws ys bs → PyData.canLayAll0 xs = true → PyData.canLayAll0 ys = true → A.units + 2 * PyData.depthAll xs + 10 < cLine →
    fin = decide (xs.length < ys.length) → (i = 0 → b = true → ∀ x y, xs.head? = some x → ys.head? = some y → (∃ u v, x = .int u ∧ y = .int v) ∨ ∃ u v, x = .str u ∧ y = .str v) → ltDL xs ys = some t → Q t s → KatLex prog w A b fin Q (vs.zip ws) i s := by
  induction xs with
  | nil =>
    intro ys vs ws as bs fin i rx ry ha hb hu hf hi e q
    cases rx
    cases ys with
    | nil => cases ry; simp only [ltDL, Option.some.injEq] at e; subst e; subst hf; exact q
    | cons y ys => cases ry; simp only [ltDL, Option.some.injEq] at e; subst e; subst hf; exact kat_nil (by simpa using q)
  | cons x xs ih =>
    intro ys vs ws as bs fin i rx ry ha hb hu hf hi e q
    cases rx with
    | cons h1 h2 =>
      cases ys with
      | nil => cases ry; simp only [ltDL, Option.some.injEq] at e; subst e; subst hf; exact kat_nil (by simpa using q)
      | cons y ys =>
        cases ry with
        | cons k1 k2 =>
          simp only [PyData.canLayAll0, Bool.and_eq_true] at ha hb
          simp only [PyData.depthAll] at hu
          have h5 : x.depth ≤ max x.depth (PyData.depthAll xs) := Nat.le_max_left _ _
          have h6 : PyData.depthAll xs ≤ max x.depth (PyData.depthAll xs) := Nat.le_max_right _ _
          have hmin : min x.depth y.depth ≤ x.depth := Nat.min_le_left _ _
          have heq := eqAt_reads x y A s _ _ _ _ h1 k1 ha.1 hb.1 (by lia)
          simp only [ltDL] at e
          simp only [List.zip_cons_cons]
          refine kat_cons (heq prog w _ _ ?_)
          cases hE : PyData.eqv x y with
          | true =>
            rw [hE] at e
            exact kat_yes (ih ys h2 k2 ha.2 hb.2 (by lia) (by simpa using hf) (fun h0 => by lia) e q)
          | false =>
            rw [hE] at e
            simp only [Bool.false_eq_true, if_false] at e
            refine kat_no ?_
            cases hbi : (b && i == 0) with
            | false =>
              rw [oneLt'_eq]
              simp only [Bool.false_eq_true, if_false]
              exact wpAny_bind (lt_reads x y h1 k1 ha.1 hb.1 (by lia) e prog w _ _ (wpAny_truthy_bool q))
            | true =>
              simp only [Bool.and_eq_true, beq_iff_eq] at hbi
              rcases hi hbi.2 hbi.1 x y rfl rfl with ⟨u, u', rfl, rfl⟩ | ⟨u, u', rfl, rfl⟩
              · cases h1; cases k1
                simp only [ltD, Option.some.injEq] at e; subst e
                exact oneLt_int q
              · cases h1; cases k1
                simp only [ltD, Option.some.injEq] at e; subst e
                exact oneLt_str q
end
end Mine

set_option maxRecDepth 100000
set_option linter.unusedVariables false
set_option autoImplicit false
namespace Mine
open PySem PyProof.Rows PySem.SeqAt PySem.W

def LtAV (σ : AHeap) (x y : AV) (t : Bool) : Prop := ∃ a b, Rd σ x a ∧ Rd σ y b ∧ DOk a ∧ DOk b ∧ ltD a b = some t
/-- tuples that begin with ints, or with texts -/
def Kindly (xs : List AV) : Prop := (∀ x ∈ xs, ∃ i r, x = .tup (.int i :: r)) ∨ (∀ x ∈ xs, ∃ i r, x = .tup (.str i :: r)) ∨ ∀ x ∈ xs, ∃ i, x = .int i
/-- a sort of these, by rank: any order of them that is sorted -/
def pSorted : Prim := fun as Q σ => match as with
  | [.ref p] => ∃ (xs : List AV) (ρ : AV → Nat), listAt p xs σ ∧ xs.length ≤ sortMax ∧ Kindly xs ∧ (∀ x ∈ xs, ∀ y ∈ xs, LtAV σ x y (decide (ρ x < ρ y))) ∧
      ∀ ys, ys.Perm xs → ys.Pairwise (fun x y => ρ x ≤ ρ y) → ∀ r, σ r = none → Q (.ref r) (σ.set r (.list ys))
  | _ => False

theorem RepVs.mem {h : Heap} : ∀ {xs vs}, RepVs h xs vs → ∀ v ∈ vs, ∃ x ∈ xs, RepV h x v
  | _, _, .nil, v, hv => nomatch hv
  | _, _, .cons a r, v, hv => by
    rcases List.mem_cons.mp hv with e | hv
    · subst e; exact ⟨_, List.mem_cons_self, a⟩
    · obtain ⟨x, hx, q⟩ := r.mem v hv; exact ⟨x, List.mem_cons_of_mem _ hx, q⟩
theorem repVs_cons {h : Heap} {xs : List AV} {v : Value} {vs : List Value} (r : RepVs h xs (v :: vs)) : ∃ x xs', xs = x :: xs' ∧ RepV h x v ∧ RepVs h xs' vs := by
  cases r with
  | cons a r => exact ⟨_, _, rfl, a, r⟩
theorem RepVs.perm {h : Heap} {vs ws : List Value} (p : ws.Perm vs) : ∀ {xs}, RepVs h xs vs → ∃ ys, ys.Perm xs ∧ RepVs h ys ws := by
  induction p with
  | nil => intro xs r; exact ⟨xs, .refl _, r⟩
  | cons v p ih =>
    intro xs r
    obtain ⟨x, xs', rfl, a, r⟩ := repVs_cons r
    obtain ⟨ys, h1, h2⟩ := ih r
    exact ⟨x :: ys, .cons x h1, .cons a h2⟩
  | swap v w l =>
    intro xs r
    obtain ⟨x, xs', rfl, a, r⟩ := repVs_cons r
    obtain ⟨y, xs'', rfl, b, r⟩ := repVs_cons r
    exact ⟨y :: x :: xs'', .swap .., .cons b (.cons a r)⟩
  | trans p q ih1 ih2 =>
    intro xs r
    obtain ⟨ys, h1, h2⟩ := ih2 r
    obtain ⟨zs, h3, h4⟩ := ih1 h2
    exact ⟨zs, h3.trans h1, h4⟩

theorem RepVs.pair {h : Heap} {ρ : AV → Nat} {ρV : Value → Nat} : ∀ {ys out}, RepVs h ys out → (∀ y ∈ ys, ∀ v, RepV h y v → ρV v = ρ y) → out.Pairwise (fun x y => ρV x ≤ ρV y) → ys.Pairwise (fun x y => ρ x ≤ ρ y)
  | _, _, .nil, _, _ => .nil
  | _, _, .cons (x := x) (xs := xs) (v := v) (vs := vs) a r, hρ, hp => by
    obtain ⟨h1, h2⟩ := List.pairwise_cons.mp hp
    refine List.pairwise_cons.mpr ⟨fun y hy => ?_, r.pair (fun y hy => hρ y (List.mem_cons_of_mem _ hy)) h2⟩
    obtain ⟨i, hi⟩ := List.mem_iff_getElem?.mp hy
    obtain ⟨w, hw, rw_⟩ := r.get hi
    have := h1 w (List.mem_of_getElem? hw)
    rw [hρ x List.mem_cons_self v a, hρ y (List.mem_cons_of_mem _ hy) w rw_] at this
    exact this

theorem katTups_of {h : Heap} {T : Value} {M : Model} : ∀ {xs : List AV} {vs : List Value}, RepVs h xs vs → (∀ x ∈ xs, ∃ y r, x = .tup (y :: r) ∧ ∀ v, RepV h y v → Looks M h (typeOf v) T) → ∃ fs, KatTups h vs fs ∧ fs.length = vs.length ∧ ∀ v ∈ fs, Looks M h (typeOf v) T
  | _, _, .nil, _ => ⟨[], .nil, rfl, fun v hv => nomatch hv⟩
  | _, _, .cons (x := x) (xs := xs) (v := v) (vs := vs) a r, hx => by
    obtain ⟨fs, h1, h2, h3⟩ := katTups_of r fun x hx' => hx x (List.mem_cons_of_mem _ hx')
    obtain ⟨y, ys, rfl, hl⟩ := hx x List.mem_cons_self
    cases a with
    | @tup _ t ws hlen ht rs =>
      obtain ⟨o, ho, hc, n, hd⟩ := ht
      cases rs with
      | @cons _ _ u us ru rus =>
        exact ⟨u :: fs, .cons ho hc hd (by simp) h1, by simp [h2], fun w hw => by
          rcases List.mem_cons.mp hw with e | hw
          · subst e; exact hl w ru
          · exact h3 w hw⟩

theorem newListAtD {X : Cx} {σ : AHeap} {s : Shared} {h' : Heap} {t : Nat} {xs : List AV} {vs : List Value} {n D : Nat} {Q : Post} (a : At X σ s) (hk : ∀ b o, s.heap.get? b = some o → h'.get? b = some o) (hD : s.heap.objs.size ≤ D) (hn : h'.get? D = some (listObj vs n)) (r : RepVs h' xs vs)
    (hl : xs.length ≤ 1000000) (hsz : s.heap.objs.size ≤ h'.objs.size) (q : ∀ r, σ r = none → Q (.ref r) (σ.set r (.list xs))) : liftQ X σ s Q (.ref D) { s with heap := h', toks := t } := by
  have kv : KeepV s.heap h' := fun b o e _ => hk b o e
  have hσ := a.none_of_size (b := D) hD
  refine ⟨.ref _, σ.set D (.list xs), .ref _, ⟨fun b o e => hk b o (a.keep b o e), fun b ao e => ?_, fun b ao e hro => ?_, a.gens, a.os⟩, ⟨fun b o e _ _ => hk b o e, fun b h1 h2 => ?_, hsz⟩, q _ hσ⟩
  · by_cases hb : b = D
    · subst hb; rw [AHeap.set_self] at e; cases e; exact ⟨vs, n, hn, r, hl⟩
    · rw [AHeap.set_ne _ _ hb] at e; exact (a.rep b ao e).mono kv fun o ho => hk b o ho
  · by_cases hb : b = D
    · subst hb; exact (new_out a hD).2.1
    · rw [AHeap.set_ne _ _ hb] at e; exact a.own b ao e hro
  · by_cases hb : b = D
    · rw [hb]; exact hD
    · rw [AHeap.set_ne _ _ hb] at h1; exact absurd h2 h1

open Classical in
theorem sound_sorted {X : Cx} : SoundPrim X (.builtin "sorted") pSorted := fun d A σ s as vs Q E L a r q => by
  unfold pSorted at q
  split at q
  · obtain ⟨v, rfl, rv⟩ := repVs1 r
    cases rv
    rename_i p
    obtain ⟨xs, ρ, hp, hmx, hkd, hlt, q⟩ := q
    obtain ⟨vs, hl, rs⟩ := a.isList hp
    have hm := a.len hp
    have hlen := rs.length
    have room := L.room
    -- ranks of values
    have uni : ∀ x ∈ xs, ∀ y ∈ xs, ∀ v, RepV s.heap x v → RepV s.heap y v → ρ x = ρ y := fun x hx y hy v rx ry => by
      obtain ⟨a1, b1, h1, h2, k1, k2, e1⟩ := hlt x hx y hy
      obtain ⟨a2, b2, h3, h4, k3, k4, e2⟩ := hlt y hy x hx
      obtain ⟨_, q1⟩ := h1.reads a rx
      obtain ⟨_, q2⟩ := h2.reads a ry
      obtain ⟨_, q3⟩ := h3.reads a ry
      obtain ⟨_, q4⟩ := h4.reads a rx
      have d1 := PySem.SeqAt.Reads.unique _ _ _ _ _ k1.1 q1 q2
      have d2 := PySem.SeqAt.Reads.unique _ _ _ _ _ k1.1 q1 q3
      have d3 := PySem.SeqAt.Reads.unique _ _ _ _ _ k1.1 q1 q4
      subst d1; subst d2; subst d3
      rw [e1] at e2
      have := Option.some.inj e2
      rw [decide_eq_decide] at this
      lia
    obtain ⟨ρV, hρV⟩ : ∃ ρV : Value → Nat, ∀ x ∈ xs, ∀ v, RepV s.heap x v → ρV v = ρ x := by
      refine ⟨fun v => if h : ∃ x, x ∈ xs ∧ RepV s.heap x v then ρ (choose h) else 0, fun x hx v rx => ?_⟩
      have h : ∃ x, x ∈ xs ∧ RepV s.heap x v := ⟨x, hx, rx⟩
      simp only [dif_pos h]
      exact uni _ (choose_spec h).1 x hx v (choose_spec h).2 rx
    refine with_size (Calls.call_function_entry kind_sorted plain_sorted entry_sorted (args_sorted1 _) ?_)
    unfold Builtin.«sorted»
    refine wpAny_bind (m := checkCount "sorted" 1 1 _) (wpAny_pure ?_)
    refine wpAny_bind (collect_list hl ?_ (by rw [sizeLine_eq]; lia))
    refine wpAny_bind (wpAny_newList ?_ (by rw [sizeLine_eq]; lia))
    have hsz : ((s.heap.push (seqObj "list" #[] 0)).update s.heap.objs.size (Obj.mapSeq (· ++ vs.toArray))).objs.size = s.heap.objs.size + 1 := by
      rw [Heap.size_update, size_push']
    obtain ⟨h1, hh1⟩ : ∃ x, x = ((s.heap.push (seqObj "list" #[] 0)).update s.heap.objs.size (Obj.mapSeq (· ++ vs.toArray))).push (seqObj "list" vs.toArray 0) := ⟨_, rfl⟩
    have hoL : h1.get? (s.heap.objs.size + 1) = some (seqObj "list" vs.toArray 0) := by
      rw [hh1, ← hsz]; exact Heap.get?_push_size _ rfl
    have keep : ∀ b o, s.heap.get? b = some o → h1.get? b = some o := fun b o q => by
      have hlt : b < s.heap.objs.size := Heap.lt_size q
      rw [hh1, Heap.get?_push_ne _ _ _ (by rw [hsz]; exact Nat.ne_of_lt (Nat.lt_succ_of_lt hlt)), Heap.get?_update_ne _ _ _ _ (Nat.ne_of_lt hlt), Heap.get?_push_ne _ _ _ (Nat.ne_of_lt hlt)]
      exact q
    show wpAny _ _ _ _ _ { s with heap := ((s.heap.push (seqObj "list" #[] 0)).update s.heap.objs.size (Obj.mapSeq (· ++ vs.toArray))).push (seqObj "list" vs.toArray 0) }
    rw [hsz, ← hh1]
    have keep' : ∀ h' : Heap, (∀ b o, b ≠ s.heap.objs.size + 1 → h1.get? b = some o → h'.get? b = some o) → ∀ b o, s.heap.get? b = some o → h'.get? b = some o := fun h' hk b o e => by
      have hlt : b < s.heap.objs.size := ltA e
      exact hk b o (Nat.ne_of_lt (Nat.lt_succ_of_lt hlt)) (keep b o e)
    refine wpAny_bind (wpAny_holding (wpAny_call_entry slot_list_sort ⟨_, hoL, rfl⟩ entry_list_sort ?body (args_list_sort _)))
    case body =>
      refine s_listSort (s := { s with heap := h1 }) ρV hoL (by lia) (by rw [← hlen]; exact hmx) (fun h' hk' h2 => ?_) fun out c h3 hperm hsrt ho3 hk3 => ?_
      · have kp := keep' h' hk'
        have kv : KeepV s.heap h' := fun b o e _ => kp b o e
        have a' : At X σ { s with heap := h' } := ⟨fun b o e => kp b o (a.keep b o e), fun b ao e => (a.rep b ao e).mono kv fun o ho => kp b o ho, a.own, a.gens, a.os⟩
        have rs' := rs.mono kv
        have hk3 : ((∀ x ∈ xs, ∃ i r, x = AV.tup (.int i :: r)) ∨ ∀ x ∈ xs, ∃ i r, x = AV.tup (.str i :: r)) ∨ ∀ x ∈ xs, ∃ i, x = AV.int i := by
          rcases hkd with h | h | h
          · exact .inl (.inl h)
          · exact .inl (.inr h)
          · exact .inr h
        have mz : ∀ z, z ∈ (vs.toArray.zip vs.toArray).toList → z.1 ∈ vs := fun z hz => by
          have : z ∈ vs.zip vs := by simpa using hz
          exact (List.of_mem_zip this).1
        rcases hk3 with hkd | hki
        case inr =>
          refine ⟨oneType', fun Q' hq => ?_, fun p' q' hp' hq' Q' E' hQ => ?_⟩
          · refine kas_kind (s := { s with heap := h' }) (vs := vs) (T := .type "int") (by lia) (fun v hv => ?_) (by decide) (by decide) hq
            obtain ⟨x, hx, rx⟩ := rs'.mem v hv
            obtain ⟨i, rfl⟩ := hki x hx
            cases rx; exact .now
          · obtain ⟨x, hx, rx⟩ := rs.mem p'.1 (mz p' hp')
            obtain ⟨y, hy, ry⟩ := rs.mem q'.1 (mz q' hq')
            have hQ : Q' (decide (ρ x < ρ y)) { s with heap := h' } := by rw [← hρV x hx _ rx, ← hρV y hy _ ry]; exact hQ
            obtain ⟨i, rfl⟩ := hki x hx
            obtain ⟨j, rfl⟩ := hki y hy
            obtain ⟨da, db, ra, rb, oa, ob, el⟩ := hlt _ hx _ hy
            cases ra; cases rb
            simp only [ltD, Option.some.injEq] at el
            rw [← el] at hQ
            generalize p'.1 = v1 at rx ⊢
            generalize q'.1 = v2 at ry ⊢
            cases rx; cases ry
            rw [keyLt'_oneType]; exact oneLt_int hQ
        have tk : ∃ T : Value, (T == T) = true ∧ (T != Value.type "tuple") = true ∧ (∀ x ∈ xs, ∃ y r, x = .tup (y :: r) ∧ ∀ v, RepV h' y v → Looks X.M h' (typeOf v) T) := by
          rcases hkd with hkd | hkd
          · refine ⟨.type "int", by decide, by decide, fun x hx => ?_⟩
            obtain ⟨i, r, rfl⟩ := hkd x hx
            refine ⟨_, r, rfl, fun v rv => ?_⟩
            cases rv; exact .now
          · refine ⟨.type "str", by decide, by decide, fun x hx => ?_⟩
            obtain ⟨i, r, rfl⟩ := hkd x hx
            refine ⟨_, r, rfl, fun v rv => ?_⟩
            cases rv; exact .now
        obtain ⟨T, hT1, hT2, hT3⟩ := tk
        obtain ⟨fs, f1, f2, f3⟩ := katTups_of (M := X.M) rs' hT3
        refine ⟨tuples' true, fun Q' hq => ?_, fun p' q' hp' hq' Q' E' hQ => ?_⟩
        · refine kat_kind (s := { s with heap := h' }) f1 (by lia) f3 hT1 ?_
          rw [hT2]; exact hq
        · obtain ⟨x, hx, rx⟩ := rs.mem p'.1 (mz p' hp')
          obtain ⟨y, hy, ry⟩ := rs.mem q'.1 (mz q' hq')
          have hQ : Q' (decide (ρ x < ρ y)) { s with heap := h' } := by rw [← hρV x hx _ rx, ← hρV y hy _ ry]; exact hQ
          have rx' := rx.mono kv
          have ry' := ry.mono kv
          obtain ⟨da, db, ra, rb, oa, ob, el⟩ := hlt x hx y hy
          obtain ⟨as1, q1⟩ := ra.reads a' rx'
          obtain ⟨as2, q2⟩ := rb.reads a' ry'
          have heads : ∃ xs1 ys1, x = .tup xs1 ∧ y = .tup ys1 ∧ (∀ u v, xs1.head? = some u → ys1.head? = some v → (∃ m n, u = .int m ∧ v = .int n) ∨ ∃ m n, u = .str m ∧ v = .str n) := by
            rcases hkd with hkd | hkd
            · obtain ⟨i, r, rfl⟩ := hkd x hx
              obtain ⟨j, r', rfl⟩ := hkd y hy
              exact ⟨_, _, rfl, rfl, fun u v hu hv => .inl ⟨i, j, by simpa using hu.symm, by simpa using hv.symm⟩⟩
            · obtain ⟨i, r, rfl⟩ := hkd x hx
              obtain ⟨j, r', rfl⟩ := hkd y hy
              exact ⟨_, _, rfl, rfl, fun u v hu hv => .inr ⟨i, j, by simpa using hu.symm, by simpa using hv.symm⟩⟩
          obtain ⟨xs1, ys1, rfl, rfl, hh⟩ := heads
          clear rx ry rx' ry'
          generalize p'.1 = v1 at q1 ⊢
          generalize q'.1 = v2 at q2 ⊢
          cases ra with
          | @tup _ ds rda =>
            cases rb with
            | @tup _ es rdb =>
              cases q1 with
              | tuple ho1 hc1 hd1 hr1 =>
                cases q2 with
                | tuple ho2 hc2 hd2 hr2 =>
                  have c1 := oa.1; have c2 := ob.1; have c3 := oa.2
                  simp only [PyData.canLay0] at c1 c2
                  simp only [PyData.depth] at c3
                  simp only [ltD] at el
                  have len1 : ∀ {z : List Value} {ds : List PyData} {as}, ReadsAll h' z ds as → z.length = ds.length := by
                    intro z ds
                    induction z generalizing ds with
                    | nil => intro as q; cases q; rfl
                    | cons u z ih => intro as q; cases q with | cons _ q => simp [ih q]
                  rename_i vs1 _ _ _ vs2 _ _
                  refine kat_lt (s := { s with heap := h' }) ho1 hd1 ho2 hd2 (lex_reads ds es hr1 hr2 c1 c2 (by
                    have : A.in1.in1.units = A.units + 2 := by rw [Around.in1_units, Around.in1_units]
                    rw [this]; lia) (by rw [← len1 hr1, ← len1 hr2]; simp) (fun _ _ u v hu hv => ?_) el hQ)
                  cases rda with
                  | nil => simp at hu
                  | cons g1 g2 =>
                    cases rdb with
                    | nil => simp at hv
                    | cons g3 g4 =>
                      simp only [List.head?_cons, Option.some.injEq] at hu hv
                      subst hu; subst hv
                      rcases hh _ _ rfl rfl with ⟨m, n, rfl, rfl⟩ | ⟨m, n, rfl, rfl⟩
                      · cases g1; cases g3; exact .inl ⟨m, n, rfl, rfl⟩
                      · cases g1; cases g3; exact .inr ⟨m, n, rfl, rfl⟩
      · have kp := keep' h3 hk3
        have kv : KeepV s.heap h3 := fun b o e _ => kp b o e
        obtain ⟨ys, hy1, hy2⟩ := rs.perm hperm
        have hys : ys.Pairwise fun x y => ρ x ≤ ρ y := hy2.pair (fun y hy v rv => hρV y (hy1.mem_iff.mp hy) v rv) hsrt
        refine ⟨_, rfl, wpAny_pure ⟨_, rfl, fun hsz' => ?_⟩⟩
        exact newListAtD (t := s.toks) a kp (Nat.le_succ _) ho3 (hy2.mono kv) (by rw [hy1.length_eq]; exact hm) hsz' (q ys hy1 hys)
  · exact q.elim
end Mine

set_option maxRecDepth 100000
set_option linter.unusedVariables false
set_option autoImplicit false
namespace Mine
open PySem

theorem forL_of {I : AHeap → Prop} {t : Tgt} {body : AS} {d : Nat} {Q : SPost} (J : List AV → Loc → AHeap → Prop)
    (step : ∀ x xs l σ (K : Loc → AHeap → Prop), J (x :: xs) l σ → (∀ l' σ', J xs l' σ' → K l' σ') →
      ∃ l', bindT t x l = some l' ∧ body d l' (fun f l'' σ' => match f with | .next => I σ' ∧ K l'' σ' | .ret v => Q (.ret v) l'' σ') (fun _ _ _ => False) σ)
    (fin : ∀ l σ, J [] l σ → Q .next l σ) : ∀ (xs : List AV) (l : Loc) (σ : AHeap), J xs l σ → forL I t body d Q xs l σ
  | [], l, σ, h => fin l σ h
  | x :: xs, l, σ, h => step x xs l σ (forL I t body d Q xs) h (forL_of J step fin xs)

theorem compL_go {α : Type} {I : AHeap → Prop} {t : Tgt} {elt : AE} {d : Nat} {Q : List AV → AHeap → Prop} {σ : AHeap} (g f : α → AV) (lx : α → Loc) : ∀ (xs : List α) (acc : List AV) (l : Loc), (∀ x ∈ xs, bindT t (g x) l = some (lx x)) → (∀ x ∈ xs, ∀ y ∈ xs, bindT t (g x) (lx y) = some (lx x)) →
    (∀ x ∈ xs, ∀ R : Post, R (f x) σ → elt d (lx x) R (fun _ _ => False) σ) → I σ → acc.length + xs.length ≤ 1000000 → Q (acc ++ xs.map f) σ → compL I t none elt d Q (xs.map g) acc l σ
  | [], acc, l, h0, h1, he, hI, hl, q => by simpa [compL] using q
  | x :: xs, acc, l, h0, h1, he, hI, hl, q => by
    simp only [List.length_cons] at hl
    refine ⟨lx x, h0 x (by simp), ?_⟩
    unfold testA
    simp only [if_true]
    refine he x (by simp) _ ⟨hI, by lia, ?_⟩
    refine compL_go g f lx xs (acc ++ [f x]) (lx x) (fun y hy => h1 y (by simp [hy]) x (by simp)) (fun y hy z hz => h1 y (by simp [hy]) z (by simp [hz])) (fun y hy => he y (by simp [hy])) hI (by simp; lia) ?_
    simpa using q
theorem compL_as {α : Type} {I : AHeap → Prop} {t : Tgt} {elt : AE} {d : Nat} {Q : List AV → AHeap → Prop} {σ : AHeap} (xs : List α) (g f : α → AV) (lx : α → Loc) {l : Loc} (h0 : ∀ x ∈ xs, bindT t (g x) l = some (lx x)) (h1 : ∀ x ∈ xs, ∀ y ∈ xs, bindT t (g x) (lx y) = some (lx x))
    (he : ∀ x ∈ xs, ∀ R : Post, R (f x) σ → elt d (lx x) R (fun _ _ => False) σ) (hI : I σ) (hl : xs.length ≤ 1000000) (q : Q (xs.map f) σ) : compL I t none elt d Q (xs.map g) [] l σ :=
  compL_go g f lx xs [] l h0 h1 he hI (by simpa using hl) (by simpa using q)
theorem compL_list {I : AHeap → Prop} {t : Tgt} {elt : AE} {d : Nat} {Q : List AV → AHeap → Prop} {σ : AHeap} (xs : List AV) (f : AV → AV) (lx : AV → Loc) {l : Loc} (h0 : ∀ x ∈ xs, bindT t x l = some (lx x)) (h1 : ∀ x ∈ xs, ∀ y ∈ xs, bindT t x (lx y) = some (lx x))
    (he : ∀ x ∈ xs, ∀ R : Post, R (f x) σ → elt d (lx x) R (fun _ _ => False) σ) (hI : I σ) (hl : xs.length ≤ 1000000) (q : Q (xs.map f) σ) : compL I t none elt d Q xs [] l σ := by
  have := compL_as (I := I) (t := t) (elt := elt) (d := d) (Q := Q) (σ := σ) xs id f lx h0 h1 he hI hl q
  simpa using this

theorem compLf_go {α : Type} {I : AHeap → Prop} {t : Tgt} {c elt : AE} {d : Nat} {Q : List AV → AHeap → Prop} {σ : AHeap} (p : α → Bool) (g f : α → AV) (lx : α → Loc) : ∀ (xs : List α) (acc : List AV) (l : Loc), (∀ x ∈ xs, bindT t (g x) l = some (lx x)) → (∀ x ∈ xs, ∀ y ∈ xs, bindT t (g x) (lx y) = some (lx x)) →
    (∀ x ∈ xs, ∀ R : Bool → AHeap → Prop, R (p x) σ → c d (lx x) (isB R) (fun _ _ => False) σ) →
    (∀ x ∈ xs, p x = true → ∀ R : Post, R (f x) σ → elt d (lx x) R (fun _ _ => False) σ) → I σ → acc.length + xs.length ≤ 1000000 → Q (acc ++ (xs.filter p).map f) σ → compL I t (some c) elt d Q (xs.map g) acc l σ
  | [], acc, l, h0, h1, hc, he, hI, hl, q => by simpa [compL] using q
  | x :: xs, acc, l, h0, h1, hc, he, hI, hl, q => by
    simp only [List.length_cons] at hl
    refine ⟨lx x, h0 x (by simp), ?_⟩
    show c d (lx x) (isB _) (fun _ _ => False) σ
    refine hc x (by simp) _ ?_
    have go := fun acc' => compLf_go (I := I) (t := t) (c := c) (elt := elt) (d := d) (Q := Q) (σ := σ) p g f lx xs acc' (lx x) (fun y hy => h1 y (by simp [hy]) x (by simp)) (fun y hy z hz => h1 y (by simp [hy]) z (by simp [hz])) (fun y hy => hc y (by simp [hy])) (fun y hy => he y (by simp [hy])) hI
    cases hp : p x with
    | true =>
      rw [if_pos rfl]
      refine he x (by simp) hp _ ⟨hI, by lia, go _ (by simp; lia) ?_⟩
      simpa [List.filter_cons, hp] using q
    | false =>
      rw [if_neg (by simp)]
      refine ⟨hI, go _ (by lia) ?_⟩
      simpa [List.filter_cons, hp] using q
theorem compLf_as {α : Type} {I : AHeap → Prop} {t : Tgt} {c elt : AE} {d : Nat} {Q : List AV → AHeap → Prop} {σ : AHeap} (xs : List α) (p : α → Bool) (g f : α → AV) (lx : α → Loc) {l : Loc} (h0 : ∀ x ∈ xs, bindT t (g x) l = some (lx x)) (h1 : ∀ x ∈ xs, ∀ y ∈ xs, bindT t (g x) (lx y) = some (lx x))
    (hc : ∀ x ∈ xs, ∀ R : Bool → AHeap → Prop, R (p x) σ → c d (lx x) (isB R) (fun _ _ => False) σ)
    (he : ∀ x ∈ xs, p x = true → ∀ R : Post, R (f x) σ → elt d (lx x) R (fun _ _ => False) σ) (hI : I σ) (hl : xs.length ≤ 1000000) (q : Q ((xs.filter p).map f) σ) : compL I t (some c) elt d Q (xs.map g) [] l σ :=
  compLf_go p g f lx xs [] l h0 h1 hc he hI (by simpa using hl) (by simpa using q)

theorem rdL_map {σ : AHeap} {α : Type} {f : α → AV} {g : α → PyData} (h : ∀ a, Rd σ (f a) (g a)) : ∀ l : List α, RdL σ (l.map f) (l.map g)
  | [] => .nil
  | a :: l => .cons (h a) (rdL_map h l)
theorem intL_eq (lo : Int) : ∀ n, intL lo n = (List.range n).map (fun i : Nat => AV.int (lo + i)) := by
  intro n
  first
    | rfl
    | (induction n generalizing lo with
       | zero => rfl
       | succ n ih => simp [intL, List.range_succ_eq_map, ih, Function.comp_def]; intros; lia)
theorem rngL_eq (n : Nat) : rngL 0 n = (List.range n).map (fun i : Nat => AV.int i) := by
  unfold rngL; rw [intL_eq]; simp
end Mine

set_option maxRecDepth 100000
set_option linter.unusedVariables false
set_option autoImplicit false
namespace Mine
open PySem

section
variable {X : Cx} {σ : AHeap} {Q : Post} {i j k : Int} {a b : AV} {xs ys : List AV} {p : Addr} {T : PyT} {R : List AV → Prop}

theorem d_int : DOk (.int i) ↔ True := by simp [DOk, PyData.canLay0, PyData.depth]
theorem d_bool {b : Bool} : DOk (.bool b) ↔ True := by simp [DOk, PyData.canLay0, PyData.depth]
theorem d_str {s : Str} : DOk (.str s) ↔ PyData.strOk s = true := by simp [DOk, PyData.canLay0, PyData.depth]
theorem d_bank : PyData.strOk "bank" = true := by decide +kernel
theorem d_book : PyData.strOk "book" = true := by decide +kernel
theorem e_int : PyData.eqv (.int i) (.int j) = (i == j) := by simp [PyData.eqv]
theorem e_str {s t : Str} : PyData.eqv (.str s) (.str t) = (s == t) := by simp [PyData.eqv]

theorem at_nat {n : Nat} : atIdx xs (n : Int) = xs[n]? := by simp [atIdx]

theorem a_list (h : listAt p xs σ) : isA T (.ref p) σ = some (T == .list) := by rcases h with h | h <;> simp [isA, h]

end
end Mine
namespace Mine
open PySem
theorem ne_bb : (Str.ofString "book" = Str.ofString "bank") = False := by simp only [eq_iff_iff, iff_false]; decide
/-- more may stand -/
def Ext (σ σ' : AHeap) : Prop := ∀ a o, σ a = some o → σ' a = some o
theorem Ext.refl (σ : AHeap) : Ext σ σ := fun _ _ h => h
theorem Ext.trans {σ σ' σ'' : AHeap} (h : Ext σ σ') (h' : Ext σ' σ'') : Ext σ σ'' := fun a o e => h' a o (h a o e)
theorem Ext.set {σ : AHeap} {r : Addr} {o : AO} (h : σ r = none) : Ext σ (σ.set r o) := fun a o' e => by
  have : a ≠ r := by rintro rfl; rw [h] at e; cases e
  rw [AHeap.set_ne _ _ this]; exact e
theorem Ext.list {σ σ' : AHeap} (h : Ext σ σ') {p : Addr} {xs : List AV} (e : listAt p xs σ) : listAt p xs σ' := e.imp (h _ _) (h _ _)
theorem Ext.none {σ σ' : AHeap} (h : Ext σ σ') {p : Addr} (e : σ' p = none) : σ p = none := by
  cases q : σ p with
  | none => rfl
  | some o => rw [h _ _ q] at e; cases e
end Mine
namespace Mine
theorem al {Q : Post} {σ : AHeap} {xs : List AV} (h : ∀ σ' r, Ext σ σ' → σ r = none → σ' r = some (.list xs) → Q (.ref r) σ') : ∀ r, σ r = none → Q (.ref r) (σ.set r (.list xs)) := fun r hr => h _ r (Ext.set hr) hr (AHeap.set_self ..)
end Mine
namespace Mine
theorem alf {Q : Post} {σ : AHeap} {xs : List AV} (h : ∀ σ' r, Ext σ σ' → σ r = none → σ' r = some (.list xs) → Q (.ref r) σ') : A.fin Q xs σ := al h
end Mine
namespace Mine
open PySem
theorem addL_of {Q : Post} {σ : AHeap} {p q : Addr} {xs ys : List AV} (h1 : listAt p xs σ) (h2 : listAt q ys σ) (hl : xs.length + ys.length ≤ 1000000) (h : ∀ σ' r, Ext σ σ' → σ r = none → σ' r = some (.list (xs ++ ys)) → Q (.ref r) σ') : binA .Add (.ref p) (.ref q) Q σ := .addL h1 h2 hl (al h)
theorem list_of {Q : Post} {σ : AHeap} {p : Addr} {xs : List AV} (h1 : listAt p xs σ) (h : ∀ σ' r, Ext σ σ' → σ r = none → σ' r = some (.list xs) → Q (.ref r) σ') : pList [.ref p] Q σ := .list h1 (al h)
theorem sorted_of {Q : Post} {σ : AHeap} {p : Addr} {xs : List AV} (ρ : AV → Nat) (h1 : listAt p xs σ) (hmx : xs.length ≤ sortMax) (ht : Kindly xs) (hlt : ∀ x ∈ xs, ∀ y ∈ xs, LtAV σ x y (decide (ρ x < ρ y)))
    (h : ∀ (ys : List AV), ys.Perm xs → ys.Pairwise (fun x y => ρ x ≤ ρ y) → ∀ σ' r, Ext σ σ' → σ r = none → σ' r = some (.list ys) → Q (.ref r) σ') : pSorted [.ref p] Q σ := ⟨xs, ρ, h1, hmx, ht, hlt, fun ys hp hs => al (h ys hp hs)⟩
end Mine
namespace Mine
open PySem
theorem dok_list {ds : List PyData} (h : ∀ d ∈ ds, d.canLay0 = true ∧ d.depth ≤ 90) : DOk (.list ds) := by
  have : ∀ l : List PyData, (∀ d ∈ l, d.canLay0 = true ∧ d.depth ≤ 90) → PyData.canLayAll0 l = true ∧ PyData.depthAll l ≤ 90 := by
    intro l
    induction l with
    | nil => intro _; exact ⟨rfl, by simp [PyData.depthAll]⟩
    | cons x r ih =>
      intro h
      have h1 := h x (by simp)
      have h2 := ih fun d hd => h d (by simp [hd])
      simp only [PyData.canLayAll0, PyData.depthAll, Bool.and_eq_true]
      exact ⟨⟨h1.1, h2.1⟩, by lia⟩
  have := this ds h
  refine ⟨by simpa [PyData.canLay0] using this.1, ?_⟩
  simp only [PyData.depth]; lia
end Mine

set_option maxRecDepth 100000
set_option linter.unusedVariables false
set_option autoImplicit false
namespace Mine
open PySem

/-! one step of a body, each by a small lemma: the goal's head tells which -/
section
variable {X : Cx} {d : Nat} {l : Loc} {σ : AHeap} {Q : Post} {Z : XP} {S : SPost} {SZ : SXP} {x y : AE} {a b : AS} {i j k : Int} {n : Nat} {p : Addr} {xs ys : List AV} {v u : AV}

theorem q_nil (h : S .next l σ) : A.nil d l S SZ σ := h
theorem q_set (h : x d l (fun a σ' => S .next (l.set n (some a)) σ') (fun c σ' => SZ c l σ') σ) : A.set n x d l S SZ σ := h
theorem q_ret (h : x d l (fun a σ' => S (.ret a) l σ') (fun c σ' => SZ c l σ') σ) : A.ret x d l S SZ σ := h
theorem q_if (h : x d l (isB fun c σ' => if c then a d l S SZ σ' else b d l S SZ σ') (fun c σ' => SZ c l σ') σ) : A.if_ x a b d l S SZ σ := h
theorem q_isB {R : Bool → AHeap → Prop} {c : Bool} (h : R c σ) : isB R (.bool c) σ := ⟨c, rfl, h⟩
theorem q_loc (e : l.getD n none = some v) (h : Q v σ) : A.loc n d l Q Z σ := ⟨v, e, h⟩
theorem q_k (h : Q v σ) : A.k v d l Q Z σ := h
theorem q_idx (h : x d l (fun a σ1 => y d l (fun b σ2 => idxA X a b Q σ2) Z σ1) Z σ) : A.idx X x y d l Q Z σ := h
theorem q_cmp {ops : List (CmpOp × AE)} (h : x d l (fun a σ1 => A.chain X d l Q Z a ops σ1) Z σ) : A.cmp X x ops d l Q Z σ := h
theorem q_chain1 {op : CmpOp} (h : y d l (fun b σ1 => cmpA X op v b Q σ1) Z σ) : A.chain X d l Q Z v [(op, y)] σ := h
theorem q_lt (h : Q (.bool (decide (i < j))) σ) : cmpA X .Lt (.int i) (.int j) Q σ := .lt h
theorem q_le (h : Q (.bool (decide (i ≤ j))) σ) : cmpA X .LtE (.int i) (.int j) Q σ := .le h
theorem q_gt (h : Q (.bool (decide (i > j))) σ) : cmpA X .Gt (.int i) (.int j) Q σ := .gt h
theorem q_eqI (h : Q (.bool (i == j)) σ) : cmpA X .Eq (.int i) (.int j) Q σ := .eq (.int _) (.int _) (d_int.mpr trivial) (d_int.mpr trivial) (by rw [e_int]; exact h)
theorem q_neI (h : Q (.bool (!(i == j))) σ) : cmpA X .NotEq (.int i) (.int j) Q σ := .ne (.int _) (.int _) (d_int.mpr trivial) (d_int.mpr trivial) (by rw [e_int]; exact h)
theorem q_eqS {s t : Str} (hs : PyData.strOk s = true) (ht : PyData.strOk t = true) (h : Q (.bool (s == t)) σ) : cmpA X .Eq (.str s) (.str t) Q σ := .eq (.str _) (.str _) (d_str.mpr hs) (d_str.mpr ht) (by rw [e_str]; exact h)
theorem q_tupIdx (e : atIdx xs k = some v) (h : Q v σ) : idxA X (.tup xs) (.int k) Q σ := .tup e h
theorem q_listIdx (hp : listAt p xs σ) (e : atIdx xs k = some v) (h : Q v σ) : idxA X (.ref p) (.int k) Q σ := .list hp e h
theorem q_prim {pr : Prim} {as : List AE} (h : evalL as d l (fun as σ' => pr as Q σ') Z σ) : A.prim pr as d l Q Z σ := h
theorem q_callF {f : Addr} {as : List AE} (h : evalL as d l (fun as σ' => CallOk X f d as Q Z σ') Z σ) : A.callF X f as d l Q Z σ := h
theorem q_ev0 {R : List AV → AHeap → Prop} (h : R [] σ) : evalL [] d l R Z σ := h
theorem q_ev1 {R : List AV → AHeap → Prop} {as : List AE} (h : x d l (fun a σ1 => evalL as d l (fun as σ2 => R (a :: as) σ2) Z σ1) Z σ) : evalL (x :: as) d l R Z σ := h
theorem q_tup {as : List AE} (h : evalL as d l (fun as σ' => as.length ≤ 1000000 ∧ Q (.tup as) σ') Z σ) : A.tup as d l Q Z σ := h
theorem q_bin {op : Operator} (h : x d l (fun a σ1 => y d l (fun b σ2 => binA op a b Q σ2) Z σ1) Z σ) : A.bin op x y d l Q Z σ := h
theorem q_add (h : Q (.int (i + j)) σ) : binA .Add (.int i) (.int j) Q σ := .add h
theorem q_sub (h : Q (.int (i - j)) σ) : binA .Sub (.int i) (.int j) Q σ := .sub h
theorem q_div (h0 : j ≠ 0) (h1 : j.natAbs < 1073741824) (h : Q (.int (i.fdiv j)) σ) : binA .FloorDiv (.int i) (.int j) Q σ := .div h0 h1 h
theorem q_mod (h0 : j ≠ 0) (h : Q (.int (i.fmod j)) σ) : binA .Mod (.int i) (.int j) Q σ := .mod h0 h
theorem q_lenT (h : Q (.int xs.length) σ) : pLen [.tup xs] Q σ := .tup h
theorem q_lenL (hp : listAt p xs σ) (h : Q (.int xs.length) σ) : pLen [.ref p] Q σ := .list hp h
theorem q_rng1 (h : Q (.rng 0 i) σ) : pRange [.int i] Q σ := .one h
theorem q_isa {T : PyT} (h : x d l (fun a σ1 => pIsA T a Q σ1) Z σ) : A.isa T x d l Q Z σ := h
theorem q_pisa {T : PyT} {c : Bool} (e : isA T v σ = some c) (h : Q (.bool c) σ) : pIsA T v Q σ := ⟨c, e, h⟩
end
end Mine
namespace Mine
open PySem
section
variable {X : Cx} {d : Nat} {l : Loc} {σ : AHeap} {Q : Post} {Z : XP} {x y : AE} {i j : Int} {v : AV}
theorem q_neg (h : x d l (fun a σ1 => ∃ i, a = .int i ∧ Q (.int (-i)) σ1) Z σ) : A.neg x d l Q Z σ := h
theorem q_not (h : x d l (fun a σ1 => ∃ b, a = .bool b ∧ Q (.bool (!b)) σ1) Z σ) : A.not_ x d l Q Z σ := h
theorem q_and {r : List AE} (h : x d l (fun a σ1 => ∃ b, a = .bool b ∧ if b then andL (y :: r) d l Q Z σ1 else Q (.bool false) σ1) Z σ) : andL (x :: y :: r) d l Q Z σ := h
theorem q_and1 (h : x d l Q Z σ) : andL [x] d l Q Z σ := h
theorem q_or {r : List AE} (h : x d l (fun a σ1 => ∃ b, a = .bool b ∧ if b then Q (.bool true) σ1 else orL (y :: r) d l Q Z σ1) Z σ) : orL (x :: y :: r) d l Q Z σ := h
theorem q_or1 (h : x d l Q Z σ) : orL [x] d l Q Z σ := h
theorem q_exB {R : Bool → Prop} {c : Bool} (h : R c) : ∃ b, AV.bool c = .bool b ∧ R b := ⟨c, rfl, h⟩
theorem q_exI {R : Int → Prop} (h : R i) : ∃ b, AV.int i = .int b ∧ R b := ⟨i, rfl, h⟩
end
end Mine
namespace Mine
open PySem
theorem q_chain2 {X : Cx} {d : Nat} {l : Loc} {σ : AHeap} {Q : Post} {Z : XP} {y : AE} {v : AV} {op : CmpOp} {z : CmpOp × AE} {r : List (CmpOp × AE)} (h : y d l (fun b σ1 => cmpA X op v b (fun c σ2 => ∃ t, c = .bool t ∧ if t then A.chain X d l Q Z b (z :: r) σ2 else Q (.bool false) σ2) σ1) Z σ) : A.chain X d l Q Z v ((op, y) :: z :: r) σ := h
end Mine
namespace Mine
open PySem
section
variable {X : Cx} {d : Nat} {l : Loc} {σ : AHeap} {Q : Post} {Z : XP} {S : SPost} {SZ : SXP} {x y : AE} {i j : Int} {p : Addr} {xs ys : List AV} {u v : AV} {t : Tgt} {k : Nat} {c : Option AE} {b : AS}
  {m : Nat → Loc → (AHeap → (AHeap → Prop) → List AV → Prop) → XP → AHeap → Prop} {K : AHeap → (AHeap → Prop) → List AV → Prop} {R : (AHeap → Prop) → List AV → Prop}
theorem q_lc (h : m d l (fun σ1 I xs => compL I t c x d (A.fin Q) xs [] (l ++ List.replicate k none) σ1) Z σ) : A.lc m t k c x d l Q Z σ := h
theorem q_fr (h : m d l (fun σ1 I xs => forL I t b d S xs l σ1) (fun c σ' => SZ c l σ') σ) : A.fr m t b d l S SZ σ := h
theorem q_itP (h : x d l (fun v σ1 => itemsA v σ1 fun I xs => K σ1 I xs) Z σ) : A.itP x d l K Z σ := h
theorem q_itemsL (hp : listAt p xs σ) (h : R (listAt p xs) xs) : itemsA (.ref p) σ R := ⟨xs, hp, h⟩
theorem q_itemsT (h : R (fun _ => True) xs) : itemsA (.tup xs) σ R := h
theorem q_itemsR {n : Nat} (hn : n < 1000000000000) (h : R (fun _ => True) ((List.range n).map fun i : Nat => AV.int i)) : itemsA (.rng 0 n) σ R := by
  rw [← rngL_eq] at h; exact ⟨by lia, by lia, by lia, by lia, h⟩
theorem q_pow (h0 : 0 ≤ j) (h1 : j ≤ 1000) (h2 : i.natAbs < 2 ^ 64) (h : Q (.int (i ^ j.toNat)) σ) : binA .Pow (.int i) (.int j) Q σ := .pow h0 h1 h2 h
theorem q_mulR (hm : j.natAbs < 2 ^ 60) (h : Q (.int (i * j)) σ) : binA .Mult (.int i) (.int j) Q σ := .mul (.inr hm) h
theorem q_mulL (hm : i.natAbs < 2 ^ 60) (h : Q (.int (i * j)) σ) : binA .Mult (.int i) (.int j) Q σ := .mul (.inl hm) h
theorem q_isaL {T : PyT} (hp : listAt p xs σ) (h : Q (.bool (T == .list)) σ) : pIsA T (.ref p) Q σ := ⟨_, a_list hp, h⟩
theorem q_neD {x y : PyData} (hx : Rd σ u x) (hy : Rd σ v y) (ox : DOk x) (oy : DOk y) (h : Q (.bool (!PyData.eqv x y)) σ) : cmpA X .NotEq u v Q σ := .ne hx hy ox oy h
theorem q_neSame {x : PyData} (hx : Rd σ u x) (hy : Rd σ v x) (ox : DOk x) (h : Q (.bool false) σ) : cmpA X .NotEq u v Q σ := .ne hx hy ox ox (by rw [PySem.SeqAt.eqv_refl _ ox.1]; exact h)
theorem q_eqSame {x : PyData} (hx : Rd σ u x) (hy : Rd σ v x) (ox : DOk x) (h : Q (.bool true) σ) : cmpA X .Eq u v Q σ := .eq hx hy ox ox (by rw [PySem.SeqAt.eqv_refl _ ox.1]; exact h)
end
theorem q_lenEq {Q : Post} {σ : AHeap} {p : Addr} {xs : List AV} {n : Nat} (hp : listAt p xs σ) (e : xs.length = n) (h : Q (.int n) σ) : pLen [.ref p] Q σ := .list hp (by rw [e]; exact h)
end Mine
namespace Mine
open PySem
/-- branches that meet again: what stands where they meet -/
theorem q_ifJ {d : Nat} {l : Loc} {σ : AHeap} {S : SPost} {SZ : SXP} {x : AE} {a b : AS} (J : Loc → AHeap → Prop) (h2 : ∀ S' : SPost, (∀ v l' σ', S (.ret v) l' σ' → S' (.ret v) l' σ') → (∀ l' σ', J l' σ' → S' .next l' σ') →
    x d l (isB fun c σ' => if c then a d l S' SZ σ' else b d l S' SZ σ') (fun c σ' => SZ c l σ') σ) (h1 : ∀ l' σ', J l' σ' → S .next l' σ') : A.if_ x a b d l S SZ σ := h2 S (fun _ _ _ h => h) h1
theorem e_bool {a b : Bool} : PyData.eqv (.bool a) (.bool b) = (a == b) := by cases a <;> cases b <;> simp [PyData.eqv]
theorem q_neB {X : Cx} {Q : Post} {σ : AHeap} {a b : Bool} (h : Q (.bool (!(a == b))) σ) : cmpA X .NotEq (.bool a) (.bool b) Q σ := .ne (.bool _) (.bool _) (d_bool.mpr trivial) (d_bool.mpr trivial) (by rw [e_bool]; exact h)
end Mine
namespace Mine
theorem q_tl {n : Nat} {A : Prop} (hn : Nat.ble n 1000000 = true) (h : A) : n ≤ 1000000 ∧ A := ⟨Nat.le_of_ble_eq_true hn, h⟩
end Mine
namespace Mine
open PySem
/-- what follows, sealed -/
structure KN (S' : SPost) (b : AS) (d : Nat) (S : SPost) (SZ : SXP) : Prop where
  next : ∀ l' σ', b d l' S SZ σ' → S' .next l' σ'
  ret : ∀ v l' σ', S (.ret v) l' σ' → S' (.ret v) l' σ'
section
variable {d : Nat} {l : Loc} {σ : AHeap} {S S' : SPost} {SZ : SXP} {a b : AS} {v : AV}
theorem q_consO (h : ∀ S' : SPost, KN S' b d S SZ → a d l S' SZ σ) : A.cons a b d l S SZ σ := h (fun f l' σ' => match f with | .next => b d l' S SZ σ' | .ret v => S (.ret v) l' σ') ⟨fun _ _ h => h, fun _ _ _ h => h⟩
theorem q_next (k : KN S' b d S SZ) (h : b d l S SZ σ) : S' .next l σ := k.next _ _ h
theorem q_retK (k : KN S' b d S SZ) (h : S (.ret v) l σ) : S' (.ret v) l σ := k.ret _ _ _ h
end
end Mine
namespace Mine
theorem q_ifTc {c : Bool} {A B : Prop} (e : c = true) (h : A) : if c = true then A else B := by rw [if_pos e]; exact h
theorem q_ifFc {c : Bool} {A B : Prop} (e : c = false) (h : B) : if c = true then A else B := by rw [if_neg (by simp [e])]; exact h
end Mine

set_option maxRecDepth 100000
set_option linter.unusedVariables false
set_option autoImplicit false
namespace Mine
open PySem PyProof.Rows PySem.SeqAt PySem.MeetsSeq

/-- methods of lists: the list's place, the arguments -/
abbrev MPrim := Addr → List AV → Post → AHeap → Prop
def SoundMeth (X : Cx) (id : String) (m : MPrim) : Prop :=
  ∀ d A σ s p as vs Q E, Live d A → At X σ s → RepVs s.heap as vs → m p as Q σ → wpAny X.M A (PySem.call (.builtin id) (.ref p :: vs)) (liftQ X σ s Q) E s

def AV.noRef : AV → Bool
  | .none => true
  | .bool _ => true
  | .int _ => true
  | .str _ => true
  | _ => false
namespace A
def meth (m : MPrim) (x : AE) (args : List AE) : AE := fun d l Q Z σ => x d l (fun r σ1 => ∃ p xs, r = .ref p ∧ σ1 p = some (.list xs) ∧ evalL args d l (fun as σ2 => m p as Q σ2) Z σ1) Z σ
/-- an expression as a statement -/
def ex (x : AE) : AS := fun d l S SZ σ => x d l (fun v σ' => v.noRef = true ∧ S .next l σ') (fun c σ' => SZ c l σ') σ
end A

section
variable {X : Cx} {env : Env} {nm : List (Str × Nat)}

theorem sound_meth {o : Expr} {name : Str} {id : String} {x : AE} {es : List Expr} {ms : List AE} {m : MPrim} {apos pos : Pos} (slot : Slot "list" name id) (hty : typeOf (.builtin id) = pure (.type "method_descriptor")) (hm : SoundMeth X id m)
    (hb : ∀ e, attributeBase o name e (eval o e) = eval o e) (hl : (apos.endLine == pos.line) = true) (hn : decide (es.length < 30) = true) (hx : SoundE X env nm o x) (h : SoundEs X env nm es ms) :
    SoundE X env nm (.Call (.Attribute o name apos) es [] pos) (A.meth m x ms) := fun d A l σ s Q Z L a F q => by
  refine wpAny_Call_method (hb env) ?_ hl PySem.F.plainAttrs_list slot hty ?_
  · have h1 : (backTo pos (starEach es env)).all (fun x => !x.1) = true := by
      rw [List.all_eq_not_any_not]
      simp only [Bool.not_not]
      rw [h.plain]; rfl
    rw [h1]
    show (true && true && decide (es.length + 0 + 0 < 30)) = true
    simpa using hn
  refine wpAny_mono (hx d A l σ s _ _ L a F q) (fun v s1 ⟨av, σ1, r, a1, st, p, xs, e, hp, q1⟩ => ?_) fun _ _ x => x
  subst e; cases r
  obtain ⟨vs, n, ho, _⟩ := a1.rep _ _ hp
  refine ⟨⟨_, ho, rfl⟩, fun b e => by cases e; exact ⟨_, ho, rfl⟩, ?_⟩
  refine Calls.callWith_builtin h.plain (wpAny_mono (sound_args h L a1 (F.step a st) q1 fun vs s2 ⟨avs, σ2, r2, a2, st2, q2⟩ => ?_) (fun _ _ x => x) fun _ _ x => x.back st)
  exact backQ (st.trans st2) (hm d A σ2 s2 p avs vs Q _ L a2 r2 q2)

theorem sound_ex {e : Expr} {pos : Pos} {m : AE} (EO : EnvOk env) (h : SoundE X env nm e m) (hs : swapsWith e none pos.line env = pure false) : SoundS X env nm (.Expr e pos) (A.ex m) := fun d A l σ s Q Z L a F q =>
  wpAny_Expr (wpAny_mono (h d A l σ s _ _ L a F q) (fun v s1 ⟨av, σ1, r, a1, st, hn, q1⟩ => by
    have fin : liftS X env nm σ s Q .next s1 := ⟨.next, l, σ1, trivial, a1, F.step a st, st.weaken FB.of_e0, q1⟩
    cases r with
    | none => exact fin
    | bool => exact fin
    | int => exact fin
    | str => exact fin
    | tup => cases hn
    | ref => cases hn
    | rng => cases hn
    | exc => cases hn) fun _ _ x => x.toS a F) (by unfold interactive; rw [EO.kind]; rfl) hs

inductive mAppend : Addr → List AV → Post → AHeap → Prop
  | mk {p : Addr} {v : AV} {xs : List AV} {Q : Post} {σ : AHeap} (hp : σ p = some (.list xs)) (hl : xs.length < 1000000) (h : Q .none (σ.set p (.list (xs ++ [v])))) : mAppend p [v] Q σ
inductive mPop : Addr → List AV → Post → AHeap → Prop
  | last {p : Addr} {xs : List AV} {x : AV} {Q : Post} {σ : AHeap} (hp : σ p = some (.list (xs ++ [x]))) (h : Q x (σ.set p (.list xs))) : mPop p [] Q σ
  | nth {p : Addr} {k : Int} {n : Nat} {xs : List AV} {x : AV} {Q : Post} {σ : AHeap} (hk : k = n) (hp : σ p = some (.list xs)) (hx : xs[n]? = some x) (h : Q x (σ.set p (.list (xs.eraseIdx n)))) : mPop p [.int k] Q σ

theorem RepVs.eraseIdx {h : Heap} : ∀ {xs vs}, RepVs h xs vs → ∀ n, RepVs h (xs.eraseIdx n) (vs.eraseIdx n)
  | _, _, .nil, n => .nil
  | _, _, .cons _ r, 0 => r
  | _, _, .cons a r, n + 1 => .cons a (r.eraseIdx n)

theorem isL_upd {h : Heap} {p : Addr} {us ws : List Value} {n : Nat} (ho : h.get? p = some (listObj us n)) (f : Array Value → Array Value) (e : f us.toArray = ws.toArray) : ∃ n', (h.update p (Obj.mapSeq f)).get? p = some (listObj ws n') := by
  have := IsL.update ho f
  rw [e] at this
  exact ⟨_, this⟩

theorem sound_append : SoundMeth X "list.append" mAppend := fun d A σ s p as vs Q E L a r q => by
  cases q with
  | @mk v0 xs _ _ hp hl q =>
    obtain ⟨v, rfl, rv⟩ := repVs1 r
    obtain ⟨us, n, ho, ru, _⟩ := a.rep _ _ hp
    have hsz : us.toArray.size ≤ sizeLine := by rw [List.size_toArray, ← ru.length, sizeLine_eq]; lia
    refine call_meets PySem.F.slot_list_append ⟨_, ho, rfl⟩ PySem.F.entry_list_append (PySem.F.args_list_append_2 _ _) (list_append p us.toArray n v hsz) ⟨ho, ?_⟩
    have hs : Heap.SameBut p s.heap (s.heap.update p (Obj.mapSeq fun x => x.push v)) := Heap.SameBut.update ..
    obtain ⟨n', hn'⟩ := isL_upd (ws := us ++ [v]) ho (fun x => x.push v) (by simp)
    exact ⟨.none, _, .none, a.store (ao := .list (xs ++ [v0])) (t := s.toks) hp rfl hs fun kv => ⟨us ++ [v], n', hn', (ru.mono kv).append (.cons (rv.mono kv) .nil), by rw [List.length_append]; exact hl⟩, Step.store (t := s.toks) hp hs, q⟩

theorem sound_pop : SoundMeth X "list.pop" mPop := fun d A σ s p as vs Q E L a r q => by
  cases q with
  | @last xs x _ _ hp q =>
    cases r
    obtain ⟨us, n, ho, ru, hl⟩ := a.rep _ _ hp
    have hsz : us.toArray.size ≤ sizeLine := by rw [List.size_toArray, ← ru.length, sizeLine_eq]; lia
    have hul : us.length = xs.length + 1 := by rw [← ru.length]; simp
    obtain ⟨y, hy, ry⟩ := ru.get (i := xs.length) (x := x) (by simp)
    have hy' : us.toArray[us.toArray.size - 1]? = some y := by rw [List.size_toArray, hul]; simpa using hy
    refine call_meets PySem.F.slot_list_pop ⟨_, ho, rfl⟩ PySem.F.entry_list_pop (PySem.F.args_list_pop_1 _) (list_pop_last p us.toArray n y hy' hsz) ⟨ho, ?_⟩
    have hs : Heap.SameBut p s.heap (s.heap.update p (Obj.mapSeq fun x => x.eraseIdxIfInBounds (us.toArray.size - 1))) := Heap.SameBut.update ..
    have kv' : ∀ b o, s.heap.get? b = some o → Stays o → (s.heap.update p (Obj.mapSeq fun x => x.eraseIdxIfInBounds (us.toArray.size - 1))).get? b = some o := fun c o hc st => by
      have hne : c ≠ p := by rintro rfl; rw [a.stays hc st] at hp; cases hp
      rw [hs.2 c hne]; exact hc
    obtain ⟨n', hn'⟩ := isL_upd (ws := us.eraseIdx xs.length) ho (fun x => x.eraseIdxIfInBounds (us.toArray.size - 1)) (by
        rw [List.size_toArray, hul, Nat.add_sub_cancel]
        simp [Array.eraseIdxIfInBounds, hul])
    refine ⟨x, _, ry.mono kv', a.store (ao := .list xs) (t := s.toks) hp rfl hs fun kv => ⟨us.eraseIdx xs.length, n', hn', ?_, by simp at hl; lia⟩, Step.store (t := s.toks) hp hs, q⟩
    · have := (ru.mono kv).eraseIdx xs.length
      have e : (xs ++ [x]).eraseIdx xs.length = xs := by
        rw [List.eraseIdx_append_of_length_le (Nat.le_refl _)]; simp
      rwa [e] at this
  | @nth i k xs x _ _ hki hp hx q =>
    obtain ⟨v, rfl, rv⟩ := repVs1 r
    obtain ⟨t, rfl⟩ : ∃ t, v = .int i t := by cases rv; exact ⟨_, rfl⟩
    obtain ⟨us, n, ho, ru, hl⟩ := a.rep _ _ hp
    have hsz : us.toArray.size ≤ sizeLine := by rw [List.size_toArray, ← ru.length, sizeLine_eq]; lia
    obtain ⟨y, hy, ry⟩ := ru.get hx
    have hk : k < us.length := (List.getElem?_eq_some_iff.mp hy).1
    have hkl : us.length ≤ 1000000 := by rw [← ru.length]; exact hl
    have f1 : Builtin.List.listFitsIndex i = true := by
      unfold Builtin.List.listFitsIndex
      rw [decide_eq_true (by lia), decide_eq_true (by lia)]; rfl
    have f2 : seqIndex? i us.toArray.size = some k := by
      rw [hki]
      have e0 : ¬ ((k : Int) < 0) := by lia
      have e2 : ((k : Int) < (us.length : Int)) := by lia
      simp [seqIndex?, e0, hk]
    have f3 : us.toArray[k]? = some y := by simpa using hy
    have meets := list_pop_at p us.toArray n i t k y f1 f2 f3 hsz
    refine call_meets PySem.F.slot_list_pop ⟨_, ho, rfl⟩ PySem.F.entry_list_pop (PySem.F.args_list_pop_2 _ _) meets ⟨ho, ?_⟩
    have hs : Heap.SameBut p s.heap (s.heap.update p (Obj.mapSeq fun x => x.eraseIdxIfInBounds k)) := Heap.SameBut.update ..
    have kv' : ∀ b o, s.heap.get? b = some o → Stays o → (s.heap.update p (Obj.mapSeq fun x => x.eraseIdxIfInBounds k)).get? b = some o := fun c o hc st => by
      have hne : c ≠ p := by rintro rfl; rw [a.stays hc st] at hp; cases hp
      rw [hs.2 c hne]; exact hc
    obtain ⟨n', hn'⟩ := isL_upd (ws := us.eraseIdx k) ho (fun x => x.eraseIdxIfInBounds k) (by simp [Array.eraseIdxIfInBounds, hk])
    exact ⟨x, _, ry.mono kv', a.store (ao := .list (xs.eraseIdx k)) (t := s.toks) hp rfl hs fun kv => ⟨us.eraseIdx k, n', hn', (ru.mono kv).eraseIdx k, by have := List.length_eraseIdx_le xs k; lia⟩, Step.store (t := s.toks) hp hs, q⟩
end
end Mine
namespace Mine
open PySem PyProof.Rows PySem.SeqAt
section
variable {X : Cx} {env : Env} {nm : List (Str × Nat)} {names : List (Str × NameKind)} {o : Expr} {x : AE} {es : List Expr} {ms : List AE} {apos pos : Pos}
theorem w_append (hb : ∀ e, attributeBase o "append" e (eval o e) = eval o e) (hl : (apos.endLine == pos.line) = true) (hn : decide (es.length < 30) = true) (hx : SoundE X env nm o x) (h : SoundEs X env nm es ms) :
    SoundE X env nm (.Call (.Attribute o "append" apos) es [] pos) (A.meth mAppend x ms) := sound_meth PySem.F.slot_list_append PySem.F.type_list_append sound_append hb hl hn hx h
theorem w_pop (hb : ∀ e, attributeBase o "pop" e (eval o e) = eval o e) (hl : (apos.endLine == pos.line) = true) (hn : decide (es.length < 30) = true) (hx : SoundE X env nm o x) (h : SoundEs X env nm es ms) :
    SoundE X env nm (.Call (.Attribute o "pop" apos) es [] pos) (A.meth mPop x ms) := sound_meth PySem.F.slot_list_pop PySem.F.type_list_pop sound_pop hb hl hn hx h
theorem w_ex {e : Expr} {m : AE} (E : EK env names) (h : SoundE X env nm e m) (hs : swapsWith e none pos.line env = pure false) : SoundS X env nm (.Expr e pos) (A.ex m) := sound_ex E.eo h hs
end
section
variable {d : Nat} {l : Loc} {σ : AHeap} {Q : Post} {Z : XP} {S : SPost} {SZ : SXP} {x : AE} {p : Addr} {xs : List AV} {v : AV} {m : MPrim} {as : List AE}
theorem q_ex (h : x d l (fun v σ' => v.noRef = true ∧ S .next l σ') (fun c σ' => SZ c l σ') σ) : A.ex x d l S SZ σ := h
theorem q_meth (h : x d l (fun r σ1 => ∃ p xs, r = .ref p ∧ σ1 p = some (.list xs) ∧ evalL as d l (fun as σ2 => m p as Q σ2) Z σ1) Z σ) : A.meth m x as d l Q Z σ := h
theorem q_exM {R : Addr → Prop} (hp : σ p = some (.list xs)) (h : R p) : ∃ p' xs', AV.ref p = .ref p' ∧ σ p' = some (.list xs') ∧ R p' := ⟨p, xs, rfl, hp, h⟩
theorem q_app (hp : σ p = some (.list xs)) (hl : xs.length < 1000000) (h : Q .none (σ.set p (.list (xs ++ [v])))) : mAppend p [v] Q σ := .mk hp hl h
theorem q_nr {A : Prop} (h : A) : AV.noRef .none = true ∧ A := ⟨rfl, h⟩
theorem q_lst (h : evalL as d l (fun as σ' => as.length ≤ 1000000 ∧ A.fin Q as σ') Z σ) : A.lst as d l Q Z σ := h
end
end Mine

set_option maxRecDepth 100000
set_option linter.unusedVariables false
set_option autoImplicit false
namespace Mine
open PySem PyProof.Rows PySem.SeqAt

inductive pMax : List AV → Post → AHeap → Prop
  | two {a b : Int} {Q : Post} {σ : AHeap} (h : Q (.int (max a b)) σ) : pMax [.int a, .int b] Q σ
  | list {p : Addr} {ns : List Int} {Q : Post} {σ : AHeap} (hp : listAt p (ns.map .int) σ) (hn : ns ≠ []) (h : ∀ M, M ∈ ns → (∀ a ∈ ns, a ≤ M) → Q (.int M) σ) : pMax [.ref p] Q σ
inductive pMin : List AV → Post → AHeap → Prop
  | two {a b : Int} {Q : Post} {σ : AHeap} (h : Q (.int (min a b)) σ) : pMin [.int a, .int b] Q σ
  | list {p : Addr} {ns : List Int} {Q : Post} {σ : AHeap} (hp : listAt p (ns.map .int) σ) (hn : ns ≠ []) (h : ∀ M, M ∈ ns → (∀ a ∈ ns, M ≤ a) → Q (.int M) σ) : pMin [.ref p] Q σ
inductive pSum : List AV → Post → AHeap → Prop
  | list {p : Addr} {ns : List Int} {Q : Post} {σ : AHeap} (hp : listAt p (ns.map .int) σ) (hf : PySem.SumFits ns) (h : Q (.int ns.sum) σ) : pSum [.ref p] Q σ
inductive pTuple : List AV → Post → AHeap → Prop
  | list {p : Addr} {xs : List AV} {Q : Post} {σ : AHeap} (hp : listAt p xs σ) (h : Q (.tup xs) σ) : pTuple [.ref p] Q σ

section
variable {X : Cx} {σ : AHeap} {s : Shared}

theorem At.grown (a : At X σ s) {h' : Heap} {t : Nat} (hk : ∀ b o, s.heap.get? b = some o → h'.get? b = some o) : At X σ { s with heap := h', toks := t } :=
  ⟨fun b o e => hk b o (a.keep b o e), fun b ao e => (a.rep b ao e).mono (fun b o e _ => hk b o e) fun o ho => hk b o ho, a.own, a.gens, a.os⟩
theorem Step.grown {B : Addr → Prop} {h' : Heap} {t : Nat} (hk : ∀ b o, s.heap.get? b = some o → h'.get? b = some o) (hsz : s.heap.objs.size ≤ h'.objs.size) : Step B σ s σ { s with heap := h', toks := t } :=
  ⟨fun b o e _ _ => hk b o e, fun _ h1 h2 => absurd h2 h1, hsz⟩
theorem repVs_ints {h : Heap} : ∀ {ns : List Int} {vs : List Value}, RepVs h (ns.map .int) vs → ∃ xs : List (Int × Tok), vs.toArray = intItems xs.toArray ∧ xs.map (·.1) = ns
  | [], _, .nil => ⟨[], by simp [intItems], rfl⟩
  | n :: ns, _, .cons (.int _ t) r => by
    obtain ⟨xs, e1, e2⟩ := repVs_ints r
    refine ⟨(n, t) :: xs, ?_, by simp [e2]⟩
    simp [intItems] at e1 ⊢; exact e1

theorem sound_max : SoundPrim X (.builtin "max") pMax := fun d A σ s as vs Q E L a r q => by
  cases q with
  | @two i j _ _ q =>
    obtain ⟨v, w, rfl, rv, rw_⟩ := repVs2 r
    cases rv; cases rw_
    refine with_size (max_two_ints L.handled fun h' tk hk hsz => ?_)
    by_cases h : j > i
    · rw [if_pos h]; rw [Int.max_eq_right (by omega)] at q; exact ⟨_, σ, .int _ _, a.grown hk, .grown hk hsz, q⟩
    · rw [if_neg h]; rw [Int.max_eq_left (by omega)] at q; exact ⟨_, σ, .int _ _, a.grown hk, .grown hk hsz, q⟩
  | @list p ns _ _ hp hne q =>
    obtain ⟨v, rfl, rv⟩ := repVs1 r
    cases rv
    obtain ⟨us, hl, rs⟩ := a.isList hp
    obtain ⟨xs, e1, e2⟩ := repVs_ints rs
    rw [e1] at hl
    have hx : 0 < xs.length := by rw [← e2] at hne; cases xs <;> simp_all
    refine with_size (max_intList L.handled hl (by simpa using hx) fun v h' tk hv hk hsz => ?_)
    obtain ⟨t, rfl⟩ := intItems_at hv
    obtain ⟨h1, h2⟩ := argBest_gt (numAt xs.toArray) (xs.toArray.size - 1)
    have e3 : (xs.toArray.toList.map (·.1)) = ns := e2
    refine ⟨_, σ, .int _ _, a.grown hk, .grown hk hsz, q _ ?_ fun b hb => ?_⟩
    · rw [numAt_eq, e3]; exact PySem.getD_mem (by rw [← e3, List.length_map, Array.length_toList]; simp at h1 ⊢; omega)
    · rw [← e3] at hb
      obtain ⟨j, hj, rfl⟩ := PySem.mem_getD hb
      rw [List.length_map, Array.length_toList] at hj
      rw [← numAt_eq]; exact h2 j (by omega)
theorem sound_min : SoundPrim X (.builtin "min") pMin := fun d A σ s as vs Q E L a r q => by
  cases q with
  | @two i j _ _ q =>
    obtain ⟨v, w, rfl, rv, rw_⟩ := repVs2 r
    cases rv; cases rw_
    refine with_size (min_two_ints L.handled fun h' tk hk hsz => ?_)
    by_cases h : j < i
    · rw [if_pos h]; rw [Int.min_eq_right (by omega)] at q; exact ⟨_, σ, .int _ _, a.grown hk, .grown hk hsz, q⟩
    · rw [if_neg h]; rw [Int.min_eq_left (by omega)] at q; exact ⟨_, σ, .int _ _, a.grown hk, .grown hk hsz, q⟩
  | @list p ns _ _ hp hne q =>
    obtain ⟨v, rfl, rv⟩ := repVs1 r
    cases rv
    obtain ⟨us, hl, rs⟩ := a.isList hp
    obtain ⟨xs, e1, e2⟩ := repVs_ints rs
    rw [e1] at hl
    have hx : 0 < xs.length := by rw [← e2] at hne; cases xs <;> simp_all
    refine with_size (min_intList L.handled hl (by simpa using hx) fun v h' tk hv hk hsz => ?_)
    obtain ⟨t, rfl⟩ := intItems_at hv
    obtain ⟨h1, h2⟩ := argBest_lt (numAt xs.toArray) (xs.toArray.size - 1)
    have e3 : (xs.toArray.toList.map (·.1)) = ns := e2
    refine ⟨_, σ, .int _ _, a.grown hk, .grown hk hsz, q _ ?_ fun b hb => ?_⟩
    · rw [numAt_eq, e3]; exact PySem.getD_mem (by rw [← e3, List.length_map, Array.length_toList]; simp at h1 ⊢; omega)
    · rw [← e3] at hb
      obtain ⟨j, hj, rfl⟩ := PySem.mem_getD hb
      rw [List.length_map, Array.length_toList] at hj
      rw [← numAt_eq]; exact h2 j (by omega)
theorem sound_sum : SoundPrim X (.builtin "sum") pSum := fun d A σ s as vs Q E L a r q => by
  cases q with
  | @list p ns _ _ hp hf q =>
    obtain ⟨v, rfl, rv⟩ := repVs1 r
    cases rv
    obtain ⟨us, hl, rs⟩ := a.isList hp
    obtain ⟨xs, e1, e2⟩ := repVs_ints rs
    rw [e1] at hl
    have e3 : (xs.toArray.toList.map (·.1)) = ns := e2
    have e4 : ns.length = xs.toArray.size := by rw [← e3]; simp
    refine with_size (sum_intList L.handled hl (fun j hj => ?_) fun h' tk t' hk hsz => ?_)
    · rw [numAt_eq, preSum_eq, e3]; exact hf j (by rw [e4]; exact hj)
    · rw [preSum_eq, e3, List.take_of_length_le (by rw [e4]; exact Nat.le_refl _)]
      exact ⟨_, σ, .int _ _, a.grown hk, .grown hk hsz, q⟩
theorem sound_tuple : SoundPrim X (.type "tuple") pTuple := fun d A σ s as vs Q E L a r q => by
  cases q with
  | @list p xs _ _ hp q =>
    obtain ⟨v, rfl, rv⟩ := repVs1 r
    cases rv
    obtain ⟨us, hl, rs⟩ := a.isList hp
    have hm := a.len hp
    refine with_size (call_tuple_list hl (fun h' hk hsz => ?_) (by rw [List.size_toArray, ← rs.length, sizeLine_eq]; omega))
    have hk' : ∀ b o, s.heap.get? b = some o → (h'.push { cls := .type "tuple", data := .seq us.toArray }).get? b = some o := fun b o e => Heap.get?_push_of_some _ (hk b o e)
    refine ⟨.tup xs, σ, .tup hm ⟨_, Heap.get?_push_size _ rfl, rfl, 0, rfl⟩ (rs.mono fun b o e _ => hk' b o e), a.grown (t := s.toks) hk', .grown (t := s.toks) hk' hsz, q⟩
end
end Mine
namespace Mine
open PySem PyProof.Rows PySem.SeqAt PySem.W
theorem w_gint {X : Cx} {K : Frag} {env : Env} {nm : List (Str × Nat)} {names : List (Str × NameKind)} {x : Str} {i : Int} {t : Tok} {pos : Pos} (G : Gd X K) (E : EK env names) (hf : nsIn K mainGlobals x = some (some (.int i t))) (hg : isGlob names x = true) :
    SoundE X env nm (.Name x pos) (A.k (.int i)) := fun d A l σ s Q Z L a F q => wp_global G.ok E.eo a (E.glob hg).1 (E.glob hg).2 (mg_of G.inn G.ok.g hf) (retQ a (.int _ _) q)
section
variable {σ : AHeap} {Q : Post} {i j : Int} {p : Addr} {xs : List AV} {ns : List Int}
theorem q_max2 (h : Q (.int (max i j)) σ) : pMax [.int i, .int j] Q σ := .two h
theorem q_min2 (h : Q (.int (min i j)) σ) : pMin [.int i, .int j] Q σ := .two h
theorem q_maxL (hp : listAt p (ns.map .int) σ) (hn : ns ≠ []) (h : ∀ M, M ∈ ns → (∀ a ∈ ns, a ≤ M) → Q (.int M) σ) : pMax [.ref p] Q σ := .list hp hn h
theorem q_minL (hp : listAt p (ns.map .int) σ) (hn : ns ≠ []) (h : ∀ M, M ∈ ns → (∀ a ∈ ns, M ≤ a) → Q (.int M) σ) : pMin [.ref p] Q σ := .list hp hn h
theorem q_sumL (hp : listAt p (ns.map .int) σ) (hf : PySem.SumFits ns) (h : Q (.int ns.sum) σ) : pSum [.ref p] Q σ := .list hp hf h
theorem q_tupL (hp : listAt p xs σ) (h : Q (.tup xs) σ) : pTuple [.ref p] Q σ := .list hp h
theorem sumFits_of {ns : List Int} (hl : ns.length ≤ 1000) (h : ∀ a ∈ ns, a.natAbs ≤ 1000000000000) : PySem.SumFits ns := by
  have gen : ∀ (l : List Int), (∀ a ∈ l, a.natAbs ≤ 1000000000000) → l.sum.natAbs ≤ l.length * 1000000000000 := by
    intro l
    induction l with
    | nil => intro _; simp
    | cons a l ih =>
      intro h
      have h1 := h a (by simp)
      have h2 := ih fun b hb => h b (by simp [hb])
      simp only [List.sum_cons, List.length_cons]
      omega
  intro j hj
  have h1 := h (ns.getD j 0) (PySem.getD_mem hj)
  have h2 := gen (ns.take (j + 1)) fun a ha => h a (List.mem_of_mem_take ha)
  have h3 : (ns.take (j + 1)).length ≤ 1000 := by rw [List.length_take]; omega
  refine ⟨?_, ?_⟩ <;> unfold InLong <;> omega
end
end Mine
namespace Mine
open PySem PyProof.Rows PySem.SeqAt
/-- a tuple or a list of these -/
def SeqOf (σ : AHeap) (v : AV) (xs : List AV) : Prop := v = .tup xs ∨ ∃ p, v = .ref p ∧ listAt p xs σ
section
variable {X : Cx} {σ : AHeap} {Q : Post} {k : Int} {p : Addr} {xs : List AV} {v x : AV} {α : Type} {ns : List α} {f : α → AV}
theorem q_lenS (hv : SeqOf σ v xs) (h : Q (.int xs.length) σ) : pLen [v] Q σ := by
  rcases hv with rfl | ⟨p, rfl, hp⟩
  · exact .tup h
  · exact q_lenL hp h
theorem q_lenSM (hv : SeqOf σ v (ns.map f)) (h : Q (.int ns.length) σ) : pLen [v] Q σ := q_lenS hv (by rw [List.length_map]; exact h)
theorem q_lenTM (h : Q (.int ns.length) σ) : pLen [.tup (ns.map f)] Q σ := q_lenT (by rw [List.length_map]; exact h)
theorem q_lenLM (hp : listAt p (ns.map f) σ) (h : Q (.int ns.length) σ) : pLen [.ref p] Q σ := q_lenL hp (by rw [List.length_map]; exact h)
theorem q_idxS (hv : SeqOf σ v xs) (e : atIdx xs k = some x) (h : Q x σ) : idxA X v (.int k) Q σ := by
  rcases hv with rfl | ⟨p, rfl, hp⟩
  · exact q_tupIdx e h
  · exact q_listIdx hp e h
end
theorem forL_at {I : AHeap → Prop} {t : Tgt} {body : AS} {d : Nat} {S : SPost} (xs : List AV) (J : Nat → Loc → AHeap → Prop)
    (step : ∀ k x l σ (K : Loc → AHeap → Prop), xs[k]? = some x → J k l σ → (∀ l' σ', J (k + 1) l' σ' → K l' σ') →
      ∃ l', bindT t x l = some l' ∧ body d l' (fun f l'' σ' => match f with | .next => I σ' ∧ K l'' σ' | .ret v => S (.ret v) l'' σ') (fun _ _ _ => False) σ)
    (fin : ∀ l σ, J xs.length l σ → S .next l σ) {l : Loc} {σ : AHeap} (h : J 0 l σ) : forL I t body d S xs l σ := by
  refine forL_of (fun ys l σ => ∃ k, k ≤ xs.length ∧ ys = xs.drop k ∧ J k l σ) ?_ ?_ _ _ _ ⟨0, Nat.zero_le _, rfl, h⟩
  · rintro x ys l σ K ⟨k, hk, hy, hJ⟩ hK
    have h1 : xs[k]? = some x := by
      have := congrArg List.head? hy
      rw [List.head?_drop] at this; exact this.symm
    have h2 : ys = xs.drop (k + 1) := by
      have := congrArg List.tail hy
      rw [List.tail_drop] at this; exact this
    have h3 : k < xs.length := (List.getElem?_eq_some_iff.mp h1).1
    exact step k x l σ K h1 hJ fun l' σ' hJ' => hK l' σ' ⟨k + 1, h3, h2, hJ'⟩
  · rintro l σ ⟨k, hk, hy, hJ⟩
    have : k = xs.length := by
      have := congrArg List.length hy
      rw [List.length_drop] at this; simp at this; omega
    subst this; exact fin l σ hJ
theorem forL_range {I : AHeap → Prop} {t : Tgt} {body : AS} {d : Nat} {S : SPost} {n : Nat} (J : Nat → Loc → AHeap → Prop)
    (step : ∀ k l σ (K : Loc → AHeap → Prop), k < n → J k l σ → (∀ l' σ', J (k + 1) l' σ' → K l' σ') →
      ∃ l', bindT t (.int k) l = some l' ∧ body d l' (fun f l'' σ' => match f with | .next => I σ' ∧ K l'' σ' | .ret v => S (.ret v) l'' σ') (fun _ _ _ => False) σ)
    (fin : ∀ l σ, J n l σ → S .next l σ) {l : Loc} {σ : AHeap} (h : J 0 l σ) : forL I t body d S ((List.range n).map fun i : Nat => AV.int i) l σ := by
  refine forL_at _ J (fun k x l σ K hx hJ hK => ?_) (fun l σ hJ => fin l σ (by simpa using hJ)) h
  rw [List.getElem?_map] at hx
  obtain ⟨y, hy, rfl⟩ := Option.map_eq_some_iff.mp hx
  obtain ⟨h1, h2⟩ := List.getElem?_eq_some_iff.mp hy
  rw [List.length_range] at h1
  rw [List.getElem_range] at h2
  subst h2
  exact step k l σ K h1 hJ hK
/-- what a comprehension gives may differ in the heap: it is the same all the way -/
theorem compL_map {α : Type} {I : AHeap → Prop} {t : Tgt} {elt : AE} {d : Nat} {Q : List AV → AHeap → Prop} {σ : AHeap} (xs : List α) (g f : α → AV) (lx : α → Loc) {l : Loc} (h0 : ∀ x, bindT t (g x) l = some (lx x)) (h1 : ∀ x y, bindT t (g x) (lx y) = some (lx x))
    (he : ∀ x ∈ xs, ∀ R : Post, R (f x) σ → elt d (lx x) R (fun _ _ => False) σ) (hI : I σ) (hl : xs.length ≤ 1000000) (q : Q (xs.map f) σ) : compL I t none elt d Q (xs.map g) [] l σ :=
  compL_as xs g f lx (fun x _ => h0 x) (fun x _ y _ => h1 x y) he hI hl q
end Mine
namespace Mine
open PySem
inductive All2 {α β : Type} (R : α → β → Prop) : List α → List β → Prop
  | nil : All2 R [] []
  | cons {a b as bs} : R a b → All2 R as bs → All2 R (a :: as) (b :: bs)
theorem All2.length {α β : Type} {R : α → β → Prop} : ∀ {as bs}, All2 R as bs → as.length = bs.length
  | _, _, .nil => rfl
  | _, _, .cons _ r => by simp [r.length]
/-- a comprehension whose element may make new things on the way -/
theorem compL_ext {α : Type} {I : AHeap → Prop} {t : Tgt} {elt : AE} {d : Nat} {Q : List AV → AHeap → Prop} (g : α → AV) (lx : α → Loc) (ok : α → AV → Prop) (h1 : ∀ x y, bindT t (g x) (lx y) = some (lx x)) : ∀ (xs : List α) (acc : List AV) {l : Loc} {σ : AHeap}, (∀ x, bindT t (g x) l = some (lx x)) →
    (∀ x ∈ xs, ∀ σ', Ext σ σ' → ∀ R : Post, (∀ v σ'', Ext σ' σ'' → ok x v → R v σ'') → elt d (lx x) R (fun _ _ => False) σ') → (∀ σ', Ext σ σ' → I σ') → acc.length + xs.length ≤ 1000000 →
    (∀ vs σ', Ext σ σ' → All2 ok xs vs → Q (acc ++ vs) σ') → compL I t none elt d Q (xs.map g) acc l σ
  | [], acc, l, σ, h0, he, hI, hl, q => by simpa [compL] using q [] σ (.refl _) .nil
  | x :: xs, acc, l, σ, h0, he, hI, hl, q => by
    simp only [List.length_cons] at hl
    refine ⟨lx x, h0 x, ?_⟩
    unfold testA
    simp only [if_true]
    refine he x (by simp) σ (.refl _) _ fun v σ2 e2 hv => ⟨hI σ2 e2, by omega, ?_⟩
    refine compL_ext g lx ok h1 xs (acc ++ [v]) (fun y => h1 y x) (fun y hy σ' e' => he y (by simp [hy]) σ' (e2.trans e')) (fun σ' e' => hI σ' (e2.trans e')) (by simp; omega) fun vs σ' e' ha => ?_
    have := q (v :: vs) σ' (e2.trans e') (.cons hv ha)
    simpa using this
end Mine
namespace Mine
open PySem PyProof.Rows PySem.SeqAt
/-- list(range(n)) -/
inductive pListR : List AV → Post → AHeap → Prop
  | mk {k : Nat} {Q : Post} {σ : AHeap} (hk : k ≤ 1000000) (h : A.fin Q ((List.range k).map fun i : Nat => .int i) σ) : pListR [.rng 0 k] Q σ
theorem repVs_range {h : Heap} {k : Nat} {acc : Array Value} (hi : ItemsOf (fun i v => ∃ t, v = .int (0 + (i : Int) * 1) t) acc k) : RepVs h ((List.range k).map fun i : Nat => AV.int i) acc.toList := by
  obtain ⟨hs, hv⟩ := hi
  have gen : ∀ (n j : Nat) (l : List Value), l.length = n → (∀ i v, l[i]? = some v → ∃ t, v = Value.int ((j + i : Nat) : Int) t) → RepVs h ((List.range n).map fun i : Nat => AV.int ((j + i : Nat) : Int)) l := by
    intro n
    induction n with
    | zero => intro j l hl _; cases l with
      | nil => exact .nil
      | cons => simp at hl
    | succ n ih =>
      intro j l hl hv
      cases l with
      | nil => simp at hl
      | cons v l =>
        obtain ⟨t, e⟩ := hv 0 v rfl
        subst e
        rw [List.range_succ_eq_map, List.map_cons, List.map_map]
        refine .cons (.int _ t) ?_
        have := ih (j + 1) l (by simpa using hl) fun i v hi => by
          obtain ⟨t, e⟩ := hv (i + 1) v hi
          exact ⟨t, by rw [e]; congr 1; omega⟩
        have e2 : ((fun i : Nat => AV.int ((j + i : Nat) : Int)) ∘ Nat.succ) = fun i : Nat => AV.int ((j + 1 + i : Nat) : Int) := by
          funext i; simp only [Function.comp]; congr 1; omega
        rw [e2]; exact this
  have := gen k 0 acc.toList (by rw [Array.length_toList]; exact hs) fun i v hi => by
    obtain ⟨t, e⟩ := hv i v (by rw [← Array.getElem?_toList]; exact hi)
    exact ⟨t, by rw [e]; congr 1; omega⟩
  simpa using this
theorem sound_listR {X : Cx} : SoundPrim X (.type "list") pListR := fun d A σ s as vs Q E L a r q => by
  cases q with
  | @mk k _ _ hk q =>
    obtain ⟨v, rfl, rv⟩ := repVs1 r
    cases rv with
    | rng ho =>
      have hsz : Builtin.Range.rangeSize 0 (k : Int) 1 = k := by
        unfold Builtin.Range.rangeSize
        rw [if_pos (by decide)]
        by_cases h : (0 : Int) < k
        · rw [if_pos h, Int.ediv_one]; omega
        · rw [if_neg h]; omega
      refine with_size (call_list_range (n := k) L.handled ho ?_ hsz (by omega) fun h' tk acc' c' hk' hn hi hsz' => ?_)
      · unfold Builtin.Range.small
        rw [hsz]
        have fl : ∀ x : Int, -1000000000000000 < x → x < 1000000000000000 → Builtin.Range.rangeFitsLong x = true := fun x h1 h2 => by
          unfold Builtin.Range.rangeFitsLong
          simp only [Bool.and_eq_true, decide_eq_true_eq]; omega
        rw [fl 0 (by omega) (by omega), fl (k : Int) (by omega) (by omega), fl 1 (by omega) (by omega), if_pos (by decide), fl ((k : Int) + (1 - 1)) (by omega) (by omega)]
        simp
      · exact newListAt (vs := acc'.toList) (n := c') (t := tk) a hk' (by rw [hn]; rfl) (repVs_range hi) (by simp; omega) hsz' q
theorem q_listR {k : Nat} {Q : Post} {σ : AHeap} (hk : k ≤ 1000000) (h : A.fin Q ((List.range k).map fun i : Nat => .int i) σ) : pListR [.rng 0 k] Q σ := .mk hk h
end Mine
namespace Mine
open PySem
section
variable {X : Cx} {d : Nat} {l : Loc} {σ : AHeap} {Q : Post} {Z : XP} {x : AE} {lo hi : Option AE} {p : Addr} {xs : List AV} {i j : Option Int} {R : Option Int → AHeap → Prop}
theorem q_slice (h : x d l (fun a σ1 => A.opt lo d l (fun i σ2 => A.opt hi d l (fun j σ3 => sliceA a i j Q σ3) Z σ2) Z σ1) Z σ) : A.slice x lo hi d l Q Z σ := h
theorem q_optN (h : R none σ) : A.opt none d l R Z σ := h
theorem q_optS (h : x d l (fun v σ' => ∃ i, v = .int i ∧ R (some i) σ') Z σ) : A.opt (some x) d l R Z σ := h
theorem q_slL (hp : listAt p xs σ) (h : A.fin Q (cut xs i j) σ) : sliceA (.ref p) i j Q σ := ⟨xs, hp, h⟩
theorem q_slT {k : Nat} (h1 : 1 ≤ k) (h2 : k ≤ xs.length) (h : Q (.tup (xs.drop k)) σ) : sliceA (.tup xs) (some (k : Int)) none Q σ := ⟨k, rfl, rfl, h1, h2, h⟩
theorem q_pop1 {m : Nat} {v : AV} {k : Int} (hp : σ p = some (.list xs)) (hk : k = m) (hx : xs[m]? = some v) (h : Q v (σ.set p (.list (xs.eraseIdx m)))) : mPop p [.int k] Q σ := .nth hk hp hx h
end
theorem cut_map {α : Type} {f : α → AV} (ns : List α) (lo hi : Option Int) : ∃ ms : List α, cut (ns.map f) lo hi = ms.map f ∧ ms.length ≤ ns.length ∧ ∀ x ∈ ms, x ∈ ns := by
  unfold cut
  generalize lo.elim 0 (clipAt (ns.map f).length) = a
  generalize hi.elim (ns.map f).length (clipAt (ns.map f).length) - a = b
  refine ⟨(ns.drop a).take b, by rw [List.map_take, List.map_drop], ?_, fun x hx => List.mem_of_mem_drop (List.mem_of_mem_take hx)⟩
  rw [List.length_take, List.length_drop]; omega
theorem rd_ints {σ : AHeap} {p : Addr} {ns : List Int} (h : listAt p (ns.map .int) σ) : Rd σ (.ref p) (.list (ns.map .int)) := .list h (rdL_map (fun i => .int i) _)
theorem dok_ints (ns : List Int) : DOk (.list (ns.map .int)) := dok_list fun d hd => by
  obtain ⟨i, _, rfl⟩ := List.mem_map.mp hd
  exact ⟨by simp [PyData.canLay0], by simp [PyData.depth]⟩
theorem eqv_nilL (ds : List PyData) : PyData.eqv (.list ds) (.list []) = ds.isEmpty := by
  cases ds <;> simp [PyData.eqv, PyData.eqvAll]
end Mine

set_option maxRecDepth 100000
set_option linter.unusedVariables false
set_option autoImplicit false
namespace Mine
open PySem PyProof.Rows PySem.SeqAt PySem.W PySem.Spec

theorem intsRep {h : Heap} : ∀ {vs : List Value} {ns : List Int}, IntsAre vs ns → RepVs h (ns.map AV.int) vs := by
  intro vs ns hi
  induction hi with
  | nil => exact .nil
  | cons _ _ _ ih => exact .cons (.int _ _) ih

theorem head_of {prog : Program} {w : World} {s₁ : Shared} {mg mb : Str → Option Value} {K : Frag} {c : ClaimW} {cl : Str → Option Addr} {mean : ExcName → Option Value} {args : List WData} {l fa : Addr} {vs : List Value} {ns : List Int}
    (G : Gd ⟨prog, w, s₁.heap, s₁.os, mg, mb⟩ K) (hl : s₁.heap.IsList l vs.toArray) (hi : IntsAre vs ns) (hlen : ns.length ≤ 1000000) (hg : s₁.gens = #[]) (hr : ∀ cls, c.raises args cls = false) (hpost : c.post args (.bool true) args = true)
    (hcall : ∀ (Q : Post) (Z : XP) (σ : AHeap), listAt l (ns.map .int) σ → (∀ σ', Q (.bool true) σ') → CallOk ⟨prog, w, s₁.heap, s₁.os, mg, mb⟩ fa 0 [.ref l] Q Z σ) :
    codeAny (model prog w) callerA (.call (.ref fa) ⟨[.ref l], []⟩) (GoodW c cl mean args s₁) s₁ := by
  have a : At ⟨prog, w, s₁.heap, s₁.os, mg, mb⟩ (fun b => if b = l then some (.rolist (ns.map .int)) else none) s₁ := by
    refine ⟨fun b o e => e, fun b o e => ?_, fun b o e hro => ?_, hg, rfl⟩
    · skip
      split at e
      · rename_i hb; subst hb; cases e; exact ⟨vs, hl, intsRep hi, by simpa using hlen⟩
      · cases e
    · skip
      split at e
      · cases e; cases hro
      · cases e
  have L : Live 0 callerA := ⟨by decide, by decide, rfl, by lia⟩
  refine codeAny_mono (hcall (fun v _ => v = .bool true) (fun _ _ => False) _ (.inr (by simp)) (fun _ => rfl) callerA s₁ [.ref l] L a (.cons (.ref l) .nil)) fun r s' x => ?_
  cases r with
  | ok f =>
    cases f with
    | ret v =>
      obtain ⟨av, σ', rv, a', st, rfl⟩ := x
      cases rv
      exact ⟨.inl ⟨_, _, [], rfl, hr, .bool true, hpost, fun _ => ⟨.nil, fun _ h => nomatch h⟩⟩, a'.keep, a'.os, a'.gens⟩
    | next => exact x.elim
    | brk => exact x.elim
    | cont => exact x.elim
  | error e => exact noX x
end Mine

namespace Mine
open PySem PySem.W PyProof.Rows
set_option maxHeartbeats 8000000 in
open_top hd for PySem.Challenge.rw_uf060002_03
end Mine
local macro_rules | `(tactic| walk_at "my rni") => `(tactic| (
  repeat (first
      | with_reducible (first | refine Mine.q_consO fun S1 kn1 => ?_ | refine Mine.q_set ?_ | refine Mine.q_ret ?_ | refine Mine.q_isB ?_ | refine Mine.q_k ?_ | refine Mine.q_idx ?_ | refine Mine.q_cmp ?_ | refine Mine.q_chain1 ?_ | refine Mine.q_chain2 ?_ | refine Mine.q_prim ?_ | refine Mine.q_ev1 ?_ | refine Mine.q_ev0 ?_ | refine Mine.q_callF ?_ | refine Mine.q_exB ?_)
      | ((with_reducible refine' Mine.q_loc ?e ?_); case e => rfl)
      | with_reducible (first | refine Mine.q_nil ?_ | refine Mine.q_next (by assumption) ?_ | refine Mine.q_retK (by assumption) ?_ | refine Mine.q_tup ?_ | refine Mine.q_bin ?_ | refine Mine.q_neg ?_ | refine Mine.q_not ?_ | refine Mine.q_or ?_ | refine Mine.q_or1 ?_ | refine Mine.q_and ?_ | refine Mine.q_and1 ?_ | refine Mine.q_exI ?_ | refine Mine.q_isa ?_ | refine Mine.q_lenTM ?_ | refine Mine.q_lenT ?_ | refine Mine.q_neI ?_ | refine Mine.q_eqI ?_ | refine Mine.q_lt ?_ | refine Mine.q_le ?_ | refine Mine.q_gt ?_ | refine Mine.q_add ?_ | refine Mine.q_sub ?_ | refine Mine.q_rng1 ?_ | refine Mine.q_lc ?_ | refine Mine.q_fr ?_ | refine Mine.q_itP ?_ | refine Mine.q_itemsT ?_ | refine Mine.q_ex ?_ | refine Mine.q_meth ?_ | refine Mine.q_nr ?_ | refine Mine.q_lst ?_ | refine Mine.q_neB ?_ | refine Mine.q_max2 ?_ | refine Mine.q_min2 ?_ | refine Mine.q_slice ?_ | refine Mine.q_optN ?_ | refine Mine.q_optS ?_ | refine Mine.q_tupIdx rfl ?_ | refine Mine.q_isaL (by assumption) ?_ | refine Mine.q_lenEq (by assumption) (by assumption) ?_ | refine Mine.q_lenLM (by assumption) ?_ | refine Mine.q_lenL (by assumption) ?_ | refine Mine.q_lenSM (by assumption) ?_ | refine Mine.q_idxS (by assumption) (by assumption) ?_ | refine Mine.q_div (by decide) (by decide) ?_ | refine Mine.q_mod (by decide) ?_ | refine Mine.q_pow (by decide) (by decide) (by decide) ?_ | refine Mine.q_mulR (by decide) ?_ | refine Mine.q_mulL (by decide) ?_ | refine Mine.q_itemsL (by assumption) ?_ | refine Mine.q_exM (by assumption) ?_ | refine Mine.q_slL (by assumption) ?_ | refine Mine.q_tupL (by assumption) ?_ | refine Mine.q_itemsR (by omega) ?_ | refine Mine.q_listR (by omega) ?_ | refine Mine.q_listIdx (by assumption) (by assumption) ?_)
      | ((with_reducible refine' Mine.q_pisa ?e ?_); case e => rfl) | ((with_reducible refine' Mine.q_eqS ?e1 ?e2 ?_); (case e1 => first | assumption | decide +kernel); (case e2 => first | assumption | decide +kernel)) | ((with_reducible refine' Mine.q_ifTc ?e ?_); case e => rfl) | ((with_reducible refine' Mine.q_ifFc ?e ?_); case e => rfl) | ((with_reducible refine' Mine.q_tl ?e ?_); case e => rfl))))
local macro_rules | `(tactic| walk_at "my run") => `(tactic| (walk_at "my rni"; repeat ((with_reducible refine Mine.q_if ?_); walk_at "my rni")))
set_option maxRecDepth 100000
set_option linter.unusedVariables false
set_option autoImplicit false
set_option linter.unusedSimpArgs false
set_option maxHeartbeats 8000000
set_option pp.deepTerms false
namespace Mine
open PySem PyProof.Rows PySem.SeqAt PySem.W
section
variable {X : Cx} {P : Params} {Q : Post} {Z : XP} {σ : AHeap} {d : Nat}
theorem bi_len : isBi (hd.heap_39 P) "len" (.builtin "len") := ⟨by kernel_rfl, by kernel_rfl, by decide⟩
theorem bi_range : isBi (hd.heap_39 P) "range" (.type "range") := ⟨by kernel_rfl, by kernel_rfl, by decide⟩
theorem bi_list : isBi (hd.heap_39 P) "list" (.type "list") := ⟨by kernel_rfl, by kernel_rfl, by decide⟩
theorem bi_tuple : isBi (hd.heap_39 P) "tuple" (.type "tuple") := ⟨by kernel_rfl, by kernel_rfl, by decide⟩
theorem bi_bool : isBi (hd.heap_39 P) "bool" (.type "bool") := ⟨by kernel_rfl, by kernel_rfl, by decide⟩
theorem bi_isinstance : isBi (hd.heap_39 P) "isinstance" (.builtin "isinstance") := ⟨by kernel_rfl, by kernel_rfl, by decide⟩
theorem bi_sorted : isBi (hd.heap_39 P) "sorted" (.builtin "sorted") := ⟨by kernel_rfl, by kernel_rfl, by decide⟩

theorem bi_max : isBi (hd.heap_39 P) "max" (.builtin "max") := ⟨by kernel_rfl, by kernel_rfl, by decide⟩
theorem bi_min : isBi (hd.heap_39 P) "min" (.builtin "min") := ⟨by kernel_rfl, by kernel_rfl, by decide⟩
theorem bi_sum : isBi (hd.heap_39 P) "sum" (.builtin "sum") := ⟨by kernel_rfl, by kernel_rfl, by decide⟩

theorem cell_at_ok (G : Gd X (hd.heap_39 P)) (hd : d < 600) {p : Addr} {ns : List Int} {k : Int} (h0 : 0 ≤ k) (hp : listAt p (ns.map .int) σ) (q : Q (.int (ns.getD k.toNat 0)) σ) : CallOk X 45 d [.ref p, .int k] Q Z σ := by
  obtain ⟨k, rfl⟩ := Int.eq_ofNat_of_zero_le h0
  refine' callK (m := _) ["_law_script", "_law_k"] [("_law_script", 0), ("_law_k", 1)] G rfl rfl (bind2 fun a b => rfl) rfl rfl rfl rfl rfl rfl rfl rfl (fun env E => ?snd) hd rfl ?bd
  case snd =>
    repeat' first
      | ((with_reducible show SoundSs _ _ _ [] _); (with_reducible refine' sound_nil))
      | ((with_reducible show SoundSs _ _ _ (_ :: _) _); (with_reducible refine' sound_cons ?_ ?_))
      | ((with_reducible show SoundS _ _ _ (.If _ _ _ _) _); (with_reducible refine' sound_if ?_ ?_ ?_))
      | ((with_reducible show SoundS _ _ _ (.Return (some _) _) _); (with_reducible refine' sound_ret ?_))
      | ((with_reducible show SoundS _ _ _ (.Assign [.Name _ _] (.ListComp _ _ _ _) _) _); (with_reducible refine' w_setComp (by assumption) ?r1 ?r2 ?r3 ?r4 ?r5 ?_ (fun env' E' => ?_) (fun env' E' => ?_) (fun env' E' => ?_)); (case r1 => exact rfl); (case r2 => exact rfl); (case r3 => exact rfl); (case r4 => exact rfl); (case r5 => exact rfl))
      | ((with_reducible show SoundS _ _ _ (.Assign [.Name _ _] _ _) _); (with_reducible refine' w_set (by assumption) ?r1 ?r2 ?_ ?r3); (case r1 => exact rfl); (case r2 => exact rfl); (case r3 => exact rfl))
      | ((with_reducible show SoundS _ _ _ (.For _ _ _ _ _) _); (with_reducible refine' w_for ?r1 ?_ ?_ ?_); (case r1 => exact rfl))
      | ((with_reducible show SoundS _ _ _ (.Expr _ _) _); (with_reducible refine' w_ex (by assumption) ?_ ?r1); (case r1 => exact rfl))
      | ((with_reducible show SoundC _ _ _ [] _); (with_reducible refine' w_cNone))
      | ((with_reducible show SoundC _ _ _ (_ :: _) _); (with_reducible refine' w_cSome ?_))
      | ((with_reducible show SoundT _ _ _ (.Name _ _) _); (with_reducible refine' w_tOne (by assumption) ?r1 ?r2); (case r1 => exact rfl); (case r2 => exact rfl))
      | ((with_reducible show SoundTC _ _ _ (.Name _ _) _); (with_reducible refine' w_tcOne (by assumption) ?r1 ?r2); (case r1 => exact rfl); (case r2 => exact rfl))
      | ((with_reducible show SoundI _ _ _ _ _ _); (with_reducible refine' w_it ?_))
      | ((with_reducible show SoundB _ _ _ (.Compare _ _ _ _) _); (with_reducible refine' soundB_cmp ?_ ?_))
      | ((with_reducible show SoundB _ _ _ (.UnaryOp .Not _ _) _); (with_reducible refine' soundB_not ?_))
      | ((with_reducible show SoundB _ _ _ (.BoolOp .And _ _) _); (with_reducible refine' soundB_and ?_))
      | ((with_reducible show SoundB _ _ _ (.BoolOp .Or _ _) _); (with_reducible refine' soundB_or ?_))
      | ((with_reducible show SoundB _ _ _ (_) _); (with_reducible refine' soundB_of ?_ ?r1); (case r1 => exact (fun _ => rfl)))
      | ((with_reducible show SoundE _ _ _ (.Name _ _) _); (with_reducible refine' w_loc (by assumption) ?r1 ?r2 ?r3); (case r1 => exact rfl); (case r2 => exact rfl); (case r3 => exact rfl))
      | ((with_reducible show SoundE _ _ _ (.Name _ _) _); (with_reducible refine' w_gint (by assumption) (by assumption) ?r1 ?r2); (case r1 => exact rfl); (case r2 => exact rfl))
      | ((with_reducible show SoundE _ _ _ (.Constant (.int _) _ _) _); (with_reducible refine' sound_int))
      | ((with_reducible show SoundE _ _ _ (.Constant (.str _) _ _) _); (with_reducible refine' sound_str))
      | ((with_reducible show SoundE _ _ _ (.Constant (.bool _) _ _) _); (with_reducible refine' sound_bool))
      | ((with_reducible show SoundE _ _ _ (.Tuple _ _ _) _); (with_reducible refine' sound_tup ?_))
      | ((with_reducible show SoundE _ _ _ (.List _ _) _); (with_reducible refine' sound_lst ?_))
      | ((with_reducible show SoundEs _ _ _ [] _); (with_reducible refine' w_es0))
      | ((with_reducible show SoundEs _ _ _ (_ :: _) _); (with_reducible refine' w_es1 ?r1 ?_ ?_); (case r1 => exact rfl))
      | ((with_reducible show SoundE _ _ _ (.Compare _ _ _ _) _); (with_reducible refine' sound_cmp ?_ ?_))
      | ((with_reducible show SoundOps _ _ _ [_] _ _); (with_reducible refine' SoundOps.one ?_ ?r1); (case r1 => exact rfl))
      | ((with_reducible show SoundOps _ _ _ (_ :: _ :: _) _ _); (with_reducible refine' SoundOps.cons ?_ ?_))
      | ((with_reducible show SoundE _ _ _ (.BinOp _ _ _ _) _); (with_reducible refine' sound_bin ?_ ?_))
      | ((with_reducible show SoundE _ _ _ (.UnaryOp .USub _ _) _); (with_reducible refine' sound_neg ?_))
      | ((with_reducible show SoundE _ _ _ (.UnaryOp .Not _ _) _); (with_reducible refine' sound_not ?_))
      | ((with_reducible show SoundE _ _ _ (.BoolOp .And _ _) _); (with_reducible refine' sound_and ?_))
      | ((with_reducible show SoundEBs _ _ _ [] _); (with_reducible refine' SoundEBs.nil))
      | ((with_reducible show SoundEBs _ _ _ (_ :: _) _); (with_reducible refine' SoundEBs.cons ?_ ?_ ?_))
      | ((with_reducible show SoundE _ _ _ (.Subscript _ (.Slice _ _ _ _) _) _); (with_reducible refine' sound_slice ?_ ?_ ?_))
      | ((with_reducible show SoundE _ _ _ (.Subscript _ _ _) _); (with_reducible refine' sound_idx ?_ ?_ ?r1); (case r1 => exact rfl))
      | ((with_reducible show SoundO _ _ _ none _); (with_reducible refine' w_oNone))
      | ((with_reducible show SoundO _ _ _ (some _) _); (with_reducible refine' w_oSome ?_))
      | ((with_reducible show SoundE _ _ _ (.ListComp _ _ _ _) _); (with_reducible refine' w_comp (by assumption) ?r1 ?r2 ?r3 ?_ (fun env' E' => ?_) (fun env' E' => ?_) (fun env' E' => ?_)); (case r1 => exact rfl); (case r2 => exact rfl); (case r3 => exact rfl))
      | ((with_reducible show SoundE _ _ _ (.Call (.Attribute _ "append" _) _ [] _) _); (with_reducible refine' w_append ?r1 ?r2 ?r3 ?_ ?_); (case r1 => exact (fun _ => rfl)); (case r2 => exact rfl); (case r3 => exact rfl))
      | ((with_reducible show SoundE _ _ _ (.Call (.Attribute _ "pop" _) _ [] _) _); (with_reducible refine' w_pop ?r1 ?r2 ?r3 ?_ ?_); (case r1 => exact (fun _ => rfl)); (case r2 => exact rfl); (case r3 => exact rfl))
      | ((with_reducible show SoundE _ _ _ (.Call (.Name "list" _) [.Call (.Name "range" _) _ _ _] [] _) _); (with_reducible refine' w_prim (by assumption) (by assumption) bi_list ?r1 sound_listR ?r2 ?_); (case r1 => exact (.inr ⟨_, rfl⟩)); (case r2 => exact rfl))
      | ((with_reducible show SoundE _ _ _ (.Call (.Name "len" _) _ [] _) _); (with_reducible refine' w_len (by assumption) (by assumption) bi_len ?r1 ?_); (case r1 => exact rfl))
      | ((with_reducible show SoundE _ _ _ (.Call (.Name "range" _) _ [] _) _); (with_reducible refine' w_range (by assumption) (by assumption) bi_range ?r1 ?_); (case r1 => exact rfl))
      | ((with_reducible show SoundE _ _ _ (.Call (.Name "list" _) _ [] _) _); (with_reducible refine' w_list (by assumption) (by assumption) bi_list ?r1 ?_); (case r1 => exact rfl))
      | ((with_reducible show SoundE _ _ _ (.Call (.Name "sorted" _) _ [] _) _); (with_reducible refine' w_prim (by assumption) (by assumption) bi_sorted ?r1 sound_sorted ?r2 ?_); (case r1 => exact (.inl ⟨_, rfl⟩)); (case r2 => exact rfl))
      | ((with_reducible show SoundE _ _ _ (.Call (.Name "max" _) _ [] _) _); (with_reducible refine' w_prim (by assumption) (by assumption) bi_max ?r1 sound_max ?r2 ?_); (case r1 => exact (.inl ⟨_, rfl⟩)); (case r2 => exact rfl))
      | ((with_reducible show SoundE _ _ _ (.Call (.Name "min" _) _ [] _) _); (with_reducible refine' w_prim (by assumption) (by assumption) bi_min ?r1 sound_min ?r2 ?_); (case r1 => exact (.inl ⟨_, rfl⟩)); (case r2 => exact rfl))
      | ((with_reducible show SoundE _ _ _ (.Call (.Name "sum" _) _ [] _) _); (with_reducible refine' w_prim (by assumption) (by assumption) bi_sum ?r1 sound_sum ?r2 ?_); (case r1 => exact (.inl ⟨_, rfl⟩)); (case r2 => exact rfl))
      | ((with_reducible show SoundE _ _ _ (.Call (.Name "tuple" _) _ [] _) _); (with_reducible refine' w_prim (by assumption) (by assumption) bi_tuple ?r1 sound_tuple ?r2 ?_); (case r1 => exact (.inr ⟨_, rfl⟩)); (case r2 => exact rfl))
      | ((with_reducible show SoundE _ _ _ (.Call (.Name "isinstance" _) [_, .Name "tuple" _] [] _) _); (with_reducible refine' w_isa .tuple (by assumption) (by assumption) bi_isinstance ?r1 bi_tuple ?r2 ?r3 ?_); (case r1 => exact rfl); (case r2 => exact rfl); (case r3 => exact rfl))
      | ((with_reducible show SoundE _ _ _ (.Call (.Name "isinstance" _) [_, .Name "bool" _] [] _) _); (with_reducible refine' w_isa .bool (by assumption) (by assumption) bi_isinstance ?r1 bi_bool ?r2 ?r3 ?_); (case r1 => exact rfl); (case r2 => exact rfl); (case r3 => exact rfl))
      | ((with_reducible show SoundE _ _ _ (.Call (.Name "isinstance" _) [_, .Name "list" _] [] _) _); (with_reducible refine' w_isa .list (by assumption) (by assumption) bi_isinstance ?r1 bi_list ?r2 ?r3 ?_); (case r1 => exact rfl); (case r2 => exact rfl); (case r3 => exact rfl))
      | ((with_reducible show SoundE _ _ _ (.Call (.Name _ _) _ [] _) _); (with_reducible refine' w_call (by assumption) (by assumption) ?r1 ?r2 ?r3 ?_); (case r1 => exact rfl); (case r2 => exact ⟨_, _, rfl, rfl⟩); (case r3 => exact rfl))
  walk_at "my run"
  split
  · rename_i hk
    have hk : k < ns.length := by simpa using hk
    have e : atIdx (ns.map AV.int) (k : Int) = some (.int (ns.getD k 0)) := by rw [at_nat]; simp [hk]
    walk_at "my run"
    exact q
  · rename_i hk
    have hk : ns.length ≤ k := by simpa using hk
    have e : ns.getD k 0 = 0 := by simp [List.getD_eq_getElem?_getD, List.getElem?_eq_none hk]
    walk_at "my run"
    rw [Int.toNat_natCast, e] at q; exact q

def ent (e : Int × Int) : AV := .tup [.int e.1, .int e.2]
def entL (es : List (Int × Int)) : List AV := es.map ent
def small (es : List (Int × Int)) : Prop := ∀ e ∈ es, e.2.natAbs ≤ 100000000000

theorem six (k : Nat) (h : k < 6) : ∃ c : Int, atIdx ([.int 1, .int 2, .int 3, .int (-1), .int (-2), .int (-3)] : List AV) (k : Int) = some (.int c) ∧ c.natAbs ≤ 3 := by
  have e : ([.int 1, .int 2, .int 3, .int (-1), .int (-2), .int (-3)] : List AV) = ([1, 2, 3, -1, -2, -3] : List Int).map .int := rfl
  have hl : k < ([1, 2, 3, -1, -2, -3] : List Int).length := h
  have hall : ∀ x ∈ ([1, 2, 3, -1, -2, -3] : List Int), x.natAbs ≤ 3 := by decide
  rw [at_nat, e, List.getElem?_map, List.getElem?_eq_getElem hl]
  exact ⟨_, rfl, hall _ (List.getElem_mem hl)⟩
theorem fmod_nat (x : Int) (n : Nat) (h : 0 < n) : ∃ k : Nat, x.fmod n = k ∧ k < n := by
  have h1 := Int.fmod_nonneg_of_pos x (b := n) (by omega); have h2 := Int.fmod_lt_of_pos x (b := n) (by omega)
  exact ⟨(x.fmod n).toNat, by omega, by omega⟩

theorem entry_ok (G : Gd X (hd.heap_39 P)) (hd : d < 600) {c sc : Int} {far : Bool} (hs : 0 ≤ sc ∧ sc ≤ 60000001) (q : ∀ e σ', Ext σ σ' → e.2.natAbs ≤ 1000000000 → Q (ent e) σ') : CallOk X 52 d [.int c, .bool far, .int sc] Q Z σ := by
  refine' callK (m := _) ["_law_cell", "_law_far", "_law_scale"] [("_law_cell", 0), ("_law_far", 1), ("_law_scale", 2), ("_law_day", 3)] G rfl rfl (bind3 fun a b c => rfl) rfl rfl rfl rfl rfl rfl rfl rfl (fun env E => ?snd) hd rfl ?bd
  case snd =>
    repeat' first
      | ((with_reducible show SoundSs _ _ _ [] _); (with_reducible refine' sound_nil))
      | ((with_reducible show SoundSs _ _ _ (_ :: _) _); (with_reducible refine' sound_cons ?_ ?_))
      | ((with_reducible show SoundS _ _ _ (.If _ _ _ _) _); (with_reducible refine' sound_if ?_ ?_ ?_))
      | ((with_reducible show SoundS _ _ _ (.Return (some _) _) _); (with_reducible refine' sound_ret ?_))
      | ((with_reducible show SoundS _ _ _ (.Assign [.Name _ _] (.ListComp _ _ _ _) _) _); (with_reducible refine' w_setComp (by assumption) ?r1 ?r2 ?r3 ?r4 ?r5 ?_ (fun env' E' => ?_) (fun env' E' => ?_) (fun env' E' => ?_)); (case r1 => exact rfl); (case r2 => exact rfl); (case r3 => exact rfl); (case r4 => exact rfl); (case r5 => exact rfl))
      | ((with_reducible show SoundS _ _ _ (.Assign [.Name _ _] _ _) _); (with_reducible refine' w_set (by assumption) ?r1 ?r2 ?_ ?r3); (case r1 => exact rfl); (case r2 => exact rfl); (case r3 => exact rfl))
      | ((with_reducible show SoundS _ _ _ (.For _ _ _ _ _) _); (with_reducible refine' w_for ?r1 ?_ ?_ ?_); (case r1 => exact rfl))
      | ((with_reducible show SoundS _ _ _ (.Expr _ _) _); (with_reducible refine' w_ex (by assumption) ?_ ?r1); (case r1 => exact rfl))
      | ((with_reducible show SoundC _ _ _ [] _); (with_reducible refine' w_cNone))
      | ((with_reducible show SoundC _ _ _ (_ :: _) _); (with_reducible refine' w_cSome ?_))
      | ((with_reducible show SoundT _ _ _ (.Name _ _) _); (with_reducible refine' w_tOne (by assumption) ?r1 ?r2); (case r1 => exact rfl); (case r2 => exact rfl))
      | ((with_reducible show SoundTC _ _ _ (.Name _ _) _); (with_reducible refine' w_tcOne (by assumption) ?r1 ?r2); (case r1 => exact rfl); (case r2 => exact rfl))
      | ((with_reducible show SoundI _ _ _ _ _ _); (with_reducible refine' w_it ?_))
      | ((with_reducible show SoundB _ _ _ (.Compare _ _ _ _) _); (with_reducible refine' soundB_cmp ?_ ?_))
      | ((with_reducible show SoundB _ _ _ (.UnaryOp .Not _ _) _); (with_reducible refine' soundB_not ?_))
      | ((with_reducible show SoundB _ _ _ (.BoolOp .And _ _) _); (with_reducible refine' soundB_and ?_))
      | ((with_reducible show SoundB _ _ _ (.BoolOp .Or _ _) _); (with_reducible refine' soundB_or ?_))
      | ((with_reducible show SoundB _ _ _ (_) _); (with_reducible refine' soundB_of ?_ ?r1); (case r1 => exact (fun _ => rfl)))
      | ((with_reducible show SoundE _ _ _ (.Name _ _) _); (with_reducible refine' w_loc (by assumption) ?r1 ?r2 ?r3); (case r1 => exact rfl); (case r2 => exact rfl); (case r3 => exact rfl))
      | ((with_reducible show SoundE _ _ _ (.Name _ _) _); (with_reducible refine' w_gint (by assumption) (by assumption) ?r1 ?r2); (case r1 => exact rfl); (case r2 => exact rfl))
      | ((with_reducible show SoundE _ _ _ (.Constant (.int _) _ _) _); (with_reducible refine' sound_int))
      | ((with_reducible show SoundE _ _ _ (.Constant (.str _) _ _) _); (with_reducible refine' sound_str))
      | ((with_reducible show SoundE _ _ _ (.Constant (.bool _) _ _) _); (with_reducible refine' sound_bool))
      | ((with_reducible show SoundE _ _ _ (.Tuple _ _ _) _); (with_reducible refine' sound_tup ?_))
      | ((with_reducible show SoundE _ _ _ (.List _ _) _); (with_reducible refine' sound_lst ?_))
      | ((with_reducible show SoundEs _ _ _ [] _); (with_reducible refine' w_es0))
      | ((with_reducible show SoundEs _ _ _ (_ :: _) _); (with_reducible refine' w_es1 ?r1 ?_ ?_); (case r1 => exact rfl))
      | ((with_reducible show SoundE _ _ _ (.Compare _ _ _ _) _); (with_reducible refine' sound_cmp ?_ ?_))
      | ((with_reducible show SoundOps _ _ _ [_] _ _); (with_reducible refine' SoundOps.one ?_ ?r1); (case r1 => exact rfl))
      | ((with_reducible show SoundOps _ _ _ (_ :: _ :: _) _ _); (with_reducible refine' SoundOps.cons ?_ ?_))
      | ((with_reducible show SoundE _ _ _ (.BinOp _ _ _ _) _); (with_reducible refine' sound_bin ?_ ?_))
      | ((with_reducible show SoundE _ _ _ (.UnaryOp .USub _ _) _); (with_reducible refine' sound_neg ?_))
      | ((with_reducible show SoundE _ _ _ (.UnaryOp .Not _ _) _); (with_reducible refine' sound_not ?_))
      | ((with_reducible show SoundE _ _ _ (.BoolOp .And _ _) _); (with_reducible refine' sound_and ?_))
      | ((with_reducible show SoundEBs _ _ _ [] _); (with_reducible refine' SoundEBs.nil))
      | ((with_reducible show SoundEBs _ _ _ (_ :: _) _); (with_reducible refine' SoundEBs.cons ?_ ?_ ?_))
      | ((with_reducible show SoundE _ _ _ (.Subscript _ (.Slice _ _ _ _) _) _); (with_reducible refine' sound_slice ?_ ?_ ?_))
      | ((with_reducible show SoundE _ _ _ (.Subscript _ _ _) _); (with_reducible refine' sound_idx ?_ ?_ ?r1); (case r1 => exact rfl))
      | ((with_reducible show SoundO _ _ _ none _); (with_reducible refine' w_oNone))
      | ((with_reducible show SoundO _ _ _ (some _) _); (with_reducible refine' w_oSome ?_))
      | ((with_reducible show SoundE _ _ _ (.ListComp _ _ _ _) _); (with_reducible refine' w_comp (by assumption) ?r1 ?r2 ?r3 ?_ (fun env' E' => ?_) (fun env' E' => ?_) (fun env' E' => ?_)); (case r1 => exact rfl); (case r2 => exact rfl); (case r3 => exact rfl))
      | ((with_reducible show SoundE _ _ _ (.Call (.Attribute _ "append" _) _ [] _) _); (with_reducible refine' w_append ?r1 ?r2 ?r3 ?_ ?_); (case r1 => exact (fun _ => rfl)); (case r2 => exact rfl); (case r3 => exact rfl))
      | ((with_reducible show SoundE _ _ _ (.Call (.Attribute _ "pop" _) _ [] _) _); (with_reducible refine' w_pop ?r1 ?r2 ?r3 ?_ ?_); (case r1 => exact (fun _ => rfl)); (case r2 => exact rfl); (case r3 => exact rfl))
      | ((with_reducible show SoundE _ _ _ (.Call (.Name "list" _) [.Call (.Name "range" _) _ _ _] [] _) _); (with_reducible refine' w_prim (by assumption) (by assumption) bi_list ?r1 sound_listR ?r2 ?_); (case r1 => exact (.inr ⟨_, rfl⟩)); (case r2 => exact rfl))
      | ((with_reducible show SoundE _ _ _ (.Call (.Name "len" _) _ [] _) _); (with_reducible refine' w_len (by assumption) (by assumption) bi_len ?r1 ?_); (case r1 => exact rfl))
      | ((with_reducible show SoundE _ _ _ (.Call (.Name "range" _) _ [] _) _); (with_reducible refine' w_range (by assumption) (by assumption) bi_range ?r1 ?_); (case r1 => exact rfl))
      | ((with_reducible show SoundE _ _ _ (.Call (.Name "list" _) _ [] _) _); (with_reducible refine' w_list (by assumption) (by assumption) bi_list ?r1 ?_); (case r1 => exact rfl))
      | ((with_reducible show SoundE _ _ _ (.Call (.Name "sorted" _) _ [] _) _); (with_reducible refine' w_prim (by assumption) (by assumption) bi_sorted ?r1 sound_sorted ?r2 ?_); (case r1 => exact (.inl ⟨_, rfl⟩)); (case r2 => exact rfl))
      | ((with_reducible show SoundE _ _ _ (.Call (.Name "max" _) _ [] _) _); (with_reducible refine' w_prim (by assumption) (by assumption) bi_max ?r1 sound_max ?r2 ?_); (case r1 => exact (.inl ⟨_, rfl⟩)); (case r2 => exact rfl))
      | ((with_reducible show SoundE _ _ _ (.Call (.Name "min" _) _ [] _) _); (with_reducible refine' w_prim (by assumption) (by assumption) bi_min ?r1 sound_min ?r2 ?_); (case r1 => exact (.inl ⟨_, rfl⟩)); (case r2 => exact rfl))
      | ((with_reducible show SoundE _ _ _ (.Call (.Name "sum" _) _ [] _) _); (with_reducible refine' w_prim (by assumption) (by assumption) bi_sum ?r1 sound_sum ?r2 ?_); (case r1 => exact (.inl ⟨_, rfl⟩)); (case r2 => exact rfl))
      | ((with_reducible show SoundE _ _ _ (.Call (.Name "tuple" _) _ [] _) _); (with_reducible refine' w_prim (by assumption) (by assumption) bi_tuple ?r1 sound_tuple ?r2 ?_); (case r1 => exact (.inr ⟨_, rfl⟩)); (case r2 => exact rfl))
      | ((with_reducible show SoundE _ _ _ (.Call (.Name "isinstance" _) [_, .Name "tuple" _] [] _) _); (with_reducible refine' w_isa .tuple (by assumption) (by assumption) bi_isinstance ?r1 bi_tuple ?r2 ?r3 ?_); (case r1 => exact rfl); (case r2 => exact rfl); (case r3 => exact rfl))
      | ((with_reducible show SoundE _ _ _ (.Call (.Name "isinstance" _) [_, .Name "bool" _] [] _) _); (with_reducible refine' w_isa .bool (by assumption) (by assumption) bi_isinstance ?r1 bi_bool ?r2 ?r3 ?_); (case r1 => exact rfl); (case r2 => exact rfl); (case r3 => exact rfl))
      | ((with_reducible show SoundE _ _ _ (.Call (.Name "isinstance" _) [_, .Name "list" _] [] _) _); (with_reducible refine' w_isa .list (by assumption) (by assumption) bi_isinstance ?r1 bi_list ?r2 ?r3 ?_); (case r1 => exact rfl); (case r2 => exact rfl); (case r3 => exact rfl))
      | ((with_reducible show SoundE _ _ _ (.Call (.Name _ _) _ [] _) _); (with_reducible refine' w_call (by assumption) (by assumption) ?r1 ?r2 ?r3 ?_); (case r1 => exact rfl); (case r2 => exact ⟨_, _, rfl, rfl⟩); (case r3 => exact rfl))
  walk_at "my rni"
  refine q_ifJ (fun l' σ' => σ' = σ ∧ ∃ dd : Int, l' = [some (.int c), some (.bool far), some (.int sc), some (.int dd)]) (fun S' kr kn => ?_) ?_
  · cases far
    ·
      walk_at "my run"
      exact kn _ _ ⟨rfl, _, rfl⟩
    ·
      walk_at "my run"
      have h1 := Int.fmod_nonneg_of_pos (c.fdiv 240) (b := 2) (by omega)
      have h2 := Int.fmod_lt_of_pos (c.fdiv 240) (b := 2) (by omega)
      refine q_mulR (by omega) ?_
      walk_at "my run"
      exact kn _ _ ⟨rfl, _, rfl⟩
  rintro l' σ' ⟨rfl, dd, rfl⟩
  walk_at "my run"
  refine alf fun σ1 r1 e1 hr1 l1 => ?_
  have k1 : listAt r1 _ σ1 := .inl l1
  obtain ⟨k, ek, hk⟩ := fmod_nat (c.fdiv 6) 6 (by omega)
  obtain ⟨c0, h1, h2⟩ := six k hk
  walk_at "my run"
  have ek' : (c.fdiv 6).fmod 6 = (k : Int) := ek
  rw [ek']
  refine q_listIdx k1 h1 ?_
  walk_at "my run"
  refine q_mulL (i := c0) (by omega) ?_
  walk_at "my run"
  refine q (dd, c0 * sc) σ1 e1 ?_
  show (c0 * sc).natAbs ≤ _
  rw [Int.natAbs_mul]
  have : sc.natAbs ≤ 60000001 := by omega
  calc c0.natAbs * sc.natAbs ≤ 3 * 60000001 := Nat.mul_le_mul h2 this
    _ ≤ _ := by decide

def stepB (ns : List Int) (n : Int) (k : Nat) : Bool := decide (0 ≤ ns.getD k 0) && decide (ns.getD k 0 < n) && !(decide (0 < k) && decide (ns.getD k 0 ≤ ns.getD (k - 1) 0))
def risingB (ns : List Int) (n : Int) : Bool := (List.range ns.length).all fun k => stepB ns n k
theorem rising_of {ns : List Int} {n : Int} (h : ∀ j, j < ns.length → stepB ns n j = true) : risingB ns n = true := by
  unfold risingB
  rw [List.all_eq_true]
  exact fun k hk => h k (List.mem_range.mp hk)
theorem rising_no {ns : List Int} {n : Int} {k : Nat} (hk : k < ns.length) (h : stepB ns n k = false) : risingB ns n = false := by
  unfold risingB
  rw [List.all_eq_false]
  exact ⟨k, List.mem_range.mpr hk, by simp [h]⟩
theorem at_int {ns : List Int} {k : Nat} (h : k < ns.length) : atIdx (ns.map AV.int) (k : Int) = some (.int (ns.getD k 0)) := by rw [at_nat]; simp [h]

theorem is_rising_ok (G : Gd X (hd.heap_39 P)) (hd : d < 600) {v : AV} {ns : List Int} {n : Int} (hv : SeqOf σ v (ns.map .int)) (hl : ns.length ≤ 100) (q : Q (.bool (risingB ns n)) σ) : CallOk X 28 d [v, .int n] Q Z σ := by
  refine' callK (m := _) ["places", "many"] [("places", 0), ("many", 1), ("k", 2)] G rfl rfl (bind2 fun a b => rfl) rfl rfl rfl rfl rfl rfl rfl rfl (fun env E => ?snd) hd rfl ?bd
  case snd =>
    repeat' first
      | ((with_reducible show SoundSs _ _ _ [] _); (with_reducible refine' sound_nil))
      | ((with_reducible show SoundSs _ _ _ (_ :: _) _); (with_reducible refine' sound_cons ?_ ?_))
      | ((with_reducible show SoundS _ _ _ (.If _ _ _ _) _); (with_reducible refine' sound_if ?_ ?_ ?_))
      | ((with_reducible show SoundS _ _ _ (.Return (some _) _) _); (with_reducible refine' sound_ret ?_))
      | ((with_reducible show SoundS _ _ _ (.Assign [.Name _ _] (.ListComp _ _ _ _) _) _); (with_reducible refine' w_setComp (by assumption) ?r1 ?r2 ?r3 ?r4 ?r5 ?_ (fun env' E' => ?_) (fun env' E' => ?_) (fun env' E' => ?_)); (case r1 => exact rfl); (case r2 => exact rfl); (case r3 => exact rfl); (case r4 => exact rfl); (case r5 => exact rfl))
      | ((with_reducible show SoundS _ _ _ (.Assign [.Name _ _] _ _) _); (with_reducible refine' w_set (by assumption) ?r1 ?r2 ?_ ?r3); (case r1 => exact rfl); (case r2 => exact rfl); (case r3 => exact rfl))
      | ((with_reducible show SoundS _ _ _ (.For _ _ _ _ _) _); (with_reducible refine' w_for ?r1 ?_ ?_ ?_); (case r1 => exact rfl))
      | ((with_reducible show SoundS _ _ _ (.Expr _ _) _); (with_reducible refine' w_ex (by assumption) ?_ ?r1); (case r1 => exact rfl))
      | ((with_reducible show SoundC _ _ _ [] _); (with_reducible refine' w_cNone))
      | ((with_reducible show SoundC _ _ _ (_ :: _) _); (with_reducible refine' w_cSome ?_))
      | ((with_reducible show SoundT _ _ _ (.Name _ _) _); (with_reducible refine' w_tOne (by assumption) ?r1 ?r2); (case r1 => exact rfl); (case r2 => exact rfl))
      | ((with_reducible show SoundTC _ _ _ (.Name _ _) _); (with_reducible refine' w_tcOne (by assumption) ?r1 ?r2); (case r1 => exact rfl); (case r2 => exact rfl))
      | ((with_reducible show SoundI _ _ _ _ _ _); (with_reducible refine' w_it ?_))
      | ((with_reducible show SoundB _ _ _ (.Compare _ _ _ _) _); (with_reducible refine' soundB_cmp ?_ ?_))
      | ((with_reducible show SoundB _ _ _ (.UnaryOp .Not _ _) _); (with_reducible refine' soundB_not ?_))
      | ((with_reducible show SoundB _ _ _ (.BoolOp .And _ _) _); (with_reducible refine' soundB_and ?_))
      | ((with_reducible show SoundB _ _ _ (.BoolOp .Or _ _) _); (with_reducible refine' soundB_or ?_))
      | ((with_reducible show SoundB _ _ _ (_) _); (with_reducible refine' soundB_of ?_ ?r1); (case r1 => exact (fun _ => rfl)))
      | ((with_reducible show SoundE _ _ _ (.Name _ _) _); (with_reducible refine' w_loc (by assumption) ?r1 ?r2 ?r3); (case r1 => exact rfl); (case r2 => exact rfl); (case r3 => exact rfl))
      | ((with_reducible show SoundE _ _ _ (.Name _ _) _); (with_reducible refine' w_gint (by assumption) (by assumption) ?r1 ?r2); (case r1 => exact rfl); (case r2 => exact rfl))
      | ((with_reducible show SoundE _ _ _ (.Constant (.int _) _ _) _); (with_reducible refine' sound_int))
      | ((with_reducible show SoundE _ _ _ (.Constant (.str _) _ _) _); (with_reducible refine' sound_str))
      | ((with_reducible show SoundE _ _ _ (.Constant (.bool _) _ _) _); (with_reducible refine' sound_bool))
      | ((with_reducible show SoundE _ _ _ (.Tuple _ _ _) _); (with_reducible refine' sound_tup ?_))
      | ((with_reducible show SoundE _ _ _ (.List _ _) _); (with_reducible refine' sound_lst ?_))
      | ((with_reducible show SoundEs _ _ _ [] _); (with_reducible refine' w_es0))
      | ((with_reducible show SoundEs _ _ _ (_ :: _) _); (with_reducible refine' w_es1 ?r1 ?_ ?_); (case r1 => exact rfl))
      | ((with_reducible show SoundE _ _ _ (.Compare _ _ _ _) _); (with_reducible refine' sound_cmp ?_ ?_))
      | ((with_reducible show SoundOps _ _ _ [_] _ _); (with_reducible refine' SoundOps.one ?_ ?r1); (case r1 => exact rfl))
      | ((with_reducible show SoundOps _ _ _ (_ :: _ :: _) _ _); (with_reducible refine' SoundOps.cons ?_ ?_))
      | ((with_reducible show SoundE _ _ _ (.BinOp _ _ _ _) _); (with_reducible refine' sound_bin ?_ ?_))
      | ((with_reducible show SoundE _ _ _ (.UnaryOp .USub _ _) _); (with_reducible refine' sound_neg ?_))
      | ((with_reducible show SoundE _ _ _ (.UnaryOp .Not _ _) _); (with_reducible refine' sound_not ?_))
      | ((with_reducible show SoundE _ _ _ (.BoolOp .And _ _) _); (with_reducible refine' sound_and ?_))
      | ((with_reducible show SoundEBs _ _ _ [] _); (with_reducible refine' SoundEBs.nil))
      | ((with_reducible show SoundEBs _ _ _ (_ :: _) _); (with_reducible refine' SoundEBs.cons ?_ ?_ ?_))
      | ((with_reducible show SoundE _ _ _ (.Subscript _ (.Slice _ _ _ _) _) _); (with_reducible refine' sound_slice ?_ ?_ ?_))
      | ((with_reducible show SoundE _ _ _ (.Subscript _ _ _) _); (with_reducible refine' sound_idx ?_ ?_ ?r1); (case r1 => exact rfl))
      | ((with_reducible show SoundO _ _ _ none _); (with_reducible refine' w_oNone))
      | ((with_reducible show SoundO _ _ _ (some _) _); (with_reducible refine' w_oSome ?_))
      | ((with_reducible show SoundE _ _ _ (.ListComp _ _ _ _) _); (with_reducible refine' w_comp (by assumption) ?r1 ?r2 ?r3 ?_ (fun env' E' => ?_) (fun env' E' => ?_) (fun env' E' => ?_)); (case r1 => exact rfl); (case r2 => exact rfl); (case r3 => exact rfl))
      | ((with_reducible show SoundE _ _ _ (.Call (.Attribute _ "append" _) _ [] _) _); (with_reducible refine' w_append ?r1 ?r2 ?r3 ?_ ?_); (case r1 => exact (fun _ => rfl)); (case r2 => exact rfl); (case r3 => exact rfl))
      | ((with_reducible show SoundE _ _ _ (.Call (.Attribute _ "pop" _) _ [] _) _); (with_reducible refine' w_pop ?r1 ?r2 ?r3 ?_ ?_); (case r1 => exact (fun _ => rfl)); (case r2 => exact rfl); (case r3 => exact rfl))
      | ((with_reducible show SoundE _ _ _ (.Call (.Name "list" _) [.Call (.Name "range" _) _ _ _] [] _) _); (with_reducible refine' w_prim (by assumption) (by assumption) bi_list ?r1 sound_listR ?r2 ?_); (case r1 => exact (.inr ⟨_, rfl⟩)); (case r2 => exact rfl))
      | ((with_reducible show SoundE _ _ _ (.Call (.Name "len" _) _ [] _) _); (with_reducible refine' w_len (by assumption) (by assumption) bi_len ?r1 ?_); (case r1 => exact rfl))
      | ((with_reducible show SoundE _ _ _ (.Call (.Name "range" _) _ [] _) _); (with_reducible refine' w_range (by assumption) (by assumption) bi_range ?r1 ?_); (case r1 => exact rfl))
      | ((with_reducible show SoundE _ _ _ (.Call (.Name "list" _) _ [] _) _); (with_reducible refine' w_list (by assumption) (by assumption) bi_list ?r1 ?_); (case r1 => exact rfl))
      | ((with_reducible show SoundE _ _ _ (.Call (.Name "sorted" _) _ [] _) _); (with_reducible refine' w_prim (by assumption) (by assumption) bi_sorted ?r1 sound_sorted ?r2 ?_); (case r1 => exact (.inl ⟨_, rfl⟩)); (case r2 => exact rfl))
      | ((with_reducible show SoundE _ _ _ (.Call (.Name "max" _) _ [] _) _); (with_reducible refine' w_prim (by assumption) (by assumption) bi_max ?r1 sound_max ?r2 ?_); (case r1 => exact (.inl ⟨_, rfl⟩)); (case r2 => exact rfl))
      | ((with_reducible show SoundE _ _ _ (.Call (.Name "min" _) _ [] _) _); (with_reducible refine' w_prim (by assumption) (by assumption) bi_min ?r1 sound_min ?r2 ?_); (case r1 => exact (.inl ⟨_, rfl⟩)); (case r2 => exact rfl))
      | ((with_reducible show SoundE _ _ _ (.Call (.Name "sum" _) _ [] _) _); (with_reducible refine' w_prim (by assumption) (by assumption) bi_sum ?r1 sound_sum ?r2 ?_); (case r1 => exact (.inl ⟨_, rfl⟩)); (case r2 => exact rfl))
      | ((with_reducible show SoundE _ _ _ (.Call (.Name "tuple" _) _ [] _) _); (with_reducible refine' w_prim (by assumption) (by assumption) bi_tuple ?r1 sound_tuple ?r2 ?_); (case r1 => exact (.inr ⟨_, rfl⟩)); (case r2 => exact rfl))
      | ((with_reducible show SoundE _ _ _ (.Call (.Name "isinstance" _) [_, .Name "tuple" _] [] _) _); (with_reducible refine' w_isa .tuple (by assumption) (by assumption) bi_isinstance ?r1 bi_tuple ?r2 ?r3 ?_); (case r1 => exact rfl); (case r2 => exact rfl); (case r3 => exact rfl))
      | ((with_reducible show SoundE _ _ _ (.Call (.Name "isinstance" _) [_, .Name "bool" _] [] _) _); (with_reducible refine' w_isa .bool (by assumption) (by assumption) bi_isinstance ?r1 bi_bool ?r2 ?r3 ?_); (case r1 => exact rfl); (case r2 => exact rfl); (case r3 => exact rfl))
      | ((with_reducible show SoundE _ _ _ (.Call (.Name "isinstance" _) [_, .Name "list" _] [] _) _); (with_reducible refine' w_isa .list (by assumption) (by assumption) bi_isinstance ?r1 bi_list ?r2 ?r3 ?_); (case r1 => exact rfl); (case r2 => exact rfl); (case r3 => exact rfl))
      | ((with_reducible show SoundE _ _ _ (.Call (.Name _ _) _ [] _) _); (with_reducible refine' w_call (by assumption) (by assumption) ?r1 ?r2 ?r3 ?_); (case r1 => exact rfl); (case r2 => exact ⟨_, _, rfl, rfl⟩); (case r3 => exact rfl))
  walk_at "my run"
  refine forL_range (fun k l σ' => σ' = σ ∧ (∀ j, j < k → stepB ns n j = true) ∧ ∃ v2, l = [some v, some (.int n), v2]) ?_ ?_ ⟨rfl, fun j hj => absurd hj (Nat.not_lt_zero _), none, rfl⟩
  · rintro k l σ' K hk ⟨rfl, hst, v2, rfl⟩ hK
    refine ⟨_, rfl, ?_⟩
    have hat := at_int hk
    have no : stepB ns n k = false → risingB ns n = false := fun e => rising_no hk e
    walk_at "my run"
    split
    · rename_i h1
      have h1 : 0 ≤ ns.getD k 0 := by simpa using h1
      walk_at "my run"
      cases h2 : decide (ns.getD k 0 < n) with
      | false =>
        walk_at "my run"
        rw [no (by unfold stepB; rw [h2]; simp only [Bool.and_false, Bool.false_and])] at q; exact q
      | true =>
        walk_at "my run"
        split
        · rename_i h3
          have h3 : 0 < k := by simpa using h3
          have hat2 : atIdx (ns.map AV.int) ((k : Int) - 1) = some (.int (ns.getD (k - 1) 0)) := by rw [show (k : Int) - 1 = ((k - 1 : Nat) : Int) by omega]; exact at_int (by omega)
          walk_at "my run"
          cases h4 : decide (ns.getD k 0 ≤ ns.getD (k - 1) 0) with
          | true =>
            walk_at "my run"
            rw [no (by unfold stepB; rw [h4, decide_eq_true h3]; simp only [Bool.and_true, Bool.not_true, Bool.and_false])] at q; exact q
          | false =>
            walk_at "my run"
            exact ⟨trivial, hK _ _ ⟨rfl, fun j hj => by
              rcases Nat.lt_succ_iff_lt_or_eq.mp hj with hj | rfl
              · exact hst j hj
              · unfold stepB; rw [decide_eq_true h1, h2, h4]; simp only [Bool.and_false, Bool.not_false, Bool.and_true], _, rfl⟩⟩
        · rename_i h3
          have h3 : k = 0 := by simpa using h3
          walk_at "my run"
          exact ⟨trivial, hK _ _ ⟨rfl, fun j hj => by
            rcases Nat.lt_succ_iff_lt_or_eq.mp hj with hj | rfl
            · exact hst j hj
            · unfold stepB; rw [decide_eq_true h1, h2, decide_eq_false (p := 0 < j) (by omega)]; simp only [Bool.false_and, Bool.not_false, Bool.and_true], _, rfl⟩⟩
    · rename_i h1
      have h1 : decide (0 ≤ ns.getD k 0) = false := by simpa using h1
      walk_at "my run"
      rw [no (by unfold stepB; rw [h1]; simp only [Bool.false_and])] at q; exact q
  · rintro l σ' ⟨rfl, hst, v2, rfl⟩
    walk_at "my run"
    rw [rising_of hst] at q; exact q
end
end Mine

set_option maxRecDepth 100000
set_option linter.unusedVariables false
set_option autoImplicit false
set_option linter.unusedSimpArgs false
set_option maxHeartbeats 8000000
set_option pp.deepTerms false
namespace Mine
open PySem PyProof.Rows PySem.SeqAt PySem.W
section
variable {X : Cx} {P : Params} {Q : Post} {Z : XP} {σ : AHeap} {d : Nat}
def markB (p : Int) : AV := .tup [.str "bank", .int p]
def markK (p : Int) : AV := .tup [.str "book", .int p]
theorem marks_of_ok (G : Gd X (hd.heap_39 P)) (hd : d < 600) {ms ns : List Int} (hm : ms.length ≤ 100) (hn : ns.length ≤ 100) (q : ∀ σ' r, Ext σ σ' → σ r = none → σ' r = some (.list (ms.map markB ++ ns.map markK)) → Q (.ref r) σ') :
    CallOk X 33 d [.tup [.tup (ms.map .int), .tup (ns.map .int)]] Q Z σ := by
  refine' callK (m := _) ["match"] [("match", 0)] G rfl rfl (bind1 fun a => rfl) rfl rfl rfl rfl rfl rfl rfl rfl (fun env E => ?snd) (by lia) rfl ?bd
  case snd =>
    repeat' first
      | ((with_reducible show SoundSs _ _ _ [] _); (with_reducible refine' sound_nil))
      | ((with_reducible show SoundSs _ _ _ (_ :: _) _); (with_reducible refine' sound_cons ?_ ?_))
      | ((with_reducible show SoundS _ _ _ (.If _ _ _ _) _); (with_reducible refine' sound_if ?_ ?_ ?_))
      | ((with_reducible show SoundS _ _ _ (.Return (some _) _) _); (with_reducible refine' sound_ret ?_))
      | ((with_reducible show SoundS _ _ _ (.Assign [.Name _ _] (.ListComp _ _ _ _) _) _); (with_reducible refine' w_setComp (by assumption) ?r1 ?r2 ?r3 ?r4 ?r5 ?_ (fun env' E' => ?_) (fun env' E' => ?_) (fun env' E' => ?_)); (case r1 => exact rfl); (case r2 => exact rfl); (case r3 => exact rfl); (case r4 => exact rfl); (case r5 => exact rfl))
      | ((with_reducible show SoundS _ _ _ (.Assign [.Name _ _] _ _) _); (with_reducible refine' w_set (by assumption) ?r1 ?r2 ?_ ?r3); (case r1 => exact rfl); (case r2 => exact rfl); (case r3 => exact rfl))
      | ((with_reducible show SoundS _ _ _ (.For _ _ _ _ _) _); (with_reducible refine' w_for ?r1 ?_ ?_ ?_); (case r1 => exact rfl))
      | ((with_reducible show SoundS _ _ _ (.Expr _ _) _); (with_reducible refine' w_ex (by assumption) ?_ ?r1); (case r1 => exact rfl))
      | ((with_reducible show SoundC _ _ _ [] _); (with_reducible refine' w_cNone))
      | ((with_reducible show SoundC _ _ _ (_ :: _) _); (with_reducible refine' w_cSome ?_))
      | ((with_reducible show SoundT _ _ _ (.Name _ _) _); (with_reducible refine' w_tOne (by assumption) ?r1 ?r2); (case r1 => exact rfl); (case r2 => exact rfl))
      | ((with_reducible show SoundTC _ _ _ (.Name _ _) _); (with_reducible refine' w_tcOne (by assumption) ?r1 ?r2); (case r1 => exact rfl); (case r2 => exact rfl))
      | ((with_reducible show SoundI _ _ _ _ _ _); (with_reducible refine' w_it ?_))
      | ((with_reducible show SoundB _ _ _ (.Compare _ _ _ _) _); (with_reducible refine' soundB_cmp ?_ ?_))
      | ((with_reducible show SoundB _ _ _ (.UnaryOp .Not _ _) _); (with_reducible refine' soundB_not ?_))
      | ((with_reducible show SoundB _ _ _ (.BoolOp .And _ _) _); (with_reducible refine' soundB_and ?_))
      | ((with_reducible show SoundB _ _ _ (.BoolOp .Or _ _) _); (with_reducible refine' soundB_or ?_))
      | ((with_reducible show SoundB _ _ _ (_) _); (with_reducible refine' soundB_of ?_ ?r1); (case r1 => exact (fun _ => rfl)))
      | ((with_reducible show SoundE _ _ _ (.Name _ _) _); (with_reducible refine' w_loc (by assumption) ?r1 ?r2 ?r3); (case r1 => exact rfl); (case r2 => exact rfl); (case r3 => exact rfl))
      | ((with_reducible show SoundE _ _ _ (.Name _ _) _); (with_reducible refine' w_gint (by assumption) (by assumption) ?r1 ?r2); (case r1 => exact rfl); (case r2 => exact rfl))
      | ((with_reducible show SoundE _ _ _ (.Constant (.int _) _ _) _); (with_reducible refine' sound_int))
      | ((with_reducible show SoundE _ _ _ (.Constant (.str _) _ _) _); (with_reducible refine' sound_str))
      | ((with_reducible show SoundE _ _ _ (.Constant (.bool _) _ _) _); (with_reducible refine' sound_bool))
      | ((with_reducible show SoundE _ _ _ (.Tuple _ _ _) _); (with_reducible refine' sound_tup ?_))
      | ((with_reducible show SoundE _ _ _ (.List _ _) _); (with_reducible refine' sound_lst ?_))
      | ((with_reducible show SoundEs _ _ _ [] _); (with_reducible refine' w_es0))
      | ((with_reducible show SoundEs _ _ _ (_ :: _) _); (with_reducible refine' w_es1 ?r1 ?_ ?_); (case r1 => exact rfl))
      | ((with_reducible show SoundE _ _ _ (.Compare _ _ _ _) _); (with_reducible refine' sound_cmp ?_ ?_))
      | ((with_reducible show SoundOps _ _ _ [_] _ _); (with_reducible refine' SoundOps.one ?_ ?r1); (case r1 => exact rfl))
      | ((with_reducible show SoundOps _ _ _ (_ :: _ :: _) _ _); (with_reducible refine' SoundOps.cons ?_ ?_))
      | ((with_reducible show SoundE _ _ _ (.BinOp _ _ _ _) _); (with_reducible refine' sound_bin ?_ ?_))
      | ((with_reducible show SoundE _ _ _ (.UnaryOp .USub _ _) _); (with_reducible refine' sound_neg ?_))
      | ((with_reducible show SoundE _ _ _ (.UnaryOp .Not _ _) _); (with_reducible refine' sound_not ?_))
      | ((with_reducible show SoundE _ _ _ (.BoolOp .And _ _) _); (with_reducible refine' sound_and ?_))
      | ((with_reducible show SoundEBs _ _ _ [] _); (with_reducible refine' SoundEBs.nil))
      | ((with_reducible show SoundEBs _ _ _ (_ :: _) _); (with_reducible refine' SoundEBs.cons ?_ ?_ ?_))
      | ((with_reducible show SoundE _ _ _ (.Subscript _ (.Slice _ _ _ _) _) _); (with_reducible refine' sound_slice ?_ ?_ ?_))
      | ((with_reducible show SoundE _ _ _ (.Subscript _ _ _) _); (with_reducible refine' sound_idx ?_ ?_ ?r1); (case r1 => exact rfl))
      | ((with_reducible show SoundO _ _ _ none _); (with_reducible refine' w_oNone))
      | ((with_reducible show SoundO _ _ _ (some _) _); (with_reducible refine' w_oSome ?_))
      | ((with_reducible show SoundE _ _ _ (.ListComp _ _ _ _) _); (with_reducible refine' w_comp (by assumption) ?r1 ?r2 ?r3 ?_ (fun env' E' => ?_) (fun env' E' => ?_) (fun env' E' => ?_)); (case r1 => exact rfl); (case r2 => exact rfl); (case r3 => exact rfl))
      | ((with_reducible show SoundE _ _ _ (.Call (.Attribute _ "append" _) _ [] _) _); (with_reducible refine' w_append ?r1 ?r2 ?r3 ?_ ?_); (case r1 => exact (fun _ => rfl)); (case r2 => exact rfl); (case r3 => exact rfl))
      | ((with_reducible show SoundE _ _ _ (.Call (.Attribute _ "pop" _) _ [] _) _); (with_reducible refine' w_pop ?r1 ?r2 ?r3 ?_ ?_); (case r1 => exact (fun _ => rfl)); (case r2 => exact rfl); (case r3 => exact rfl))
      | ((with_reducible show SoundE _ _ _ (.Call (.Name "list" _) [.Call (.Name "range" _) _ _ _] [] _) _); (with_reducible refine' w_prim (by assumption) (by assumption) bi_list ?r1 sound_listR ?r2 ?_); (case r1 => exact (.inr ⟨_, rfl⟩)); (case r2 => exact rfl))
      | ((with_reducible show SoundE _ _ _ (.Call (.Name "len" _) _ [] _) _); (with_reducible refine' w_len (by assumption) (by assumption) bi_len ?r1 ?_); (case r1 => exact rfl))
      | ((with_reducible show SoundE _ _ _ (.Call (.Name "range" _) _ [] _) _); (with_reducible refine' w_range (by assumption) (by assumption) bi_range ?r1 ?_); (case r1 => exact rfl))
      | ((with_reducible show SoundE _ _ _ (.Call (.Name "list" _) _ [] _) _); (with_reducible refine' w_list (by assumption) (by assumption) bi_list ?r1 ?_); (case r1 => exact rfl))
      | ((with_reducible show SoundE _ _ _ (.Call (.Name "sorted" _) _ [] _) _); (with_reducible refine' w_prim (by assumption) (by assumption) bi_sorted ?r1 sound_sorted ?r2 ?_); (case r1 => exact (.inl ⟨_, rfl⟩)); (case r2 => exact rfl))
      | ((with_reducible show SoundE _ _ _ (.Call (.Name "max" _) _ [] _) _); (with_reducible refine' w_prim (by assumption) (by assumption) bi_max ?r1 sound_max ?r2 ?_); (case r1 => exact (.inl ⟨_, rfl⟩)); (case r2 => exact rfl))
      | ((with_reducible show SoundE _ _ _ (.Call (.Name "min" _) _ [] _) _); (with_reducible refine' w_prim (by assumption) (by assumption) bi_min ?r1 sound_min ?r2 ?_); (case r1 => exact (.inl ⟨_, rfl⟩)); (case r2 => exact rfl))
      | ((with_reducible show SoundE _ _ _ (.Call (.Name "sum" _) _ [] _) _); (with_reducible refine' w_prim (by assumption) (by assumption) bi_sum ?r1 sound_sum ?r2 ?_); (case r1 => exact (.inl ⟨_, rfl⟩)); (case r2 => exact rfl))
      | ((with_reducible show SoundE _ _ _ (.Call (.Name "tuple" _) _ [] _) _); (with_reducible refine' w_prim (by assumption) (by assumption) bi_tuple ?r1 sound_tuple ?r2 ?_); (case r1 => exact (.inr ⟨_, rfl⟩)); (case r2 => exact rfl))
      | ((with_reducible show SoundE _ _ _ (.Call (.Name "isinstance" _) [_, .Name "tuple" _] [] _) _); (with_reducible refine' w_isa .tuple (by assumption) (by assumption) bi_isinstance ?r1 bi_tuple ?r2 ?r3 ?_); (case r1 => exact rfl); (case r2 => exact rfl); (case r3 => exact rfl))
      | ((with_reducible show SoundE _ _ _ (.Call (.Name "isinstance" _) [_, .Name "bool" _] [] _) _); (with_reducible refine' w_isa .bool (by assumption) (by assumption) bi_isinstance ?r1 bi_bool ?r2 ?r3 ?_); (case r1 => exact rfl); (case r2 => exact rfl); (case r3 => exact rfl))
      | ((with_reducible show SoundE _ _ _ (.Call (.Name "isinstance" _) [_, .Name "list" _] [] _) _); (with_reducible refine' w_isa .list (by assumption) (by assumption) bi_isinstance ?r1 bi_list ?r2 ?r3 ?_); (case r1 => exact rfl); (case r2 => exact rfl); (case r3 => exact rfl))
      | ((with_reducible show SoundE _ _ _ (.Call (.Name _ _) _ [] _) _); (with_reducible refine' w_call (by assumption) (by assumption) ?r1 ?r2 ?r3 ?_); (case r1 => exact rfl); (case r2 => exact ⟨_, _, rfl, rfl⟩); (case r3 => exact rfl))
  walk_at "my run"
  refine compL_map ms _ markB (fun p => [some (.tup [.tup (ms.map .int), .tup (ns.map .int)]), none, some (.int p)]) (fun x => rfl) (fun x y => rfl) ?_ trivial (by lia) ?_
  · intro p hp R hR
    walk_at "my run"
    exact hR
  refine alf fun σ1 r1 e1 hr1 l1 => ?_
  walk_at "my run"
  refine compL_map ns _ markK (fun p => [some (.tup [.tup (ms.map .int), .tup (ns.map .int)]), none, some (.int p)]) (fun x => rfl) (fun x y => rfl) ?_ trivial (by lia) ?_
  · intro p hp R hR
    walk_at "my run"
    exact hR
  refine alf fun σ2 r2 e2 hr2 l2 => ?_
  refine addL_of (.inl (e2 _ _ l1)) (.inl l2) (by rw [List.length_map, List.length_map]; lia) fun σ3 r3 e3 hr3 l3 => ?_
  walk_at "my run"
  exact q _ _ (e1.trans (e2.trans e3)) ((e1.trans e2).none hr3) l3

theorem entry_of_ok (G : Gd X (hd.heap_39 P)) (hd : d < 600) {pb pk : Addr} {xs ys : List AV} {sd : Str} {k : Int} {e : AV} (hb : listAt pb xs σ) (hk : listAt pk ys σ) (hs : sd = "bank" ∧ atIdx xs k = some e ∨ sd = "book" ∧ atIdx ys k = some e)
    (q : Q e σ) : CallOk X 21 d [.ref pb, .ref pk, .tup [.str sd, .int k]] Q Z σ := by
  refine' callK (m := _) ["banks", "books", "mark"] [("banks", 0), ("books", 1), ("mark", 2)] G rfl rfl (bind3 fun a b c => rfl) rfl rfl rfl rfl rfl rfl rfl rfl (fun env E => ?snd) hd rfl ?bd
  case snd =>
    repeat' first
      | ((with_reducible show SoundSs _ _ _ [] _); (with_reducible refine' sound_nil))
      | ((with_reducible show SoundSs _ _ _ (_ :: _) _); (with_reducible refine' sound_cons ?_ ?_))
      | ((with_reducible show SoundS _ _ _ (.If _ _ _ _) _); (with_reducible refine' sound_if ?_ ?_ ?_))
      | ((with_reducible show SoundS _ _ _ (.Return (some _) _) _); (with_reducible refine' sound_ret ?_))
      | ((with_reducible show SoundS _ _ _ (.Assign [.Name _ _] (.ListComp _ _ _ _) _) _); (with_reducible refine' w_setComp (by assumption) ?r1 ?r2 ?r3 ?r4 ?r5 ?_ (fun env' E' => ?_) (fun env' E' => ?_) (fun env' E' => ?_)); (case r1 => exact rfl); (case r2 => exact rfl); (case r3 => exact rfl); (case r4 => exact rfl); (case r5 => exact rfl))
      | ((with_reducible show SoundS _ _ _ (.Assign [.Name _ _] _ _) _); (with_reducible refine' w_set (by assumption) ?r1 ?r2 ?_ ?r3); (case r1 => exact rfl); (case r2 => exact rfl); (case r3 => exact rfl))
      | ((with_reducible show SoundS _ _ _ (.For _ _ _ _ _) _); (with_reducible refine' w_for ?r1 ?_ ?_ ?_); (case r1 => exact rfl))
      | ((with_reducible show SoundS _ _ _ (.Expr _ _) _); (with_reducible refine' w_ex (by assumption) ?_ ?r1); (case r1 => exact rfl))
      | ((with_reducible show SoundC _ _ _ [] _); (with_reducible refine' w_cNone))
      | ((with_reducible show SoundC _ _ _ (_ :: _) _); (with_reducible refine' w_cSome ?_))
      | ((with_reducible show SoundT _ _ _ (.Name _ _) _); (with_reducible refine' w_tOne (by assumption) ?r1 ?r2); (case r1 => exact rfl); (case r2 => exact rfl))
      | ((with_reducible show SoundTC _ _ _ (.Name _ _) _); (with_reducible refine' w_tcOne (by assumption) ?r1 ?r2); (case r1 => exact rfl); (case r2 => exact rfl))
      | ((with_reducible show SoundI _ _ _ _ _ _); (with_reducible refine' w_it ?_))
      | ((with_reducible show SoundB _ _ _ (.Compare _ _ _ _) _); (with_reducible refine' soundB_cmp ?_ ?_))
      | ((with_reducible show SoundB _ _ _ (.UnaryOp .Not _ _) _); (with_reducible refine' soundB_not ?_))
      | ((with_reducible show SoundB _ _ _ (.BoolOp .And _ _) _); (with_reducible refine' soundB_and ?_))
      | ((with_reducible show SoundB _ _ _ (.BoolOp .Or _ _) _); (with_reducible refine' soundB_or ?_))
      | ((with_reducible show SoundB _ _ _ (_) _); (with_reducible refine' soundB_of ?_ ?r1); (case r1 => exact (fun _ => rfl)))
      | ((with_reducible show SoundE _ _ _ (.Name _ _) _); (with_reducible refine' w_loc (by assumption) ?r1 ?r2 ?r3); (case r1 => exact rfl); (case r2 => exact rfl); (case r3 => exact rfl))
      | ((with_reducible show SoundE _ _ _ (.Name _ _) _); (with_reducible refine' w_gint (by assumption) (by assumption) ?r1 ?r2); (case r1 => exact rfl); (case r2 => exact rfl))
      | ((with_reducible show SoundE _ _ _ (.Constant (.int _) _ _) _); (with_reducible refine' sound_int))
      | ((with_reducible show SoundE _ _ _ (.Constant (.str _) _ _) _); (with_reducible refine' sound_str))
      | ((with_reducible show SoundE _ _ _ (.Constant (.bool _) _ _) _); (with_reducible refine' sound_bool))
      | ((with_reducible show SoundE _ _ _ (.Tuple _ _ _) _); (with_reducible refine' sound_tup ?_))
      | ((with_reducible show SoundE _ _ _ (.List _ _) _); (with_reducible refine' sound_lst ?_))
      | ((with_reducible show SoundEs _ _ _ [] _); (with_reducible refine' w_es0))
      | ((with_reducible show SoundEs _ _ _ (_ :: _) _); (with_reducible refine' w_es1 ?r1 ?_ ?_); (case r1 => exact rfl))
      | ((with_reducible show SoundE _ _ _ (.Compare _ _ _ _) _); (with_reducible refine' sound_cmp ?_ ?_))
      | ((with_reducible show SoundOps _ _ _ [_] _ _); (with_reducible refine' SoundOps.one ?_ ?r1); (case r1 => exact rfl))
      | ((with_reducible show SoundOps _ _ _ (_ :: _ :: _) _ _); (with_reducible refine' SoundOps.cons ?_ ?_))
      | ((with_reducible show SoundE _ _ _ (.BinOp _ _ _ _) _); (with_reducible refine' sound_bin ?_ ?_))
      | ((with_reducible show SoundE _ _ _ (.UnaryOp .USub _ _) _); (with_reducible refine' sound_neg ?_))
      | ((with_reducible show SoundE _ _ _ (.UnaryOp .Not _ _) _); (with_reducible refine' sound_not ?_))
      | ((with_reducible show SoundE _ _ _ (.BoolOp .And _ _) _); (with_reducible refine' sound_and ?_))
      | ((with_reducible show SoundEBs _ _ _ [] _); (with_reducible refine' SoundEBs.nil))
      | ((with_reducible show SoundEBs _ _ _ (_ :: _) _); (with_reducible refine' SoundEBs.cons ?_ ?_ ?_))
      | ((with_reducible show SoundE _ _ _ (.Subscript _ (.Slice _ _ _ _) _) _); (with_reducible refine' sound_slice ?_ ?_ ?_))
      | ((with_reducible show SoundE _ _ _ (.Subscript _ _ _) _); (with_reducible refine' sound_idx ?_ ?_ ?r1); (case r1 => exact rfl))
      | ((with_reducible show SoundO _ _ _ none _); (with_reducible refine' w_oNone))
      | ((with_reducible show SoundO _ _ _ (some _) _); (with_reducible refine' w_oSome ?_))
      | ((with_reducible show SoundE _ _ _ (.ListComp _ _ _ _) _); (with_reducible refine' w_comp (by assumption) ?r1 ?r2 ?r3 ?_ (fun env' E' => ?_) (fun env' E' => ?_) (fun env' E' => ?_)); (case r1 => exact rfl); (case r2 => exact rfl); (case r3 => exact rfl))
      | ((with_reducible show SoundE _ _ _ (.Call (.Attribute _ "append" _) _ [] _) _); (with_reducible refine' w_append ?r1 ?r2 ?r3 ?_ ?_); (case r1 => exact (fun _ => rfl)); (case r2 => exact rfl); (case r3 => exact rfl))
      | ((with_reducible show SoundE _ _ _ (.Call (.Attribute _ "pop" _) _ [] _) _); (with_reducible refine' w_pop ?r1 ?r2 ?r3 ?_ ?_); (case r1 => exact (fun _ => rfl)); (case r2 => exact rfl); (case r3 => exact rfl))
      | ((with_reducible show SoundE _ _ _ (.Call (.Name "list" _) [.Call (.Name "range" _) _ _ _] [] _) _); (with_reducible refine' w_prim (by assumption) (by assumption) bi_list ?r1 sound_listR ?r2 ?_); (case r1 => exact (.inr ⟨_, rfl⟩)); (case r2 => exact rfl))
      | ((with_reducible show SoundE _ _ _ (.Call (.Name "len" _) _ [] _) _); (with_reducible refine' w_len (by assumption) (by assumption) bi_len ?r1 ?_); (case r1 => exact rfl))
      | ((with_reducible show SoundE _ _ _ (.Call (.Name "range" _) _ [] _) _); (with_reducible refine' w_range (by assumption) (by assumption) bi_range ?r1 ?_); (case r1 => exact rfl))
      | ((with_reducible show SoundE _ _ _ (.Call (.Name "list" _) _ [] _) _); (with_reducible refine' w_list (by assumption) (by assumption) bi_list ?r1 ?_); (case r1 => exact rfl))
      | ((with_reducible show SoundE _ _ _ (.Call (.Name "sorted" _) _ [] _) _); (with_reducible refine' w_prim (by assumption) (by assumption) bi_sorted ?r1 sound_sorted ?r2 ?_); (case r1 => exact (.inl ⟨_, rfl⟩)); (case r2 => exact rfl))
      | ((with_reducible show SoundE _ _ _ (.Call (.Name "max" _) _ [] _) _); (with_reducible refine' w_prim (by assumption) (by assumption) bi_max ?r1 sound_max ?r2 ?_); (case r1 => exact (.inl ⟨_, rfl⟩)); (case r2 => exact rfl))
      | ((with_reducible show SoundE _ _ _ (.Call (.Name "min" _) _ [] _) _); (with_reducible refine' w_prim (by assumption) (by assumption) bi_min ?r1 sound_min ?r2 ?_); (case r1 => exact (.inl ⟨_, rfl⟩)); (case r2 => exact rfl))
      | ((with_reducible show SoundE _ _ _ (.Call (.Name "sum" _) _ [] _) _); (with_reducible refine' w_prim (by assumption) (by assumption) bi_sum ?r1 sound_sum ?r2 ?_); (case r1 => exact (.inl ⟨_, rfl⟩)); (case r2 => exact rfl))
      | ((with_reducible show SoundE _ _ _ (.Call (.Name "tuple" _) _ [] _) _); (with_reducible refine' w_prim (by assumption) (by assumption) bi_tuple ?r1 sound_tuple ?r2 ?_); (case r1 => exact (.inr ⟨_, rfl⟩)); (case r2 => exact rfl))
      | ((with_reducible show SoundE _ _ _ (.Call (.Name "isinstance" _) [_, .Name "tuple" _] [] _) _); (with_reducible refine' w_isa .tuple (by assumption) (by assumption) bi_isinstance ?r1 bi_tuple ?r2 ?r3 ?_); (case r1 => exact rfl); (case r2 => exact rfl); (case r3 => exact rfl))
      | ((with_reducible show SoundE _ _ _ (.Call (.Name "isinstance" _) [_, .Name "bool" _] [] _) _); (with_reducible refine' w_isa .bool (by assumption) (by assumption) bi_isinstance ?r1 bi_bool ?r2 ?r3 ?_); (case r1 => exact rfl); (case r2 => exact rfl); (case r3 => exact rfl))
      | ((with_reducible show SoundE _ _ _ (.Call (.Name "isinstance" _) [_, .Name "list" _] [] _) _); (with_reducible refine' w_isa .list (by assumption) (by assumption) bi_isinstance ?r1 bi_list ?r2 ?r3 ?_); (case r1 => exact rfl); (case r2 => exact rfl); (case r3 => exact rfl))
      | ((with_reducible show SoundE _ _ _ (.Call (.Name _ _) _ [] _) _); (with_reducible refine' w_call (by assumption) (by assumption) ?r1 ?r2 ?r3 ?_); (case r1 => exact rfl); (case r2 => exact ⟨_, _, rfl, rfl⟩); (case r3 => exact rfl))
  rcases hs with ⟨rfl, hs⟩ | ⟨rfl, hs⟩
  ·
    walk_at "my run"
    exact q
  ·
    walk_at "my run"
    exact q

/-! what fits, in plain words -/
def dayAt (es : List (Int × Int)) (p : Int) : Int := (es.getD p.toNat (0, 0)).1
def centsAt (es : List (Int × Int)) (p : Int) : Int := (es.getD p.toNat (0, 0)).2
def spreadB (l : List Int) (span : Int) : Bool := l.all fun a => l.all fun b => decide (a - b ≤ span)
def daysOf (es fs : List (Int × Int)) (ms ns : List Int) : List Int := ms.map (dayAt es) ++ ns.map (dayAt fs)
def fitsB (es fs : List (Int × Int)) (span : Int) (ms ns : List Int) : Bool :=
  !(!((min (ms.length : Int) ns.length) == 1) || decide (max (ms.length : Int) ns.length > 3)) && risingB ms es.length && risingB ns fs.length && ((ms.map (centsAt es)).sum == (ns.map (centsAt fs)).sum) && spreadB (daysOf es fs ms ns) span
theorem spread_eq {l : List Int} {M m span : Int} (h1 : M ∈ l) (h2 : ∀ a ∈ l, a ≤ M) (h3 : m ∈ l) (h4 : ∀ a ∈ l, m ≤ a) : decide (M - m ≤ span) = spreadB l span := by
  unfold spreadB
  by_cases h : M - m ≤ span
  · rw [decide_eq_true h]; symm
    rw [List.all_eq_true]; intro a ha
    rw [List.all_eq_true]; intro b hb
    have := h2 a ha; have := h4 b hb
    exact decide_eq_true (by lia)
  · rw [decide_eq_false h]; symm
    rw [List.all_eq_false]
    refine ⟨M, h1, ?_⟩
    rw [Bool.not_eq_true, List.all_eq_false]
    exact ⟨m, h3, by simpa using h⟩
theorem rising_in {ns : List Int} {n : Int} (h : risingB ns n = true) : ∀ p ∈ ns, 0 ≤ p ∧ p < n := fun p hp => by
  unfold risingB at h
  rw [List.all_eq_true] at h
  obtain ⟨k, hk, rfl⟩ := List.getElem_of_mem hp
  have := h k (List.mem_range.mpr hk)
  simp [stepB, hk] at this
  exact this.1
theorem at_ent {es : List (Int × Int)} {p : Int} (h0 : 0 ≤ p) (h1 : p < es.length) : atIdx (entL es) p = some (.tup [.int (dayAt es p), .int (centsAt es p)]) := by
  obtain ⟨k, rfl⟩ := Int.eq_ofNat_of_zero_le h0
  have hk : k < es.length := by lia
  show atIdx (entL es) (k : Int) = _
  rw [at_nat]
  simp [entL, ent, dayAt, centsAt, hk]
theorem cents_small {es : List (Int × Int)} (h : small es) (p : Int) : (centsAt es p).natAbs ≤ 100000000000 := by
  unfold centsAt
  by_cases hk : p.toNat < es.length
  · have : es.getD p.toNat (0, 0) = es[p.toNat] := by simp [List.getD_eq_getElem?_getD, hk]
    rw [this]; exact h _ (List.getElem_mem hk)
  · have : es.getD p.toNat (0, 0) = (0, 0) := by simp [List.getD_eq_getElem?_getD, List.getElem?_eq_none (Nat.not_lt.mp hk)]
    rw [this]; decide
theorem sum_small {es : List (Int × Int)} (h : small es) {ms : List Int} (hl : ms.length ≤ 100) : PySem.SumFits (ms.map (centsAt es)) :=
  sumFits_of (by rw [List.length_map]; lia) fun a ha => by
    obtain ⟨p, _, rfl⟩ := List.mem_map.mp ha
    have := cents_small h p; lia

theorem fits_ok (G : Gd X (hd.heap_39 P)) (hd : d < 599) {pb pk : Addr} {es fs : List (Int × Int)} {span : Int} {ms ns : List Int} (hb : listAt pb (entL es) σ) (hk : listAt pk (entL fs) σ) (se : small es) (sf : small fs) (hm : ms.length ≤ 100) (hn : ns.length ≤ 100)
    (q : ∀ σ', Ext σ σ' → Q (.bool (fitsB es fs span ms ns)) σ') : CallOk X 38 d [.ref pb, .ref pk, .int span, .tup [.tup (ms.map .int), .tup (ns.map .int)]] Q Z σ := by
  refine' callK (m := _) ["banks", "books", "span", "match"] [("banks", 0), ("books", 1), ("span", 2), ("match", 3), ("few", 4), ("many", 5), ("days", 6)] G rfl rfl (bind4 fun a b c d => rfl) rfl rfl rfl rfl rfl rfl rfl rfl (fun env E => ?snd) (by lia) rfl ?bd
  case snd =>
    repeat' first
      | ((with_reducible show SoundSs _ _ _ [] _); (with_reducible refine' sound_nil))
      | ((with_reducible show SoundSs _ _ _ (_ :: _) _); (with_reducible refine' sound_cons ?_ ?_))
      | ((with_reducible show SoundS _ _ _ (.If _ _ _ _) _); (with_reducible refine' sound_if ?_ ?_ ?_))
      | ((with_reducible show SoundS _ _ _ (.Return (some _) _) _); (with_reducible refine' sound_ret ?_))
      | ((with_reducible show SoundS _ _ _ (.Assign [.Name _ _] (.ListComp _ _ _ _) _) _); (with_reducible refine' w_setComp (by assumption) ?r1 ?r2 ?r3 ?r4 ?r5 ?_ (fun env' E' => ?_) (fun env' E' => ?_) (fun env' E' => ?_)); (case r1 => exact rfl); (case r2 => exact rfl); (case r3 => exact rfl); (case r4 => exact rfl); (case r5 => exact rfl))
      | ((with_reducible show SoundS _ _ _ (.Assign [.Name _ _] _ _) _); (with_reducible refine' w_set (by assumption) ?r1 ?r2 ?_ ?r3); (case r1 => exact rfl); (case r2 => exact rfl); (case r3 => exact rfl))
      | ((with_reducible show SoundS _ _ _ (.For _ _ _ _ _) _); (with_reducible refine' w_for ?r1 ?_ ?_ ?_); (case r1 => exact rfl))
      | ((with_reducible show SoundS _ _ _ (.Expr _ _) _); (with_reducible refine' w_ex (by assumption) ?_ ?r1); (case r1 => exact rfl))
      | ((with_reducible show SoundC _ _ _ [] _); (with_reducible refine' w_cNone))
      | ((with_reducible show SoundC _ _ _ (_ :: _) _); (with_reducible refine' w_cSome ?_))
      | ((with_reducible show SoundT _ _ _ (.Name _ _) _); (with_reducible refine' w_tOne (by assumption) ?r1 ?r2); (case r1 => exact rfl); (case r2 => exact rfl))
      | ((with_reducible show SoundTC _ _ _ (.Name _ _) _); (with_reducible refine' w_tcOne (by assumption) ?r1 ?r2); (case r1 => exact rfl); (case r2 => exact rfl))
      | ((with_reducible show SoundI _ _ _ _ _ _); (with_reducible refine' w_it ?_))
      | ((with_reducible show SoundB _ _ _ (.Compare _ _ _ _) _); (with_reducible refine' soundB_cmp ?_ ?_))
      | ((with_reducible show SoundB _ _ _ (.UnaryOp .Not _ _) _); (with_reducible refine' soundB_not ?_))
      | ((with_reducible show SoundB _ _ _ (.BoolOp .And _ _) _); (with_reducible refine' soundB_and ?_))
      | ((with_reducible show SoundB _ _ _ (.BoolOp .Or _ _) _); (with_reducible refine' soundB_or ?_))
      | ((with_reducible show SoundB _ _ _ (_) _); (with_reducible refine' soundB_of ?_ ?r1); (case r1 => exact (fun _ => rfl)))
      | ((with_reducible show SoundE _ _ _ (.Name _ _) _); (with_reducible refine' w_loc (by assumption) ?r1 ?r2 ?r3); (case r1 => exact rfl); (case r2 => exact rfl); (case r3 => exact rfl))
      | ((with_reducible show SoundE _ _ _ (.Name _ _) _); (with_reducible refine' w_gint (by assumption) (by assumption) ?r1 ?r2); (case r1 => exact rfl); (case r2 => exact rfl))
      | ((with_reducible show SoundE _ _ _ (.Constant (.int _) _ _) _); (with_reducible refine' sound_int))
      | ((with_reducible show SoundE _ _ _ (.Constant (.str _) _ _) _); (with_reducible refine' sound_str))
      | ((with_reducible show SoundE _ _ _ (.Constant (.bool _) _ _) _); (with_reducible refine' sound_bool))
      | ((with_reducible show SoundE _ _ _ (.Tuple _ _ _) _); (with_reducible refine' sound_tup ?_))
      | ((with_reducible show SoundE _ _ _ (.List _ _) _); (with_reducible refine' sound_lst ?_))
      | ((with_reducible show SoundEs _ _ _ [] _); (with_reducible refine' w_es0))
      | ((with_reducible show SoundEs _ _ _ (_ :: _) _); (with_reducible refine' w_es1 ?r1 ?_ ?_); (case r1 => exact rfl))
      | ((with_reducible show SoundE _ _ _ (.Compare _ _ _ _) _); (with_reducible refine' sound_cmp ?_ ?_))
      | ((with_reducible show SoundOps _ _ _ [_] _ _); (with_reducible refine' SoundOps.one ?_ ?r1); (case r1 => exact rfl))
      | ((with_reducible show SoundOps _ _ _ (_ :: _ :: _) _ _); (with_reducible refine' SoundOps.cons ?_ ?_))
      | ((with_reducible show SoundE _ _ _ (.BinOp _ _ _ _) _); (with_reducible refine' sound_bin ?_ ?_))
      | ((with_reducible show SoundE _ _ _ (.UnaryOp .USub _ _) _); (with_reducible refine' sound_neg ?_))
      | ((with_reducible show SoundE _ _ _ (.UnaryOp .Not _ _) _); (with_reducible refine' sound_not ?_))
      | ((with_reducible show SoundE _ _ _ (.BoolOp .And _ _) _); (with_reducible refine' sound_and ?_))
      | ((with_reducible show SoundEBs _ _ _ [] _); (with_reducible refine' SoundEBs.nil))
      | ((with_reducible show SoundEBs _ _ _ (_ :: _) _); (with_reducible refine' SoundEBs.cons ?_ ?_ ?_))
      | ((with_reducible show SoundE _ _ _ (.Subscript _ (.Slice _ _ _ _) _) _); (with_reducible refine' sound_slice ?_ ?_ ?_))
      | ((with_reducible show SoundE _ _ _ (.Subscript _ _ _) _); (with_reducible refine' sound_idx ?_ ?_ ?r1); (case r1 => exact rfl))
      | ((with_reducible show SoundO _ _ _ none _); (with_reducible refine' w_oNone))
      | ((with_reducible show SoundO _ _ _ (some _) _); (with_reducible refine' w_oSome ?_))
      | ((with_reducible show SoundE _ _ _ (.ListComp _ _ _ _) _); (with_reducible refine' w_comp (by assumption) ?r1 ?r2 ?r3 ?_ (fun env' E' => ?_) (fun env' E' => ?_) (fun env' E' => ?_)); (case r1 => exact rfl); (case r2 => exact rfl); (case r3 => exact rfl))
      | ((with_reducible show SoundE _ _ _ (.Call (.Attribute _ "append" _) _ [] _) _); (with_reducible refine' w_append ?r1 ?r2 ?r3 ?_ ?_); (case r1 => exact (fun _ => rfl)); (case r2 => exact rfl); (case r3 => exact rfl))
      | ((with_reducible show SoundE _ _ _ (.Call (.Attribute _ "pop" _) _ [] _) _); (with_reducible refine' w_pop ?r1 ?r2 ?r3 ?_ ?_); (case r1 => exact (fun _ => rfl)); (case r2 => exact rfl); (case r3 => exact rfl))
      | ((with_reducible show SoundE _ _ _ (.Call (.Name "list" _) [.Call (.Name "range" _) _ _ _] [] _) _); (with_reducible refine' w_prim (by assumption) (by assumption) bi_list ?r1 sound_listR ?r2 ?_); (case r1 => exact (.inr ⟨_, rfl⟩)); (case r2 => exact rfl))
      | ((with_reducible show SoundE _ _ _ (.Call (.Name "len" _) _ [] _) _); (with_reducible refine' w_len (by assumption) (by assumption) bi_len ?r1 ?_); (case r1 => exact rfl))
      | ((with_reducible show SoundE _ _ _ (.Call (.Name "range" _) _ [] _) _); (with_reducible refine' w_range (by assumption) (by assumption) bi_range ?r1 ?_); (case r1 => exact rfl))
      | ((with_reducible show SoundE _ _ _ (.Call (.Name "list" _) _ [] _) _); (with_reducible refine' w_list (by assumption) (by assumption) bi_list ?r1 ?_); (case r1 => exact rfl))
      | ((with_reducible show SoundE _ _ _ (.Call (.Name "sorted" _) _ [] _) _); (with_reducible refine' w_prim (by assumption) (by assumption) bi_sorted ?r1 sound_sorted ?r2 ?_); (case r1 => exact (.inl ⟨_, rfl⟩)); (case r2 => exact rfl))
      | ((with_reducible show SoundE _ _ _ (.Call (.Name "max" _) _ [] _) _); (with_reducible refine' w_prim (by assumption) (by assumption) bi_max ?r1 sound_max ?r2 ?_); (case r1 => exact (.inl ⟨_, rfl⟩)); (case r2 => exact rfl))
      | ((with_reducible show SoundE _ _ _ (.Call (.Name "min" _) _ [] _) _); (with_reducible refine' w_prim (by assumption) (by assumption) bi_min ?r1 sound_min ?r2 ?_); (case r1 => exact (.inl ⟨_, rfl⟩)); (case r2 => exact rfl))
      | ((with_reducible show SoundE _ _ _ (.Call (.Name "sum" _) _ [] _) _); (with_reducible refine' w_prim (by assumption) (by assumption) bi_sum ?r1 sound_sum ?r2 ?_); (case r1 => exact (.inl ⟨_, rfl⟩)); (case r2 => exact rfl))
      | ((with_reducible show SoundE _ _ _ (.Call (.Name "tuple" _) _ [] _) _); (with_reducible refine' w_prim (by assumption) (by assumption) bi_tuple ?r1 sound_tuple ?r2 ?_); (case r1 => exact (.inr ⟨_, rfl⟩)); (case r2 => exact rfl))
      | ((with_reducible show SoundE _ _ _ (.Call (.Name "isinstance" _) [_, .Name "tuple" _] [] _) _); (with_reducible refine' w_isa .tuple (by assumption) (by assumption) bi_isinstance ?r1 bi_tuple ?r2 ?r3 ?_); (case r1 => exact rfl); (case r2 => exact rfl); (case r3 => exact rfl))
      | ((with_reducible show SoundE _ _ _ (.Call (.Name "isinstance" _) [_, .Name "bool" _] [] _) _); (with_reducible refine' w_isa .bool (by assumption) (by assumption) bi_isinstance ?r1 bi_bool ?r2 ?r3 ?_); (case r1 => exact rfl); (case r2 => exact rfl); (case r3 => exact rfl))
      | ((with_reducible show SoundE _ _ _ (.Call (.Name "isinstance" _) [_, .Name "list" _] [] _) _); (with_reducible refine' w_isa .list (by assumption) (by assumption) bi_isinstance ?r1 bi_list ?r2 ?r3 ?_); (case r1 => exact rfl); (case r2 => exact rfl); (case r3 => exact rfl))
      | ((with_reducible show SoundE _ _ _ (.Call (.Name _ _) _ [] _) _); (with_reducible refine' w_call (by assumption) (by assumption) ?r1 ?r2 ?r3 ?_); (case r1 => exact rfl); (case r2 => exact ⟨_, _, rfl, rfl⟩); (case r3 => exact rfl))
  have lb : (entL es).length = es.length := by simp [entL]
  have lk : (entL fs).length = fs.length := by simp [entL]
  have no : fitsB es fs span ms ns = false → Q (.bool false) σ := fun e => by have := q σ (.refl _); rwa [e] at this
  walk_at "my run"
  split
  · rename_i h1
    walk_at "my run"
    exact no (by unfold fitsB; rw [show (!(min (ms.length : Int) ns.length == 1)) = true from h1]; simp)
  rename_i h1
  walk_at "my run"
  split
  · rename_i h2
    walk_at "my run"
    exact no (by unfold fitsB; rw [show decide (max (ms.length : Int) ns.length > 3) = true from h2]; simp)
  rename_i h2
  walk_at "my run"
  refine is_rising_ok G (by lia) (.inl rfl) hm ?_
  cases hR1 : risingB ms es.length with
  | false =>
    walk_at "my run"
    exact no (by unfold fitsB; rw [hR1]; simp)
  | true =>
  walk_at "my run"
  refine is_rising_ok G (by lia) (.inl rfl) hn ?_
  cases hR2 : risingB ns fs.length with
  | false =>
    walk_at "my run"
    exact no (by unfold fitsB; rw [hR2]; simp)
  | true =>
  have i1 := rising_in hR1
  have i2 := rising_in hR2
  have a1 : ∀ p ∈ ms, atIdx (entL es) p = some (.tup [.int (dayAt es p), .int (centsAt es p)]) := fun p hp => at_ent (i1 p hp).1 (i1 p hp).2
  have a2 : ∀ p ∈ ns, atIdx (entL fs) p = some (.tup [.int (dayAt fs p), .int (centsAt fs p)]) := fun p hp => at_ent (i2 p hp).1 (i2 p hp).2
  walk_at "my run"
  refine compL_map ms _ (fun p => .int (centsAt es p)) (fun p => [some (.ref pb), some (.ref pk), some (.int span), some (.tup [.tup (ms.map .int), .tup (ns.map .int)]), some (.int (min (ms.length : Int) ns.length)), some (.int (max (ms.length : Int) ns.length)), none, none, some (.int p)]) (fun x => rfl) (fun x y => rfl) ?_ trivial (by lia) ?_
  · intro p hp R hR
    have ap := a1 p hp
    walk_at "my run"
    exact hR
  refine alf fun σ1 r1 e1 hr1 l1 => ?_
  have hb := e1.list hb
  have hk := e1.list hk
  walk_at "my run"
  refine q_sumL (ns := ms.map (centsAt es)) (.inl (by rw [l1, List.map_map]; rfl)) (sum_small se hm) ?_
  walk_at "my run"
  refine compL_map ns _ (fun p => .int (centsAt fs p)) (fun p => [some (.ref pb), some (.ref pk), some (.int span), some (.tup [.tup (ms.map .int), .tup (ns.map .int)]), some (.int (min (ms.length : Int) ns.length)), some (.int (max (ms.length : Int) ns.length)), none, none, some (.int p)]) (fun x => rfl) (fun x y => rfl) ?_ trivial (by lia) ?_
  · intro p hp R hR
    have ap := a2 p hp
    walk_at "my run"
    exact hR
  refine alf fun σ2 r2 e2 hr2 l2 => ?_
  have hb := e2.list hb
  have hk := e2.list hk
  have e02 := e1.trans e2
  walk_at "my run"
  refine q_sumL (ns := ns.map (centsAt fs)) (.inl (by rw [l2, List.map_map]; rfl)) (sum_small sf hn) ?_
  walk_at "my run"
  cases hs : ((ms.map (centsAt es)).sum == (ns.map (centsAt fs)).sum) with
  | false =>
    walk_at "my run"
    have := q σ2 e02
    rwa [show fitsB es fs span ms ns = false by unfold fitsB; rw [hs]; simp] at this
  | true =>
  walk_at "my run"
  refine marks_of_ok G (by lia) hm hn fun σ3 r3 e3 hr3 l3 => ?_
  have hb := e3.list hb
  have hk := e3.list hk
  have k3 : listAt r3 (ms.map markB ++ ns.map markK) σ3 := .inl l3
  walk_at "my run"
  refine compL_list (ms.map markB ++ ns.map markK) (fun m => match m with | .tup [.str s, .int p] => .int (if s = "bank" then dayAt es p else dayAt fs p) | x => x)
    (fun m => [some (.ref pb), some (.ref pk), some (.int span), some (.tup [.tup (ms.map .int), .tup (ns.map .int)]), some (.int (min (ms.length : Int) ns.length)), some (.int (max (ms.length : Int) ns.length)), none, none, some m]) (fun x _ => rfl) (fun x _ y _ => rfl) ?_ k3 (by rw [List.length_append, List.length_map, List.length_map]; lia) ?_
  · intro m hmm R hR
    rcases List.mem_append.mp hmm with h | h <;> obtain ⟨p, hp, rfl⟩ := List.mem_map.mp h
    · unfold markB at hR ⊢
      walk_at "my run"
      refine entry_of_ok G (by lia) hb hk (.inl ⟨rfl, a1 p hp⟩) ?_
      walk_at "my run"
      simpa using hR
    · unfold markK at hR ⊢
      walk_at "my run"
      refine entry_of_ok G (by lia) hb hk (.inr ⟨rfl, a2 p hp⟩) ?_
      walk_at "my run"
      simpa [ne_bb] using hR
  refine alf fun σ4 r4 e4 hr4 l4 => ?_
  have l4' : listAt r4 ((daysOf es fs ms ns).map .int) σ4 := .inl (by
    rw [l4]; unfold daysOf
    simp [List.map_append, List.map_map, Function.comp_def, markB, markK, ne_bb])
  have hne : daysOf es fs ms ns ≠ [] := by
    intro e
    have h0 : ms.length = 0 := by
      have := congrArg List.length e
      unfold daysOf at this
      simp at this; simp [this.1]
    have h9 : ns.length = 0 := by
      have := congrArg List.length e
      unfold daysOf at this
      simp at this; simp [this.2]
    rw [h0, h9] at h1; exact h1 (by decide)
  walk_at "my run"
  refine q_maxL l4' hne fun M hM1 hM2 => ?_
  walk_at "my run"
  refine q_minL l4' hne fun m hm1 hm2 => ?_
  walk_at "my run"
  have := q σ4 (e02.trans (e3.trans e4))
  rw [spread_eq hM1 hM2 hm1 hm2]
  rwa [show fitsB es fs span ms ns = spreadB (daysOf es fs ms ns) span by
    unfold fitsB; rw [hR1, hR2, hs]
    have b1 : (!(min (ms.length : Int) ns.length == 1)) = false := by simpa using h1
    have b2 : decide (max (ms.length : Int) ns.length > 3) = false := by simpa using h2
    rw [b1, b2]; simp] at this
end
end Mine

set_option maxRecDepth 100000
set_option linter.unusedVariables false
set_option autoImplicit false
set_option linter.unusedSimpArgs false
set_option maxHeartbeats 8000000
set_option pp.deepTerms false
namespace Mine
open PySem PyProof.Rows PySem.SeqAt PySem.W
section
variable {X : Cx} {P : Params} {Q : Post} {Z : XP} {σ : AHeap} {d : Nat}
def shapedB (ns : List Int) (n : Int) : Bool := decide (1 ≤ (ns.length : Int)) && decide ((ns.length : Int) ≤ 3) && risingB ns n
theorem shaped_ok (G : Gd X (hd.heap_39 P)) (hd : d < 600) {v : AV} {ns : List Int} {n : Int} (hv : SeqOf σ v (ns.map .int)) (hl : ns.length ≤ 100) (q : Q (.bool (shapedB ns n)) σ) : CallOk X 73 d [v, .int n] Q Z σ := by
  refine' callK (m := _) ["_law_places_here", "_law_size"] [("_law_places_here", 0), ("_law_size", 1), ("_law_k", 2)] G rfl rfl (bind2 fun a b => rfl) rfl rfl rfl rfl rfl rfl rfl rfl (fun env E => ?snd) hd rfl ?bd
  case snd =>
    repeat' first
      | ((with_reducible show SoundSs _ _ _ [] _); (with_reducible refine' sound_nil))
      | ((with_reducible show SoundSs _ _ _ (_ :: _) _); (with_reducible refine' sound_cons ?_ ?_))
      | ((with_reducible show SoundS _ _ _ (.If _ _ _ _) _); (with_reducible refine' sound_if ?_ ?_ ?_))
      | ((with_reducible show SoundS _ _ _ (.Return (some _) _) _); (with_reducible refine' sound_ret ?_))
      | ((with_reducible show SoundS _ _ _ (.Assign [.Name _ _] (.ListComp _ _ _ _) _) _); (with_reducible refine' w_setComp (by assumption) ?r1 ?r2 ?r3 ?r4 ?r5 ?_ (fun env' E' => ?_) (fun env' E' => ?_) (fun env' E' => ?_)); (case r1 => exact rfl); (case r2 => exact rfl); (case r3 => exact rfl); (case r4 => exact rfl); (case r5 => exact rfl))
      | ((with_reducible show SoundS _ _ _ (.Assign [.Name _ _] _ _) _); (with_reducible refine' w_set (by assumption) ?r1 ?r2 ?_ ?r3); (case r1 => exact rfl); (case r2 => exact rfl); (case r3 => exact rfl))
      | ((with_reducible show SoundS _ _ _ (.For _ _ _ _ _) _); (with_reducible refine' w_for ?r1 ?_ ?_ ?_); (case r1 => exact rfl))
      | ((with_reducible show SoundS _ _ _ (.Expr _ _) _); (with_reducible refine' w_ex (by assumption) ?_ ?r1); (case r1 => exact rfl))
      | ((with_reducible show SoundC _ _ _ [] _); (with_reducible refine' w_cNone))
      | ((with_reducible show SoundC _ _ _ (_ :: _) _); (with_reducible refine' w_cSome ?_))
      | ((with_reducible show SoundT _ _ _ (.Name _ _) _); (with_reducible refine' w_tOne (by assumption) ?r1 ?r2); (case r1 => exact rfl); (case r2 => exact rfl))
      | ((with_reducible show SoundTC _ _ _ (.Name _ _) _); (with_reducible refine' w_tcOne (by assumption) ?r1 ?r2); (case r1 => exact rfl); (case r2 => exact rfl))
      | ((with_reducible show SoundI _ _ _ _ _ _); (with_reducible refine' w_it ?_))
      | ((with_reducible show SoundB _ _ _ (.Compare _ _ _ _) _); (with_reducible refine' soundB_cmp ?_ ?_))
      | ((with_reducible show SoundB _ _ _ (.UnaryOp .Not _ _) _); (with_reducible refine' soundB_not ?_))
      | ((with_reducible show SoundB _ _ _ (.BoolOp .And _ _) _); (with_reducible refine' soundB_and ?_))
      | ((with_reducible show SoundB _ _ _ (.BoolOp .Or _ _) _); (with_reducible refine' soundB_or ?_))
      | ((with_reducible show SoundB _ _ _ (_) _); (with_reducible refine' soundB_of ?_ ?r1); (case r1 => exact (fun _ => rfl)))
      | ((with_reducible show SoundE _ _ _ (.Name _ _) _); (with_reducible refine' w_loc (by assumption) ?r1 ?r2 ?r3); (case r1 => exact rfl); (case r2 => exact rfl); (case r3 => exact rfl))
      | ((with_reducible show SoundE _ _ _ (.Name _ _) _); (with_reducible refine' w_gint (by assumption) (by assumption) ?r1 ?r2); (case r1 => exact rfl); (case r2 => exact rfl))
      | ((with_reducible show SoundE _ _ _ (.Constant (.int _) _ _) _); (with_reducible refine' sound_int))
      | ((with_reducible show SoundE _ _ _ (.Constant (.str _) _ _) _); (with_reducible refine' sound_str))
      | ((with_reducible show SoundE _ _ _ (.Constant (.bool _) _ _) _); (with_reducible refine' sound_bool))
      | ((with_reducible show SoundE _ _ _ (.Tuple _ _ _) _); (with_reducible refine' sound_tup ?_))
      | ((with_reducible show SoundE _ _ _ (.List _ _) _); (with_reducible refine' sound_lst ?_))
      | ((with_reducible show SoundEs _ _ _ [] _); (with_reducible refine' w_es0))
      | ((with_reducible show SoundEs _ _ _ (_ :: _) _); (with_reducible refine' w_es1 ?r1 ?_ ?_); (case r1 => exact rfl))
      | ((with_reducible show SoundE _ _ _ (.Compare _ _ _ _) _); (with_reducible refine' sound_cmp ?_ ?_))
      | ((with_reducible show SoundOps _ _ _ [_] _ _); (with_reducible refine' SoundOps.one ?_ ?r1); (case r1 => exact rfl))
      | ((with_reducible show SoundOps _ _ _ (_ :: _ :: _) _ _); (with_reducible refine' SoundOps.cons ?_ ?_))
      | ((with_reducible show SoundE _ _ _ (.BinOp _ _ _ _) _); (with_reducible refine' sound_bin ?_ ?_))
      | ((with_reducible show SoundE _ _ _ (.UnaryOp .USub _ _) _); (with_reducible refine' sound_neg ?_))
      | ((with_reducible show SoundE _ _ _ (.UnaryOp .Not _ _) _); (with_reducible refine' sound_not ?_))
      | ((with_reducible show SoundE _ _ _ (.BoolOp .And _ _) _); (with_reducible refine' sound_and ?_))
      | ((with_reducible show SoundEBs _ _ _ [] _); (with_reducible refine' SoundEBs.nil))
      | ((with_reducible show SoundEBs _ _ _ (_ :: _) _); (with_reducible refine' SoundEBs.cons ?_ ?_ ?_))
      | ((with_reducible show SoundE _ _ _ (.Subscript _ (.Slice _ _ _ _) _) _); (with_reducible refine' sound_slice ?_ ?_ ?_))
      | ((with_reducible show SoundE _ _ _ (.Subscript _ _ _) _); (with_reducible refine' sound_idx ?_ ?_ ?r1); (case r1 => exact rfl))
      | ((with_reducible show SoundO _ _ _ none _); (with_reducible refine' w_oNone))
      | ((with_reducible show SoundO _ _ _ (some _) _); (with_reducible refine' w_oSome ?_))
      | ((with_reducible show SoundE _ _ _ (.ListComp _ _ _ _) _); (with_reducible refine' w_comp (by assumption) ?r1 ?r2 ?r3 ?_ (fun env' E' => ?_) (fun env' E' => ?_) (fun env' E' => ?_)); (case r1 => exact rfl); (case r2 => exact rfl); (case r3 => exact rfl))
      | ((with_reducible show SoundE _ _ _ (.Call (.Attribute _ "append" _) _ [] _) _); (with_reducible refine' w_append ?r1 ?r2 ?r3 ?_ ?_); (case r1 => exact (fun _ => rfl)); (case r2 => exact rfl); (case r3 => exact rfl))
      | ((with_reducible show SoundE _ _ _ (.Call (.Attribute _ "pop" _) _ [] _) _); (with_reducible refine' w_pop ?r1 ?r2 ?r3 ?_ ?_); (case r1 => exact (fun _ => rfl)); (case r2 => exact rfl); (case r3 => exact rfl))
      | ((with_reducible show SoundE _ _ _ (.Call (.Name "list" _) [.Call (.Name "range" _) _ _ _] [] _) _); (with_reducible refine' w_prim (by assumption) (by assumption) bi_list ?r1 sound_listR ?r2 ?_); (case r1 => exact (.inr ⟨_, rfl⟩)); (case r2 => exact rfl))
      | ((with_reducible show SoundE _ _ _ (.Call (.Name "len" _) _ [] _) _); (with_reducible refine' w_len (by assumption) (by assumption) bi_len ?r1 ?_); (case r1 => exact rfl))
      | ((with_reducible show SoundE _ _ _ (.Call (.Name "range" _) _ [] _) _); (with_reducible refine' w_range (by assumption) (by assumption) bi_range ?r1 ?_); (case r1 => exact rfl))
      | ((with_reducible show SoundE _ _ _ (.Call (.Name "list" _) _ [] _) _); (with_reducible refine' w_list (by assumption) (by assumption) bi_list ?r1 ?_); (case r1 => exact rfl))
      | ((with_reducible show SoundE _ _ _ (.Call (.Name "sorted" _) _ [] _) _); (with_reducible refine' w_prim (by assumption) (by assumption) bi_sorted ?r1 sound_sorted ?r2 ?_); (case r1 => exact (.inl ⟨_, rfl⟩)); (case r2 => exact rfl))
      | ((with_reducible show SoundE _ _ _ (.Call (.Name "max" _) _ [] _) _); (with_reducible refine' w_prim (by assumption) (by assumption) bi_max ?r1 sound_max ?r2 ?_); (case r1 => exact (.inl ⟨_, rfl⟩)); (case r2 => exact rfl))
      | ((with_reducible show SoundE _ _ _ (.Call (.Name "min" _) _ [] _) _); (with_reducible refine' w_prim (by assumption) (by assumption) bi_min ?r1 sound_min ?r2 ?_); (case r1 => exact (.inl ⟨_, rfl⟩)); (case r2 => exact rfl))
      | ((with_reducible show SoundE _ _ _ (.Call (.Name "sum" _) _ [] _) _); (with_reducible refine' w_prim (by assumption) (by assumption) bi_sum ?r1 sound_sum ?r2 ?_); (case r1 => exact (.inl ⟨_, rfl⟩)); (case r2 => exact rfl))
      | ((with_reducible show SoundE _ _ _ (.Call (.Name "tuple" _) _ [] _) _); (with_reducible refine' w_prim (by assumption) (by assumption) bi_tuple ?r1 sound_tuple ?r2 ?_); (case r1 => exact (.inr ⟨_, rfl⟩)); (case r2 => exact rfl))
      | ((with_reducible show SoundE _ _ _ (.Call (.Name "isinstance" _) [_, .Name "tuple" _] [] _) _); (with_reducible refine' w_isa .tuple (by assumption) (by assumption) bi_isinstance ?r1 bi_tuple ?r2 ?r3 ?_); (case r1 => exact rfl); (case r2 => exact rfl); (case r3 => exact rfl))
      | ((with_reducible show SoundE _ _ _ (.Call (.Name "isinstance" _) [_, .Name "bool" _] [] _) _); (with_reducible refine' w_isa .bool (by assumption) (by assumption) bi_isinstance ?r1 bi_bool ?r2 ?r3 ?_); (case r1 => exact rfl); (case r2 => exact rfl); (case r3 => exact rfl))
      | ((with_reducible show SoundE _ _ _ (.Call (.Name "isinstance" _) [_, .Name "list" _] [] _) _); (with_reducible refine' w_isa .list (by assumption) (by assumption) bi_isinstance ?r1 bi_list ?r2 ?r3 ?_); (case r1 => exact rfl); (case r2 => exact rfl); (case r3 => exact rfl))
      | ((with_reducible show SoundE _ _ _ (.Call (.Name _ _) _ [] _) _); (with_reducible refine' w_call (by assumption) (by assumption) ?r1 ?r2 ?r3 ?_); (case r1 => exact rfl); (case r2 => exact ⟨_, _, rfl, rfl⟩); (case r3 => exact rfl))
  unfold shapedB at q
  walk_at "my run"
  cases b1 : decide (1 ≤ (ns.length : Int)) with
  | false =>
    walk_at "my run"
    rw [b1] at q; exact q
  | true =>
  walk_at "my run"
  cases b2 : decide ((ns.length : Int) ≤ 3) with
  | false =>
    walk_at "my run"
    rw [b1, b2] at q; exact q
  | true =>
  rw [b1, b2] at q
  walk_at "my run"
  refine forL_range (fun k l σ' => σ' = σ ∧ (∀ j, j < k → stepB ns n j = true) ∧ ∃ v2, l = [some v, some (.int n), v2]) ?_ ?_ ⟨rfl, fun j hj => absurd hj (Nat.not_lt_zero _), none, rfl⟩
  · rintro k l σ' K hk ⟨rfl, hst, v2, rfl⟩ hK
    refine ⟨_, rfl, ?_⟩
    have hat := at_int hk
    have no : stepB ns n k = false → Q (.bool false) σ' := fun e => by rw [rising_no hk e] at q; exact q
    walk_at "my run"
    cases c1 : decide (0 ≤ ns.getD k 0) with
    | false =>
      walk_at "my run"
      exact no (by unfold stepB; rw [c1]; simp only [Bool.false_and])
    | true =>
    walk_at "my run"
    cases c2 : decide (ns.getD k 0 < n) with
    | false =>
      walk_at "my run"
      exact no (by unfold stepB; rw [c2]; simp only [Bool.and_false, Bool.false_and])
    | true =>
    walk_at "my run"
    split
    · rename_i h3
      have h3 : 0 < k := by simpa using h3
      have hat2 : atIdx (ns.map AV.int) ((k : Int) - 1) = some (.int (ns.getD (k - 1) 0)) := by rw [show (k : Int) - 1 = ((k - 1 : Nat) : Int) by omega]; exact at_int (by omega)
      walk_at "my run"
      cases h4 : decide (ns.getD k 0 ≤ ns.getD (k - 1) 0) with
      | true =>
        walk_at "my run"
        exact no (by unfold stepB; rw [h4, decide_eq_true h3]; simp only [Bool.and_true, Bool.not_true, Bool.and_false])
      | false =>
        walk_at "my run"
        exact ⟨trivial, hK _ _ ⟨rfl, fun j hj => by
          rcases Nat.lt_succ_iff_lt_or_eq.mp hj with hj | rfl
          · exact hst j hj
          · unfold stepB; rw [c1, c2, h4]; simp only [Bool.and_false, Bool.not_false, Bool.and_true], _, rfl⟩⟩
    · rename_i h3
      have h3 : k = 0 := by simpa using h3
      walk_at "my run"
      exact ⟨trivial, hK _ _ ⟨rfl, fun j hj => by
        rcases Nat.lt_succ_iff_lt_or_eq.mp hj with hj | rfl
        · exact hst j hj
        · unfold stepB; rw [c1, c2, decide_eq_false (p := 0 < j) (by omega)]; simp only [Bool.false_and, Bool.not_false, Bool.and_true], _, rfl⟩⟩
  · rintro l σ' ⟨rfl, hst, v2, rfl⟩
    walk_at "my run"
    rw [rising_of hst] at q; exact q

def dueB (es fs : List (Int × Int)) (span : Int) (ms ns : List Int) : Bool :=
  shapedB ms es.length && shapedB ns fs.length && !(decide ((ms.length : Int) > 1) && decide ((ns.length : Int) > 1)) && ((ms.map (centsAt es)).sum - (ns.map (centsAt fs)).sum == 0) && spreadB (daysOf es fs ms ns) span
theorem fits_due (es fs : List (Int × Int)) (span : Int) (ms ns : List Int) : fitsB es fs span ms ns = dueB es fs span ms ns := by
  unfold fitsB dueB shapedB
  have e1 : ((ms.map (centsAt es)).sum == (ns.map (centsAt fs)).sum) = ((ms.map (centsAt es)).sum - (ns.map (centsAt fs)).sum == 0) := by
    rw [Bool.eq_iff_iff]; simp only [beq_iff_eq]; omega
  rw [e1]
  generalize spreadB (daysOf es fs ms ns) span = b1
  generalize ((ms.map (centsAt es)).sum - (ns.map (centsAt fs)).sum == 0) = b2
  generalize risingB ms es.length = b3
  generalize risingB ns fs.length = b4
  generalize (ms.length : Int) = x
  generalize (ns.length : Int) = y
  have : (!(!(min x y == 1) || decide (max x y > 3))) = (decide (1 ≤ x) && decide (x ≤ 3) && (decide (1 ≤ y) && decide (y ≤ 3)) && !(decide (x > 1) && decide (y > 1))) := by
    rw [Bool.eq_iff_iff]
    simp only [Bool.not_eq_true', Bool.or_eq_false_iff, Bool.not_eq_false', beq_iff_eq, decide_eq_false_iff_not, Bool.and_eq_true, decide_eq_true_eq, Bool.and_eq_false_iff]
    omega
  rw [this]
  ac_rfl

theorem due_ok (G : Gd X (hd.heap_39 P)) (hd : d < 599) {pb pk : Addr} {es fs : List (Int × Int)} {span : Int} {ms ns : List Int} (hb : listAt pb (entL es) σ) (hk : listAt pk (entL fs) σ) (se : small es) (sf : small fs) (hm : ms.length ≤ 100) (hn : ns.length ≤ 100)
    (q : ∀ σ', Ext σ σ' → Q (.bool (dueB es fs span ms ns)) σ') : CallOk X 78 d [.ref pb, .ref pk, .int span, .tup [.tup (ms.map .int), .tup (ns.map .int)]] Q Z σ := by
  refine' callK (m := _) ["_law_banks", "_law_books", "_law_span", "_law_match"] [("_law_banks", 0), ("_law_books", 1), ("_law_span", 2), ("_law_match", 3), ("_law_days", 4), ("_law_total", 5)] G rfl rfl (bind4 fun a b c d => rfl) rfl rfl rfl rfl rfl rfl rfl rfl (fun env E => ?snd) (by omega) rfl ?bd
  case snd =>
    repeat' first
      | ((with_reducible show SoundSs _ _ _ [] _); (with_reducible refine' sound_nil))
      | ((with_reducible show SoundSs _ _ _ (_ :: _) _); (with_reducible refine' sound_cons ?_ ?_))
      | ((with_reducible show SoundS _ _ _ (.If _ _ _ _) _); (with_reducible refine' sound_if ?_ ?_ ?_))
      | ((with_reducible show SoundS _ _ _ (.Return (some _) _) _); (with_reducible refine' sound_ret ?_))
      | ((with_reducible show SoundS _ _ _ (.Assign [.Name _ _] (.ListComp _ _ _ _) _) _); (with_reducible refine' w_setComp (by assumption) ?r1 ?r2 ?r3 ?r4 ?r5 ?_ (fun env' E' => ?_) (fun env' E' => ?_) (fun env' E' => ?_)); (case r1 => exact rfl); (case r2 => exact rfl); (case r3 => exact rfl); (case r4 => exact rfl); (case r5 => exact rfl))
      | ((with_reducible show SoundS _ _ _ (.Assign [.Name _ _] _ _) _); (with_reducible refine' w_set (by assumption) ?r1 ?r2 ?_ ?r3); (case r1 => exact rfl); (case r2 => exact rfl); (case r3 => exact rfl))
      | ((with_reducible show SoundS _ _ _ (.For _ _ _ _ _) _); (with_reducible refine' w_for ?r1 ?_ ?_ ?_); (case r1 => exact rfl))
      | ((with_reducible show SoundS _ _ _ (.Expr _ _) _); (with_reducible refine' w_ex (by assumption) ?_ ?r1); (case r1 => exact rfl))
      | ((with_reducible show SoundC _ _ _ [] _); (with_reducible refine' w_cNone))
      | ((with_reducible show SoundC _ _ _ (_ :: _) _); (with_reducible refine' w_cSome ?_))
      | ((with_reducible show SoundT _ _ _ (.Name _ _) _); (with_reducible refine' w_tOne (by assumption) ?r1 ?r2); (case r1 => exact rfl); (case r2 => exact rfl))
      | ((with_reducible show SoundTC _ _ _ (.Name _ _) _); (with_reducible refine' w_tcOne (by assumption) ?r1 ?r2); (case r1 => exact rfl); (case r2 => exact rfl))
      | ((with_reducible show SoundI _ _ _ _ _ _); (with_reducible refine' w_it ?_))
      | ((with_reducible show SoundB _ _ _ (.Compare _ _ _ _) _); (with_reducible refine' soundB_cmp ?_ ?_))
      | ((with_reducible show SoundB _ _ _ (.UnaryOp .Not _ _) _); (with_reducible refine' soundB_not ?_))
      | ((with_reducible show SoundB _ _ _ (.BoolOp .And _ _) _); (with_reducible refine' soundB_and ?_))
      | ((with_reducible show SoundB _ _ _ (.BoolOp .Or _ _) _); (with_reducible refine' soundB_or ?_))
      | ((with_reducible show SoundB _ _ _ (_) _); (with_reducible refine' soundB_of ?_ ?r1); (case r1 => exact (fun _ => rfl)))
      | ((with_reducible show SoundE _ _ _ (.Name _ _) _); (with_reducible refine' w_loc (by assumption) ?r1 ?r2 ?r3); (case r1 => exact rfl); (case r2 => exact rfl); (case r3 => exact rfl))
      | ((with_reducible show SoundE _ _ _ (.Name _ _) _); (with_reducible refine' w_gint (by assumption) (by assumption) ?r1 ?r2); (case r1 => exact rfl); (case r2 => exact rfl))
      | ((with_reducible show SoundE _ _ _ (.Constant (.int _) _ _) _); (with_reducible refine' sound_int))
      | ((with_reducible show SoundE _ _ _ (.Constant (.str _) _ _) _); (with_reducible refine' sound_str))
      | ((with_reducible show SoundE _ _ _ (.Constant (.bool _) _ _) _); (with_reducible refine' sound_bool))
      | ((with_reducible show SoundE _ _ _ (.Tuple _ _ _) _); (with_reducible refine' sound_tup ?_))
      | ((with_reducible show SoundE _ _ _ (.List _ _) _); (with_reducible refine' sound_lst ?_))
      | ((with_reducible show SoundEs _ _ _ [] _); (with_reducible refine' w_es0))
      | ((with_reducible show SoundEs _ _ _ (_ :: _) _); (with_reducible refine' w_es1 ?r1 ?_ ?_); (case r1 => exact rfl))
      | ((with_reducible show SoundE _ _ _ (.Compare _ _ _ _) _); (with_reducible refine' sound_cmp ?_ ?_))
      | ((with_reducible show SoundOps _ _ _ [_] _ _); (with_reducible refine' SoundOps.one ?_ ?r1); (case r1 => exact rfl))
      | ((with_reducible show SoundOps _ _ _ (_ :: _ :: _) _ _); (with_reducible refine' SoundOps.cons ?_ ?_))
      | ((with_reducible show SoundE _ _ _ (.BinOp _ _ _ _) _); (with_reducible refine' sound_bin ?_ ?_))
      | ((with_reducible show SoundE _ _ _ (.UnaryOp .USub _ _) _); (with_reducible refine' sound_neg ?_))
      | ((with_reducible show SoundE _ _ _ (.UnaryOp .Not _ _) _); (with_reducible refine' sound_not ?_))
      | ((with_reducible show SoundE _ _ _ (.BoolOp .And _ _) _); (with_reducible refine' sound_and ?_))
      | ((with_reducible show SoundEBs _ _ _ [] _); (with_reducible refine' SoundEBs.nil))
      | ((with_reducible show SoundEBs _ _ _ (_ :: _) _); (with_reducible refine' SoundEBs.cons ?_ ?_ ?_))
      | ((with_reducible show SoundE _ _ _ (.Subscript _ (.Slice _ _ _ _) _) _); (with_reducible refine' sound_slice ?_ ?_ ?_))
      | ((with_reducible show SoundE _ _ _ (.Subscript _ _ _) _); (with_reducible refine' sound_idx ?_ ?_ ?r1); (case r1 => exact rfl))
      | ((with_reducible show SoundO _ _ _ none _); (with_reducible refine' w_oNone))
      | ((with_reducible show SoundO _ _ _ (some _) _); (with_reducible refine' w_oSome ?_))
      | ((with_reducible show SoundE _ _ _ (.ListComp _ _ _ _) _); (with_reducible refine' w_comp (by assumption) ?r1 ?r2 ?r3 ?_ (fun env' E' => ?_) (fun env' E' => ?_) (fun env' E' => ?_)); (case r1 => exact rfl); (case r2 => exact rfl); (case r3 => exact rfl))
      | ((with_reducible show SoundE _ _ _ (.Call (.Attribute _ "append" _) _ [] _) _); (with_reducible refine' w_append ?r1 ?r2 ?r3 ?_ ?_); (case r1 => exact (fun _ => rfl)); (case r2 => exact rfl); (case r3 => exact rfl))
      | ((with_reducible show SoundE _ _ _ (.Call (.Attribute _ "pop" _) _ [] _) _); (with_reducible refine' w_pop ?r1 ?r2 ?r3 ?_ ?_); (case r1 => exact (fun _ => rfl)); (case r2 => exact rfl); (case r3 => exact rfl))
      | ((with_reducible show SoundE _ _ _ (.Call (.Name "list" _) [.Call (.Name "range" _) _ _ _] [] _) _); (with_reducible refine' w_prim (by assumption) (by assumption) bi_list ?r1 sound_listR ?r2 ?_); (case r1 => exact (.inr ⟨_, rfl⟩)); (case r2 => exact rfl))
      | ((with_reducible show SoundE _ _ _ (.Call (.Name "len" _) _ [] _) _); (with_reducible refine' w_len (by assumption) (by assumption) bi_len ?r1 ?_); (case r1 => exact rfl))
      | ((with_reducible show SoundE _ _ _ (.Call (.Name "range" _) _ [] _) _); (with_reducible refine' w_range (by assumption) (by assumption) bi_range ?r1 ?_); (case r1 => exact rfl))
      | ((with_reducible show SoundE _ _ _ (.Call (.Name "list" _) _ [] _) _); (with_reducible refine' w_list (by assumption) (by assumption) bi_list ?r1 ?_); (case r1 => exact rfl))
      | ((with_reducible show SoundE _ _ _ (.Call (.Name "sorted" _) _ [] _) _); (with_reducible refine' w_prim (by assumption) (by assumption) bi_sorted ?r1 sound_sorted ?r2 ?_); (case r1 => exact (.inl ⟨_, rfl⟩)); (case r2 => exact rfl))
      | ((with_reducible show SoundE _ _ _ (.Call (.Name "max" _) _ [] _) _); (with_reducible refine' w_prim (by assumption) (by assumption) bi_max ?r1 sound_max ?r2 ?_); (case r1 => exact (.inl ⟨_, rfl⟩)); (case r2 => exact rfl))
      | ((with_reducible show SoundE _ _ _ (.Call (.Name "min" _) _ [] _) _); (with_reducible refine' w_prim (by assumption) (by assumption) bi_min ?r1 sound_min ?r2 ?_); (case r1 => exact (.inl ⟨_, rfl⟩)); (case r2 => exact rfl))
      | ((with_reducible show SoundE _ _ _ (.Call (.Name "sum" _) _ [] _) _); (with_reducible refine' w_prim (by assumption) (by assumption) bi_sum ?r1 sound_sum ?r2 ?_); (case r1 => exact (.inl ⟨_, rfl⟩)); (case r2 => exact rfl))
      | ((with_reducible show SoundE _ _ _ (.Call (.Name "tuple" _) _ [] _) _); (with_reducible refine' w_prim (by assumption) (by assumption) bi_tuple ?r1 sound_tuple ?r2 ?_); (case r1 => exact (.inr ⟨_, rfl⟩)); (case r2 => exact rfl))
      | ((with_reducible show SoundE _ _ _ (.Call (.Name "isinstance" _) [_, .Name "tuple" _] [] _) _); (with_reducible refine' w_isa .tuple (by assumption) (by assumption) bi_isinstance ?r1 bi_tuple ?r2 ?r3 ?_); (case r1 => exact rfl); (case r2 => exact rfl); (case r3 => exact rfl))
      | ((with_reducible show SoundE _ _ _ (.Call (.Name "isinstance" _) [_, .Name "bool" _] [] _) _); (with_reducible refine' w_isa .bool (by assumption) (by assumption) bi_isinstance ?r1 bi_bool ?r2 ?r3 ?_); (case r1 => exact rfl); (case r2 => exact rfl); (case r3 => exact rfl))
      | ((with_reducible show SoundE _ _ _ (.Call (.Name "isinstance" _) [_, .Name "list" _] [] _) _); (with_reducible refine' w_isa .list (by assumption) (by assumption) bi_isinstance ?r1 bi_list ?r2 ?r3 ?_); (case r1 => exact rfl); (case r2 => exact rfl); (case r3 => exact rfl))
      | ((with_reducible show SoundE _ _ _ (.Call (.Name _ _) _ [] _) _); (with_reducible refine' w_call (by assumption) (by assumption) ?r1 ?r2 ?r3 ?_); (case r1 => exact rfl); (case r2 => exact ⟨_, _, rfl, rfl⟩); (case r3 => exact rfl))
  have lb : (entL es).length = es.length := by simp [entL]
  have lk : (entL fs).length = fs.length := by simp [entL]
  have no : dueB es fs span ms ns = false → ∀ σ', Ext σ σ' → Q (.bool false) σ' := fun e σ' h => by have := q σ' h; rwa [e] at this
  walk_at "my run"
  refine shaped_ok G (by omega) (.inl rfl) hm ?_
  cases hS1 : shapedB ms es.length with
  | false =>
    walk_at "my run"
    exact no (by unfold dueB; rw [hS1]; simp) _ (.refl _)
  | true =>
  walk_at "my run"
  refine shaped_ok G (by omega) (.inl rfl) hn ?_
  cases hS2 : shapedB ns fs.length with
  | false =>
    walk_at "my run"
    exact no (by unfold dueB; rw [hS2]; simp) _ (.refl _)
  | true =>
  walk_at "my run"
  have hR1 : risingB ms es.length = true := by unfold shapedB at hS1; simp only [Bool.and_eq_true] at hS1; exact hS1.2
  have hR2 : risingB ns fs.length = true := by unfold shapedB at hS2; simp only [Bool.and_eq_true] at hS2; exact hS2.2
  have hne : daysOf es fs ms ns ≠ [] := by
    intro e
    unfold shapedB at hS1; simp only [Bool.and_eq_true, decide_eq_true_eq] at hS1
    have := congrArg List.length e
    unfold daysOf at this
    simp at this
    simp [this.1] at hS1
  have i1 := rising_in hR1
  have i2 := rising_in hR2
  have a1 : ∀ p ∈ ms, atIdx (entL es) p = some (.tup [.int (dayAt es p), .int (centsAt es p)]) := fun p hp => at_ent (i1 p hp).1 (i1 p hp).2
  have a2 : ∀ p ∈ ns, atIdx (entL fs) p = some (.tup [.int (dayAt fs p), .int (centsAt fs p)]) := fun p hp => at_ent (i2 p hp).1 (i2 p hp).2
  cases hx : decide ((ms.length : Int) > 1) with
  | true =>
    walk_at "my run"
    cases hy : decide ((ns.length : Int) > 1) with
    | true =>
      walk_at "my run"
      exact no (by unfold dueB; rw [hx, hy]; simp) _ (.refl _)
    | false =>
      walk_at "my run"
      refine compL_map ms _ (fun p => .int (dayAt es p)) (fun p => [some (.ref pb), some (.ref pk), some (.int span), some (.tup [.tup (ms.map .int), .tup (ns.map .int)]), none, none, none, some (.int p)]) (fun x => rfl) (fun x y => rfl) ?_ trivial (by omega) ?_
      · intro p hp R hR
        have ap := a1 p hp
        walk_at "my run"
        exact hR
      refine alf fun σ1 r1 e1 hr1 l1 => ?_
      have hb := e1.list hb
      have hk := e1.list hk
      walk_at "my run"
      refine compL_map ns _ (fun p => .int (dayAt fs p)) (fun p => [some (.ref pb), some (.ref pk), some (.int span), some (.tup [.tup (ms.map .int), .tup (ns.map .int)]), none, none, none, some (.int p)]) (fun x => rfl) (fun x y => rfl) ?_ trivial (by omega) ?_
      · intro p hp R hR
        have ap := a2 p hp
        walk_at "my run"
        exact hR
      refine alf fun σ2 r2 e2 hr2 l2 => ?_
      refine addL_of (.inl (e2 _ _ l1)) (.inl l2) (by rw [List.length_map, List.length_map]; omega) fun σ3 r3 e3 hr3 l3 => ?_
      have hb := e3.list (e2.list hb)
      have hk := e3.list (e2.list hk)
      have e03 := e1.trans (e2.trans e3)
      have l3' : σ3 r3 = some (.list ((daysOf es fs ms ns).map .int)) := by
        rw [l3]; unfold daysOf
        rw [List.map_append, List.map_map, List.map_map]; rfl
      walk_at "my run"
      refine compL_map ms _ (fun p => .int (centsAt es p)) (fun p => [some (.ref pb), some (.ref pk), some (.int span), some (.tup [.tup (ms.map .int), .tup (ns.map .int)]), some (.ref r3), none, none, some (.int p)]) (fun x => rfl) (fun x y => rfl) ?_ trivial (by omega) ?_
      · intro p hp R hR
        have ap := a1 p hp
        walk_at "my run"
        exact hR
      refine alf fun σ4 r4 e4 hr4 l4 => ?_
      have hk := e4.list hk
      walk_at "my run"
      refine q_sumL (ns := ms.map (centsAt es)) (.inl (by rw [l4, List.map_map]; rfl)) (sum_small se hm) ?_
      walk_at "my run"
      refine compL_map ns _ (fun p => .int (centsAt fs p)) (fun p => [some (.ref pb), some (.ref pk), some (.int span), some (.tup [.tup (ms.map .int), .tup (ns.map .int)]), some (.ref r3), none, none, some (.int p)]) (fun x => rfl) (fun x y => rfl) ?_ trivial (by omega) ?_
      · intro p hp R hR
        have ap := a2 p hp
        walk_at "my run"
        exact hR
      refine alf fun σ5 r5 e5 hr5 l5 => ?_
      walk_at "my run"
      refine q_sumL (ns := ns.map (centsAt fs)) (.inl (by rw [l5, List.map_map]; rfl)) (sum_small sf hn) ?_
      have e45 := e4.trans e5
      have l3' : listAt r3 ((daysOf es fs ms ns).map .int) σ5 := .inl (e45 _ _ l3')
      walk_at "my run"
      cases hs : ((ms.map (centsAt es)).sum - (ns.map (centsAt fs)).sum == 0) with
      | false =>
        walk_at "my run"
        exact no (by unfold dueB; rw [hs]; simp) _ (e03.trans e45)
      | true =>
      walk_at "my run"
      refine q_maxL l3' hne fun M hM1 hM2 => ?_
      walk_at "my run"
      refine q_minL l3' hne fun m hm1 hm2 => ?_
      walk_at "my run"
      have := q σ5 (e03.trans e45)
      rw [spread_eq hM1 hM2 hm1 hm2]
      rwa [show dueB es fs span ms ns = spreadB (daysOf es fs ms ns) span by unfold dueB; rw [hS1, hS2, hs, hx, hy]; simp] at this
  | false =>
    walk_at "my run"
    refine compL_map ms _ (fun p => .int (dayAt es p)) (fun p => [some (.ref pb), some (.ref pk), some (.int span), some (.tup [.tup (ms.map .int), .tup (ns.map .int)]), none, none, none, some (.int p)]) (fun x => rfl) (fun x y => rfl) ?_ trivial (by omega) ?_
    · intro p hp R hR
      have ap := a1 p hp
      walk_at "my run"
      exact hR
    refine alf fun σ1 r1 e1 hr1 l1 => ?_
    have hb := e1.list hb
    have hk := e1.list hk
    walk_at "my run"
    refine compL_map ns _ (fun p => .int (dayAt fs p)) (fun p => [some (.ref pb), some (.ref pk), some (.int span), some (.tup [.tup (ms.map .int), .tup (ns.map .int)]), none, none, none, some (.int p)]) (fun x => rfl) (fun x y => rfl) ?_ trivial (by omega) ?_
    · intro p hp R hR
      have ap := a2 p hp
      walk_at "my run"
      exact hR
    refine alf fun σ2 r2 e2 hr2 l2 => ?_
    refine addL_of (.inl (e2 _ _ l1)) (.inl l2) (by rw [List.length_map, List.length_map]; omega) fun σ3 r3 e3 hr3 l3 => ?_
    have hb := e3.list (e2.list hb)
    have hk := e3.list (e2.list hk)
    have e03 := e1.trans (e2.trans e3)
    have l3' : σ3 r3 = some (.list ((daysOf es fs ms ns).map .int)) := by
      rw [l3]; unfold daysOf
      rw [List.map_append, List.map_map, List.map_map]; rfl
    walk_at "my run"
    refine compL_map ms _ (fun p => .int (centsAt es p)) (fun p => [some (.ref pb), some (.ref pk), some (.int span), some (.tup [.tup (ms.map .int), .tup (ns.map .int)]), some (.ref r3), none, none, some (.int p)]) (fun x => rfl) (fun x y => rfl) ?_ trivial (by omega) ?_
    · intro p hp R hR
      have ap := a1 p hp
      walk_at "my run"
      exact hR
    refine alf fun σ4 r4 e4 hr4 l4 => ?_
    have hk := e4.list hk
    walk_at "my run"
    refine q_sumL (ns := ms.map (centsAt es)) (.inl (by rw [l4, List.map_map]; rfl)) (sum_small se hm) ?_
    walk_at "my run"
    refine compL_map ns _ (fun p => .int (centsAt fs p)) (fun p => [some (.ref pb), some (.ref pk), some (.int span), some (.tup [.tup (ms.map .int), .tup (ns.map .int)]), some (.ref r3), none, none, some (.int p)]) (fun x => rfl) (fun x y => rfl) ?_ trivial (by omega) ?_
    · intro p hp R hR
      have ap := a2 p hp
      walk_at "my run"
      exact hR
    refine alf fun σ5 r5 e5 hr5 l5 => ?_
    walk_at "my run"
    refine q_sumL (ns := ns.map (centsAt fs)) (.inl (by rw [l5, List.map_map]; rfl)) (sum_small sf hn) ?_
    have e45 := e4.trans e5
    have l3' : listAt r3 ((daysOf es fs ms ns).map .int) σ5 := .inl (e45 _ _ l3')
    walk_at "my run"
    cases hs : ((ms.map (centsAt es)).sum - (ns.map (centsAt fs)).sum == 0) with
    | false =>
      walk_at "my run"
      exact no (by unfold dueB; rw [hs]; simp) _ (e03.trans e45)
    | true =>
    walk_at "my run"
    refine q_maxL l3' hne fun M hM1 hM2 => ?_
    walk_at "my run"
    refine q_minL l3' hne fun m hm1 hm2 => ?_
    walk_at "my run"
    have := q σ5 (e03.trans e45)
    rw [spread_eq hM1 hM2 hm1 hm2]
    rwa [show dueB es fs span ms ns = spreadB (daysOf es fs ms ns) span by unfold dueB; rw [hS1, hS2, hs, hx]; simp] at this
end
end Mine

set_option maxRecDepth 100000
set_option linter.unusedVariables false
set_option autoImplicit false
set_option linter.unusedSimpArgs false
set_option maxHeartbeats 8000000
set_option pp.deepTerms false
namespace Mine
open PySem PyProof.Rows PySem.SeqAt PySem.W
section
variable {X : Cx} {P : Params} {Q : Post} {Z : XP} {σ : AHeap} {d : Nat}
def rkI : AV → Nat
  | .int i => i.toNat
  | _ => 0
theorem lt_ints {i j : Int} (hi : 0 ≤ i) (hj : 0 ≤ j) : LtAV σ (.int i) (.int j) (decide (rkI (.int i) < rkI (.int j))) := by
  refine ⟨.int i, .int j, .int _, .int _, d_int.mpr trivial, d_int.mpr trivial, ?_⟩
  show some (decide (i < j)) = some (decide (i.toNat < j.toNat))
  congr 1; exact decide_eq_decide.mpr (by lia)
theorem ints_of : ∀ {ys : List AV}, (∀ y ∈ ys, ∃ i : Int, y = .int i ∧ 0 ≤ i) → ∃ ns : List Int, ys = ns.map .int ∧ ∀ n ∈ ns, 0 ≤ n
  | [], _ => ⟨[], rfl, fun n h => (nomatch h)⟩
  | y :: ys, h => by
    obtain ⟨i, rfl, hi⟩ := h y (by simp)
    obtain ⟨ns, rfl, hn⟩ := ints_of (ys := ys) fun y hy => h y (by simp [hy])
    exact ⟨i :: ns, rfl, fun n hn' => (List.mem_cons.mp hn').elim (fun e => e ▸ hi) (hn n)⟩
/-- sorted() of a list of whole numbers -/
theorem sortI {p : Addr} {ns : List Int} (hp : listAt p (ns.map .int) σ) (hl : ns.length ≤ 50) (h0 : ∀ n ∈ ns, 0 ≤ n) (h : ∀ (ms : List Int) σ' r, ms.length = ns.length → (∀ n ∈ ms, 0 ≤ n) → Ext σ σ' → σ r = none → σ' r = some (.list (ms.map .int)) → Q (.ref r) σ') : pSorted [.ref p] Q σ := by
  have hx : ∀ x ∈ ns.map AV.int, ∃ i : Int, x = .int i ∧ 0 ≤ i := fun x hx => by
    obtain ⟨i, hi, rfl⟩ := List.mem_map.mp hx; exact ⟨i, rfl, h0 i hi⟩
  refine sorted_of rkI hp (by have : 50 ≤ sortMax := by decide
                              rw [List.length_map]; lia) (.inr (.inr fun x hx' => let ⟨i, e, _⟩ := hx x hx'; ⟨i, e⟩)) (fun x hx' y hy' => ?_) fun ys hperm _ σ' r e hr l => ?_
  · obtain ⟨i, rfl, hi⟩ := hx x hx'
    obtain ⟨j, rfl, hj⟩ := hx y hy'
    exact lt_ints hi hj
  · obtain ⟨ms, rfl, hm⟩ := ints_of fun y hy => hx y (hperm.mem_iff.mp hy)
    have := hperm.length_eq
    rw [List.length_map, List.length_map] at this
    exact h ms σ' r this hm e hr l

theorem Ext.put {σ σ' : AHeap} {p : Addr} {o : AO} (e : Ext σ σ') (h : σ p = Option.none) : Ext σ (σ'.set p o) := fun a b q => by
  rw [AHeap.set_ne _ _ (by rintro rfl; rw [h] at q; cases q)]; exact e _ _ q
theorem places_ok (G : Gd X (hd.heap_39 P)) (hd : d < 600) {c : Int} {size count : Nat} (hs : size ≤ 10) (q : ∀ (ns : List Int) σ' r, Ext σ σ' → ns.length ≤ 10 → (∀ n ∈ ns, 0 ≤ n) → σ' r = some (.list (ns.map .int)) → Q (.ref r) σ') :
    CallOk X 59 d [.int c, .int size, .int count] Q Z σ := by
  refine' callK (m := _) ["_law_cell", "_law_size", "_law_count"] [("_law_cell", 0), ("_law_size", 1), ("_law_count", 2), ("_law_left", 3), ("_law_places_here", 4), ("_law_k", 5)] G rfl rfl (bind3 fun a b c => rfl) rfl rfl rfl rfl rfl rfl rfl rfl (fun env E => ?snd) hd rfl ?bd
  case snd =>
    repeat' first
      | ((with_reducible show SoundSs _ _ _ [] _); (with_reducible refine' sound_nil))
      | ((with_reducible show SoundSs _ _ _ (_ :: _) _); (with_reducible refine' sound_cons ?_ ?_))
      | ((with_reducible show SoundS _ _ _ (.If _ _ _ _) _); (with_reducible refine' sound_if ?_ ?_ ?_))
      | ((with_reducible show SoundS _ _ _ (.Return (some _) _) _); (with_reducible refine' sound_ret ?_))
      | ((with_reducible show SoundS _ _ _ (.Assign [.Name _ _] (.ListComp _ _ _ _) _) _); (with_reducible refine' w_setComp (by assumption) ?r1 ?r2 ?r3 ?r4 ?r5 ?_ (fun env' E' => ?_) (fun env' E' => ?_) (fun env' E' => ?_)); (case r1 => exact rfl); (case r2 => exact rfl); (case r3 => exact rfl); (case r4 => exact rfl); (case r5 => exact rfl))
      | ((with_reducible show SoundS _ _ _ (.Assign [.Name _ _] _ _) _); (with_reducible refine' w_set (by assumption) ?r1 ?r2 ?_ ?r3); (case r1 => exact rfl); (case r2 => exact rfl); (case r3 => exact rfl))
      | ((with_reducible show SoundS _ _ _ (.For _ _ _ _ _) _); (with_reducible refine' w_for ?r1 ?_ ?_ ?_); (case r1 => exact rfl))
      | ((with_reducible show SoundS _ _ _ (.Expr _ _) _); (with_reducible refine' w_ex (by assumption) ?_ ?r1); (case r1 => exact rfl))
      | ((with_reducible show SoundC _ _ _ [] _); (with_reducible refine' w_cNone))
      | ((with_reducible show SoundC _ _ _ (_ :: _) _); (with_reducible refine' w_cSome ?_))
      | ((with_reducible show SoundT _ _ _ (.Name _ _) _); (with_reducible refine' w_tOne (by assumption) ?r1 ?r2); (case r1 => exact rfl); (case r2 => exact rfl))
      | ((with_reducible show SoundTC _ _ _ (.Name _ _) _); (with_reducible refine' w_tcOne (by assumption) ?r1 ?r2); (case r1 => exact rfl); (case r2 => exact rfl))
      | ((with_reducible show SoundI _ _ _ _ _ _); (with_reducible refine' w_it ?_))
      | ((with_reducible show SoundB _ _ _ (.Compare _ _ _ _) _); (with_reducible refine' soundB_cmp ?_ ?_))
      | ((with_reducible show SoundB _ _ _ (.UnaryOp .Not _ _) _); (with_reducible refine' soundB_not ?_))
      | ((with_reducible show SoundB _ _ _ (.BoolOp .And _ _) _); (with_reducible refine' soundB_and ?_))
      | ((with_reducible show SoundB _ _ _ (.BoolOp .Or _ _) _); (with_reducible refine' soundB_or ?_))
      | ((with_reducible show SoundB _ _ _ (_) _); (with_reducible refine' soundB_of ?_ ?r1); (case r1 => exact (fun _ => rfl)))
      | ((with_reducible show SoundE _ _ _ (.Name _ _) _); (with_reducible refine' w_loc (by assumption) ?r1 ?r2 ?r3); (case r1 => exact rfl); (case r2 => exact rfl); (case r3 => exact rfl))
      | ((with_reducible show SoundE _ _ _ (.Name _ _) _); (with_reducible refine' w_gint (by assumption) (by assumption) ?r1 ?r2); (case r1 => exact rfl); (case r2 => exact rfl))
      | ((with_reducible show SoundE _ _ _ (.Constant (.int _) _ _) _); (with_reducible refine' sound_int))
      | ((with_reducible show SoundE _ _ _ (.Constant (.str _) _ _) _); (with_reducible refine' sound_str))
      | ((with_reducible show SoundE _ _ _ (.Constant (.bool _) _ _) _); (with_reducible refine' sound_bool))
      | ((with_reducible show SoundE _ _ _ (.Tuple _ _ _) _); (with_reducible refine' sound_tup ?_))
      | ((with_reducible show SoundE _ _ _ (.List _ _) _); (with_reducible refine' sound_lst ?_))
      | ((with_reducible show SoundEs _ _ _ [] _); (with_reducible refine' w_es0))
      | ((with_reducible show SoundEs _ _ _ (_ :: _) _); (with_reducible refine' w_es1 ?r1 ?_ ?_); (case r1 => exact rfl))
      | ((with_reducible show SoundE _ _ _ (.Compare _ _ _ _) _); (with_reducible refine' sound_cmp ?_ ?_))
      | ((with_reducible show SoundOps _ _ _ [_] _ _); (with_reducible refine' SoundOps.one ?_ ?r1); (case r1 => exact rfl))
      | ((with_reducible show SoundOps _ _ _ (_ :: _ :: _) _ _); (with_reducible refine' SoundOps.cons ?_ ?_))
      | ((with_reducible show SoundE _ _ _ (.BinOp _ _ _ _) _); (with_reducible refine' sound_bin ?_ ?_))
      | ((with_reducible show SoundE _ _ _ (.UnaryOp .USub _ _) _); (with_reducible refine' sound_neg ?_))
      | ((with_reducible show SoundE _ _ _ (.UnaryOp .Not _ _) _); (with_reducible refine' sound_not ?_))
      | ((with_reducible show SoundE _ _ _ (.BoolOp .And _ _) _); (with_reducible refine' sound_and ?_))
      | ((with_reducible show SoundEBs _ _ _ [] _); (with_reducible refine' SoundEBs.nil))
      | ((with_reducible show SoundEBs _ _ _ (_ :: _) _); (with_reducible refine' SoundEBs.cons ?_ ?_ ?_))
      | ((with_reducible show SoundE _ _ _ (.Subscript _ (.Slice _ _ _ _) _) _); (with_reducible refine' sound_slice ?_ ?_ ?_))
      | ((with_reducible show SoundE _ _ _ (.Subscript _ _ _) _); (with_reducible refine' sound_idx ?_ ?_ ?r1); (case r1 => exact rfl))
      | ((with_reducible show SoundO _ _ _ none _); (with_reducible refine' w_oNone))
      | ((with_reducible show SoundO _ _ _ (some _) _); (with_reducible refine' w_oSome ?_))
      | ((with_reducible show SoundE _ _ _ (.ListComp _ _ _ _) _); (with_reducible refine' w_comp (by assumption) ?r1 ?r2 ?r3 ?_ (fun env' E' => ?_) (fun env' E' => ?_) (fun env' E' => ?_)); (case r1 => exact rfl); (case r2 => exact rfl); (case r3 => exact rfl))
      | ((with_reducible show SoundE _ _ _ (.Call (.Attribute _ "append" _) _ [] _) _); (with_reducible refine' w_append ?r1 ?r2 ?r3 ?_ ?_); (case r1 => exact (fun _ => rfl)); (case r2 => exact rfl); (case r3 => exact rfl))
      | ((with_reducible show SoundE _ _ _ (.Call (.Attribute _ "pop" _) _ [] _) _); (with_reducible refine' w_pop ?r1 ?r2 ?r3 ?_ ?_); (case r1 => exact (fun _ => rfl)); (case r2 => exact rfl); (case r3 => exact rfl))
      | ((with_reducible show SoundE _ _ _ (.Call (.Name "list" _) [.Call (.Name "range" _) _ _ _] [] _) _); (with_reducible refine' w_prim (by assumption) (by assumption) bi_list ?r1 sound_listR ?r2 ?_); (case r1 => exact (.inr ⟨_, rfl⟩)); (case r2 => exact rfl))
      | ((with_reducible show SoundE _ _ _ (.Call (.Name "len" _) _ [] _) _); (with_reducible refine' w_len (by assumption) (by assumption) bi_len ?r1 ?_); (case r1 => exact rfl))
      | ((with_reducible show SoundE _ _ _ (.Call (.Name "range" _) _ [] _) _); (with_reducible refine' w_range (by assumption) (by assumption) bi_range ?r1 ?_); (case r1 => exact rfl))
      | ((with_reducible show SoundE _ _ _ (.Call (.Name "list" _) _ [] _) _); (with_reducible refine' w_list (by assumption) (by assumption) bi_list ?r1 ?_); (case r1 => exact rfl))
      | ((with_reducible show SoundE _ _ _ (.Call (.Name "sorted" _) _ [] _) _); (with_reducible refine' w_prim (by assumption) (by assumption) bi_sorted ?r1 sound_sorted ?r2 ?_); (case r1 => exact (.inl ⟨_, rfl⟩)); (case r2 => exact rfl))
      | ((with_reducible show SoundE _ _ _ (.Call (.Name "max" _) _ [] _) _); (with_reducible refine' w_prim (by assumption) (by assumption) bi_max ?r1 sound_max ?r2 ?_); (case r1 => exact (.inl ⟨_, rfl⟩)); (case r2 => exact rfl))
      | ((with_reducible show SoundE _ _ _ (.Call (.Name "min" _) _ [] _) _); (with_reducible refine' w_prim (by assumption) (by assumption) bi_min ?r1 sound_min ?r2 ?_); (case r1 => exact (.inl ⟨_, rfl⟩)); (case r2 => exact rfl))
      | ((with_reducible show SoundE _ _ _ (.Call (.Name "sum" _) _ [] _) _); (with_reducible refine' w_prim (by assumption) (by assumption) bi_sum ?r1 sound_sum ?r2 ?_); (case r1 => exact (.inl ⟨_, rfl⟩)); (case r2 => exact rfl))
      | ((with_reducible show SoundE _ _ _ (.Call (.Name "tuple" _) _ [] _) _); (with_reducible refine' w_prim (by assumption) (by assumption) bi_tuple ?r1 sound_tuple ?r2 ?_); (case r1 => exact (.inr ⟨_, rfl⟩)); (case r2 => exact rfl))
      | ((with_reducible show SoundE _ _ _ (.Call (.Name "isinstance" _) [_, .Name "tuple" _] [] _) _); (with_reducible refine' w_isa .tuple (by assumption) (by assumption) bi_isinstance ?r1 bi_tuple ?r2 ?r3 ?_); (case r1 => exact rfl); (case r2 => exact rfl); (case r3 => exact rfl))
      | ((with_reducible show SoundE _ _ _ (.Call (.Name "isinstance" _) [_, .Name "bool" _] [] _) _); (with_reducible refine' w_isa .bool (by assumption) (by assumption) bi_isinstance ?r1 bi_bool ?r2 ?r3 ?_); (case r1 => exact rfl); (case r2 => exact rfl); (case r3 => exact rfl))
      | ((with_reducible show SoundE _ _ _ (.Call (.Name "isinstance" _) [_, .Name "list" _] [] _) _); (with_reducible refine' w_isa .list (by assumption) (by assumption) bi_isinstance ?r1 bi_list ?r2 ?r3 ?_); (case r1 => exact rfl); (case r2 => exact rfl); (case r3 => exact rfl))
      | ((with_reducible show SoundE _ _ _ (.Call (.Name _ _) _ [] _) _); (with_reducible refine' w_call (by assumption) (by assumption) ?r1 ?r2 ?r3 ?_); (case r1 => exact rfl); (case r2 => exact ⟨_, _, rfl, rfl⟩); (case r3 => exact rfl))
  walk_at "my run"
  refine alf fun σ1 r3 e1 hr3 l3 => ?_
  walk_at "my run"
  refine alf fun σ2 r4 e2 hr4 l4 => ?_
  have hne : r4 ≠ r3 := by rintro rfl; rw [l3] at hr4; cases hr4
  walk_at "my run"
  rw [show min (count : Int) size = ((min count size : Nat) : Int) by lia]
  walk_at "my run"
  refine forL_range (fun k l σ' => ∃ (ls ps : List Int) (c : Int) (v5 : Option AV), ls.length + k = size ∧ ps.length = k ∧ (∀ n ∈ ls, 0 ≤ n) ∧ (∀ n ∈ ps, 0 ≤ n) ∧ σ' r3 = some (.list (ls.map .int)) ∧ σ' r4 = some (.list (ps.map .int)) ∧ Ext σ σ' ∧
    l = [some (.int c), some (.int size), some (.int count), some (.ref r3), some (.ref r4), v5]) ?_ ?_
    ⟨(List.range size).map (fun i : Nat => (i : Int)), [], c, none, by simp, rfl, fun n hn => by obtain ⟨i, _, rfl⟩ := List.mem_map.mp hn; lia, fun n h => (nomatch h), by rw [List.map_map]; exact e2 _ _ l3, l4, e1.trans e2, rfl⟩
  · rintro k l σ' K hk ⟨ls, ps, c, v5, h1, h2, h3, h4, h5, h6, hE, rfl⟩ hK
    refine ⟨_, rfl, ?_⟩
    have hk' : k < size := by lia
    have hls : 0 < ls.length := by lia
    have hp5 : listAt r3 (ls.map .int) σ' := .inl h5
    obtain ⟨m, em, hm⟩ : ∃ m : Nat, c.fmod (ls.length : Int) = m ∧ m < ls.length := by
      have g1 := Int.fmod_nonneg_of_pos c (b := ls.length) (by lia); have g2 := Int.fmod_lt_of_pos c (b := ls.length) (by lia)
      exact ⟨(c.fmod ls.length).toNat, by lia, by lia⟩
    have hx : (ls.map AV.int)[m]? = some (.int (ls[m])) := by simp [hm]
    walk_at "my run"
    refine q_mod (by lia) ?_
    walk_at "my run"
    refine q_pop1 h5 em hx ?_
    walk_at "my run"
    refine q_app (xs := ps.map .int) (by rw [AHeap.set_ne _ _ hne]; exact h6) (by rw [List.length_map]; lia) ?_
    walk_at "my run"
    refine ⟨trivial, hK _ _ ⟨ls.eraseIdx m, ps ++ [ls[m]], _, _, ?_, by simp [h2], fun n hn => h3 n (List.mem_of_mem_eraseIdx hn), fun n hn => ?_, ?_, ?_, ?_, rfl⟩⟩
    · rw [List.length_eraseIdx_of_lt hm]; lia
    · rcases List.mem_append.mp hn with h | h
      · exact h4 n h
      · simp at h; rw [h]; exact h3 _ (List.getElem_mem hm)
    · rw [AHeap.set_ne _ _ (Ne.symm hne), AHeap.set_self]; simp [List.eraseIdx_eq_take_drop_succ, List.map_take, List.map_drop]
    · rw [AHeap.set_self]; simp
    · exact (hE.put hr3).put (e1.none hr4)
  · rintro l σ' ⟨ls, ps, c, v5, h1, h2, h3, h4, h5, h6, hE, rfl⟩
    walk_at "my run"
    refine sortI (.inl h6) (by lia) h4 fun ms σ'' r hl hm e hr l => ?_
    walk_at "my run"
    exact q ms _ _ (hE.trans e) (by lia) hm l

theorem bent_ok (G : Gd X (hd.heap_39 P)) (hd : d < 600) {p : Addr} {ns : List Int} {way : Int} {size : Nat} (hp : listAt p (ns.map .int) σ) (hl : ns.length ≤ 10) (h0 : ∀ n ∈ ns, 0 ≤ n) (q : ∀ (ms : List Int) σ' r, Ext σ σ' → ms.length ≤ 50 → listAt r (ms.map .int) σ' → Q (.ref r) σ') :
    CallOk X 66 d [.ref p, .int way, .int size] Q Z σ := by
  refine' callK (m := _) ["_law_places_here", "_law_way", "_law_size"] [("_law_places_here", 0), ("_law_way", 1), ("_law_size", 2)] G rfl rfl (bind3 fun a b c => rfl) rfl rfl rfl rfl rfl rfl rfl rfl (fun env E => ?snd) hd rfl ?bd
  case snd =>
    repeat' first
      | ((with_reducible show SoundSs _ _ _ [] _); (with_reducible refine' sound_nil))
      | ((with_reducible show SoundSs _ _ _ (_ :: _) _); (with_reducible refine' sound_cons ?_ ?_))
      | ((with_reducible show SoundS _ _ _ (.If _ _ _ _) _); (with_reducible refine' sound_if ?_ ?_ ?_))
      | ((with_reducible show SoundS _ _ _ (.Return (some _) _) _); (with_reducible refine' sound_ret ?_))
      | ((with_reducible show SoundS _ _ _ (.Assign [.Name _ _] (.ListComp _ _ _ _) _) _); (with_reducible refine' w_setComp (by assumption) ?r1 ?r2 ?r3 ?r4 ?r5 ?_ (fun env' E' => ?_) (fun env' E' => ?_) (fun env' E' => ?_)); (case r1 => exact rfl); (case r2 => exact rfl); (case r3 => exact rfl); (case r4 => exact rfl); (case r5 => exact rfl))
      | ((with_reducible show SoundS _ _ _ (.Assign [.Name _ _] _ _) _); (with_reducible refine' w_set (by assumption) ?r1 ?r2 ?_ ?r3); (case r1 => exact rfl); (case r2 => exact rfl); (case r3 => exact rfl))
      | ((with_reducible show SoundS _ _ _ (.For _ _ _ _ _) _); (with_reducible refine' w_for ?r1 ?_ ?_ ?_); (case r1 => exact rfl))
      | ((with_reducible show SoundS _ _ _ (.Expr _ _) _); (with_reducible refine' w_ex (by assumption) ?_ ?r1); (case r1 => exact rfl))
      | ((with_reducible show SoundC _ _ _ [] _); (with_reducible refine' w_cNone))
      | ((with_reducible show SoundC _ _ _ (_ :: _) _); (with_reducible refine' w_cSome ?_))
      | ((with_reducible show SoundT _ _ _ (.Name _ _) _); (with_reducible refine' w_tOne (by assumption) ?r1 ?r2); (case r1 => exact rfl); (case r2 => exact rfl))
      | ((with_reducible show SoundTC _ _ _ (.Name _ _) _); (with_reducible refine' w_tcOne (by assumption) ?r1 ?r2); (case r1 => exact rfl); (case r2 => exact rfl))
      | ((with_reducible show SoundI _ _ _ _ _ _); (with_reducible refine' w_it ?_))
      | ((with_reducible show SoundB _ _ _ (.Compare _ _ _ _) _); (with_reducible refine' soundB_cmp ?_ ?_))
      | ((with_reducible show SoundB _ _ _ (.UnaryOp .Not _ _) _); (with_reducible refine' soundB_not ?_))
      | ((with_reducible show SoundB _ _ _ (.BoolOp .And _ _) _); (with_reducible refine' soundB_and ?_))
      | ((with_reducible show SoundB _ _ _ (.BoolOp .Or _ _) _); (with_reducible refine' soundB_or ?_))
      | ((with_reducible show SoundB _ _ _ (_) _); (with_reducible refine' soundB_of ?_ ?r1); (case r1 => exact (fun _ => rfl)))
      | ((with_reducible show SoundE _ _ _ (.Name _ _) _); (with_reducible refine' w_loc (by assumption) ?r1 ?r2 ?r3); (case r1 => exact rfl); (case r2 => exact rfl); (case r3 => exact rfl))
      | ((with_reducible show SoundE _ _ _ (.Name _ _) _); (with_reducible refine' w_gint (by assumption) (by assumption) ?r1 ?r2); (case r1 => exact rfl); (case r2 => exact rfl))
      | ((with_reducible show SoundE _ _ _ (.Constant (.int _) _ _) _); (with_reducible refine' sound_int))
      | ((with_reducible show SoundE _ _ _ (.Constant (.str _) _ _) _); (with_reducible refine' sound_str))
      | ((with_reducible show SoundE _ _ _ (.Constant (.bool _) _ _) _); (with_reducible refine' sound_bool))
      | ((with_reducible show SoundE _ _ _ (.Tuple _ _ _) _); (with_reducible refine' sound_tup ?_))
      | ((with_reducible show SoundE _ _ _ (.List _ _) _); (with_reducible refine' sound_lst ?_))
      | ((with_reducible show SoundEs _ _ _ [] _); (with_reducible refine' w_es0))
      | ((with_reducible show SoundEs _ _ _ (_ :: _) _); (with_reducible refine' w_es1 ?r1 ?_ ?_); (case r1 => exact rfl))
      | ((with_reducible show SoundE _ _ _ (.Compare _ _ _ _) _); (with_reducible refine' sound_cmp ?_ ?_))
      | ((with_reducible show SoundOps _ _ _ [_] _ _); (with_reducible refine' SoundOps.one ?_ ?r1); (case r1 => exact rfl))
      | ((with_reducible show SoundOps _ _ _ (_ :: _ :: _) _ _); (with_reducible refine' SoundOps.cons ?_ ?_))
      | ((with_reducible show SoundE _ _ _ (.BinOp _ _ _ _) _); (with_reducible refine' sound_bin ?_ ?_))
      | ((with_reducible show SoundE _ _ _ (.UnaryOp .USub _ _) _); (with_reducible refine' sound_neg ?_))
      | ((with_reducible show SoundE _ _ _ (.UnaryOp .Not _ _) _); (with_reducible refine' sound_not ?_))
      | ((with_reducible show SoundE _ _ _ (.BoolOp .And _ _) _); (with_reducible refine' sound_and ?_))
      | ((with_reducible show SoundEBs _ _ _ [] _); (with_reducible refine' SoundEBs.nil))
      | ((with_reducible show SoundEBs _ _ _ (_ :: _) _); (with_reducible refine' SoundEBs.cons ?_ ?_ ?_))
      | ((with_reducible show SoundE _ _ _ (.Subscript _ (.Slice _ _ _ _) _) _); (with_reducible refine' sound_slice ?_ ?_ ?_))
      | ((with_reducible show SoundE _ _ _ (.Subscript _ _ _) _); (with_reducible refine' sound_idx ?_ ?_ ?r1); (case r1 => exact rfl))
      | ((with_reducible show SoundO _ _ _ none _); (with_reducible refine' w_oNone))
      | ((with_reducible show SoundO _ _ _ (some _) _); (with_reducible refine' w_oSome ?_))
      | ((with_reducible show SoundE _ _ _ (.ListComp _ _ _ _) _); (with_reducible refine' w_comp (by assumption) ?r1 ?r2 ?r3 ?_ (fun env' E' => ?_) (fun env' E' => ?_) (fun env' E' => ?_)); (case r1 => exact rfl); (case r2 => exact rfl); (case r3 => exact rfl))
      | ((with_reducible show SoundE _ _ _ (.Call (.Attribute _ "append" _) _ [] _) _); (with_reducible refine' w_append ?r1 ?r2 ?r3 ?_ ?_); (case r1 => exact (fun _ => rfl)); (case r2 => exact rfl); (case r3 => exact rfl))
      | ((with_reducible show SoundE _ _ _ (.Call (.Attribute _ "pop" _) _ [] _) _); (with_reducible refine' w_pop ?r1 ?r2 ?r3 ?_ ?_); (case r1 => exact (fun _ => rfl)); (case r2 => exact rfl); (case r3 => exact rfl))
      | ((with_reducible show SoundE _ _ _ (.Call (.Name "list" _) [.Call (.Name "range" _) _ _ _] [] _) _); (with_reducible refine' w_prim (by assumption) (by assumption) bi_list ?r1 sound_listR ?r2 ?_); (case r1 => exact (.inr ⟨_, rfl⟩)); (case r2 => exact rfl))
      | ((with_reducible show SoundE _ _ _ (.Call (.Name "len" _) _ [] _) _); (with_reducible refine' w_len (by assumption) (by assumption) bi_len ?r1 ?_); (case r1 => exact rfl))
      | ((with_reducible show SoundE _ _ _ (.Call (.Name "range" _) _ [] _) _); (with_reducible refine' w_range (by assumption) (by assumption) bi_range ?r1 ?_); (case r1 => exact rfl))
      | ((with_reducible show SoundE _ _ _ (.Call (.Name "list" _) _ [] _) _); (with_reducible refine' w_list (by assumption) (by assumption) bi_list ?r1 ?_); (case r1 => exact rfl))
      | ((with_reducible show SoundE _ _ _ (.Call (.Name "sorted" _) _ [] _) _); (with_reducible refine' w_prim (by assumption) (by assumption) bi_sorted ?r1 sound_sorted ?r2 ?_); (case r1 => exact (.inl ⟨_, rfl⟩)); (case r2 => exact rfl))
      | ((with_reducible show SoundE _ _ _ (.Call (.Name "max" _) _ [] _) _); (with_reducible refine' w_prim (by assumption) (by assumption) bi_max ?r1 sound_max ?r2 ?_); (case r1 => exact (.inl ⟨_, rfl⟩)); (case r2 => exact rfl))
      | ((with_reducible show SoundE _ _ _ (.Call (.Name "min" _) _ [] _) _); (with_reducible refine' w_prim (by assumption) (by assumption) bi_min ?r1 sound_min ?r2 ?_); (case r1 => exact (.inl ⟨_, rfl⟩)); (case r2 => exact rfl))
      | ((with_reducible show SoundE _ _ _ (.Call (.Name "sum" _) _ [] _) _); (with_reducible refine' w_prim (by assumption) (by assumption) bi_sum ?r1 sound_sum ?r2 ?_); (case r1 => exact (.inl ⟨_, rfl⟩)); (case r2 => exact rfl))
      | ((with_reducible show SoundE _ _ _ (.Call (.Name "tuple" _) _ [] _) _); (with_reducible refine' w_prim (by assumption) (by assumption) bi_tuple ?r1 sound_tuple ?r2 ?_); (case r1 => exact (.inr ⟨_, rfl⟩)); (case r2 => exact rfl))
      | ((with_reducible show SoundE _ _ _ (.Call (.Name "isinstance" _) [_, .Name "tuple" _] [] _) _); (with_reducible refine' w_isa .tuple (by assumption) (by assumption) bi_isinstance ?r1 bi_tuple ?r2 ?r3 ?_); (case r1 => exact rfl); (case r2 => exact rfl); (case r3 => exact rfl))
      | ((with_reducible show SoundE _ _ _ (.Call (.Name "isinstance" _) [_, .Name "bool" _] [] _) _); (with_reducible refine' w_isa .bool (by assumption) (by assumption) bi_isinstance ?r1 bi_bool ?r2 ?r3 ?_); (case r1 => exact rfl); (case r2 => exact rfl); (case r3 => exact rfl))
      | ((with_reducible show SoundE _ _ _ (.Call (.Name "isinstance" _) [_, .Name "list" _] [] _) _); (with_reducible refine' w_isa .list (by assumption) (by assumption) bi_isinstance ?r1 bi_list ?r2 ?r3 ?_); (case r1 => exact rfl); (case r2 => exact rfl); (case r3 => exact rfl))
      | ((with_reducible show SoundE _ _ _ (.Call (.Name _ _) _ [] _) _); (with_reducible refine' w_call (by assumption) (by assumption) ?r1 ?r2 ?r3 ?_); (case r1 => exact rfl); (case r2 => exact ⟨_, _, rfl, rfl⟩); (case r3 => exact rfl))
  have key : ∀ S : SPost, (∀ v l σ', Q v σ' → S (.ret v) l σ') → True := fun _ _ => trivial
  walk_at "my rni"
  refine q_ifJ (fun l' σ' => σ' = σ ∧ l' = [some (.ref p), some (.int way), some (.int size)]) (fun S' kr kn => ?_) ?_
  · cases w1 : (way == 1) with
    | false =>
      walk_at "my run"
      rw [w1]
      walk_at "my run"
      exact kn _ _ ⟨rfl, rfl⟩
    | true =>
      walk_at "my run"
      rw [w1]
      walk_at "my run"
      split
      ·
        walk_at "my run"
        obtain ⟨ms, em, hm, hmi⟩ := cut_map (f := AV.int) ns none (some 1)
        refine alf fun σ1 r1 e1 hr1 l1 => ?_
        rw [em] at l1
        refine addL_of (e1.list hp) (.inl l1) (by rw [List.length_map, List.length_map]; lia) fun σ2 r2 e2 hr2 l2 => ?_
        rw [← List.map_append] at l2
        walk_at "my run"
        refine sortI (.inl l2) (by rw [List.length_append]; lia) (fun n hn => (List.mem_append.mp hn).elim (h0 n) fun h => h0 n (hmi n h)) fun ks σ3 r3 hl3 _ e3 hr3 l3 => ?_
        walk_at "my run"
        refine kr _ _ _ ?_
        walk_at "my run"
        exact q ks _ _ (e1.trans (e2.trans e3)) (by rw [hl3, List.length_append]; lia) (.inl l3)
      ·
        walk_at "my run"
        exact kn _ _ ⟨rfl, rfl⟩
  rintro l' σ' ⟨rfl, rfl⟩
  walk_at "my rni"
  refine q_ifJ (fun l' σ1 => σ1 = σ' ∧ l' = [some (.ref p), some (.int way), some (.int size)]) (fun S' kr kn => ?_) ?_
  · cases w1 : (way == 2) with
    | false =>
      walk_at "my run"
      rw [w1]
      walk_at "my run"
      exact kn _ _ ⟨rfl, rfl⟩
    | true =>
      walk_at "my run"
      rw [w1]
      walk_at "my run"
      split
      ·
        walk_at "my run"
        obtain ⟨ms, em, hm, hmi⟩ := cut_map (f := AV.int) ns (some 1) none
        refine alf fun σ1 r1 e1 hr1 l1 => ?_
        rw [em] at l1
        have hp1 := e1.list hp
        walk_at "my run"
        obtain ⟨ms2, em2, hm2, hmi2⟩ := cut_map (f := AV.int) ns none (some 1)
        refine alf fun σ2 r2 e2 hr2 l2 => ?_
        rw [em2] at l2
        refine addL_of (e2.list (.inl l1)) (.inl l2) (by rw [List.length_map, List.length_map]; lia) fun σ3 r3 e3 hr3 l3 => ?_
        rw [← List.map_append] at l3
        walk_at "my run"
        refine kr _ _ _ ?_
        walk_at "my run"
        exact q _ _ _ (e1.trans (e2.trans e3)) (by rw [List.length_append]; lia) (.inl l3)
      ·
        walk_at "my run"
        exact kn _ _ ⟨rfl, rfl⟩
  rintro l' σ' ⟨rfl, rfl⟩
  walk_at "my rni"
  refine q_ifJ (fun l' σ1 => σ1 = σ' ∧ l' = [some (.ref p), some (.int way), some (.int size)]) (fun S' kr kn => ?_) ?_
  ·
    walk_at "my run"
    split
    ·
      walk_at "my run"
      refine alf fun σ1 r1 e1 hr1 l1 => ?_
      refine addL_of (e1.list hp) (.inl l1) (by rw [List.length_map]; simp; lia) fun σ2 r2 e2 hr2 l2 => ?_
      walk_at "my run"
      refine kr _ _ _ ?_
      walk_at "my run"
      exact q (ns ++ [(size : Int)]) _ _ (e1.trans e2) (by rw [List.length_append]; simp; lia) (.inl (by rw [l2]; simp))
    ·
      walk_at "my run"
      exact kn _ _ ⟨rfl, rfl⟩
  rintro l' σ' ⟨rfl, rfl⟩
  walk_at "my rni"
  refine q_ifJ (fun l' σ1 => σ1 = σ' ∧ l' = [some (.ref p), some (.int way), some (.int size)]) (fun S' kr kn => ?_) ?_
  ·
    walk_at "my run"
    split
    ·
      walk_at "my run"
      refine alf fun σ1 r1 e1 hr1 l1 => ?_
      walk_at "my run"
      refine addL_of (.inl l1) (e1.list hp) (by rw [List.length_map]; simp; lia) fun σ2 r2 e2 hr2 l2 => ?_
      walk_at "my run"
      refine kr _ _ _ ?_
      walk_at "my run"
      exact q (-1 :: ns) _ _ (e1.trans e2) (by simp; lia) (.inl (by rw [l2]; simp))
    ·
      walk_at "my run"
      exact kn _ _ ⟨rfl, rfl⟩
  rintro l' σ' ⟨rfl, rfl⟩
  walk_at "my run"
  exact q ns _ _ (.refl _) (by lia) hp
end
end Mine

set_option maxRecDepth 100000
set_option linter.unusedVariables false
set_option autoImplicit false
set_option linter.unusedSimpArgs false
set_option maxHeartbeats 8000000
set_option pp.deepTerms false
namespace Mine
open PySem PyProof.Rows PySem.SeqAt PySem.W
section
variable {X : Cx} {P : Params} {Q : Post} {Z : XP} {σ : AHeap} {d : Nat}
def tiny (es : List (Int × Int)) : Prop := ∀ e ∈ es, e.2.natAbs ≤ 1000000000
theorem tiny_small {es : List (Int × Int)} (h : tiny es) : small es := fun e he => by have := h e he; omega
theorem tiny_cents {es : List (Int × Int)} (h : tiny es) (p : Int) : (centsAt es p).natAbs ≤ 1000000000 := by
  unfold centsAt
  by_cases hk : p.toNat < es.length
  · have : es.getD p.toNat (0, 0) = es[p.toNat] := by simp [List.getD_eq_getElem?_getD, hk]
    rw [this]; exact h _ (List.getElem_mem hk)
  · have : es.getD p.toNat (0, 0) = (0, 0) := by simp [List.getD_eq_getElem?_getD, List.getElem?_eq_none (Nat.not_lt.mp hk)]
    rw [this]; decide
theorem tiny_sum {es : List (Int × Int)} (h : tiny es) : ∀ ms : List Int, (ms.map (centsAt es)).sum.natAbs ≤ ms.length * 1000000000
  | [] => by simp
  | m :: ms => by
    have h1 := tiny_cents h m
    have h2 := tiny_sum h ms
    simp only [List.map_cons, List.sum_cons, List.length_cons]
    omega

theorem made_even_ok (G : Gd X (hd.heap_39 P)) (hd : d < 599) {pb pk : Addr} {es fs : List (Int × Int)} {way : Int} {ms ns : List Int} (hb : listAt pb (entL es) σ) (hk : listAt pk (entL fs) σ) (se : tiny es) (sf : tiny fs) (hle : es.length ≤ 100) (hm : ms.length ≤ 50) (hn : ns.length ≤ 50)
    (q : ∀ es' σ' r, Ext σ σ' → small es' → es'.length ≤ 1000 → listAt r (entL es') σ' → Q (.ref r) σ') : CallOk X 83 d [.ref pb, .ref pk, .tup [.tup (ms.map .int), .tup (ns.map .int)], .int way] Q Z σ := by
  refine' callK (m := _) ["_law_banks", "_law_books", "_law_match", "_law_way"] [("_law_banks", 0), ("_law_books", 1), ("_law_match", 2), ("_law_way", 3), ("_law_far", 4), ("_law_at", 5), ("_law_total", 6)] G rfl rfl (bind4 fun a b c d => rfl) rfl rfl rfl rfl rfl rfl rfl rfl (fun env E => ?snd) (by omega) rfl ?bd
  case snd =>
    repeat' first
      | ((with_reducible show SoundSs _ _ _ [] _); (with_reducible refine' sound_nil))
      | ((with_reducible show SoundSs _ _ _ (_ :: _) _); (with_reducible refine' sound_cons ?_ ?_))
      | ((with_reducible show SoundS _ _ _ (.If _ _ _ _) _); (with_reducible refine' sound_if ?_ ?_ ?_))
      | ((with_reducible show SoundS _ _ _ (.Return (some _) _) _); (with_reducible refine' sound_ret ?_))
      | ((with_reducible show SoundS _ _ _ (.Assign [.Name _ _] (.ListComp _ _ _ _) _) _); (with_reducible refine' w_setComp (by assumption) ?r1 ?r2 ?r3 ?r4 ?r5 ?_ (fun env' E' => ?_) (fun env' E' => ?_) (fun env' E' => ?_)); (case r1 => exact rfl); (case r2 => exact rfl); (case r3 => exact rfl); (case r4 => exact rfl); (case r5 => exact rfl))
      | ((with_reducible show SoundS _ _ _ (.Assign [.Name _ _] _ _) _); (with_reducible refine' w_set (by assumption) ?r1 ?r2 ?_ ?r3); (case r1 => exact rfl); (case r2 => exact rfl); (case r3 => exact rfl))
      | ((with_reducible show SoundS _ _ _ (.For _ _ _ _ _) _); (with_reducible refine' w_for ?r1 ?_ ?_ ?_); (case r1 => exact rfl))
      | ((with_reducible show SoundS _ _ _ (.Expr _ _) _); (with_reducible refine' w_ex (by assumption) ?_ ?r1); (case r1 => exact rfl))
      | ((with_reducible show SoundC _ _ _ [] _); (with_reducible refine' w_cNone))
      | ((with_reducible show SoundC _ _ _ (_ :: _) _); (with_reducible refine' w_cSome ?_))
      | ((with_reducible show SoundT _ _ _ (.Name _ _) _); (with_reducible refine' w_tOne (by assumption) ?r1 ?r2); (case r1 => exact rfl); (case r2 => exact rfl))
      | ((with_reducible show SoundTC _ _ _ (.Name _ _) _); (with_reducible refine' w_tcOne (by assumption) ?r1 ?r2); (case r1 => exact rfl); (case r2 => exact rfl))
      | ((with_reducible show SoundI _ _ _ _ _ _); (with_reducible refine' w_it ?_))
      | ((with_reducible show SoundB _ _ _ (.Compare _ _ _ _) _); (with_reducible refine' soundB_cmp ?_ ?_))
      | ((with_reducible show SoundB _ _ _ (.UnaryOp .Not _ _) _); (with_reducible refine' soundB_not ?_))
      | ((with_reducible show SoundB _ _ _ (.BoolOp .And _ _) _); (with_reducible refine' soundB_and ?_))
      | ((with_reducible show SoundB _ _ _ (.BoolOp .Or _ _) _); (with_reducible refine' soundB_or ?_))
      | ((with_reducible show SoundB _ _ _ (_) _); (with_reducible refine' soundB_of ?_ ?r1); (case r1 => exact (fun _ => rfl)))
      | ((with_reducible show SoundE _ _ _ (.Name _ _) _); (with_reducible refine' w_loc (by assumption) ?r1 ?r2 ?r3); (case r1 => exact rfl); (case r2 => exact rfl); (case r3 => exact rfl))
      | ((with_reducible show SoundE _ _ _ (.Name _ _) _); (with_reducible refine' w_gint (by assumption) (by assumption) ?r1 ?r2); (case r1 => exact rfl); (case r2 => exact rfl))
      | ((with_reducible show SoundE _ _ _ (.Constant (.int _) _ _) _); (with_reducible refine' sound_int))
      | ((with_reducible show SoundE _ _ _ (.Constant (.str _) _ _) _); (with_reducible refine' sound_str))
      | ((with_reducible show SoundE _ _ _ (.Constant (.bool _) _ _) _); (with_reducible refine' sound_bool))
      | ((with_reducible show SoundE _ _ _ (.Tuple _ _ _) _); (with_reducible refine' sound_tup ?_))
      | ((with_reducible show SoundE _ _ _ (.List _ _) _); (with_reducible refine' sound_lst ?_))
      | ((with_reducible show SoundEs _ _ _ [] _); (with_reducible refine' w_es0))
      | ((with_reducible show SoundEs _ _ _ (_ :: _) _); (with_reducible refine' w_es1 ?r1 ?_ ?_); (case r1 => exact rfl))
      | ((with_reducible show SoundE _ _ _ (.Compare _ _ _ _) _); (with_reducible refine' sound_cmp ?_ ?_))
      | ((with_reducible show SoundOps _ _ _ [_] _ _); (with_reducible refine' SoundOps.one ?_ ?r1); (case r1 => exact rfl))
      | ((with_reducible show SoundOps _ _ _ (_ :: _ :: _) _ _); (with_reducible refine' SoundOps.cons ?_ ?_))
      | ((with_reducible show SoundE _ _ _ (.BinOp _ _ _ _) _); (with_reducible refine' sound_bin ?_ ?_))
      | ((with_reducible show SoundE _ _ _ (.UnaryOp .USub _ _) _); (with_reducible refine' sound_neg ?_))
      | ((with_reducible show SoundE _ _ _ (.UnaryOp .Not _ _) _); (with_reducible refine' sound_not ?_))
      | ((with_reducible show SoundE _ _ _ (.BoolOp .And _ _) _); (with_reducible refine' sound_and ?_))
      | ((with_reducible show SoundEBs _ _ _ [] _); (with_reducible refine' SoundEBs.nil))
      | ((with_reducible show SoundEBs _ _ _ (_ :: _) _); (with_reducible refine' SoundEBs.cons ?_ ?_ ?_))
      | ((with_reducible show SoundE _ _ _ (.Subscript _ (.Slice _ _ _ _) _) _); (with_reducible refine' sound_slice ?_ ?_ ?_))
      | ((with_reducible show SoundE _ _ _ (.Subscript _ _ _) _); (with_reducible refine' sound_idx ?_ ?_ ?r1); (case r1 => exact rfl))
      | ((with_reducible show SoundO _ _ _ none _); (with_reducible refine' w_oNone))
      | ((with_reducible show SoundO _ _ _ (some _) _); (with_reducible refine' w_oSome ?_))
      | ((with_reducible show SoundE _ _ _ (.ListComp _ _ _ _) _); (with_reducible refine' w_comp (by assumption) ?r1 ?r2 ?r3 ?_ (fun env' E' => ?_) (fun env' E' => ?_) (fun env' E' => ?_)); (case r1 => exact rfl); (case r2 => exact rfl); (case r3 => exact rfl))
      | ((with_reducible show SoundE _ _ _ (.Call (.Attribute _ "append" _) _ [] _) _); (with_reducible refine' w_append ?r1 ?r2 ?r3 ?_ ?_); (case r1 => exact (fun _ => rfl)); (case r2 => exact rfl); (case r3 => exact rfl))
      | ((with_reducible show SoundE _ _ _ (.Call (.Attribute _ "pop" _) _ [] _) _); (with_reducible refine' w_pop ?r1 ?r2 ?r3 ?_ ?_); (case r1 => exact (fun _ => rfl)); (case r2 => exact rfl); (case r3 => exact rfl))
      | ((with_reducible show SoundE _ _ _ (.Call (.Name "list" _) [.Call (.Name "range" _) _ _ _] [] _) _); (with_reducible refine' w_prim (by assumption) (by assumption) bi_list ?r1 sound_listR ?r2 ?_); (case r1 => exact (.inr ⟨_, rfl⟩)); (case r2 => exact rfl))
      | ((with_reducible show SoundE _ _ _ (.Call (.Name "len" _) _ [] _) _); (with_reducible refine' w_len (by assumption) (by assumption) bi_len ?r1 ?_); (case r1 => exact rfl))
      | ((with_reducible show SoundE _ _ _ (.Call (.Name "range" _) _ [] _) _); (with_reducible refine' w_range (by assumption) (by assumption) bi_range ?r1 ?_); (case r1 => exact rfl))
      | ((with_reducible show SoundE _ _ _ (.Call (.Name "list" _) _ [] _) _); (with_reducible refine' w_list (by assumption) (by assumption) bi_list ?r1 ?_); (case r1 => exact rfl))
      | ((with_reducible show SoundE _ _ _ (.Call (.Name "sorted" _) _ [] _) _); (with_reducible refine' w_prim (by assumption) (by assumption) bi_sorted ?r1 sound_sorted ?r2 ?_); (case r1 => exact (.inl ⟨_, rfl⟩)); (case r2 => exact rfl))
      | ((with_reducible show SoundE _ _ _ (.Call (.Name "max" _) _ [] _) _); (with_reducible refine' w_prim (by assumption) (by assumption) bi_max ?r1 sound_max ?r2 ?_); (case r1 => exact (.inl ⟨_, rfl⟩)); (case r2 => exact rfl))
      | ((with_reducible show SoundE _ _ _ (.Call (.Name "min" _) _ [] _) _); (with_reducible refine' w_prim (by assumption) (by assumption) bi_min ?r1 sound_min ?r2 ?_); (case r1 => exact (.inl ⟨_, rfl⟩)); (case r2 => exact rfl))
      | ((with_reducible show SoundE _ _ _ (.Call (.Name "sum" _) _ [] _) _); (with_reducible refine' w_prim (by assumption) (by assumption) bi_sum ?r1 sound_sum ?r2 ?_); (case r1 => exact (.inl ⟨_, rfl⟩)); (case r2 => exact rfl))
      | ((with_reducible show SoundE _ _ _ (.Call (.Name "tuple" _) _ [] _) _); (with_reducible refine' w_prim (by assumption) (by assumption) bi_tuple ?r1 sound_tuple ?r2 ?_); (case r1 => exact (.inr ⟨_, rfl⟩)); (case r2 => exact rfl))
      | ((with_reducible show SoundE _ _ _ (.Call (.Name "isinstance" _) [_, .Name "tuple" _] [] _) _); (with_reducible refine' w_isa .tuple (by assumption) (by assumption) bi_isinstance ?r1 bi_tuple ?r2 ?r3 ?_); (case r1 => exact rfl); (case r2 => exact rfl); (case r3 => exact rfl))
      | ((with_reducible show SoundE _ _ _ (.Call (.Name "isinstance" _) [_, .Name "bool" _] [] _) _); (with_reducible refine' w_isa .bool (by assumption) (by assumption) bi_isinstance ?r1 bi_bool ?r2 ?r3 ?_); (case r1 => exact rfl); (case r2 => exact rfl); (case r3 => exact rfl))
      | ((with_reducible show SoundE _ _ _ (.Call (.Name "isinstance" _) [_, .Name "list" _] [] _) _); (with_reducible refine' w_isa .list (by assumption) (by assumption) bi_isinstance ?r1 bi_list ?r2 ?r3 ?_); (case r1 => exact rfl); (case r2 => exact rfl); (case r3 => exact rfl))
      | ((with_reducible show SoundE _ _ _ (.Call (.Name _ _) _ [] _) _); (with_reducible refine' w_call (by assumption) (by assumption) ?r1 ?r2 ?r3 ?_); (case r1 => exact rfl); (case r2 => exact ⟨_, _, rfl, rfl⟩); (case r3 => exact rfl))
  have lb : (entL es).length = es.length := by simp [entL]
  have lk : (entL fs).length = fs.length := by simp [entL]
  have keep : ∀ σ', Ext σ σ' → Q (.ref pb) σ' := fun σ' e => q es σ' pb e (tiny_small se) (by omega) (e.list hb)
  walk_at "my run"
  refine compLf_as ns (fun p => !(decide (0 ≤ p) && decide (p < (fs.length : Int)))) _ (fun p => .int p) (fun p => [some (.ref pb), some (.ref pk), some (.tup [.tup (ms.map .int), .tup (ns.map .int)]), some (.int way), none, none, none, none, some (.int p)]) (fun x _ => rfl) (fun x _ y _ => rfl) ?_ ?_ trivial (by omega) ?_
  · intro p hp R hR
    walk_at "my run"
    cases c1 : decide (0 ≤ p) with
    | false =>
      rw [c1] at hR
      walk_at "my run"
      exact hR
    | true =>
      rw [c1] at hR
      walk_at "my run"
      exact hR
  · intro p hp _ R hR
    walk_at "my run"
    exact hR
  refine alf fun σ1 r1 e1 hr1 l1 => ?_
  have hb := e1.list hb
  have hk := e1.list hk
  have k1 : listAt r1 ((ns.filter fun p => !(decide (0 ≤ p) && decide (p < (fs.length : Int)))).map .int) σ1 := .inl l1
  walk_at "my run"
  cases hw : (way == 0) with
  | true =>
    walk_at "my run"
    exact keep _ e1
  | false =>
  walk_at "my run"
  refine alf fun σ2 r2 e2 hr2 l2 => ?_
  have hb := e2.list hb
  have hk := e2.list hk
  have k1 := e2.list k1
  have e02 := e1.trans e2
  refine q_neD (rd_ints k1) (.list (.inl l2) .nil) (dok_ints _) (dok_ints []) ?_
  rw [eqv_nilL]
  cases hfar : ((ns.filter fun p => !(decide (0 ≤ p) && decide (p < (fs.length : Int)))).map PyData.int).isEmpty with
  | false =>
    walk_at "my run"
    exact keep _ e02
  | true =>
  have hin : ∀ p ∈ ns, 0 ≤ p ∧ p < (fs.length : Int) := fun p hp => by
    simp only [List.isEmpty_iff, List.map_eq_nil_iff, List.filter_eq_nil_iff] at hfar
    have := hfar p hp
    simpa using this
  walk_at "my run"
  refine shaped_ok G (by omega) (.inl rfl) (by omega) ?_
  cases hS : shapedB ms es.length with
  | false =>
    walk_at "my run"
    exact keep _ e02
  | true =>
  have hR : risingB ms es.length = true := by unfold shapedB at hS; simp only [Bool.and_eq_true] at hS; exact hS.2
  have i1 := rising_in hR
  have a1 : ∀ p ∈ ms, atIdx (entL es) p = some (.tup [.int (dayAt es p), .int (centsAt es p)]) := fun p hp => at_ent (i1 p hp).1 (i1 p hp).2
  have a2 : ∀ p ∈ ns, atIdx (entL fs) p = some (.tup [.int (dayAt fs p), .int (centsAt fs p)]) := fun p hp => at_ent (hin p hp).1 (hin p hp).2
  cases ms with
  | nil => exfalso; unfold shapedB at hS; simp at hS
  | cons m0 mr =>
  have hmr : mr.length ≤ 49 := by simp at hm; omega
  walk_at "my run"
  refine compL_map ns _ (fun p => .int (centsAt fs p)) (fun p => [some (.ref pb), some (.ref pk), some (.tup [.tup ((m0 :: mr).map .int), .tup (ns.map .int)]), some (.int way), some (.ref r1), some (.int m0), none, none, some (.int p)]) (fun x => rfl) (fun x y => rfl) ?_ trivial (by omega) ?_
  · intro p hp R hR
    have ap := a2 p hp
    walk_at "my run"
    exact hR
  refine alf fun σ3 r3 e3 hr3 l3 => ?_
  have hb := e3.list hb
  walk_at "my run"
  refine q_sumL (ns := ns.map (centsAt fs)) (.inl (by rw [l3, List.map_map]; rfl)) (sum_small (tiny_small sf) (by omega)) ?_
  walk_at "my run"
  refine q_slT (k := 1) (by omega) (by simp) ?_
  rw [← List.map_drop]
  show itemsA (.tup (mr.map .int)) _ _
  walk_at "my run"
  refine compL_map mr _ (fun p => .int (centsAt es p)) (fun p => [some (.ref pb), some (.ref pk), some (.tup [.tup ((m0 :: mr).map .int), .tup (ns.map .int)]), some (.int way), some (.ref r1), some (.int m0), none, none, some (.int p)]) (fun x => rfl) (fun x y => rfl) ?_ trivial (by omega) ?_
  · intro p hp R hR
    have ap := a1 p (by simp [hp])
    walk_at "my run"
    exact hR
  refine alf fun σ4 r4 e4 hr4 l4 => ?_
  have hb := e4.list hb
  walk_at "my run"
  refine q_sumL (ns := mr.map (centsAt es)) (.inl (by rw [l4, List.map_map]; rfl)) (sum_small (tiny_small se) (by omega)) ?_
  have e04 := e02.trans (e3.trans e4)
  have b1 := tiny_sum sf ns
  have b2 := tiny_sum se mr
  generalize (ns.map (centsAt fs)).sum = t1 at b1
  generalize (mr.map (centsAt es)).sum = t2 at b2
  walk_at "my rni"
  refine q_ifJ (fun l' σ' => σ' = σ4 ∧ ∃ t : Int, t.natAbs ≤ 100000000000 ∧ l' = [some (.ref pb), some (.ref pk), some (.tup [.tup ((m0 :: mr).map .int), .tup (ns.map .int)]), some (.int way), some (.ref r1), some (.int m0), some (.int t)]) (fun S' kr kn => ?_) ?_
  ·
    walk_at "my run"
    split
    ·
      walk_at "my run"
      exact kn _ _ ⟨rfl, _, by omega, rfl⟩
    ·
      walk_at "my run"
      exact kn _ _ ⟨rfl, _, by omega, rfl⟩
  rintro l' σ' ⟨rfl, t, ht, rfl⟩
  walk_at "my run"
  cases h0 : (t == 0) with
  | true =>
    walk_at "my run"
    exact keep _ e04
  | false =>
  have am := a1 m0 (by simp)
  walk_at "my run"
  obtain ⟨es1, em1, hl1, hi1⟩ := cut_map (f := ent) es none (some m0)
  refine alf fun σ5 r5 e5 hr5 l5 => ?_
  have l5 : σ5 r5 = some (.list (es1.map ent)) := by rw [l5]; unfold entL; rw [em1]
  have hb := e5.list hb
  walk_at "my run"
  refine alf fun σ6 r6 e6 hr6 l6 => ?_
  have hb := e6.list hb
  refine addL_of (.inl (e6 _ _ l5)) (.inl l6) (by rw [List.length_map]; simp; omega) fun σ7 r7 e7 hr7 l7 => ?_
  have hb := e7.list hb
  walk_at "my run"
  obtain ⟨es2, em2, hl2, hi2⟩ := cut_map (f := ent) es (some (m0 + 1)) none
  refine alf fun σ8 r8 e8 hr8 l8 => ?_
  have l8 : σ8 r8 = some (.list (es2.map ent)) := by rw [l8]; unfold entL; rw [em2]
  refine addL_of (.inl (e8 _ _ l7)) (.inl l8) (by simp; omega) fun σ9 r9 e9 hr9 l9 => ?_
  walk_at "my run"
  refine q (es1 ++ [(dayAt es m0, t)] ++ es2) _ _ (e04.trans (e5.trans (e6.trans (e7.trans (e8.trans e9))))) (fun e he => ?_) (by simp; omega) (.inl ?_)
  · rcases List.mem_append.mp he with he | he
    · rcases List.mem_append.mp he with he | he
      · have := se e (hi1 e he); omega
      · simp at he; rw [he]; exact ht
    · have := se e (hi2 e he); omega
  · rw [l9]; simp [entL, ent]
end
end Mine

set_option maxRecDepth 100000
set_option linter.unusedVariables false
set_option autoImplicit false
set_option linter.unusedSimpArgs false
set_option maxHeartbeats 8000000
set_option pp.deepTerms false
namespace Mine
open PySem PyProof.Rows PySem.SeqAt PySem.W
section
variable {X : Cx} {P : Params} {Q : Post} {Z : XP} {σ : AHeap} {d : Nat}
theorem rd_ents {σ : AHeap} {p : Addr} {es : List (Int × Int)} (h : listAt p (entL es) σ) : Rd σ (.ref p) (.list (es.map fun e => .tuple [.int e.1, .int e.2])) :=
  .list h (rdL_map (fun i => .tup (.cons (.int _) (.cons (.int _) .nil))) _)
theorem dok_ents (es : List (Int × Int)) : DOk (.list (es.map fun e => .tuple [.int e.1, .int e.2])) := dok_list fun d hd => by
  obtain ⟨i, _, rfl⟩ := List.mem_map.mp hd
  simp [PyData.canLay0, PyData.canLayAll0, PyData.depth, PyData.depthAll]
theorem ents_of {α : Type} : ∀ {xs : List α} {vs : List AV}, All2 (fun _ v => ∃ e : Int × Int, v = ent e ∧ e.2.natAbs ≤ 1000000000) xs vs → ∃ es, vs = entL es ∧ tiny es ∧ es.length = xs.length
  | _, _, .nil => ⟨[], rfl, fun e h => (nomatch h), rfl⟩
  | _, _, .cons h r => by
    obtain ⟨e, rfl, he⟩ := h
    obtain ⟨es, rfl, ht, hl⟩ := ents_of r
    exact ⟨e :: es, rfl, fun x hx => (List.mem_cons.mp hx).elim (fun q => q ▸ he) (ht x), by simp [hl]⟩
def pairsL : List AV := [.tup [.int 1, .int 1], .tup [.int 1, .int 2], .tup [.int 1, .int 3], .tup [.int 2, .int 1], .tup [.int 3, .int 1], .tup [.int 2, .int 2], .tup [.int 1, .int 4], .tup [.int 0, .int 1], .tup [.int 2, .int 2], .tup [.int 1, .int 1]]
theorem ten (k : Nat) (h : k < 10) : ∃ a b : Nat, atIdx pairsL (k : Int) = some (.tup [.int a, .int b]) := by
  have e : pairsL = ([(1, 1), (1, 2), (1, 3), (2, 1), (3, 1), (2, 2), (1, 4), (0, 1), (2, 2), (1, 1)] : List (Nat × Nat)).map fun p => .tup [.int p.1, .int p.2] := rfl
  rw [at_nat, e, List.getElem?_map, List.getElem?_eq_getElem (by simpa using h)]
  exact ⟨_, _, rfl⟩
theorem rd_marks {σ : AHeap} {p : Addr} {ms ns : List Int} (h : listAt p (ms.map markB ++ ns.map markK) σ) : Rd σ (.ref p) (.list (ms.map (fun p => .tuple [.str "bank", .int p]) ++ ns.map fun p => .tuple [.str "book", .int p])) := by
  refine .list h ?_
  have gen : ∀ (xs ys : List AV) (ds es : List PyData), RdL σ xs ds → RdL σ ys es → RdL σ (xs ++ ys) (ds ++ es) := by
    intro xs
    induction xs with
    | nil => intro ys ds es h1 h2; cases h1; exact h2
    | cons x xs ih => intro ys ds es h1 h2; cases h1 with | cons a b => exact .cons a (ih _ _ _ b h2)
  exact gen _ _ _ _ (rdL_map (fun i => .tup (.cons (.str _) (.cons (.int _) .nil))) _) (rdL_map (fun i => .tup (.cons (.str _) (.cons (.int _) .nil))) _)
theorem dok_marks (ms ns : List Int) : DOk (.list (ms.map (fun p => .tuple [.str "bank", .int p]) ++ ns.map fun p => .tuple [.str "book", .int p])) := dok_list fun d hd => by
  rcases List.mem_append.mp hd with h | h <;> obtain ⟨i, _, rfl⟩ := List.mem_map.mp h <;> simp [PyData.canLay0, PyData.canLayAll0, PyData.depth, PyData.depthAll, d_bank, d_book]

theorem compLf_list {I : AHeap → Prop} {t : Tgt} {c elt : AE} {d : Nat} {Q : List AV → AHeap → Prop} {σ : AHeap} (xs : List AV) (p : AV → Bool) (f : AV → AV) (lx : AV → Loc) {l : Loc} (h0 : ∀ x ∈ xs, bindT t x l = some (lx x)) (h1 : ∀ x ∈ xs, ∀ y ∈ xs, bindT t x (lx y) = some (lx x))
    (hc : ∀ x ∈ xs, ∀ R : Bool → AHeap → Prop, R (p x) σ → c d (lx x) (isB R) (fun _ _ => False) σ)
    (he : ∀ x ∈ xs, p x = true → ∀ R : Post, R (f x) σ → elt d (lx x) R (fun _ _ => False) σ) (hI : I σ) (hl : xs.length ≤ 1000000) (q : Q ((xs.filter p).map f) σ) : compL I t (some c) elt d Q xs [] l σ := by
  have := compLf_as (I := I) (t := t) (c := c) (elt := elt) (d := d) (Q := Q) (σ := σ) xs p id f lx h0 h1 hc he hI hl q
  simpa using this
theorem law_ok (G : Gd X (hd.heap_39 P)) (hd : d < 590) {p : Addr} {ns : List Int} (hp : listAt p (ns.map .int) σ) (q : ∀ σ', Q (.bool true) σ') : CallOk X 88 d [.ref p] Q Z σ := by
  refine' callK (m := _) ["_law_script"] [("_law_script", 0), ("_law_far", 1), ("_law_scale", 2), ("_law_span", 3), ("_law_sizes", 4), ("_law_banks", 5), ("_law_books", 6), ("_law_pairs", 7), ("_law_counts", 8), ("_law_ones", 9), ("_law_cell", 10), ("_law_others", 11), ("_law_match", 12), ("_law_one", 13), ("_law_other", 14), ("_law_found", 15), ("_law_told", 16), ("_law_due_here", 17)] G rfl rfl (bind1 fun a => rfl) rfl rfl rfl rfl rfl rfl rfl rfl (fun env E => ?snd) (by omega) rfl ?bd
  case snd =>
    repeat' first
      | ((with_reducible show SoundSs _ _ _ [] _); (with_reducible refine' sound_nil))
      | ((with_reducible show SoundSs _ _ _ (_ :: _) _); (with_reducible refine' sound_cons ?_ ?_))
      | ((with_reducible show SoundS _ _ _ (.If _ _ _ _) _); (with_reducible refine' sound_if ?_ ?_ ?_))
      | ((with_reducible show SoundS _ _ _ (.Return (some _) _) _); (with_reducible refine' sound_ret ?_))
      | ((with_reducible show SoundS _ _ _ (.Assign [.Name _ _] (.ListComp _ _ _ _) _) _); (with_reducible refine' w_setComp (by assumption) ?r1 ?r2 ?r3 ?r4 ?r5 ?_ (fun env' E' => ?_) (fun env' E' => ?_) (fun env' E' => ?_)); (case r1 => exact rfl); (case r2 => exact rfl); (case r3 => exact rfl); (case r4 => exact rfl); (case r5 => exact rfl))
      | ((with_reducible show SoundS _ _ _ (.Assign [.Name _ _] _ _) _); (with_reducible refine' w_set (by assumption) ?r1 ?r2 ?_ ?r3); (case r1 => exact rfl); (case r2 => exact rfl); (case r3 => exact rfl))
      | ((with_reducible show SoundS _ _ _ (.For _ _ _ _ _) _); (with_reducible refine' w_for ?r1 ?_ ?_ ?_); (case r1 => exact rfl))
      | ((with_reducible show SoundS _ _ _ (.Expr _ _) _); (with_reducible refine' w_ex (by assumption) ?_ ?r1); (case r1 => exact rfl))
      | ((with_reducible show SoundC _ _ _ [] _); (with_reducible refine' w_cNone))
      | ((with_reducible show SoundC _ _ _ (_ :: _) _); (with_reducible refine' w_cSome ?_))
      | ((with_reducible show SoundT _ _ _ (.Name _ _) _); (with_reducible refine' w_tOne (by assumption) ?r1 ?r2); (case r1 => exact rfl); (case r2 => exact rfl))
      | ((with_reducible show SoundTC _ _ _ (.Name _ _) _); (with_reducible refine' w_tcOne (by assumption) ?r1 ?r2); (case r1 => exact rfl); (case r2 => exact rfl))
      | ((with_reducible show SoundI _ _ _ _ _ _); (with_reducible refine' w_it ?_))
      | ((with_reducible show SoundB _ _ _ (.Compare _ _ _ _) _); (with_reducible refine' soundB_cmp ?_ ?_))
      | ((with_reducible show SoundB _ _ _ (.UnaryOp .Not _ _) _); (with_reducible refine' soundB_not ?_))
      | ((with_reducible show SoundB _ _ _ (.BoolOp .And _ _) _); (with_reducible refine' soundB_and ?_))
      | ((with_reducible show SoundB _ _ _ (.BoolOp .Or _ _) _); (with_reducible refine' soundB_or ?_))
      | ((with_reducible show SoundB _ _ _ (_) _); (with_reducible refine' soundB_of ?_ ?r1); (case r1 => exact (fun _ => rfl)))
      | ((with_reducible show SoundE _ _ _ (.Name _ _) _); (with_reducible refine' w_loc (by assumption) ?r1 ?r2 ?r3); (case r1 => exact rfl); (case r2 => exact rfl); (case r3 => exact rfl))
      | ((with_reducible show SoundE _ _ _ (.Name _ _) _); (with_reducible refine' w_gint (by assumption) (by assumption) ?r1 ?r2); (case r1 => exact rfl); (case r2 => exact rfl))
      | ((with_reducible show SoundE _ _ _ (.Constant (.int _) _ _) _); (with_reducible refine' sound_int))
      | ((with_reducible show SoundE _ _ _ (.Constant (.str _) _ _) _); (with_reducible refine' sound_str))
      | ((with_reducible show SoundE _ _ _ (.Constant (.bool _) _ _) _); (with_reducible refine' sound_bool))
      | ((with_reducible show SoundE _ _ _ (.Tuple _ _ _) _); (with_reducible refine' sound_tup ?_))
      | ((with_reducible show SoundE _ _ _ (.List _ _) _); (with_reducible refine' sound_lst ?_))
      | ((with_reducible show SoundEs _ _ _ [] _); (with_reducible refine' w_es0))
      | ((with_reducible show SoundEs _ _ _ (_ :: _) _); (with_reducible refine' w_es1 ?r1 ?_ ?_); (case r1 => exact rfl))
      | ((with_reducible show SoundE _ _ _ (.Compare _ _ _ _) _); (with_reducible refine' sound_cmp ?_ ?_))
      | ((with_reducible show SoundOps _ _ _ [_] _ _); (with_reducible refine' SoundOps.one ?_ ?r1); (case r1 => exact rfl))
      | ((with_reducible show SoundOps _ _ _ (_ :: _ :: _) _ _); (with_reducible refine' SoundOps.cons ?_ ?_))
      | ((with_reducible show SoundE _ _ _ (.BinOp _ _ _ _) _); (with_reducible refine' sound_bin ?_ ?_))
      | ((with_reducible show SoundE _ _ _ (.UnaryOp .USub _ _) _); (with_reducible refine' sound_neg ?_))
      | ((with_reducible show SoundE _ _ _ (.UnaryOp .Not _ _) _); (with_reducible refine' sound_not ?_))
      | ((with_reducible show SoundE _ _ _ (.BoolOp .And _ _) _); (with_reducible refine' sound_and ?_))
      | ((with_reducible show SoundEBs _ _ _ [] _); (with_reducible refine' SoundEBs.nil))
      | ((with_reducible show SoundEBs _ _ _ (_ :: _) _); (with_reducible refine' SoundEBs.cons ?_ ?_ ?_))
      | ((with_reducible show SoundE _ _ _ (.Subscript _ (.Slice _ _ _ _) _) _); (with_reducible refine' sound_slice ?_ ?_ ?_))
      | ((with_reducible show SoundE _ _ _ (.Subscript _ _ _) _); (with_reducible refine' sound_idx ?_ ?_ ?r1); (case r1 => exact rfl))
      | ((with_reducible show SoundO _ _ _ none _); (with_reducible refine' w_oNone))
      | ((with_reducible show SoundO _ _ _ (some _) _); (with_reducible refine' w_oSome ?_))
      | ((with_reducible show SoundE _ _ _ (.ListComp _ _ _ _) _); (with_reducible refine' w_comp (by assumption) ?r1 ?r2 ?r3 ?_ (fun env' E' => ?_) (fun env' E' => ?_) (fun env' E' => ?_)); (case r1 => exact rfl); (case r2 => exact rfl); (case r3 => exact rfl))
      | ((with_reducible show SoundE _ _ _ (.Call (.Attribute _ "append" _) _ [] _) _); (with_reducible refine' w_append ?r1 ?r2 ?r3 ?_ ?_); (case r1 => exact (fun _ => rfl)); (case r2 => exact rfl); (case r3 => exact rfl))
      | ((with_reducible show SoundE _ _ _ (.Call (.Attribute _ "pop" _) _ [] _) _); (with_reducible refine' w_pop ?r1 ?r2 ?r3 ?_ ?_); (case r1 => exact (fun _ => rfl)); (case r2 => exact rfl); (case r3 => exact rfl))
      | ((with_reducible show SoundE _ _ _ (.Call (.Name "list" _) [.Call (.Name "range" _) _ _ _] [] _) _); (with_reducible refine' w_prim (by assumption) (by assumption) bi_list ?r1 sound_listR ?r2 ?_); (case r1 => exact (.inr ⟨_, rfl⟩)); (case r2 => exact rfl))
      | ((with_reducible show SoundE _ _ _ (.Call (.Name "len" _) _ [] _) _); (with_reducible refine' w_len (by assumption) (by assumption) bi_len ?r1 ?_); (case r1 => exact rfl))
      | ((with_reducible show SoundE _ _ _ (.Call (.Name "range" _) _ [] _) _); (with_reducible refine' w_range (by assumption) (by assumption) bi_range ?r1 ?_); (case r1 => exact rfl))
      | ((with_reducible show SoundE _ _ _ (.Call (.Name "list" _) _ [] _) _); (with_reducible refine' w_list (by assumption) (by assumption) bi_list ?r1 ?_); (case r1 => exact rfl))
      | ((with_reducible show SoundE _ _ _ (.Call (.Name "sorted" _) _ [] _) _); (with_reducible refine' w_prim (by assumption) (by assumption) bi_sorted ?r1 sound_sorted ?r2 ?_); (case r1 => exact (.inl ⟨_, rfl⟩)); (case r2 => exact rfl))
      | ((with_reducible show SoundE _ _ _ (.Call (.Name "max" _) _ [] _) _); (with_reducible refine' w_prim (by assumption) (by assumption) bi_max ?r1 sound_max ?r2 ?_); (case r1 => exact (.inl ⟨_, rfl⟩)); (case r2 => exact rfl))
      | ((with_reducible show SoundE _ _ _ (.Call (.Name "min" _) _ [] _) _); (with_reducible refine' w_prim (by assumption) (by assumption) bi_min ?r1 sound_min ?r2 ?_); (case r1 => exact (.inl ⟨_, rfl⟩)); (case r2 => exact rfl))
      | ((with_reducible show SoundE _ _ _ (.Call (.Name "sum" _) _ [] _) _); (with_reducible refine' w_prim (by assumption) (by assumption) bi_sum ?r1 sound_sum ?r2 ?_); (case r1 => exact (.inl ⟨_, rfl⟩)); (case r2 => exact rfl))
      | ((with_reducible show SoundE _ _ _ (.Call (.Name "tuple" _) _ [] _) _); (with_reducible refine' w_prim (by assumption) (by assumption) bi_tuple ?r1 sound_tuple ?r2 ?_); (case r1 => exact (.inr ⟨_, rfl⟩)); (case r2 => exact rfl))
      | ((with_reducible show SoundE _ _ _ (.Call (.Name "isinstance" _) [_, .Name "tuple" _] [] _) _); (with_reducible refine' w_isa .tuple (by assumption) (by assumption) bi_isinstance ?r1 bi_tuple ?r2 ?r3 ?_); (case r1 => exact rfl); (case r2 => exact rfl); (case r3 => exact rfl))
      | ((with_reducible show SoundE _ _ _ (.Call (.Name "isinstance" _) [_, .Name "bool" _] [] _) _); (with_reducible refine' w_isa .bool (by assumption) (by assumption) bi_isinstance ?r1 bi_bool ?r2 ?r3 ?_); (case r1 => exact rfl); (case r2 => exact rfl); (case r3 => exact rfl))
      | ((with_reducible show SoundE _ _ _ (.Call (.Name "isinstance" _) [_, .Name "list" _] [] _) _); (with_reducible refine' w_isa .list (by assumption) (by assumption) bi_isinstance ?r1 bi_list ?r2 ?r3 ?_); (case r1 => exact rfl); (case r2 => exact rfl); (case r3 => exact rfl))
      | ((with_reducible show SoundE _ _ _ (.Call (.Name _ _) _ [] _) _); (with_reducible refine' w_call (by assumption) (by assumption) ?r1 ?r2 ?r3 ?_); (case r1 => exact rfl); (case r2 => exact ⟨_, _, rfl, rfl⟩); (case r3 => exact rfl))
  have cell : ∀ {k : Int} {σ' : AHeap} {Q' : Post} {Z' : XP}, 0 ≤ k → Ext σ σ' → Q' (.int (ns.getD k.toNat 0)) σ' → CallOk X 45 (d + 1) [.ref p, .int k] Q' Z' σ' := fun h0 e q => cell_at_ok G (by omega) h0 (e.list hp) q
  have z := Ext.refl σ
  walk_at "my run"
  refine cell (by omega) z ?_
  walk_at "my run"
  refine cell (by omega) z ?_
  walk_at "my run"
  refine cell (by omega) z ?_
  walk_at "my run"
  generalize ns.getD (Int.toNat 1) 0 = c1
  obtain ⟨x1, hx1, hx1'⟩ := fmod_nat (c1.fdiv 3) 2 (by omega)
  obtain ⟨y1, hy1, hy1'⟩ := fmod_nat (c1.fdiv 6) 60000000 (by omega)
  have hx1 : (c1.fdiv 3).fmod 2 = (x1 : Int) := hx1
  have hy1 : (c1.fdiv 6).fmod (6 * 10 ^ Int.toNat 7) = (y1 : Int) := hy1
  rw [hx1, hy1]
  refine q_mulL (by omega) ?_
  walk_at "my run"
  have hsc : 0 ≤ 1 + (x1 : Int) * y1 ∧ 1 + (x1 : Int) * y1 ≤ 60000001 := by
    rcases (by omega : x1 = 0 ∨ x1 = 1) with rfl | rfl
    · simp
    · simp; omega
  generalize (c1.fmod 3 == 1) = far
  generalize 1 + (x1 : Int) * y1 = sc at hsc
  refine cell (by omega) z ?_
  walk_at "my rni"
  refine q_ifJ (fun l' σ' => σ' = σ ∧ ∃ span : Int, l' = [some (.ref p), some (.bool far), some (.int sc), some (.int span), none, none, none, none, none, none, none, none, none, none, none, none, none, none]) (fun S' kr kn => ?_) ?_
  ·
    walk_at "my run"
    refine cell (by omega) z ?_
    walk_at "my run"
    split
    ·
      walk_at "my run"
      exact kn _ _ ⟨rfl, _, rfl⟩
    ·
      walk_at "my run"
      exact kn _ _ ⟨rfl, _, rfl⟩
  rintro l' σ' ⟨rfl, span, rfl⟩
  walk_at "my run"
  refine cell (by omega) z ?_
  walk_at "my run"
  refine cell (by omega) z ?_
  walk_at "my run"
  obtain ⟨a, ha, ha'⟩ := fmod_nat (ns.getD (Int.toNat 0) 0) 6 (by omega)
  obtain ⟨b, hb, hb'⟩ := fmod_nat ((ns.getD (Int.toNat 0) 0).fdiv 6) 6 (by omega)
  have ha : 1 + (ns.getD (Int.toNat 0) 0).fmod 6 = ((a + 1 : Nat) : Int) := by have : (ns.getD (Int.toNat 0) 0).fmod 6 = (a : Int) := ha; omega
  have hb : 1 + ((ns.getD (Int.toNat 0) 0).fdiv 6).fmod 6 = ((b + 1 : Nat) : Int) := by have : ((ns.getD (Int.toNat 0) 0).fdiv 6).fmod 6 = (b : Int) := hb; omega
  rw [ha, hb]
  generalize hna : a + 1 = na
  generalize hnb : b + 1 = nb
  have hna' : na ≤ 6 := by omega
  have hnb' : nb ≤ 6 := by omega
  walk_at "my run"
  refine compL_ext _ (fun i : Nat => [some (.ref p), some (.bool far), some (.int sc), some (.int span), some (.tup [.int na, .int nb]), none, none, none, none, none, none, none, none, none, none, none, none, none, none, some (.int i)]) (fun _ v => ∃ e : Int × Int, v = ent e ∧ e.2.natAbs ≤ 1000000000) (fun x y => rfl) (List.range na) [] (fun x => rfl) ?_ (fun _ _ => trivial) (by simp; omega) ?_
  · intro i hi σ1 e1 R hR
    walk_at "my run"
    refine cell (by omega) e1 ?_
    walk_at "my run"
    exact entry_ok G (by omega) hsc fun e σ2 e2 he => hR _ _ e2 ⟨e, rfl, he⟩
  intro vs σ1 e1 hall
  obtain ⟨es, rfl, te, hle⟩ := ents_of hall
  rw [List.length_range] at hle
  clear hall
  refine alf fun σ2 r5 e2 hr5 l5 => ?_
  have e02 := e1.trans e2
  have k5 : listAt r5 (entL es) σ2 := .inl l5
  walk_at "my run"
  refine compL_ext _ (fun i : Nat => [some (.ref p), some (.bool far), some (.int sc), some (.int span), some (.tup [.int na, .int nb]), some (.ref r5), none, none, none, none, none, none, none, none, none, none, none, none, none, some (.int i)]) (fun _ v => ∃ e : Int × Int, v = ent e ∧ e.2.natAbs ≤ 1000000000) (fun x y => rfl) (List.range nb) [] (fun x => rfl) ?_ (fun _ _ => trivial) (by simp; omega) ?_
  · intro i hi σ1 e1 R hR
    walk_at "my run"
    refine cell (by omega) (e02.trans e1) ?_
    walk_at "my run"
    exact entry_ok G (by omega) hsc fun e σ2 e2 he => hR _ _ e2 ⟨e, rfl, he⟩
  intro vs σ3 e3 hall
  obtain ⟨fs, rfl, tf, hlf⟩ := ents_of hall
  rw [List.length_range] at hlf
  clear hall
  refine alf fun σ4 r6 e4 hr6 l6 => ?_
  have e04 := e02.trans (e3.trans e4)
  have k5 := (e3.trans e4).list k5
  have k6 : listAt r6 (entL fs) σ4 := .inl l6
  clear e02 e1 e2 e3 e4 l5 l6 hr5 hr6
  walk_at "my run"
  refine alf fun σ5 r7 e5 hr7 l7 => ?_
  have l7 : listAt r7 pairsL σ5 := .inl l7
  have e05 := e04.trans e5
  have k5 := e5.list k5
  have k6 := e5.list k6
  clear e04 e5 hr7
  walk_at "my run"
  refine cell (by omega) e05 ?_
  walk_at "my run"
  obtain ⟨m3, h3, h3'⟩ := fmod_nat (ns.getD (Int.toNat 3) 0) 10 (by omega)
  have h3 : (ns.getD (Int.toNat 3) 0).fmod 10 = (m3 : Int) := h3
  obtain ⟨ca, cb, hc⟩ := ten m3 h3'
  rw [h3]
  refine q_listIdx l7 hc ?_
  walk_at "my run"
  refine cell (by omega) e05 ?_
  walk_at "my run"
  refine places_ok G (by omega) (by omega) fun os σ6 r8 e6 hl8 h08 l8 => ?_
  have e06 := e05.trans e6
  have k5 := e6.list k5
  have k6 := e6.list k6
  have l8 : listAt r8 (os.map .int) σ6 := .inl l8
  clear e05 e6
  walk_at "my run"
  refine cell (by omega) e06 ?_
  walk_at "my run"
  refine bent_ok G (by omega) l8 hl8 h08 fun ones σ7 r9 e7 hl9 l9 => ?_
  have e07 := e06.trans e7
  have k5 := e7.list k5
  have k6 := e7.list k6
  clear e06 e7 l8
  walk_at "my run"
  refine cell (by omega) e07 ?_
  walk_at "my run"
  generalize (ns.getD (Int.toNat 6) 0).fdiv 10 = c6
  refine cell (by omega) e07 ?_
  walk_at "my run"
  refine places_ok G (by omega) (by omega) fun os σ8 r10 e8 hl10 h010 l10 => ?_
  have e08 := e07.trans e8
  have k5 := e8.list k5
  have k6 := e8.list k6
  have l9 := e8.list l9
  have l10 : listAt r10 (os.map .int) σ8 := .inl l10
  clear e07 e8
  walk_at "my run"
  refine bent_ok G (by omega) l10 hl10 h010 fun others σ9 r11 e9 hl11 l11 => ?_
  have e09 := e08.trans e9
  have k5 := e9.list k5
  have k6 := e9.list k6
  have l9 := e9.list l9
  clear e08 e9 l10
  walk_at "my run"
  refine made_even_ok G (by omega) k5 k6 te tf (by omega) hl9 hl11 fun es' σ10 r12 e10 se' hle' l12 => ?_
  have k6 := e10.list k6
  have l9 := e10.list l9
  have l11 := e10.list l11
  clear e09 e10 k5
  walk_at "my run"
  refine list_of l12 fun σ11 r13 e11 hr13 l13 => ?_
  have k6 := e11.list k6
  have l9 := e11.list l9
  have l11 := e11.list l11
  have l12 := e11.list l12
  walk_at "my run"
  refine list_of k6 fun σ12 r14 e12 hr14 l14 => ?_
  have k6 := e12.list k6
  have l9 := e12.list l9
  have l11 := e12.list l11
  have l12 := e12.list l12
  have l13 : listAt r13 (entL es') σ12 := e12.list (.inl l13)
  have l14 : listAt r14 (entL fs) σ12 := .inl l14
  clear e11 e12 hr13 hr14
  walk_at "my run"
  refine fits_ok G (by omega) l13 l14 se' (tiny_small tf) (by omega) (by omega) fun σ13 e13 => ?_
  have k6 := e13.list k6
  have l9 := e13.list l9
  have l11 := e13.list l11
  have l12 := e13.list l12
  have l13 := e13.list l13
  have l14 := e13.list l14
  clear e13
  walk_at "my run"
  refine q_neSame (rd_ents l13) (rd_ents l12) (dok_ents es') ?_
  walk_at "my run"
  refine q_neSame (rd_ents l14) (rd_ents k6) (dok_ents fs) ?_
  walk_at "my run"
  refine due_ok G (by omega) l12 k6 se' (tiny_small tf) (by omega) (by omega) fun σ14 e14 => ?_
  have l9 := e14.list l9
  have l11 := e14.list l11
  clear e14
  rw [fits_due]
  walk_at "my run"
  rw [show (!(dueB es' fs span ones others == dueB es' fs span ones others)) = false by simp]
  walk_at "my run"
  refine shaped_ok G (by omega) (.inr ⟨_, rfl, l9⟩) (by omega) ?_
  cases s1 : shapedB ones na with
  | false =>
    walk_at "my run"
    exact q _
  | true =>
  walk_at "my run"
  refine shaped_ok G (by omega) (.inr ⟨_, rfl, l11⟩) (by omega) ?_
  cases s2 : shapedB others nb with
  | false =>
    walk_at "my run"
    exact q _
  | true =>
  walk_at "my run"
  refine marks_of_ok G (by omega) (by omega) (by omega) fun σ15 r16 e15 hr16 l16 => ?_
  have l9 := e15.list l9
  have l11 := e15.list l11
  have l16 : listAt r16 (ones.map markB ++ others.map markK) σ15 := .inl l16
  clear e15 hr16
  walk_at "my run"
  refine compL_map ones _ markB (fun x => [some (.ref p), some (.bool far), some (.int sc), some (.int span), some (.tup [.int na, .int nb]), some (.ref r12), some (.ref r6), some (.ref r7), some (.tup [.int ca, .int cb]), some (.ref r9), some (.int c6), some (.ref r11), some (.tup [.tup (ones.map .int), .tup (others.map .int)]), some (.ref r13), some (.ref r14), some (.bool (dueB es' fs span ones others)), some (.ref r16), none, none, some (.int x)]) (fun x => rfl) (fun x y => rfl) ?_ l9 (by omega) ?_
  · intro x hx R hR
    walk_at "my run"
    exact hR
  refine alf fun σ16 r17 e16 hr17 l17 => ?_
  have l11 := e16.list l11
  have l16 := e16.list l16
  walk_at "my run"
  refine compL_map others _ markK (fun x => [some (.ref p), some (.bool far), some (.int sc), some (.int span), some (.tup [.int na, .int nb]), some (.ref r12), some (.ref r6), some (.ref r7), some (.tup [.int ca, .int cb]), some (.ref r9), some (.int c6), some (.ref r11), some (.tup [.tup (ones.map .int), .tup (others.map .int)]), some (.ref r13), some (.ref r14), some (.bool (dueB es' fs span ones others)), some (.ref r16), none, none, some (.int x)]) (fun x => rfl) (fun x y => rfl) ?_ l11 (by omega) ?_
  · intro x hx R hR
    walk_at "my run"
    exact hR
  refine alf fun σ17 r18 e17 hr18 l18 => ?_
  refine addL_of (.inl (e17 _ _ l17)) (.inl l18) (by rw [List.length_map, List.length_map]; omega) fun σ18 r19 e18 hr19 l19 => ?_
  have l16 := (e17.trans e18).list l16
  have l19 : listAt r19 (ones.map markB ++ others.map markK) σ18 := .inl l19
  clear e16 e17 e18 hr17 hr18 hr19 l17 l18
  walk_at "my run"
  refine q_eqSame (rd_marks l16) (rd_marks l19) (dok_marks _ _) ?_
  walk_at "my run"
  refine compLf_list (ones.map markB ++ others.map markK) (fun _ => false) id (fun m => [some (.ref p), some (.bool far), some (.int sc), some (.int span), some (.tup [.int na, .int nb]), some (.ref r12), some (.ref r6), some (.ref r7), some (.tup [.int ca, .int cb]), some (.ref r9), some (.int c6), some (.ref r11), some (.tup [.tup (ones.map .int), .tup (others.map .int)]), some (.ref r13), some (.ref r14), some (.bool (dueB es' fs span ones others)), some (.ref r16), some (.ref r19), none, some m]) (fun x _ => rfl) (fun x _ y _ => rfl) ?_ (fun _ _ e => by cases e) l16 (by rw [List.length_append, List.length_map, List.length_map]; omega) ?_
  · intro m hm R hR
    have : ∃ xs, m = .tup xs := by
      rcases List.mem_append.mp hm with h | h <;> obtain ⟨i, _, rfl⟩ := List.mem_map.mp h <;> exact ⟨_, rfl⟩
    obtain ⟨xs, rfl⟩ := this
    walk_at "my run"
    exact hR
  rw [show ((ones.map markB ++ others.map markK).filter fun _ => false) = [] by simp]
  refine alf fun σ19 r20 e19 hr20 l20 => ?_
  walk_at "my run"
  refine alf fun σ20 r21 e20 hr21 l21 => ?_
  refine q_eqSame (x := .list []) (.list (.inl (e20 _ _ l20)) .nil) (.list (.inl l21) .nil) (dok_ints []) ?_
  walk_at "my run"
  exact q _
end
end Mine

open PySem PySem.W PyProof.Rows
set_option Elab.async false
set_option maxRecDepth 100000
set_option maxHeartbeats 8000000
set_option pp.deepTerms false
theorem PySem.Challenge.cw_uf060002_03_holds : PySem.Challenge.rw_uf060002_03.Holds := by
  refine Mine.hd ?_
  k_fill
  intro w s₀ s₁ mg mb G Y fa o pm cd doc dV kV ho hd hcd hD hmg hg args vals as hpre hlay hrd hwl hlo
  have KX := kIn_of Y
  refine Ground.open G ?_
  intro T B D TE TW
  refine guard_noD D (by decide +kernel) ?_; clear D
  have hfa := mg_of KX T.g (n := "law") (v := .ref 88) (by kernel_rfl)
  have hfe : mg "law" = some (.ref fa) := hmg
  rw [hfa] at hfe
  cases hfe
  wrow_args hpre hlay hrd hwl hlo
  refine enter_call ?_
  refine codeAny_mono ?_ (fun _ _ g => GoodW.toG g)
  refine Mine.head_of (K := Mine.hd.heap_39 w.params) ⟨⟨T.g, T.b, T.nolimit⟩, KX, T.builtins⟩ (by assumption) (by assumption) (by omega) hg (fun _ => rfl) ?post ?_
  case post => exact postW_of rfl (w_eq_bool rfl rfl) rfl
  intro Q Z σ hl q
  exact Mine.law_ok ⟨⟨T.g, T.b, T.nolimit⟩, KX, T.builtins⟩ (by omega) hl q

