import PyProof.Rows.All
import Wide.All
import OpenK.AllK
import Wide.FinOn
import PyProof.Logic
import PyProof.CompFree
import PyProof.DictKinds
import PyProof.P3Eq
import PyProof.Cells
import PyProof.RangeIter
import PyProof.EnumIter
import PyProof.Rows.Tup
import PyProof.PureInt
import PyProof.StrOps
import PyProof.ForAny
import PyProof.TupleIter
import PyProof.EnumFor
import PyProof.EnumStmt
import PyProof.WalksMore
import PyProof.TupleKey
import PyProof.DictRoadsH
import PyProof.Rows.TupTab
import PyProof.Rows.TupDisplay
import PyProof.DictTruth
import PyProof.DefCall
import PyProof.Rows.Globals
import PyProof.P3In
import PyProof.NeData
import PyProof.Rows.RuleB_mod
import PyProof.Rows.RuleB_floordiv
import PyProof.Rows.RuleB_small
import PyProof.Rows.Exc
import PyProof.RangeFor
import PyProof.Rows.News
import PyProof.Rows.SeqMore
import PyProof.Rows.TupAdd
import PyProof.NoPylong
import PyProof.FactsAll.tuple_2
import PyProof.ListIndexNeg
import PyProof.SliceList
import PyProof.SliceMore
import PyProof.Rows.TupSub
import PyProof.Rows.TupMore
import PyProof.Rows.StrTemp
import PyProof.IsiPairs
import PyProof.IsiSeqPairs
import PyProof.IsiHeapPairs
import PyProof.IsiNone
import PyProof.ListCopy
import PyProof.ListRange
import PyProof.CompUse
import PyProof.EnumMake
import OpenK.KWalk
import OpenK.KCall
import KE.KSortTup
import KE.KSortAsk
import PyProof.ListOps
import PyProof.CallRoads
import PyProof.SeqI3
import PyProof.WalkInts
import PyProof.TupleOfSeq
import Wide.Bridge
import Wide.Ends
import KE.KSortKey
import PyProof.Rows.CallKwBuiltin
import PyProof.Rows.SetFrom
import PyProof.FactsAll.set_1
import PyProof.FactsAll.set_2
import KE.KDictList
import Open.Pieces
import PyProof.SetRoads
import PySem.Challenge.RW_uf060002_06
set_option Elab.async false
set_option linter.unusedVariables false
namespace Mine
open PySem

theorem runs_size {M : Model} {Γ : Ctx} {p : Pos} {t : Sem Fin} {fs : List Frame} {s s' : Shared} {e : End} (h : Runs M Γ p t fs s e s') : s.heap.objs.size ≤ s'.heap.objs.size := by
  induction h <;> (try simp only [Shared.setGen, Heap.size_after_update, Heap.size_push] at *) <;> omega

theorem wakes_size {M : Model} {Γ : Ctx} {p : Pos} {g : Nat} {r : Resume} {s s' : Shared} {res : GenResult} (h : Wakes M Γ p g r s res s') : s.heap.objs.size ≤ s'.heap.objs.size := by
  unfold Wakes at h
  split at h
  · exact h.elim
  · split at h
    · obtain ⟨e₁, s₁, hr, _, _, rfl⟩ := h; exact (runs_size hr : (s.setGen g .running).heap.objs.size ≤ s₁.heap.objs.size)
    · rw [h.2]; exact Nat.le_refl _
    · rw [h.2]; exact Nat.le_refl _
  · obtain ⟨e₁, s₁, hr, _, _, rfl⟩ := h; exact (runs_size hr : (s.setGen g .running).heap.objs.size ≤ s₁.heap.objs.size)
  · rw [h.2]; exact Nat.le_refl _
  · rw [h.2]; exact Nat.le_refl _

theorem wp_size {α : Type} (M : Model) (Γ : Ctx) (n : Nat) (t : Sem α) : ∀ (Q : α → Pos → Shared → Prop) (E : Value → Pos → Shared → Prop) (p : Pos) (s : Shared), n ≤ s.heap.objs.size → Sem.wp M Γ t Q E p s →
    Sem.wp M Γ t (fun a p' s' => n ≤ s'.heap.objs.size ∧ Q a p' s') (fun e p' s' => n ≤ s'.heap.objs.size ∧ E e p' s') p s := by
  induction t with
  | pure a => intro Q E p s hn h; exact ⟨hn, h⟩
  | raise e => intro Q E p s hn h; exact ⟨hn, h⟩
  | unsupported _ => intro Q E p s _ h; exact h
  | finish _ => intro Q E p s _ h; exact h
  | rule _ k ih => intro Q E p s hn h; exact ih () Q E p s hn h
  | «at» p' k ih => intro Q E p s hn h; exact ih () Q E p' s hn h
  | load a _ k ih => intro Q E p s hn h; obtain ⟨o, ho, h⟩ := h; exact ⟨o, ho, ih o Q E p s hn h⟩
  | update a _ f k ih => intro Q E p s hn h; exact ⟨h.1, ih () Q E p _ (by simpa using hn) h.2⟩
  | loadIfAlive a k ih => intro Q E p s hn h; exact ih _ Q E p s hn h
  | point _ k ih => intro Q E p s hn h; exact ih () Q E p s hn h
  | register _ _ => intro Q E p s _ h; exact h
  | alloc o k ih => intro Q E p s hn h; exact ih _ Q E p _ (by simp; omega) h
  | fresh k ih => intro Q E p s hn h; exact ih _ Q E p { s with toks := s.toks + 1 } hn h
  | ask k ih => intro Q E p s hn h; exact ih _ Q E p s hn h
  | choose src m k ih => intro Q E p s hn h; exact ⟨h.1, ih _ Q E p { s with drawn := s.drawn.bump src } hn h.2⟩
  | os q _ k ih => intro Q E p s hn h; exact ih _ Q E p { s with os := (Os.step s.os q).1 } hn h
  | call c hd _ _ k ih => intro Q E p s hn h; obtain ⟨r, s', hr, h⟩ := h; exact ⟨r, s', hr, ih r Q E p s' (Nat.le_trans hn (runs_size hr)) h⟩
  | handled own k ih => intro Q E p s hn h; exact ih _ Q E p s hn h
  | genState g k ih => intro Q E p s hn h; obtain ⟨st, hs, h⟩ := h; exact ⟨st, hs, ih _ Q E p s hn h⟩
  | newGen c k ih => intro Q E p s hn h; exact ih _ Q E p { s with gens := s.gens.push (.fresh c) } hn h
  | resume g r _ k ih => intro Q E p s hn h; obtain ⟨res, s', hw, h⟩ := h; exact ⟨res, s', hw, ih res Q E p s' (Nat.le_trans hn (wakes_size hw)) h⟩
  | yield _ _ _ _ => intro Q E p s _ h; exact h
  | stack k ih => intro Q E p s hn h; exact ih _ Q E p s hn h
  | fork _ _ => intro Q E p s _ h; exact h
  | thread k ih => intro Q E p s hn h; exact ih _ Q E p s hn h
  | await _ _ _ _ _ => intro Q E p s _ h; exact h

/-- the heap's array only grows -/
theorem with_size {α : Type} {M : Model} {A : Around} {s : Shared} {t : Sem α} {Q : α → Shared → Prop} {E : Value → Shared → Prop}
    (h : wpAny M A t (fun a s' => s.heap.objs.size ≤ s'.heap.objs.size → Q a s') (fun e s' => s.heap.objs.size ≤ s'.heap.objs.size → E e s') s) : wpAny M A t Q E s :=
  fun Γ p hΓ => by
    have := wp_size M Γ s.heap.objs.size t _ _ p s (Nat.le_refl _) (h Γ p hΓ)
    exact Sem.wp_mono M Γ t (fun a _ s' x => x.2 x.1) (fun e _ s' x => x.2 x.1) p s this
theorem code_size {M : Model} {A : Around} {s : Shared} {c : Code} {R : Result → Shared → Prop} (h : codeAny M A c (fun r s' => s.heap.objs.size ≤ s'.heap.objs.size → R r s') s) : codeAny M A c R s :=
  fun Γ p hc hΓ => by obtain ⟨r, s', hr, hR⟩ := h Γ p hc hΓ; exact ⟨r, s', hr, hR (runs_size hr)⟩
end Mine

set_option maxRecDepth 100000
set_option linter.unusedVariables false
namespace Mine
open PySem PyProof.Rows

/-- abstract values -/
inductive AV where
  | none
  | bool (b : Bool)
  | int (i : Int)
  | str (s : Str)
  | tup (xs : List AV)
  | ref (a : Addr)
  | rng (lo hi : Int)
  | exc (c : Addr)
  deriving Inhabited

/-- abstract objects -/
inductive AO where
  | list (xs : List AV)
  | rolist (xs : List AV)
  | tdict (kvs : List (List (Str × Int) × AV))
  | inst (c : Addr) (d : Addr)
  | idict (fs : List (Str × AV))
  deriving Inhabited

/-- a mark and a row of marks -/
abbrev Mark := Str × Int
def mkAV (m : Mark) : AV := .tup [.str m.1, .int m.2]
def mkH (w : World) (m : Mark) : Int := reduceHash (Builtin.Tuple.tupleHashOf [hashStr w m.1, hashInt m.2])
abbrev rowAV (ms : List Mark) : AV := .tup (ms.map mkAV)
def rowH (w : World) (ms : List Mark) : Int := reduceHash (Builtin.Tuple.tupleHashOf (ms.map (mkH w)))
def mOk (m : Mark) : Prop := PyData.strOk m.1 = true

abbrev AHeap := Addr → Option AO
def AHeap.set (σ : AHeap) (a : Addr) (o : AO) : AHeap := fun b => if b = a then some o else σ b

def listObj (vs : List Value) (n : Nat) : Obj := { cls := .type "list", data := .seq vs.toArray n }
def rangeObj (lo hi : Int) (t u v : Tok) : Obj := { cls := .type "range", data := .fields #[.int lo t, .int hi u, .int 1 v] }

mutual
inductive RepV (h : Heap) : AV → Value → Prop
  | none : RepV h .none .none
  | bool (b : Bool) : RepV h (.bool b) (.bool b)
  | int (i : Int) (t : Tok) : RepV h (.int i) (.int i t)
  | str (x : Str) (t : Tok) : RepV h (.str x) (.str x t)
  | tup {xs : List AV} {a : Addr} {vs : List Value} : xs.length ≤ 1000000 → IsTup h a vs.toArray → RepVs h xs vs → RepV h (.tup xs) (.ref a)
  | ref (a : Addr) : RepV h (.ref a) (.ref a)
  | rng {lo hi : Int} {a : Addr} {t u v : Tok} : h.get? a = some (rangeObj lo hi t u v) → RepV h (.rng lo hi) (.ref a)
  | exc {a c : Addr} {o : Obj} {vs : Array Value} : h.get? a = some o → o.cls = .ref c → o.data = .fields vs → RepV h (.exc c) (.ref a)
inductive RepVs (h : Heap) : List AV → List Value → Prop
  | nil : RepVs h [] []
  | cons {x : AV} {xs : List AV} {v : Value} {vs : List Value} : RepV h x v → RepVs h xs vs → RepVs h (x :: xs) (v :: vs)
end

/-- the objects that values lean on: tuples, ranges, exceptions -/
def Stays (o : Obj) : Prop := (o.cls = .type "tuple" ∧ ∃ xs n, o.data = .seq xs n) ∨ (o.cls = .type "range" ∧ ∃ vs, o.data = .fields vs) ∨ ∃ c vs, o.cls = .ref c ∧ o.data = .fields vs
def KeepV (h h' : Heap) : Prop := ∀ b o, h.get? b = some o → Stays o → h'.get? b = some o

mutual
theorem RepV.mono {h h' : Heap} (k : KeepV h h') : ∀ {x v}, RepV h x v → RepV h' x v
  | _, _, .none => .none
  | _, _, .bool b => .bool b
  | _, _, .int i t => .int i t
  | _, _, .str x t => .str x t
  | _, _, .tup hl ⟨o, ho, hc, n, hd⟩ r => .tup hl ⟨o, k _ _ ho (.inl ⟨hc, _, n, hd⟩), hc, n, hd⟩ (RepVs.mono k r)
  | _, _, .ref a => .ref a
  | _, _, .rng ho => .rng (k _ _ ho (.inr (.inl ⟨rfl, _, rfl⟩)))
  | _, _, .exc ho hc hd => .exc (k _ _ ho (.inr (.inr ⟨_, _, hc, hd⟩))) hc hd
theorem RepVs.mono {h h' : Heap} (k : KeepV h h') : ∀ {xs vs}, RepVs h xs vs → RepVs h' xs vs
  | _, _, .nil => .nil
  | _, _, .cons a r => .cons (RepV.mono k a) (RepVs.mono k r)
end

theorem RepVs.length {h : Heap} : ∀ {xs vs}, RepVs h xs vs → xs.length = vs.length
  | _, _, .nil => rfl
  | _, _, .cons _ r => by simp [r.length]
theorem RepVs.append {h : Heap} : ∀ {xs vs ys us}, RepVs h xs vs → RepVs h ys us → RepVs h (xs ++ ys) (vs ++ us)
  | _, _, _, _, .nil, r => r
  | _, _, _, _, .cons a q, r => .cons a (q.append r)
theorem RepVs.get {h : Heap} : ∀ {xs vs}, RepVs h xs vs → ∀ {i : Nat} {x : AV}, xs[i]? = some x → ∃ v, vs[i]? = some v ∧ RepV h x v
  | _, _, .cons a _, 0, _, e => by cases e; exact ⟨_, rfl, a⟩
  | _, _, .cons _ r, i + 1, x, e => r.get (i := i) (x := x) (by simpa using e)
theorem RepVs.take {h : Heap} : ∀ {xs vs}, RepVs h xs vs → ∀ n, RepVs h (xs.take n) (vs.take n)
  | _, _, .nil, n => by simp; exact .nil
  | _, _, .cons _ _, 0 => .nil
  | _, _, .cons a r, n + 1 => .cons a (r.take n)
theorem RepVs.drop {h : Heap} : ∀ {xs vs}, RepVs h xs vs → ∀ n, RepVs h (xs.drop n) (vs.drop n)
  | _, _, .nil, n => by simp; exact .nil
  | _, _, .cons a r, 0 => .cons a r
  | _, _, .cons _ r, n + 1 => r.drop n
theorem RepVs.reverse {h : Heap} : ∀ {xs vs}, RepVs h xs vs → RepVs h xs.reverse vs.reverse
  | _, _, .nil => .nil
  | _, _, .cons a r => by simp only [List.reverse_cons]; exact r.reverse.append (.cons a .nil)

/-- the static ground -/
structure Cx where
  prog : Program
  w : World
  h₀ : Heap
  os : OsState
  mg : Str → Option Value
  mb : Str → Option Value

abbrev Cx.M (X : Cx) : Model := model X.prog X.w

structure Cx.Ok (X : Cx) : Prop where
  g : X.h₀.Ns mainGlobals X.mg
  b : X.h₀.Ns builtinsNs X.mb
  nolimit : X.h₀.NoLimit

/-- entries of a dict whose keys are rows of marks -/
inductive RepT (w : World) (h : Heap) : List (List Mark × AV) → List DictEntry → Prop
  | nil : RepT w h [] []
  | cons {k : List Mark} {x : AV} {r : List (List Mark × AV)} {e : DictEntry} {es : List DictEntry} : RepV h (rowAV k) e.key → RepV h x e.val → e.hash = rowH w k → RepT w h r es → RepT w h ((k, x) :: r) (e :: es)
theorem RepT.mono {w : World} {h h' : Heap} (k : KeepV h h') : ∀ {kvs es}, RepT w h kvs es → RepT w h' kvs es
  | _, _, .nil => .nil
  | _, _, .cons a b c r => .cons (a.mono k) (b.mono k) c (r.mono k)

def RepF (h : Heap) (fs : List (Str × AV)) (m : Str → Option Value) : Prop :=
  ∀ x, match fs.lookup x with | none => m x = Option.none | some a => ∃ v, m x = some v ∧ RepV h a v
theorem RepF.mono {h h' : Heap} {fs m} (k : KeepV h h') (r : RepF h fs m) : RepF h' fs m := fun x => by
  have := r x
  cases e : fs.lookup x with
  | none => rw [e] at this; exact this
  | some a => rw [e] at this; obtain ⟨v, h1, h2⟩ := this; exact ⟨v, h1, h2.mono k⟩

/-- an abstract object stands at an address -/
def RepA (X : Cx) (h : Heap) (a : Addr) : AO → Prop
  | .list xs => ∃ vs n, h.get? a = some (listObj vs n) ∧ RepVs h xs vs ∧ xs.length ≤ 1000000
  | .rolist xs => ∃ vs, h.IsList a vs.toArray ∧ RepVs h xs vs ∧ xs.length ≤ 1000000
  | .tdict kvs => ∃ es n, h.get? a = some { cls := .type "dict", data := .dict es n } ∧ RepT X.w h kvs es.toList ∧ (kvs.map (·.1)).Nodup ∧ (∀ k ∈ kvs, ∀ m ∈ k.1, mOk m) ∧ kvs.length ≤ 1000000 ∧ (a == sysModules) = false
  | .inst c d => h.get? a = some { cls := .ref c, dict := some d, data := .plain }
  | .idict fs => ∃ m es n, h.get? a = some { cls := .type "dict", data := .dict es n } ∧ h.Ns a m ∧ RepF h fs m


theorem RepA.mono {X : Cx} {h h' : Heap} {a : Addr} {o : AO} (k : KeepV h h') (e : ∀ o, h.get? a = some o → h'.get? a = some o) (r : RepA X h a o) : RepA X h' a o := by
  cases o with
  | list xs => obtain ⟨vs, n, h1, h2, hl⟩ := r; exact ⟨vs, n, e _ h1, h2.mono k, hl⟩
  | rolist xs => obtain ⟨vs, ⟨o, h1, h3⟩, h2, hl⟩ := r; exact ⟨vs, ⟨o, e _ h1, h3⟩, h2.mono k, hl⟩
  | tdict kvs => obtain ⟨es, n, h1, h2, h3⟩ := r; exact ⟨es, n, e _ h1, h2.mono k, h3⟩
  | inst c d => exact e _ r
  | idict fs => obtain ⟨m, es, n, h1, ⟨o, es', ep, h3, h4⟩, h2⟩ := r; exact ⟨m, es, n, e _ h1, ⟨o, es', ep, e _ h3, h4⟩, h2.mono k⟩

theorem RepA.some {X : Cx} {h : Heap} {a : Addr} {o : AO} (r : RepA X h a o) : ∃ ob, h.get? a = some ob ∧ ¬ Stays ob := by
  have no : ∀ {ob : Obj} {t : String}, ob.cls = .type t → t ≠ "tuple" → t ≠ "range" → ¬ Stays ob := by
    rintro ob t hc h1 h2 (⟨h, _⟩ | ⟨h, _⟩ | ⟨c, vs, h, _⟩)
    · rw [hc] at h; cases h; exact h1 rfl
    · rw [hc] at h; cases h; exact h2 rfl
    · rw [hc] at h; cases h
  cases o with
  | list xs => obtain ⟨vs, n, h1, _⟩ := r; exact ⟨_, h1, no (t := "list") rfl (by decide) (by decide)⟩
  | rolist xs => obtain ⟨vs, ⟨o, h1, hc, _⟩, _⟩ := r; exact ⟨_, h1, no hc (by decide) (by decide)⟩
  | tdict kvs => obtain ⟨es, n, h1, _⟩ := r; exact ⟨_, h1, no (t := "dict") rfl (by decide) (by decide)⟩
  | inst c d =>
    refine ⟨_, r, ?_⟩
    rintro (⟨h, _⟩ | ⟨h, _⟩ | ⟨c, vs, _, h⟩)
    · cases h
    · cases h
    · cases h
  | idict fs => obtain ⟨m, es, n, h1, _⟩ := r; exact ⟨_, h1, no (t := "dict") rfl (by decide) (by decide)⟩

def AO.ro : AO → Bool
  | .rolist _ => true
  | _ => false

structure At (X : Cx) (σ : AHeap) (s : Shared) : Prop where
  keep : ∀ b o, X.h₀.get? b = some o → s.heap.get? b = some o
  rep : ∀ a o, σ a = some o → RepA X s.heap a o
  own : ∀ a o, σ a = some o → o.ro = false → X.h₀.get? a = none
  gens : s.gens = #[]
  os : s.os = X.os

theorem At.lt {X : Cx} {σ : AHeap} {s : Shared} (a : At X σ s) {b : Addr} {o : AO} (e : σ b = some o) : b < s.heap.objs.size :=
  let ⟨_, h, _⟩ := (a.rep b o e).some; Heap.lt_size h
theorem At.none_of_size {X : Cx} {σ : AHeap} {s : Shared} (a : At X σ s) {b : Addr} (e : s.heap.objs.size ≤ b) : σ b = none := by
  cases h : σ b with
  | none => rfl
  | some o => exact absurd (a.lt h) (Nat.not_lt.mpr e)
theorem At.stays {X : Cx} {σ : AHeap} {s : Shared} (a : At X σ s) {b : Addr} {o : Obj} (e : s.heap.get? b = some o) (h : Stays o) : σ b = none := by
  cases hs : σ b with
  | none => rfl
  | some ao =>
    obtain ⟨ob, h1, h2⟩ := (a.rep b ao hs).some
    rw [e] at h1; cases h1; exact absurd h h2

structure Step (B : Addr → Prop) (σ : AHeap) (s : Shared) (σ' : AHeap) (s' : Shared) : Prop where
  keep : ∀ b o, s.heap.get? b = some o → σ b = none → ¬ B b → s'.heap.get? b = some o
  fresh : ∀ b, σ' b ≠ none → σ b = none → s.heap.objs.size ≤ b
  size : s.heap.objs.size ≤ s'.heap.objs.size

def E0 : Addr → Prop := fun _ => False

theorem Step.refl (B : Addr → Prop) (σ : AHeap) (s : Shared) : Step B σ s σ s := ⟨fun _ _ e _ _ => e, fun _ h1 h2 => absurd h2 h1, Nat.le_refl _⟩
theorem Step.trans {B : Addr → Prop} {σ σ' σ'' : AHeap} {s s' s'' : Shared} (x : Step B σ s σ' s') (y : Step B σ' s' σ'' s'') : Step B σ s σ'' s'' where
  keep := fun b o e h1 h2 => y.keep b o (x.keep b o e h1 h2) (by
    cases h : σ' b with
    | none => rfl
    | some _ => exact absurd (x.fresh b (by rw [h]; simp) h1) (Nat.not_le.mpr (Heap.lt_size e))) h2
  fresh := fun b h1 h2 => by
    cases h : σ' b with
    | none => exact Nat.le_trans x.size (y.fresh b h1 h)
    | some _ => exact x.fresh b (by rw [h]; simp) h2
  size := Nat.le_trans x.size y.size
theorem Step.weaken {B B' : Addr → Prop} {σ σ' : AHeap} {s s' : Shared} (x : Step B σ s σ' s') (h : ∀ b, B b → B' b) : Step B' σ s σ' s' :=
  ⟨fun b o e h1 h2 => x.keep b o e h1 fun q => h2 (h b q), x.fresh, x.size⟩
/-- what is new since s may change -/
theorem Step.drop {B B' : Addr → Prop} {σ σ' : AHeap} {s s' : Shared} (x : Step B' σ s σ' s') (h : ∀ b, B' b → B b ∨ s.heap.objs.size ≤ b) : Step B σ s σ' s' :=
  ⟨fun b o e h1 h2 => x.keep b o e h1 fun q => (h b q).elim h2 fun q' => absurd (Heap.lt_size e) (Nat.not_lt.mpr q'), x.fresh, x.size⟩

def NoStay (B : Addr → Prop) (h : Heap) : Prop := ∀ b o, B b → h.get? b = some o → ¬ Stays o
theorem NoStay.e0 {h : Heap} : NoStay E0 h := fun _ _ h => h.elim

theorem Step.keepV {X : Cx} {B : Addr → Prop} {σ σ' : AHeap} {s s' : Shared} (x : Step B σ s σ' s') (a : At X σ s) (n : NoStay B s.heap) : KeepV s.heap s'.heap :=
  fun b o e h => x.keep b o e (a.stays e h) fun q => n b o q e h
theorem Step.keepV0 {X : Cx} {σ σ' : AHeap} {s s' : Shared} (x : Step E0 σ s σ' s') (a : At X σ s) : KeepV s.heap s'.heap := x.keepV a .e0

theorem AHeap.set_self (σ : AHeap) (a : Addr) (o : AO) : σ.set a o a = some o := by simp [AHeap.set]
theorem AHeap.set_ne (σ : AHeap) {a b : Addr} (o : AO) (h : b ≠ a) : σ.set a o b = σ b := by simp [AHeap.set, h]

section
variable {X : Cx} {σ σ' : AHeap} {s s' : Shared}

theorem At.toks (a : At X σ s) (t : Nat) : At X σ { s with toks := t } := ⟨a.keep, a.rep, a.own, a.gens, a.os⟩
theorem Step.toks {B : Addr → Prop} (σ : AHeap) (s : Shared) (t : Nat) : Step B σ s σ { s with toks := t } := ⟨fun _ _ e _ _ => e, fun _ h1 h2 => absurd h2 h1, Nat.le_refl _⟩

theorem At.push (a : At X σ s) (o : Obj) (t : Nat) : At X σ { s with heap := s.heap.push o, toks := t } where
  keep := fun b ob e => Heap.get?_push_of_some _ (a.keep b ob e)
  rep := fun b ao e => (a.rep b ao e).mono (fun _ _ h _ => Heap.get?_push_of_some _ h) (fun _ h => Heap.get?_push_of_some _ h)
  own := a.own
  gens := a.gens
  os := a.os
theorem Step.push {B : Addr → Prop} (σ : AHeap) (s : Shared) (o : Obj) (t : Nat) : Step B σ s σ { s with heap := s.heap.push o, toks := t } :=
  ⟨fun _ _ e _ _ => Heap.get?_push_of_some _ e, fun _ h1 h2 => absurd h2 h1, by simp⟩

/-- a new object of the abstract heap -/
theorem At.alloc (a : At X σ s) {o : Obj} {ao : AO} (t : Nat) (hr : RepA X (s.heap.push o) s.heap.objs.size ao) : At X (σ.set s.heap.objs.size ao) { s with heap := s.heap.push o, toks := t } where
  keep := fun b ob e => Heap.get?_push_of_some _ (a.keep b ob e)
  rep := fun b bo e => by
    by_cases hb : b = s.heap.objs.size
    · subst hb; rw [AHeap.set_self] at e; cases e; exact hr
    · rw [AHeap.set_ne _ _ hb] at e
      exact (a.rep b bo e).mono (fun _ _ h _ => Heap.get?_push_of_some _ h) (fun _ h => Heap.get?_push_of_some _ h)
  own := fun b bo e hro => by
    by_cases hb : b = s.heap.objs.size
    · subst hb
      cases h : X.h₀.get? s.heap.objs.size with
      | none => rfl
      | some ob => exact absurd (Heap.lt_size (a.keep _ _ h)) (Nat.lt_irrefl _)
    · rw [AHeap.set_ne _ _ hb] at e; exact a.own b bo e hro
  gens := a.gens
  os := a.os
theorem Step.alloc {B : Addr → Prop} (σ : AHeap) (s : Shared) (o : Obj) (ao : AO) (t : Nat) : Step B σ s (σ.set s.heap.objs.size ao) { s with heap := s.heap.push o, toks := t } :=
  ⟨fun _ _ e _ _ => Heap.get?_push_of_some _ e, fun b h1 h2 => by
    by_cases hb : b = s.heap.objs.size
    · rw [hb]; exact Nat.le_refl _
    · rw [AHeap.set_ne _ _ hb] at h1; exact absurd h2 h1, by simp⟩

/-- an object of the abstract heap is changed -/
theorem At.store (a : At X σ s) {b : Addr} {old ao : AO} {h' : Heap} (t : Nat) (e : σ b = some old) (hro : old.ro = false) (hs : Heap.SameBut b s.heap h') (hr : KeepV s.heap h' → RepA X h' b ao) :
    At X (σ.set b ao) { s with heap := h', toks := t } := by
  have kv : KeepV s.heap h' := fun c o ho st => by
    have hc : c ≠ b := by rintro rfl; rw [a.stays ho st] at e; cases e
    rw [hs.2 c hc]; exact ho
  refine ⟨fun c o ho => ?_, fun c co ec => ?_, fun c co ec hr' => ?_, a.gens, a.os⟩
  · have hc : c ≠ b := by rintro rfl; rw [a.own _ _ e hro] at ho; cases ho
    exact (hs.2 c hc).trans (a.keep c o ho)
  · by_cases hc : c = b
    · subst hc; rw [AHeap.set_self] at ec; cases ec; exact hr kv
    · rw [AHeap.set_ne _ _ hc] at ec
      exact (a.rep c co ec).mono kv fun o ho => (hs.2 c hc).trans ho
  · by_cases hc : c = b
    · subst hc; exact a.own _ _ e hro
    · rw [AHeap.set_ne _ _ hc] at ec; exact a.own c co ec hr'
theorem Step.store {B : Addr → Prop} {b : Addr} {old ao : AO} {h' : Heap} (t : Nat) (e : σ b = some old) (hs : Heap.SameBut b s.heap h') : Step B σ s (σ.set b ao) { s with heap := h', toks := t } :=
  ⟨fun c o ho hc _ => (hs.2 c (by rintro rfl; rw [e] at hc; cases hc)).trans ho, fun c h1 h2 => by
    by_cases hc : c = b
    · subst hc; rw [e] at h2; cases h2
    · rw [AHeap.set_ne _ _ hc] at h1; exact absurd h2 h1, Nat.le_of_eq hs.1.symm⟩

/-- an object outside of the abstract heap and of the ground is changed -/
theorem At.aside (a : At X σ s) {b : Addr} {h' : Heap} (t : Nat) (e : σ b = none) (hb : X.h₀.get? b = none) (hn : ∀ o, s.heap.get? b = some o → ¬ Stays o) (hs : Heap.SameBut b s.heap h') :
    At X σ { s with heap := h', toks := t } := by
  have kv : KeepV s.heap h' := fun c o ho st => by
    have hc : c ≠ b := by rintro rfl; exact hn _ ho st
    rw [hs.2 c hc]; exact ho
  refine ⟨fun c o ho => ?_, fun c co ec => ?_, a.own, a.gens, a.os⟩
  · have hc : c ≠ b := by rintro rfl; rw [hb] at ho; cases ho
    exact (hs.2 c hc).trans (a.keep c o ho)
  · have hc : c ≠ b := by rintro rfl; rw [e] at ec; cases ec
    exact (a.rep c co ec).mono kv fun o ho => (hs.2 c hc).trans ho
theorem Step.aside {B : Addr → Prop} {b : Addr} {h' : Heap} (t : Nat) (hB : B b) (hs : Heap.SameBut b s.heap h') : Step B σ s σ { s with heap := h', toks := t } :=
  ⟨fun c o ho _ hc => (hs.2 c (by rintro rfl; exact hc hB)).trans ho, fun _ h1 h2 => absurd h2 h1, Nat.le_of_eq hs.1.symm⟩
end

/-- locals, by number -/
abbrev Loc := List (Option AV)
def RepO (h : Heap) : Option AV → Option Value → Prop
  | none, none => True
  | some a, some v => RepV h a v
  | _, _ => False
theorem RepO.mono {h h' : Heap} (k : KeepV h h') : ∀ {a v}, RepO h a v → RepO h' a v
  | none, none, _ => trivial
  | some _, some _, r => RepV.mono k r
  | none, some _, r => r.elim
  | some _, none, r => r.elim

structure EnvOk (env : Env) : Prop where
  kind : env.scope.kind = .function
  glob : env.globals = mainGlobals
  bi : env.builtins = builtinsNs
  apart : env.cells.Pairwise fun x y => x.2 ≠ y.2

/-- no two names at one number -/
def NmOk (nm : List (Str × Nat)) (n : Nat) : Prop := (∀ x i, nm.lookup x = some i → i < n) ∧ ∀ x y i, nm.lookup x = some i → nm.lookup y = some i → x = y

def lenOf (nm : List (Str × Nat)) : Nat := nm.foldl (fun n p => max n (p.2 + 1)) 0

/-- the frame's names are at their places -/
structure FR (X : Cx) (env : Env) (nm : List (Str × Nat)) (l : Loc) (σ : AHeap) (h : Heap) : Prop where
  ns : ∃ m, h.Ns env.locals m ∧ ∀ x i, nm.lookup x = some i → env.kindOf x = some .local → RepO h (l.getD i none) (m x)
  cell : ∀ x i, nm.lookup x = some i → env.kindOf x = some .cell → ∃ c v, env.cells.lookup x = some c ∧ h.IsCell c v ∧ RepO h (l.getD i none) v
  out : σ env.locals = none ∧ X.h₀.get? env.locals = none
  nmok : NmOk nm l.length
  len : l.length = lenOf nm
  outc : ∀ x c, (x, c) ∈ env.cells → σ c = none ∧ X.h₀.get? c = none ∧ ∃ v, h.IsCell c v

def FB (env : Env) : Addr → Prop := fun b => b = env.locals ∨ ∃ x, (x, b) ∈ env.cells

section
variable {X : Cx} {env : Env} {nm : List (Str × Nat)} {l : Loc} {σ σ' : AHeap} {s s' : Shared}

theorem noStay_dict {o : Obj} {es n} (hd : o.data = .dict es n) : ¬ Stays o := by
  rintro (⟨_, _, _, h⟩ | ⟨_, _, h⟩ | ⟨_, _, _, h⟩) <;> (rw [hd] at h; cases h)
theorem noStay_cell {o : Obj} {v} (hd : o.data = .cell v) : ¬ Stays o := by
  rintro (⟨_, _, _, h⟩ | ⟨_, _, h⟩ | ⟨_, _, _, h⟩) <;> (rw [hd] at h; cases h)
theorem noStay_ns {h : Heap} {a : Addr} {m} (n : h.Ns a m) : ∀ o, h.get? a = some o → ¬ Stays o := by
  intro o e
  obtain ⟨o', es, ep, ho, hd, _⟩ := n
  rw [e] at ho; cases ho; exact noStay_dict hd
theorem noStay_isCell {h : Heap} {a : Addr} {v} (n : h.IsCell a v) : ∀ o, h.get? a = some o → ¬ Stays o := by
  intro o e
  obtain ⟨o', ho, hd⟩ := n
  rw [e] at ho; cases ho; exact noStay_cell hd
theorem ns_ne_cell {h : Heap} {a b : Addr} {m v} (n : h.Ns a m) (c : h.IsCell b v) : a ≠ b := by
  rintro rfl
  obtain ⟨o', es, ep, ho, hd, _⟩ := n
  obtain ⟨o, ho', hd'⟩ := c
  rw [ho] at ho'; cases ho'; rw [hd] at hd'; cases hd'

theorem FR.noStay (F : FR X env nm l σ s.heap) : NoStay (FB env) s.heap := by
  rintro b o (rfl | ⟨x, hx⟩) e
  · obtain ⟨m, hn, _⟩ := F.ns; exact noStay_ns hn o e
  · obtain ⟨_, _, v, hc⟩ := F.outc x b hx; exact noStay_isCell hc o e

theorem FR.stepB {B : Addr → Prop} (F : FR X env nm l σ s.heap) (a : At X σ s) (st : Step B σ s σ' s') (hB : ∀ b, FB env b → ¬ B b) (hn : NoStay B s.heap) : FR X env nm l σ' s'.heap := by
  have kv := st.keepV a hn
  have keep : ∀ b o, FB env b → s.heap.get? b = some o → σ b = none → s'.heap.get? b = some o := fun b o hb e h => st.keep b o e h (hB b hb)
  have out : ∀ b, σ b = none → b < s.heap.objs.size → σ' b = none := fun b h hb => by
    cases h' : σ' b with
    | none => rfl
    | some _ => exact absurd (st.fresh b (by rw [h']; simp) h) (Nat.not_le.mpr hb)
  obtain ⟨m, ⟨o, es, ep, ho, r⟩, hm⟩ := F.ns
  refine ⟨⟨m, ⟨o, es, ep, keep _ _ (.inl rfl) ho F.out.1, r⟩, fun x i hx hk => (hm x i hx hk).mono kv⟩, fun x i hx hk => ?_, ⟨out _ F.out.1 (Heap.lt_size ho), F.out.2⟩, F.nmok, F.len, fun x c hx => ?_⟩
  · obtain ⟨c, v, hc, ⟨o, ho, hd⟩, hr⟩ := F.cell x i hx hk
    exact ⟨c, v, hc, ⟨o, keep _ _ (.inr ⟨x, mem_of_lookup hc⟩) ho (F.outc x c (mem_of_lookup hc)).1, hd⟩, hr.mono kv⟩
  · obtain ⟨h1, h2, v, ⟨o, ho, hd⟩⟩ := F.outc x c hx
    exact ⟨out _ h1 (Heap.lt_size ho), h2, v, ⟨o, keep _ _ (.inr ⟨x, hx⟩) ho h1, hd⟩⟩
theorem FR.step (F : FR X env nm l σ s.heap) (a : At X σ s) (st : Step E0 σ s σ' s') : FR X env nm l σ' s'.heap := F.stepB a st (fun _ _ h => h) .e0

theorem getD_set (l : Loc) (i j : Nat) (v : Option AV) (hi : i < l.length) : (l.set i v).getD j none = if j = i then v else l.getD j none := by
  simp only [List.getD_eq_getElem?_getD, List.getElem?_set]
  by_cases h : i = j
  · subst h; simp [hi]
  · have : ¬ j = i := fun e => h e.symm
    simp [h, this]

/-- a name is stored: in the frame's dict -/
theorem wp_storeL {M : Model} {A : Around} {E : Value → Shared → Prop} {x : Str} {i : Nat} {av : AV} {v : Value} {Q : Unit → Shared → Prop} (EO : EnvOk env) (F : FR X env nm l σ s.heap) (a : At X σ s)
    (hx : nm.lookup x = some i) (hk : env.kindOf x = some .local) (hv : RepV s.heap av v)
    (h : ∀ s', FR X env nm (l.set i (some av)) σ s'.heap → At X σ s' → Step (fun b => b = env.locals) σ s σ s' → Q () s') : wpAny M A (storeName env x v) Q E s := by
  have N := F.nmok
  obtain ⟨m, hn, hm⟩ := F.ns
  refine wpAny_storeName_local hk hn (fun h' hn' hs' => ?_) (by rw [EO.kind]; rfl)
  have kv : KeepV s.heap h' := fun b o e st => (hs'.2 b (by rintro rfl; exact noStay_ns hn o e st)).trans e
  refine h _ ⟨⟨_, hn', fun y j hy hky => ?_⟩, fun y j hy hky => ?_, F.out, by simpa using N, by simpa using F.len, fun y c hy => ?_⟩ (a.aside _ F.out.1 F.out.2 (noStay_ns hn) hs') (Step.aside _ rfl hs')
  · rw [getD_set _ _ _ _ (N.1 x i hx)]
    by_cases hyx : y = x
    · subst hyx
      rw [hx] at hy; cases hy
      simp only [if_true]; exact hv.mono kv
    · have : j ≠ i := fun e => hyx (N.2 y x i (e ▸ hy) hx)
      simp only [hyx, this, if_false]; exact (hm y j hy hky).mono kv
  · obtain ⟨c, u, hc, hcc, hr⟩ := F.cell y j hy hky
    have hyx : y ≠ x := by rintro rfl; rw [hk] at hky; cases hky
    have hji : j ≠ i := fun e => hyx (N.2 y x i (e ▸ hy) hx)
    rw [getD_set _ _ _ _ (N.1 x i hx), if_neg hji]
    exact ⟨c, u, hc, hcc.sameBut hs' (Ne.symm (ns_ne_cell hn hcc)), hr.mono kv⟩
  · obtain ⟨h1, h2, u, hcc⟩ := F.outc y c hy
    exact ⟨h1, h2, u, hcc.sameBut hs' (Ne.symm (ns_ne_cell hn hcc))⟩

/-- a name is stored -/
theorem wp_store {M : Model} {A : Around} {E : Value → Shared → Prop} {x : Str} {i : Nat} {av : AV} {v : Value} {Q : Unit → Shared → Prop} (EO : EnvOk env) (F : FR X env nm l σ s.heap) (a : At X σ s)
    (hx : nm.lookup x = some i) (hk : env.kindOf x = some .local ∨ env.kindOf x = some .cell) (hv : RepV s.heap av v)
    (h : ∀ s', FR X env nm (l.set i (some av)) σ s'.heap → At X σ s' → Step (FB env) σ s σ s' → Q () s') : wpAny M A (storeName env x v) Q E s := by
  have N := F.nmok
  rcases hk with hk | hk
  · exact wp_storeL EO F a hx hk hv fun s' F' a' st => h s' F' a' (st.weaken fun b hb => .inl hb)
  · obtain ⟨m, hn, hm⟩ := F.ns
    obtain ⟨c, u, hc, hcc, hr⟩ := F.cell x i hx hk
    refine wpAny_storeName_cell EO.kind hk hc hcc fun h' hcc' hs' => ?_
    have kv : KeepV s.heap h' := fun b o e st => (hs'.2 b (by rintro rfl; exact noStay_isCell hcc o e st)).trans e
    have oc := F.outc x c (mem_of_lookup hc)
    refine h { s with heap := h' } ⟨⟨m, hn.sameBut hs' (ns_ne_cell hn hcc), fun y j hy hky => ?_⟩, fun y j hy hky => ?_, F.out, by simpa using N, by simpa using F.len, fun y c' hy => ?_⟩ (a.aside (t := s.toks) (h' := h') oc.1 oc.2.1 (noStay_isCell hcc) hs')
      (Step.aside (t := s.toks) (h' := h') (Or.inr ⟨x, mem_of_lookup hc⟩) hs')
    · have hyx : y ≠ x := by rintro rfl; rw [hk] at hky; cases hky
      have hji : j ≠ i := fun e => hyx (N.2 y x i (e ▸ hy) hx)
      rw [getD_set _ _ _ _ (N.1 x i hx), if_neg hji]
      exact (hm y j hy hky).mono kv
    · rw [getD_set _ _ _ _ (N.1 x i hx)]
      by_cases hyx : y = x
      · subst hyx
        rw [hx] at hy; cases hy
        simp only [if_true]; exact ⟨c, some v, hc, hcc', hv.mono kv⟩
      · have hji : j ≠ i := fun e => hyx (N.2 y x i (e ▸ hy) hx)
        simp only [hji, if_false]
        obtain ⟨c', u', hc', hcc'', hr'⟩ := F.cell y j hy hky
        refine ⟨c', u', hc', hcc''.sameBut hs' ?_, hr'.mono kv⟩
        rintro rfl
        exact hyx (name_of_addr EO.apart (mem_of_lookup hc') (mem_of_lookup hc))
    · obtain ⟨h1, h2, u', hcc''⟩ := F.outc y c' hy
      by_cases hcc3 : c' = c
      · subst hcc3; exact ⟨h1, h2, _, hcc'⟩
      · exact ⟨h1, h2, u', hcc''.sameBut hs' hcc3⟩

/-- a name is loaded -/
theorem wp_load {M : Model} {A : Around} {E : Value → Shared → Prop} {x : Str} {i : Nat} {av : AV} {Q : Value → Shared → Prop} (EO : EnvOk env) (F : FR X env nm l σ s.heap)
    (hx : nm.lookup x = some i) (hk : env.kindOf x = some .local ∨ env.kindOf x = some .cell) (hl : l.getD i none = some av) (h : ∀ v, RepV s.heap av v → Q v s) : wpAny M A (loadName env x) Q E s := by
  rcases hk with hk | hk
  · obtain ⟨m, hn, hm⟩ := F.ns
    have hr := hm x i hx hk
    rw [hl] at hr
    cases hv : m x with
    | none => rw [hv] at hr; exact hr.elim
    | some v => rw [hv] at hr; exact wpAny_loadName_local EO.kind hk hn hv (h v hr)
  · obtain ⟨c, u, hc, hcc, hr⟩ := F.cell x i hx hk
    rw [hl] at hr
    cases u with
    | none => exact hr.elim
    | some v => exact wpAny_loadName_cell EO.kind hk hc hcc (h v hr)
end
end Mine

set_option maxRecDepth 100000
set_option linter.unusedVariables false
namespace Mine
open PySem PyProof.Rows

abbrev Post := AV → AHeap → Prop
abbrev XP := Addr → AHeap → Prop
/-- abstract expressions: depth, locals, what is wanted, what is wanted of a raise, the heap -/
abbrev AE := Nat → Loc → Post → XP → AHeap → Prop

structure Live (d : Nat) (A : Around) : Prop where
  depth : A.depth ≤ 301 + d
  units : A.units ≤ 20 + 8 * d
  handled : A.handled = none
  small : d ≤ 600

theorem Live.in1 {d : Nat} {A : Around} (L : Live d A) : A.in1.handled = none := L.handled
theorem Live.room {d : Nat} {A : Around} (L : Live d A) : A.units + 3000 < cLine := by
  have h1 := L.units; have h2 := L.small
  show A.units + 3000 < 9900
  omega

def ExcAt (s : Shared) (e : Value) (c : Addr) (s' : Shared) : Prop := ∃ x, e = .ref x ∧ s.heap.objs.size ≤ x ∧ RepV s'.heap (.exc c) e

def liftQ (X : Cx) (σ : AHeap) (s : Shared) (Q : Post) : Value → Shared → Prop :=
  fun v s' => ∃ av σ', RepV s'.heap av v ∧ At X σ' s' ∧ Step E0 σ s σ' s' ∧ Q av σ'
def liftX (X : Cx) (σ : AHeap) (s : Shared) (Z : XP) : Value → Shared → Prop :=
  fun e s' => ∃ c σ', ExcAt s e c s' ∧ At X σ' s' ∧ Step E0 σ s σ' s' ∧ Z c σ'
def liftB (X : Cx) (σ : AHeap) (s : Shared) (Q : Bool → AHeap → Prop) : Bool → Shared → Prop :=
  fun b s' => ∃ σ', At X σ' s' ∧ Step E0 σ s σ' s' ∧ Q b σ'
def liftL (X : Cx) (σ : AHeap) (s : Shared) (Q : List AV → AHeap → Prop) : List Value → Shared → Prop :=
  fun vs s' => ∃ avs σ', RepVs s'.heap avs vs ∧ At X σ' s' ∧ Step E0 σ s σ' s' ∧ Q avs σ'

section
variable {X : Cx} {A : Around} {σ σ' : AHeap} {s s' : Shared} {Z : XP}

theorem liftX.back {e : Value} {s'' : Shared} (st : Step E0 σ s σ' s') (h : liftX X σ' s' Z e s'') : liftX X σ s Z e s'' :=
  let ⟨c, σ'', ⟨x, h1, h2, h3⟩, a, st', z⟩ := h; ⟨c, σ'', ⟨x, h1, Nat.le_trans st.size h2, h3⟩, a, st.trans st', z⟩
theorem liftQ.back {Q : Post} {v : Value} {s'' : Shared} (st : Step E0 σ s σ' s') (h : liftQ X σ' s' Q v s'') : liftQ X σ s Q v s'' :=
  let ⟨av, σ'', r, a, st', q⟩ := h; ⟨av, σ'', r, a, st.trans st', q⟩
theorem liftB.back {Q : Bool → AHeap → Prop} {v : Bool} {s'' : Shared} (st : Step E0 σ s σ' s') (h : liftB X σ' s' Q v s'') : liftB X σ s Q v s'' :=
  let ⟨σ'', a, st', q⟩ := h; ⟨σ'', a, st.trans st', q⟩
theorem liftL.back {Q : List AV → AHeap → Prop} {v : List Value} {s'' : Shared} (st : Step E0 σ s σ' s') (h : liftL X σ' s' Q v s'') : liftL X σ s Q v s'' :=
  let ⟨av, σ'', r, a, st', q⟩ := h; ⟨av, σ'', r, a, st.trans st', q⟩

/-- one behind the other: the second from where the first ends -/
theorem seqQ {α : Type} {t : Sem Value} {f : Value → Sem α} {Q1 : Post} {R : Value → α → Shared → Prop} (h : wpAny X.M A t (liftQ X σ s Q1) (liftX X σ s Z) s)
    (k : ∀ av v σ1 s1, RepV s1.heap av v → At X σ1 s1 → Step E0 σ s σ1 s1 → Q1 av σ1 → wpAny X.M A (f v) (R v) (liftX X σ s Z) s1) :
    wpAny X.M A t (fun v s1 => wpAny X.M A (f v) (R v) (liftX X σ s Z) s1) (liftX X σ s Z) s :=
  wpAny_mono h (fun v s1 ⟨av, σ1, r, a, st, q⟩ => k av v σ1 s1 r a st q) fun _ _ e => e
theorem backQ {t : Sem Value} {Q : Post} (st : Step E0 σ s σ' s') (h : wpAny X.M A t (liftQ X σ' s' Q) (liftX X σ' s' Z) s') : wpAny X.M A t (liftQ X σ s Q) (liftX X σ s Z) s' :=
  wpAny_mono h (fun _ _ h => h.back st) fun _ _ h => h.back st
theorem backB {t : Sem Bool} {Q : Bool → AHeap → Prop} (st : Step E0 σ s σ' s') (h : wpAny X.M A t (liftB X σ' s' Q) (liftX X σ' s' Z) s') : wpAny X.M A t (liftB X σ s Q) (liftX X σ s Z) s' :=
  wpAny_mono h (fun _ _ h => h.back st) fun _ _ h => h.back st
/-- a value, nothing changed -/
theorem retQ {Q : Post} {av : AV} {v : Value} (a : At X σ s) (r : RepV s.heap av v) (q : Q av σ) : liftQ X σ s Q v s := ⟨av, σ, r, a, .refl .., q⟩
theorem retT {Q : Post} {av : AV} {v : Value} {t : Nat} (a : At X σ s) (r : RepV s.heap av v) (q : Q av σ) : liftQ X σ s Q v { s with toks := t } := ⟨av, σ, r, a.toks t, .toks .., q⟩
end

def SoundE (X : Cx) (env : Env) (nm : List (Str × Nat)) (e : Expr) (m : AE) : Prop :=
  ∀ d A l σ s Q Z, Live d A → At X σ s → FR X env nm l σ s.heap → m d l Q Z σ → wpAny X.M A (eval e env) (liftQ X σ s Q) (liftX X σ s Z) s
def isB (Q : Bool → AHeap → Prop) : Post := fun a σ => ∃ b, a = .bool b ∧ Q b σ
def SoundB (X : Cx) (env : Env) (nm : List (Str × Nat)) (e : Expr) (m : AE) : Prop :=
  ∀ d A l σ s Q Z, Live d A → At X σ s → FR X env nm l σ s.heap → m d l (isB Q) Z σ → wpAny X.M A (isTrue e env (eval e env)) (liftB X σ s Q) (liftX X σ s Z) s

namespace A
def loc (i : Nat) : AE := fun _ l Q _ σ => ∃ a, l.getD i none = some a ∧ Q a σ
def k (a : AV) : AE := fun _ _ Q _ σ => Q a σ
end A

section
variable {X : Cx} {env : Env} {nm : List (Str × Nat)}

theorem sound_loc {x : Str} {pos : Pos} {i : Nat} (EO : EnvOk env) (hx : nm.lookup x = some i) (hk : env.kindOf x = some .local ∨ env.kindOf x = some .cell) (hd : (x == ("__debug__" : Str)) = false) :
    SoundE X env nm (.Name x pos) (A.loc i) := fun d A l σ s Q Z L a F ⟨av, hl, q⟩ =>
  wpAny_Name (wp_load EO F hx hk hl fun v r => retQ a r q) hd

theorem sound_int {i : Int} {k pos} : SoundE X env nm (.Constant (.int i) k pos) (A.k (.int i)) := fun d A l σ s Q Z L a F q =>
  wpAny_Constant_int (retT a (.int _ _) q)
theorem sound_str {x : Str} {k pos} : SoundE X env nm (.Constant (.str x) k pos) (A.k (.str x)) := fun d A l σ s Q Z L a F q => by
  show wpAny X.M A (mkText x) _ _ s
  exact fun _ _ _ => retT a (.str _ _) q
theorem sound_none {k pos} : SoundE X env nm (.Constant .none k pos) (A.k .none) := fun d A l σ s Q Z L a F q => wpAny_pure (retQ a .none q)
theorem sound_bool {b : Bool} {k pos} : SoundE X env nm (.Constant (.bool b) k pos) (A.k (.bool b)) := fun d A l σ s Q Z L a F q => wpAny_pure (retQ a (.bool b) q)

/-- truth by the value -/
theorem soundB_of {e : Expr} {m : AE} (h : SoundE X env nm e m) (he : ∀ whole, isTrue e env whole = (do let v ← whole; standAt e.pos; holding [v] (truthy v))) : SoundB X env nm e m := fun d A l σ s Q Z L a F q => by
  rw [he]
  refine wpAny_bind (seqQ (h d A l σ s (isB Q) Z L a F q) fun av v σ1 s1 r a1 st ⟨b, e, q1⟩ => ?_)
  subst e
  cases r
  exact wpAny_bind (wpAny_standAt (wpAny_holding (wpAny_truthy_bool ⟨σ1, a1, st, q1⟩)))
end
end Mine

set_option maxRecDepth 100000
set_option linter.unusedVariables false
namespace Mine
open PySem PyProof.Rows

inductive Fl where
  | next
  | ret (v : AV)
abbrev SPost := Fl → Loc → AHeap → Prop
abbrev SXP := Addr → Loc → AHeap → Prop
abbrev AS := Nat → Loc → SPost → SXP → AHeap → Prop

def RepFl (h : Heap) : Fl → Flow → Prop
  | .next, .next => True
  | .ret a, .ret v => RepV h a v
  | _, _ => False

def liftS (X : Cx) (env : Env) (nm : List (Str × Nat)) (σ : AHeap) (s : Shared) (Q : SPost) : Flow → Shared → Prop :=
  fun f s' => ∃ fl l' σ', RepFl s'.heap fl f ∧ At X σ' s' ∧ FR X env nm l' σ' s'.heap ∧ Step (FB env) σ s σ' s' ∧ Q fl l' σ'
def liftSX (X : Cx) (env : Env) (nm : List (Str × Nat)) (σ : AHeap) (s : Shared) (Z : SXP) : Value → Shared → Prop :=
  fun e s' => ∃ c l' σ', ExcAt s e c s' ∧ At X σ' s' ∧ FR X env nm l' σ' s'.heap ∧ Step (FB env) σ s σ' s' ∧ Z c l' σ'

def SoundS (X : Cx) (env : Env) (nm : List (Str × Nat)) (st : Stmt) (m : AS) : Prop :=
  ∀ d A l σ s Q Z, Live d A → At X σ s → FR X env nm l σ s.heap → m d l Q Z σ → wpAny X.M A (exec st env) (liftS X env nm σ s Q) (liftSX X env nm σ s Z) s
def SoundSs (X : Cx) (env : Env) (nm : List (Str × Nat)) (sts : List Stmt) (m : AS) : Prop :=
  ∀ d A l σ s Q Z, Live d A → At X σ s → FR X env nm l σ s.heap → m d l Q Z σ → wpAny X.M A (execs sts env) (liftS X env nm σ s Q) (liftSX X env nm σ s Z) s

namespace A
def nil : AS := fun d l Q Z σ => Q .next l σ
def cons (a b : AS) : AS := fun d l Q Z σ => a d l (fun f l' σ' => match f with | .next => b d l' Q Z σ' | .ret v => Q (.ret v) l' σ') Z σ
def set (i : Nat) (x : AE) : AS := fun d l Q Z σ => x d l (fun a σ' => Q .next (l.set i (some a)) σ') (fun c σ' => Z c l σ') σ
def ret (x : AE) : AS := fun d l Q Z σ => x d l (fun a σ' => Q (.ret a) l σ') (fun c σ' => Z c l σ') σ
def if_ (t : AE) (a b : AS) : AS := fun d l Q Z σ => t d l (isB fun c σ' => if c then a d l Q Z σ' else b d l Q Z σ') (fun c σ' => Z c l σ') σ
/-- a while, by an invariant and a measure; nothing is raised inside -/
def while_ (t : AE) (a : AS) : AS := fun d l Q Z σ => ∃ (J : Nat → Loc → AHeap → Prop) (n : Nat), J n l σ ∧ ∀ n l σ, J n l σ →
  t d l (isB fun c σ' => if c then a d l (fun f l' σ'' => match f with | .next => ∃ m, m < n ∧ J m l' σ'' | .ret v => Q (.ret v) l' σ'') (fun _ _ _ => False) σ' else Q .next l σ') (fun _ _ => False) σ
end A

section
variable {X : Cx} {env : Env} {nm : List (Str × Nat)} {σ σ' : AHeap} {s s' : Shared}

theorem FB.of_e0 (b : Addr) (h : E0 b) : FB env b := h.elim

theorem liftS.back {Q : SPost} {f : Flow} {s'' : Shared} (st : Step (FB env) σ s σ' s') (h : liftS X env nm σ' s' Q f s'') : liftS X env nm σ s Q f s'' :=
  let ⟨fl, l', σ'', r, a, F, st', q⟩ := h; ⟨fl, l', σ'', r, a, F, st.trans st', q⟩
theorem liftSX.back {Z : SXP} {e : Value} {s'' : Shared} (st : Step (FB env) σ s σ' s') (h : liftSX X env nm σ' s' Z e s'') : liftSX X env nm σ s Z e s'' :=
  let ⟨c, l', σ'', ⟨x, h1, h2, h3⟩, a, F, st', q⟩ := h; ⟨c, l', σ'', ⟨x, h1, Nat.le_trans st.size h2, h3⟩, a, F, st.trans st', q⟩
theorem liftX.toS {l : Loc} {Z : SXP} {e : Value} {s'' : Shared} (a0 : At X σ s) (F : FR X env nm l σ s.heap) (h : liftX X σ s (fun c σ' => Z c l σ') e s'') : liftSX X env nm σ s Z e s'' :=
  let ⟨c, σ'', h1, a, st', q⟩ := h; ⟨c, l, σ'', h1, a, F.step a0 st', st'.weaken FB.of_e0, q⟩

/-- an expression inside a statement -/
theorem inS {α : Type} {A : Around} {l : Loc} {t : Sem Value} {f : Value → Sem α} {Q1 : Post} {Z : SXP} {R : α → Shared → Prop} {E : Value → Shared → Prop} (a0 : At X σ s) (F : FR X env nm l σ s.heap)
    (h : wpAny X.M A t (liftQ X σ s Q1) (liftX X σ s fun c σ' => Z c l σ') s) (hE : ∀ e s', liftSX X env nm σ s Z e s' → E e s')
    (k : ∀ av v σ1 s1, RepV s1.heap av v → At X σ1 s1 → FR X env nm l σ1 s1.heap → Step (FB env) σ s σ1 s1 → Step E0 σ s σ1 s1 → Q1 av σ1 → wpAny X.M A (f v) R E s1) :
    wpAny X.M A t (fun v s1 => wpAny X.M A (f v) R E s1) E s :=
  wpAny_mono h (fun v s1 ⟨av, σ1, r, a, st, q⟩ => k av v σ1 s1 r a (F.step a0 st) (st.weaken FB.of_e0) st q) fun e s' x => hE e s' (x.toS a0 F)

theorem sound_nil : SoundSs X env nm [] A.nil := fun d A l σ s Q Z L a F q => wpAny_execs_nil ⟨.next, l, σ, trivial, a, F, .refl .., q⟩

theorem sound_cons {st : Stmt} {sts : List Stmt} {m ms : AS} (h : SoundS X env nm st m) (hs : SoundSs X env nm sts ms) : SoundSs X env nm (st :: sts) (A.cons m ms) := fun d A l σ s Q Z L a F q => by
  refine wpAny_execs_cons (wpAny_mono (h d A l σ s _ Z L a F q) (fun f s1 ⟨fl, l1, σ1, r, a1, F1, st1, q1⟩ => ?_) fun _ _ e => e)
  cases f with
  | next =>
    cases fl with
    | next => exact wpAny_mono (hs d A l1 σ1 s1 Q Z L a1 F1 q1) (fun _ _ x => x.back st1) fun _ _ x => x.back st1
    | ret v => exact r.elim
  | ret v =>
    cases fl with
    | next => exact r.elim
    | ret av => exact ⟨.ret av, l1, σ1, r, a1, F1, st1, q1⟩
  | brk => cases fl <;> exact r.elim
  | cont => cases fl <;> exact r.elim

theorem sound_ret {e : Expr} {pos : Pos} {m : AE} (h : SoundE X env nm e m) : SoundS X env nm (.Return (some e) pos) (A.ret m) := fun d A l σ s Q Z L a F q =>
  wpAny_Return_some (wpAny_mono (h d A l σ s _ _ L a F q) (fun v s1 ⟨av, σ1, r, a1, st, q1⟩ => ⟨.ret av, l, σ1, r, a1, F.step a st, st.weaken FB.of_e0, q1⟩) fun _ _ x => x.toS a F)
theorem sound_set {x : Str} {pos' pos : Pos} {value : Expr} {m : AE} {i : Nat} (EO : EnvOk env) (h : SoundE X env nm value m) (hx : nm.lookup x = some i) (hk : env.kindOf x = some .local ∨ env.kindOf x = some .cell)
    (hs : swapsWith value (some (.Name x pos')) pos.line env = pure false) : SoundS X env nm (.Assign [.Name x pos'] value pos) (A.set i m) := fun d A l σ s Q Z L a F q =>
  wpAny_Assign_Name (inS a F (h d A l σ s _ _ L a F q) (fun _ _ e => e) fun av v σ1 s1 r a1 F1 st _ q1 =>
    wp_store EO F1 a1 hx hk r fun s2 F2 a2 st2 => ⟨.next, _, σ1, trivial, a2, F2, st.trans st2, q1⟩) hs

theorem sound_if {test : Expr} {body orelse : List Stmt} {pos : Pos} {t : AE} {a b : AS} (ht : SoundB X env nm test t) (ha : SoundSs X env nm body a) (hb : SoundSs X env nm orelse b) :
    SoundS X env nm (.If test body orelse pos) (A.if_ t a b) := fun d A l σ s Q Z L a0 F q => by
  refine wpAny_If (wpAny_mono (ht d A l σ s _ _ L a0 F q) (fun c s1 ⟨σ1, a1, st, q1⟩ => ?_) fun _ _ x => x.toS a0 F)
  have F1 := F.step a0 st
  have st' := st.weaken (B' := FB env) FB.of_e0
  cases c with
  | true => simp only [if_true] at q1 ⊢; exact wpAny_mono (ha d A l σ1 s1 Q Z L a1 F1 q1) (fun _ _ x => x.back st') fun _ _ x => x.back st'
  | false => simp only [Bool.false_eq_true, if_false] at q1 ⊢; exact wpAny_mono (hb d A l σ1 s1 Q Z L a1 F1 q1) (fun _ _ x => x.back st') fun _ _ x => x.back st'

theorem noX {σ : AHeap} {s : Shared} {e : Value} {s' : Shared} {P : Prop} (h : liftX X σ s (fun _ _ => False) e s') : P := let ⟨_, _, _, _, _, z⟩ := h; z.elim
theorem noSX {σ : AHeap} {s : Shared} {e : Value} {s' : Shared} {P : Prop} (h : liftSX X env nm σ s (fun _ _ _ => False) e s') : P := let ⟨_, _, _, _, _, _, _, z⟩ := h; z.elim

theorem sound_while {test : Expr} {body : List Stmt} {pos : Pos} {t : AE} {m : AS} (ht : SoundB X env nm test t) (hb : SoundSs X env nm body m) :
    SoundS X env nm (.While test body [] pos) (A.while_ t m) := fun d A l σ s Q Z L a0 F ⟨J, n, hJ, hstep⟩ => by
  refine wpAny_While (codeAny_whileLoop (fun n s1 => ∃ l1 σ1, At X σ1 s1 ∧ FR X env nm l1 σ1 s1.heap ∧ Step (FB env) σ s σ1 s1 ∧ J n l1 σ1) ?_ n ⟨l, σ, a0, F, .refl .., hJ⟩)
  rintro n s1 ⟨l1, σ1, a1, F1, st1, hJ1⟩
  refine wpAny_mono (ht d A l1 σ1 s1 _ _ L a1 F1 (hstep n l1 σ1 hJ1)) (fun c s2 ⟨σ2, a2, st2, q2⟩ => ?_) fun _ _ x => noX x
  have F2 := F1.step a1 st2
  have st2' := st1.trans (st2.weaken (B' := FB env) FB.of_e0)
  cases c with
  | true =>
    simp only [if_true] at q2 ⊢
    refine wpAny_mono (hb d A l1 σ2 s2 _ _ L a2 F2 q2) (fun f s3 ⟨fl, l3, σ3, r, a3, F3, st3, q3⟩ => ?_) fun _ _ x => noSX x
    cases f with
    | next =>
      cases fl with
      | next => obtain ⟨k, hk, hJ3⟩ := q3; exact ⟨k, hk, l3, σ3, a3, F3, st2'.trans st3, hJ3⟩
      | ret v => exact r.elim
    | ret v =>
      cases fl with
      | next => exact r.elim
      | ret av => exact ⟨.ret av, l3, σ3, r, a3, F3, st2'.trans st3, q3⟩
    | brk => cases fl <;> exact r.elim
    | cont => cases fl <;> exact r.elim
  | false =>
    simp only [Bool.false_eq_true, if_false] at q2 ⊢
    exact wpAny_execs_nil ⟨.next, l1, σ2, trivial, a2, F2, st2', q2⟩
end

/-- targets: a name, or a tuple of names -/
inductive Tgt where
  | one (i : Nat)
  | many (is : List Nat)
def sets : List Nat → List AV → Loc → Loc
  | i :: is, x :: xs, l => sets is xs (l.set i (some x))
  | _, _, l => l
def bindT : Tgt → AV → Loc → Option Loc
  | .one i, x, l => some (l.set i (some x))
  | .many is, .tup xs, l => if xs.length = is.length then some (sets is xs l) else none
  | _, _, _ => none

def SoundT (X : Cx) (env : Env) (nm : List (Str × Nat)) (target : Expr) (t : Tgt) : Prop :=
  ∀ d A l l' σ s x v (Q : Unit → Shared → Prop) E, Live d A → At X σ s → FR X env nm l σ s.heap → RepV s.heap x v → bindT t x l = some l' →
    (∀ s', FR X env nm l' σ s'.heap → At X σ s' → Step (FB env) σ s σ s' → Q () s') → wpAny X.M A (assign target env v) Q E s

theorem soundT_one {X : Cx} {env : Env} {nm : List (Str × Nat)} {x : Str} {pos : Pos} {i : Nat} (EO : EnvOk env) (hx : nm.lookup x = some i) (hk : env.kindOf x = some .local ∨ env.kindOf x = some .cell) :
    SoundT X env nm (.Name x pos) (.one i) := fun d A l l' σ s y v Q E L a F r hb h => by
  cases hb
  exact wpAny_assign_Name (wp_store EO F a hx hk r h)

/-- an iterator over known items -/
structure ItOk (X : Cx) (A : Around) (target : Expr) (it : Value) (I : AHeap → Prop) (xs : List AV) (W : Addr → Prop) (St : Nat → Heap → Prop) : Prop where
  stable : ∀ i h h', St i h → KeepV h h' → (∀ b o, W b → h.get? b = some o → h'.get? b = some o) → St i h'
  there : ∀ i h b, St i h → W b → ∃ o, h.get? b = some o ∧ ¬ Stays o ∧ (∀ es n, o.data ≠ .dict es n) ∧ (∀ v, o.data ≠ .cell v)
  item : ∀ i x σ s (Q : Value → Shared → Prop) (Qn : Option Value → Shared → Prop) E, (∀ v s1, wpAny X.M A (letOwnedTupleGo target it v) (fun _ s' => Q v s') E s1 → Qn (some v) s1) →
    xs[i]? = some x → At X σ s → I σ → St i s.heap → (∀ b, W b → σ b = none ∧ X.h₀.get? b = none) →
    (∀ v s', RepV s'.heap x v → At X σ s' → Step W σ s σ s' → St (i + 1) s'.heap → Q v s') → wpAny X.M A (pyNext it) Qn E s
  done : ∀ σ s (Q : Option Value → Shared → Prop) E, At X σ s → I σ → St xs.length s.heap → (∀ b, W b → σ b = none ∧ X.h₀.get? b = none) →
    (∀ s', At X σ s' → Step W σ s σ s' → Q none s') → wpAny X.M A (pyNext it) Q E s
  self : ∀ i s (Q : Value → Shared → Prop) E, St i s.heap → Q it s → wpAny X.M A (pyIter it) Q E s

def forL (I : AHeap → Prop) (t : Tgt) (body : AS) (d : Nat) (Q : SPost) : List AV → Loc → AHeap → Prop
  | [], l, σ => Q .next l σ
  | x :: xs, l, σ => ∃ l', bindT t x l = some l' ∧ body d l' (fun f l'' σ' => match f with | .next => I σ' ∧ forL I t body d Q xs l'' σ' | .ret v => Q (.ret v) l'' σ') (fun _ _ _ => False) σ

section
variable {X : Cx} {env : Env} {nm : List (Str × Nat)} {A : Around} {σ : AHeap} {s : Shared}

theorem for_loop {d : Nat} {target : Expr} {t : Tgt} {body : List Stmt} {m : AS} {it : Value} {I : AHeap → Prop} {xs : List AV} {W : Addr → Prop} {St : Nat → Heap → Prop} {l : Loc} {Q : SPost} {R : Result → Shared → Prop}
    (L : Live d A) (IT : ItOk X A target it I xs W St) (ht : SoundT X env nm target t) (hb : SoundSs X env nm body m) (hW : ∀ b, W b → σ b = none ∧ X.h₀.get? b = none)
    (a0 : At X σ s) (F : FR X env nm l σ s.heap) (hI : I σ) (hSt : St 0 s.heap) (h : forL I t m d Q xs l σ)
    (hR : ∀ f s', (∃ fl l' σ', RepFl s'.heap fl f ∧ At X σ' s' ∧ FR X env nm l' σ' s'.heap ∧ Step (fun b => FB env b ∨ W b) σ s σ' s' ∧ Q fl l' σ') → R (.ok f) s') :
    codeAny X.M A (.forLoop target it body [] env) R s := by
  refine codeAny_forLoop_any (fun k s1 => ∃ i l1 σ1, k = xs.length + 1 - i ∧ i ≤ xs.length ∧ At X σ1 s1 ∧ FR X env nm l1 σ1 s1.heap ∧ Step (fun b => FB env b ∨ W b) σ s σ1 s1 ∧ I σ1 ∧ St i s1.heap ∧
    (∀ b, W b → σ1 b = none ∧ X.h₀.get? b = none) ∧ forL I t m d Q (xs.drop i) l1 σ1) ?_ (xs.length + 1) ⟨0, l, σ, rfl, Nat.zero_le _, a0, F, .refl .., hI, hSt, hW, h⟩
  rintro k s1 ⟨i, l1, σ1, rfl, hi, a1, F1, st1, hI1, hSt1, hW1, hf⟩
  have noW : NoStay W s1.heap := fun b o hb e => by obtain ⟨o', e', h', _⟩ := IT.there i _ b hSt1 hb; rw [e] at e'; cases e'; exact h'
  have dis : ∀ b, FB env b → ¬ W b := fun b hb hw => by
    obtain ⟨o', e', _, h1, h2⟩ := IT.there i _ b hSt1 hw
    rcases hb with rfl | ⟨x, hx⟩
    · obtain ⟨_, ⟨o, es, ep, ho, hd, _⟩, _⟩ := F1.ns
      rw [ho] at e'; cases e'; exact h1 _ _ hd
    · obtain ⟨_, _, v, o, ho, hd⟩ := F1.outc x b hx
      rw [ho] at e'; cases e'; exact h2 _ hd
  cases hx : xs[i]? with
  | none =>
    have hil : i = xs.length := Nat.le_antisymm hi (List.getElem?_eq_none_iff.mp hx)
    subst hil
    refine IT.done σ1 s1 _ _ a1 hI1 hSt1 hW1 fun s2 a2 st2 => ?_
    refine wpAny_execs_nil (hR _ _ ⟨.next, l1, σ1, trivial, a2, F1.stepB a1 st2 dis noW, st1.trans (st2.weaken fun b hb => .inr hb), ?_⟩)
    rw [List.drop_length] at hf; exact hf
  | some x =>
    have hlt : i < xs.length := (List.getElem?_eq_some_iff.mp hx).1
    have hd : xs.drop i = x :: xs.drop (i + 1) := by
      rw [List.drop_eq_getElem_cons hlt, (List.getElem?_eq_some_iff.mp hx).2]
    rw [hd] at hf
    obtain ⟨l2, hb2, hf⟩ := hf
    refine IT.item i x σ1 s1 _ _ _ (fun v s2 hr => hr) hx a1 hI1 hSt1 hW1 fun v s2 rv a2 st2 hSt2 => ?_
    · have F2 := F1.stepB a1 st2 dis noW
      have noF := F2.noStay
      refine ht d A l1 l2 σ1 s2 x v _ _ L a2 F2 rv hb2 fun s3 F3 a3 st3 => ?_
      have hSt3 : St (i + 1) s3.heap := IT.stable _ _ _ hSt2 (st3.keepV a2 noF) fun b o hb e => st3.keep b o e (hW1 b hb).1 fun q => dis b q hb
      refine wpAny_mono (hb d A l2 σ1 s3 _ _ L a3 F3 hf) (fun f s4 ⟨fl, l4, σ4, r, a4, F4, st4, q4⟩ => ?_) fun _ _ x => noSX x
      have stA : Step (fun b => FB env b ∨ W b) σ s σ4 s4 := st1.trans ((st2.weaken fun b hb => .inr hb).trans ((st3.weaken fun b hb => .inl hb).trans (st4.weaken fun b hb => .inl hb)))
      cases f with
      | next =>
        cases fl with
        | next =>
          obtain ⟨hI4, hf4⟩ := q4
          refine ⟨xs.length + 1 - (i + 1), by omega, i + 1, l4, σ4, rfl, hlt, a4, F4, stA, hI4, IT.stable _ _ _ hSt3 (st4.keepV a3 F3.noStay) fun b o hb e => st4.keep b o e (hW1 b hb).1 fun q => dis b q hb, fun b hb => ⟨?_, (hW1 b hb).2⟩, hf4⟩
          obtain ⟨o, ho, _⟩ := IT.there _ _ b hSt3 hb
          cases h4 : σ4 b with
          | none => rfl
          | some ao => exact absurd (st4.fresh b (by rw [h4]; simp) (hW1 b hb).1) (Nat.not_le.mpr (Heap.lt_size ho))
        | ret v => exact r.elim
      | ret v =>
        cases fl with
        | next => exact r.elim
        | ret av => exact hR _ _ ⟨.ret av, l4, σ4, r, a4, F4, stA, q4⟩
      | brk => cases fl <;> exact r.elim
      | cont => cases fl <;> exact r.elim
end
end Mine

set_option maxRecDepth 100000
set_option linter.unusedVariables false
namespace Mine
open PySem PyProof.Rows

section
variable {X : Cx} {σ : AHeap} {s : Shared} {W : Addr → Prop} {h' : Heap}
theorem At.moved (a : At X σ s) (t : Nat) (hW : ∀ b, W b → σ b = none ∧ X.h₀.get? b = none) (nW : NoStay W s.heap) (hk : ∀ b o, ¬ W b → s.heap.get? b = some o → h'.get? b = some o) :
    At X σ { s with heap := h', toks := t } := by
  have kv : KeepV s.heap h' := fun b o e st => hk b o (fun q => nW b o q e st) e
  refine ⟨fun b o e => hk b o (fun q => ?_) (a.keep b o e), fun b ao e => (a.rep b ao e).mono kv fun o ho => hk b o (fun q => ?_) ho, a.own, a.gens, a.os⟩
  · rw [(hW b q).2] at e; cases e
  · rw [(hW b q).1] at e; cases e
theorem Step.moved (σ : AHeap) (t : Nat) (hk : ∀ b o, ¬ W b → s.heap.get? b = some o → h'.get? b = some o) (hsz : s.heap.objs.size ≤ h'.objs.size) : Step W σ s σ { s with heap := h', toks := t } :=
  ⟨fun b o e _ h => hk b o h e, fun _ h1 h2 => absurd h2 h1, hsz⟩
end

/-- the iterator's object is neither a value's nor a frame's -/
def Plain (o : Obj) : Prop := ¬ Stays o ∧ (∀ es n, o.data ≠ .dict es n) ∧ (∀ v, o.data ≠ .cell v)
theorem Plain.of_fields {o : Obj} {T : String} {vs : Array Value} (hc : o.cls = .type T) (hd : o.data = .fields vs) (h2 : T ≠ "range") : Plain o := by
  refine ⟨?_, fun es n h => ?_, fun v h => ?_⟩
  rotate_left
  · rw [hd] at h; cases h
  · rw [hd] at h; cases h
  rintro (⟨h, _, _, h'⟩ | ⟨h, _⟩ | ⟨c, vs, h, _⟩)
  · rw [hd] at h'; cases h'
  · rw [hc] at h; cases h; exact h2 rfl
  · rw [hc] at h; cases h

section
variable {X : Cx} {A : Around} {target : Expr}

/-- letOwnedTupleGo does nothing beside an iterator of another class -/
theorem wp_let_other {M : Model} {it : Addr} {v : Value} {o : Obj} {T : String} {vs : Array Value} {s : Shared} {Q : Unit → Shared → Prop} {E : Value → Shared → Prop} (ho : s.heap.get? it = some o) (hc : o.cls = .type T) (hd : o.data = .fields vs)
    (hT : ["enumerate", "zip", "dict_itemiterator", "dict_reverseitemiterator", "odict_iterator", "itertools.zip_longest", "itertools.pairwise"].contains T = false) (h : Q () s) :
    wpAny M A (letOwnedTupleGo target (.ref it) v) Q E s := by
  unfold letOwnedTupleGo
  split
  · split
    · rename_i r a heq
      cases heq
      refine wpAny_bind (wpAny_load ho ?_)
      rw [hc, hd]
      dsimp only
      rw [hT]
      simp only [Bool.false_and, Bool.false_eq_true, if_false]
      exact wpAny_pure h
    · exact wpAny_pure h
  · split
    · rename_i r a heq
      cases heq
      refine wpAny_bind (wpAny_load ho ?_)
      rw [hc, hd]
      dsimp only
      rw [hT]
      simp only [Bool.false_and, Bool.false_eq_true, if_false]
      exact wpAny_pure h
    · exact wpAny_pure h
  · exact wpAny_pure h

def listAt (a : Addr) (xs : List AV) (σ : AHeap) : Prop := σ a = some (.list xs) ∨ σ a = some (.rolist xs)
theorem At.isList {σ : AHeap} {s : Shared} (a : At X σ s) {b : Addr} {xs : List AV} (h : listAt b xs σ) : ∃ vs : List Value, s.heap.IsList b vs.toArray ∧ RepVs s.heap xs vs := by
  rcases h with h | h
  · obtain ⟨vs, n, e, r, _⟩ := a.rep b _ h; exact ⟨vs, ⟨_, e, rfl, n, rfl⟩, r⟩
  · obtain ⟨vs, e, r, _⟩ := a.rep b _ h; exact ⟨vs, e, r⟩
theorem At.len {σ : AHeap} {s : Shared} (a : At X σ s) {b : Addr} {xs : List AV} (h : listAt b xs σ) : xs.length ≤ 1000000 := by
  rcases h with h | h
  · obtain ⟨vs, n, e, r, hl⟩ := a.rep b _ h; exact hl
  · obtain ⟨vs, e, r, hl⟩ := a.rep b _ h; exact hl

theorem itOk_list (hh : A.handled = none) (it b : Addr) (xs : List AV) : ItOk X A target (.ref it) (listAt b xs) xs (fun c => c = it) (fun i h => h.IsListIter it b i) where
  stable := fun i h h' ⟨o, ho, r⟩ _ k => ⟨o, k _ _ rfl ho, r⟩
  there := fun i h c ⟨o, ho, hc, hd⟩ e => by subst e; exact ⟨o, ho, Plain.of_fields hc hd (by decide)⟩
  item := fun i x σ s Q Qn E hQn hx a hI hSt hW h => by
    obtain ⟨vs, hl, rv⟩ := a.isList hI
    obtain ⟨v, hv, r⟩ := rv.get hx
    obtain ⟨o, ho, hc, hd⟩ := id hSt
    have nW : NoStay (fun c => c = it) s.heap := fun c o' e e' => by subst e; rw [ho] at e'; cases e'; exact (Plain.of_fields hc hd (by decide)).1
    refine wpAny_pyNext_list_item hSt hl (by simpa using hv) fun h' hit' hs' => hQn v _ ?_
    obtain ⟨o', ho', hc', hd'⟩ := id hit'
    have hk : ∀ c o, ¬ c = it → s.heap.get? c = some o → h'.get? c = some o := fun c o hc e => (hs'.2 c hc).trans e
    have kv : KeepV s.heap h' := fun c o' e st => hk c o' (fun q => nW c o' q e st) e
    exact wp_let_other ho' hc' hd' (by decide) (h v { s with heap := h' } (r.mono kv) (a.moved (t := s.toks) hW nW hk) (Step.moved σ s.toks hk (Nat.le_of_eq hs'.1.symm)) hit')
  done := fun σ s Q E a hI hSt hW h => by
    obtain ⟨vs, hl, rv⟩ := a.isList hI
    obtain ⟨o, ho, hc, hd⟩ := id hSt
    have nW : NoStay (fun c => c = it) s.heap := fun c o' e e' => by subst e; rw [ho] at e'; cases e'; exact (Plain.of_fields hc hd (by decide)).1
    refine with_size (wpAny_pyNext_list_end hh hSt hl (by simp [rv.length]) fun h' he' hsz => ?_)
    have hk : ∀ c o, ¬ c = it → s.heap.get? c = some o → h'.get? c = some o := fun c o hc e => he' c o hc e
    exact h { s with heap := h' } (a.moved (t := s.toks) hW nW hk) (Step.moved σ s.toks hk hsz)
  self := fun i s Q E hSt h => wpAny_pyIter_listiter hSt h

theorem itOk_tuple (hh : A.handled = none) (it b : Addr) (xs : List AV) : ItOk X A target (.ref it) (fun _ => True) xs (fun c => c = it) (fun i h => h.IsTupleIter it b i ∧ ∃ vs : List Value, h.IsTuple b vs.toArray ∧ RepVs h xs vs) where
  stable := fun i h h' ⟨⟨o, ho, r⟩, vs, ⟨o2, ho2, hc2, n2, hd2⟩, rv⟩ kv k => ⟨⟨o, k _ _ rfl ho, r⟩, vs, ⟨o2, kv _ _ ho2 (.inl ⟨hc2, _, n2, hd2⟩), hc2, n2, hd2⟩, rv.mono kv⟩
  there := fun i h c ⟨⟨o, ho, hc, hd⟩, _⟩ e => by subst e; exact ⟨o, ho, Plain.of_fields hc hd (by decide)⟩
  item := fun i x σ s Q Qn E hQn hx a hI hSt hW h => by
    obtain ⟨hit, vs, hl, rv⟩ := hSt
    obtain ⟨v, hv, r⟩ := rv.get hx
    obtain ⟨o, ho, hc, hd⟩ := id hit
    have nW : NoStay (fun c => c = it) s.heap := fun c o' e e' => by subst e; rw [ho] at e'; cases e'; exact (Plain.of_fields hc hd (by decide)).1
    refine wpAny_pyNext_tuple_item hit hl (by simpa using hv) fun h' hit' hs' => hQn v _ ?_
    obtain ⟨o', ho', hc', hd'⟩ := id hit'
    have hk : ∀ c o, ¬ c = it → s.heap.get? c = some o → h'.get? c = some o := fun c o hc e => (hs'.2 c hc).trans e
    have kv : KeepV s.heap h' := fun c o' e st => hk c o' (fun q => nW c o' q e st) e
    obtain ⟨o2, ho2, hc2, n2, hd2⟩ := id hl
    exact wp_let_other ho' hc' hd' (by decide) (h v { s with heap := h' } (r.mono kv) (a.moved (t := s.toks) hW nW hk) (Step.moved σ s.toks hk (Nat.le_of_eq hs'.1.symm))
      ⟨hit', vs, ⟨o2, kv _ _ ho2 (.inl ⟨hc2, _, n2, hd2⟩), hc2, n2, hd2⟩, rv.mono kv⟩)
  done := fun σ s Q E a hI hSt hW h => by
    obtain ⟨hit, vs, hl, rv⟩ := hSt
    obtain ⟨o, ho, hc, hd⟩ := id hit
    have nW : NoStay (fun c => c = it) s.heap := fun c o' e e' => by subst e; rw [ho] at e'; cases e'; exact (Plain.of_fields hc hd (by decide)).1
    refine with_size (wpAny_pyNext_tuple_end hh hit hl (by simp [rv.length]) fun h' he' hsz => ?_)
    have hk : ∀ c o, ¬ c = it → s.heap.get? c = some o → h'.get? c = some o := fun c o hc e => he' c o hc e
    exact h { s with heap := h' } (a.moved (t := s.toks) hW nW hk) (Step.moved σ s.toks hk hsz)
  self := fun i s Q E hSt h => wpAny_pyIter_tupleiter hSt.1 h

/-- the intL from lo on, n of them -/
def intL (lo : Int) : Nat → List AV
  | 0 => []
  | n + 1 => .int lo :: intL (lo + 1) n
theorem intL_length : ∀ (n : Nat) (lo : Int), (intL lo n).length = n
  | 0, _ => rfl
  | n + 1, lo => by simp [intL, intL_length n]
theorem ints_get : ∀ (n : Nat) (lo : Int) (i : Nat), (intL lo n)[i]? = if i < n then some (.int (lo + i)) else none
  | 0, _, i => by simp [intL]
  | n + 1, lo, 0 => by simp [intL]
  | n + 1, lo, i + 1 => by
    simp only [intL, List.getElem?_cons_succ, ints_get n]
    have e : lo + 1 + (i : Int) = lo + ((i + 1 : Nat) : Int) := by lia
    by_cases h : i < n
    · have h' : i + 1 < n + 1 := by lia
      simp only [h, h', if_true, e]
    · have h' : ¬ i + 1 < n + 1 := by lia
      simp only [h, h', if_false]

theorem itOk_range (hh : A.handled = none) (it : Addr) (lo : Int) (n : Nat) : ItOk X A target (.ref it) (fun _ => True) (intL lo n) (fun c => c = it) (fun i h => IsRangeIter h it (lo + i) ((n : Int) - i) 1) where
  stable := fun i h h' ho _ k => k _ _ rfl ho
  there := fun i h c ho e => by subst e; exact ⟨_, ho, Plain.of_fields rfl rfl (by decide)⟩
  item := fun i x σ s Q Qn E hQn hx a hI hSt hW h => by
    rw [ints_get] at hx
    by_cases hi : i < n
    · simp only [hi, if_true, Option.some.injEq] at hx
      subst hx
      have nW : NoStay (fun c => c = it) s.heap := fun c o' e e' => by subst e; rw [hSt] at e'; cases e'; exact (Plain.of_fields (T := "range_iterator") rfl rfl (by decide)).1
      refine wpAny_pyNext_range_item hSt (by lia) fun h' hit' hs' => hQn _ _ ?_
      have hk : ∀ c o, ¬ c = it → s.heap.get? c = some o → h'.get? c = some o := fun c o hc e => (hs'.2 c hc).trans e
      have hit'' : IsRangeIter h' it (lo + ((i + 1 : Nat) : Int)) ((n : Int) - ((i + 1 : Nat) : Int)) 1 := by
        have e1 : lo + ((i + 1 : Nat) : Int) = lo + (i : Int) + 1 := by lia
        have e2 : (n : Int) - ((i + 1 : Nat) : Int) = (n : Int) - (i : Int) - 1 := by lia
        rw [e1, e2]; exact hit'
      exact wp_let_other hit' rfl rfl (by decide) (h _ { s with heap := h', toks := s.toks + 1 } (.int _ _) (a.moved (t := s.toks + 1) hW nW hk) (Step.moved σ (s.toks + 1) hk (Nat.le_of_eq hs'.1.symm)) hit'')
    · simp [hi] at hx
  done := fun σ s Q E a hI hSt hW h => by
    rw [intL_length] at hSt
    have nW : NoStay (fun c => c = it) s.heap := fun c o' e e' => by subst e; rw [hSt] at e'; cases e'; exact (Plain.of_fields (T := "range_iterator") rfl rfl (by decide)).1
    refine with_size (wpAny_pyNext_range_end hh hSt (by lia) fun h' he' hsz => ?_)
    have hk : ∀ c o, ¬ c = it → s.heap.get? c = some o → h'.get? c = some o := fun c o hc e => he' c o hc e
    exact h { s with heap := h' } (a.moved (t := s.toks) hW nW hk) (Step.moved σ s.toks hk hsz)
  self := fun i s Q E hSt h => wpAny_pyIter_rangeiter hSt h

/-- pairs of a place and an item -/
def enumL (k : Nat) : List AV → List AV
  | [] => []
  | x :: xs => .tup [.int k, x] :: enumL (k + 1) xs
theorem enumL_length : ∀ (xs : List AV) (k : Nat), (enumL k xs).length = xs.length
  | [], _ => rfl
  | _ :: xs, k => by simp [enumL, enumL_length xs]
theorem enumL_get : ∀ (xs : List AV) (k i : Nat), (enumL k xs)[i]? = xs[i]?.map fun x => .tup [.int ((k + i : Nat) : Int), x]
  | [], _, i => by simp [enumL]
  | x :: xs, k, 0 => by simp [enumL]
  | x :: xs, k, i + 1 => by
    simp only [enumL, List.getElem?_cons_succ, enumL_get xs]
    have : k + 1 + i = k + (i + 1) := by lia
    rw [this]

theorem itOk_enum (hh : A.handled = none) {elts : List Expr} {x1 : Nat} {pos : Pos} (e it b : Addr) (hne : e ≠ it) (xs : List AV) :
    ItOk X A (.Tuple elts x1 pos) (.ref e) (listAt b xs) (enumL 0 xs) (fun c => c = e ∨ c = it) (fun i h => h.IsListIter it b i ∧ ∃ old, IsEnum h e it i old) where
  stable := fun i h h' ⟨⟨o, ho, r⟩, old, he⟩ _ k => ⟨⟨o, k _ _ (.inr rfl) ho, r⟩, old, k _ _ (.inl rfl) he⟩
  there := fun i h c ⟨⟨o, ho, hc, hd⟩, old, he⟩ q => by
    rcases q with rfl | rfl
    · exact ⟨_, he, Plain.of_fields rfl rfl (by decide)⟩
    · exact ⟨o, ho, Plain.of_fields hc hd (by decide)⟩
  item := fun i x σ s Q Qn E hQn hx a hI hSt hW h => by
    obtain ⟨vs, hl, rv⟩ := a.isList hI
    rw [enumL_get] at hx
    obtain ⟨y, hy, rfl⟩ := Option.map_eq_some_iff.mp hx
    obtain ⟨v, hv, r⟩ := rv.get hy
    obtain ⟨hit, old, he⟩ := hSt
    obtain ⟨o, ho, hc, hd⟩ := id hit
    have nW : NoStay (fun c => c = e ∨ c = it) s.heap := fun c o' q e' => by
      rcases q with rfl | rfl
      · rw [he] at e'; cases e'; exact (Plain.of_fields (T := "enumerate") rfl rfl (by decide)).1
      · rw [ho] at e'; cases e'; exact (Plain.of_fields hc hd (by decide)).1
    refine wpAny_pyNext_enum_item he hit hl (by simpa using hv) hne fun h' he' hit' htup hsz hk => hQn _ _ ?_
    refine wpAny_letOwnedTupleGo_enum he' fun h'' he'' hs'' => ?_
    have hk' : ∀ c o, ¬ (c = e ∨ c = it) → s.heap.get? c = some o → h''.get? c = some o := fun c o hc eo => by
      have h1 : c ≠ e := fun q => hc (.inl q)
      have h2 : c ≠ it := fun q => hc (.inr q)
      exact (hs''.2 c h1).trans (hk c o h1 h2 eo)
    have kv : KeepV s.heap h'' := fun c o' e st => hk' c o' (fun q => nW c o' q e st) e
    have hes : s.heap.objs.size ≠ e := Nat.ne_of_gt (Heap.lt_size he)
    have hit'' : h''.IsListIter it b (i + 1) := by
      obtain ⟨o3, ho3, r3⟩ := hit'
      exact ⟨o3, (hs''.2 it (Ne.symm hne)).trans ho3, r3⟩
    refine h (.ref s.heap.objs.size) { s with heap := h'', toks := s.toks + 1 } (.tup (vs := [.int i s.toks, v]) (by simp) ⟨_, (hs''.2 _ hes).trans htup, rfl, 0, rfl⟩ (.cons ?_ (.cons (r.mono kv) .nil)))
      (a.moved (t := s.toks + 1) hW nW hk') (Step.moved σ (s.toks + 1) hk' (by rw [hs''.1, hsz]; lia)) ⟨hit'', v, ?_⟩
    · have : ((0 + i : Nat) : Int) = (i : Int) := by lia
      rw [this]; exact .int _ _
    · have : ((i + 1 : Nat) : Int) = (i : Int) + 1 := by lia
      rw [this]; exact he''
  done := fun σ s Q E a hI hSt hW h => by
    obtain ⟨vs, hl, rv⟩ := a.isList hI
    rw [enumL_length] at hSt
    obtain ⟨hit, old, he⟩ := hSt
    obtain ⟨o, ho, hc, hd⟩ := id hit
    have nW : NoStay (fun c => c = e ∨ c = it) s.heap := fun c o' q e' => by
      rcases q with rfl | rfl
      · rw [he] at e'; cases e'; exact (Plain.of_fields (T := "enumerate") rfl rfl (by decide)).1
      · rw [ho] at e'; cases e'; exact (Plain.of_fields hc hd (by decide)).1
    refine with_size (wpAny_pyNext_enum_end hh he hit hl (by simp [rv.length]) fun h' he' hsz => ?_)
    have hk : ∀ c o, ¬ (c = e ∨ c = it) → s.heap.get? c = some o → h'.get? c = some o := fun c o hc e => he' c o (fun q => hc (.inr q)) e
    exact h { s with heap := h' } (a.moved (t := s.toks) hW nW hk) (Step.moved σ s.toks hk hsz)
  self := fun i s Q E hSt h => by
    obtain ⟨_, old, he⟩ := hSt
    exact wpAny_pyIter_enum he h
end
end Mine

set_option maxRecDepth 100000
set_option linter.unusedVariables false
namespace Mine
open PySem PyProof.Rows

/-- the cells that a comprehension closes over -/
def clo (cells : List (Str × Addr)) : List (Str × NameKind) → List (Str × Addr) → List (Str × Addr)
  | [], acc => acc
  | (x, k) :: r, acc => if k == .free then (match cells.lookup x with | some c => clo cells r ((x, c) :: acc) | none => clo cells r acc) else clo cells r acc

theorem clo_closure {env : Env} : ∀ (names : List (Str × NameKind)) (acc : List (Str × Addr)) (f : Str × NameKind → List (Str × Addr) → Sem (ForInStep (List (Str × Addr)))),
    (∀ n k cs, f (n, k) cs = if k == .free then (do let c ← cellOf env n; pure (.yield ((n, c) :: cs))) else pure (.yield cs)) →
    (∀ x, (x, NameKind.free) ∈ names → (env.cells.lookup x).isSome = true) → (forIn names acc f : Sem (List (Str × Addr))) = pure (clo env.cells names acc)
  | [], acc, f, hf, h => rfl
  | (x, k) :: r, acc, f, hf, h => by
    rw [List.forIn_cons, hf]
    unfold clo
    by_cases hk : (k == NameKind.free) = true
    · have hk' : k = .free := by simpa using hk
      obtain ⟨c, hc⟩ := Option.isSome_iff_exists.mp (h x (by rw [hk']; exact List.mem_cons_self))
      simp only [hk, if_true, hc]
      have : cellOf env x = pure c := by unfold cellOf; rw [hc]
      rw [this]
      show (forIn r ((x, c) :: acc) f : Sem _) = _
      exact clo_closure r _ f hf fun y hy => h y (List.mem_cons_of_mem _ hy)
    · simp only [hk, Bool.false_eq_true, if_false]
      show (forIn r acc f : Sem _) = _
      exact clo_closure r _ f hf fun y hy => h y (List.mem_cons_of_mem _ hy)

theorem closureFor_clo {scope : Scope} {env : Env} (h : ∀ x, (x, NameKind.free) ∈ scope.names → (env.cells.lookup x).isSome = true) : closureFor scope env = pure (clo env.cells scope.names []) := by
  unfold closureFor
  simp only [bind_pure_comp]
  show (do let r ← forIn scope.names [] _; pure r) = _
  rw [clo_closure (env := env) scope.names [] _ (fun n k cs => ?_) h]
  · rfl
  · simp

theorem clo_mem {cells : List (Str × Addr)} : ∀ (names : List (Str × NameKind)) (acc : List (Str × Addr)) {x : Str} {c : Addr}, (x, c) ∈ clo cells names acc → (x, c) ∈ acc ∨ (cells.lookup x = some c ∧ (x, NameKind.free) ∈ names)
  | [], acc, x, c, h => .inl h
  | (y, k) :: r, acc, x, c, h => by
    unfold clo at h
    by_cases hk : (k == NameKind.free) = true
    · simp only [hk, if_true] at h
      have hk' : k = .free := by simpa using hk
      cases hy : cells.lookup y with
      | none => rw [hy] at h; exact (clo_mem r acc h).imp id fun q => ⟨q.1, List.mem_cons_of_mem _ q.2⟩
      | some d =>
        rw [hy] at h
        rcases clo_mem r _ h with q | q
        · rcases List.mem_cons.mp q with e | q
          · cases e; exact .inr ⟨hy, by rw [hk']; exact List.mem_cons_self⟩
          · exact .inl q
        · exact .inr ⟨q.1, List.mem_cons_of_mem _ q.2⟩
    · simp only [hk, Bool.false_eq_true, if_false] at h
      exact (clo_mem r acc h).imp id fun q => ⟨q.1, List.mem_cons_of_mem _ q.2⟩

theorem clo_sub {cells : List (Str × Addr)} : ∀ (names : List (Str × NameKind)) (acc : List (Str × Addr)) {p : Str × Addr}, p ∈ acc → p ∈ clo cells names acc
  | [], acc, p, h => h
  | (y, k) :: r, acc, p, h => by
    unfold clo
    by_cases hk : (k == NameKind.free) = true
    · simp only [hk, if_true]
      cases hy : cells.lookup y with
      | none => exact clo_sub r acc h
      | some d => exact clo_sub r _ (List.mem_cons_of_mem _ h)
    · simp only [hk, Bool.false_eq_true, if_false]; exact clo_sub r acc h
theorem clo_mem_of {cells : List (Str × Addr)} : ∀ (names : List (Str × NameKind)) (acc : List (Str × Addr)) {x : Str} {c : Addr}, (x, NameKind.free) ∈ names → cells.lookup x = some c → (x, c) ∈ clo cells names acc
  | (y, k) :: r, acc, x, c, h, hc => by
    unfold clo
    rcases List.mem_cons.mp h with e | h
    · cases e
      simp only [beq_self_eq_true, if_true, hc]
      exact clo_sub r _ List.mem_cons_self
    · by_cases hk : (k == NameKind.free) = true
      · simp only [hk, if_true]
        cases hy : cells.lookup y with
        | none => exact clo_mem_of r acc h hc
        | some d => exact clo_mem_of r _ h hc
      · simp only [hk, Bool.false_eq_true, if_false]; exact clo_mem_of r acc h hc

theorem clo_apart {cells : List (Str × Addr)} (hp : cells.Pairwise fun x y => x.2 ≠ y.2) : ∀ (names : List (Str × NameKind)) (acc : List (Str × Addr)), (names.map (·.1)).Nodup → (∀ x c, (x, c) ∈ acc → cells.lookup x = some c ∧ x ∉ names.map (·.1)) →
    (acc.Pairwise fun x y => x.2 ≠ y.2) → (clo cells names acc).Pairwise fun x y => x.2 ≠ y.2
  | [], acc, _, _, h => h
  | (y, k) :: r, acc, hn, ha, h => by
    have hn' := List.nodup_cons.mp hn
    have ha' : ∀ x c, (x, c) ∈ acc → cells.lookup x = some c ∧ x ∉ r.map (·.1) := fun x c hx => ⟨(ha x c hx).1, fun q => (ha x c hx).2 (List.mem_cons_of_mem _ q)⟩
    unfold clo
    by_cases hk : (k == NameKind.free) = true
    · simp only [hk, if_true]
      cases hy : cells.lookup y with
      | none => exact clo_apart hp r acc hn'.2 ha' h
      | some d =>
        refine clo_apart hp r _ hn'.2 (fun x c hx => ?_) (List.pairwise_cons.mpr ⟨fun p hp' e => ?_, h⟩)
        · rcases List.mem_cons.mp hx with e | hx
          · cases e; exact ⟨hy, hn'.1⟩
          · exact ha' x c hx
        · obtain ⟨x, c⟩ := p
          have h1 := (ha x c hp').1
          have e' : d = c := e
          subst e'
          have := name_of_addr hp (mem_of_lookup hy) (mem_of_lookup h1)
          subst this
          exact (ha _ _ hp').2 List.mem_cons_self
    · simp only [hk, Bool.false_eq_true, if_false]; exact clo_apart hp r acc hn'.2 ha' h

/-- how a comprehension's scope hangs together with the names around it -/
structure CompOk (sc : List (Str × NameKind)) (nm : List (Str × Nat)) (N : Nat) (names : List (Str × NameKind)) (nm' : List (Str × Nat)) (k : Nat) : Prop where
  nodup : (names.map (·.1)).Nodup
  kinds : ∀ x kd, (x, kd) ∈ names → kd = .local ∨ kd = .globalImplicit ∨ (kd = .free ∧ sc.lookup x = some .cell ∧ ∃ i, nm.lookup x = some i ∧ nm'.lookup x = some i)
  vars : ∀ x i, nm'.lookup x = some i → (names.lookup x = some .local ∧ N ≤ i ∧ i < N + k) ∨ (names.lookup x = some .free ∧ nm.lookup x = some i)
  inj : ∀ x y i, nm'.lookup x = some i → nm'.lookup y = some i → x = y
  len : lenOf nm' = N + k

theorem mem_of_lookup' {α : Type} : ∀ {l : List (Str × α)} {n : Str} {c : α}, l.lookup n = some c → (n, c) ∈ l := mem_of_lookup
theorem lookup_of_nodup {α : Type} : ∀ {l : List (Str × α)} {n : Str} {c : α}, (l.map (·.1)).Nodup → (n, c) ∈ l → l.lookup n = some c
  | (k, v) :: r, n, c, hn, h => by
    have hn' := List.nodup_cons.mp hn
    rw [List.lookup_cons]
    rcases List.mem_cons.mp h with e | h
    · cases e; simp
    · have : (n == k) = false := by
        cases hb : n == k with
        | false => rfl
        | true => rw [beq_iff_eq.mp hb] at h; exact absurd (List.mem_map_of_mem (f := (·.1)) h) hn'.1
      rw [this]; exact lookup_of_nodup hn'.2 h

section
variable {X : Cx} {env : Env} {nm nm' : List (Str × Nat)} {l : Loc} {σ : AHeap} {s : Shared} {scope : Scope} {N k : Nat}

/-- the kinds of names inside -/
theorem relabel_kind (EO : EnvOk env) (CK : CompOk env.scope.names nm N scope.names nm' k) (cl : List (Str × Addr)) (C : Addr) (x : Str) :
    (scope.names.lookup x = some .local → (compEnvC scope cl C env).kindOf x = some .local) ∧ (scope.names.lookup x = some .free → (compEnvC scope cl C env).kindOf x = some .cell) := by
  have gen : ∀ (names : List (Str × NameKind)), (∀ x, (x, NameKind.free) ∈ names → env.kindOf x = some .cell) →
      (names.lookup x = some .local → (names.map fun (n, k) => if (k == NameKind.free && env.scope.kind == .function && env.kindOf n == some .cell) then (n, NameKind.cell) else (n, k)).lookup x = some .local) ∧
      (names.lookup x = some .free → (names.map fun (n, k) => if (k == NameKind.free && env.scope.kind == .function && env.kindOf n == some .cell) then (n, NameKind.cell) else (n, k)).lookup x = some .cell) := by
    intro names
    induction names with
    | nil => intro _; exact ⟨fun h => by simp at h, fun h => by simp at h⟩
    | cons p r ih =>
      intro hk
      obtain ⟨n, kd⟩ := p
      have ih' := ih fun y hy => hk y (List.mem_cons_of_mem _ hy)
      simp only [List.map_cons, List.lookup_cons]
      by_cases hx : (x == n) = true
      · have hxn := beq_iff_eq.mp hx
        subst hxn
        simp only [beq_self_eq_true]
        refine ⟨fun h => ?_, fun h => ?_⟩
        · cases h; simp
        · cases h
          have := hk x List.mem_cons_self
          simp [EO.kind, this]
      · have hx' : (x == n) = false := by simpa using hx
        simp only [hx']
        by_cases hc : (kd == NameKind.free && env.scope.kind == .function && env.kindOf n == some .cell) = true
        · rw [if_pos hc, List.lookup_cons, hx']; exact ih'
        · rw [if_neg hc, List.lookup_cons, hx']; exact ih'
  refine gen scope.names fun y hy => ?_
  rcases CK.kinds y .free hy with h | h | ⟨_, h, _⟩
  · cases h
  · cases h
  · exact h

theorem CompOk.closure (F : FR X env nm l σ s.heap) (CK : CompOk env.scope.names nm N scope.names nm' k) : ∀ x, (x, NameKind.free) ∈ scope.names → (env.cells.lookup x).isSome = true := fun x hx => by
  rcases CK.kinds x .free hx with h | h | ⟨_, h, i, hi, _⟩
  · cases h
  · cases h
  · obtain ⟨c, v, hc, _⟩ := F.cell x i hi h
    rw [hc]; rfl

theorem envOk_comp (EO : EnvOk env) (CK : CompOk env.scope.names nm N scope.names nm' k) (hk : scope.kind = .function) (C : Addr) : EnvOk (compEnvC scope (clo env.cells scope.names []) C env) where
  kind := hk
  glob := EO.glob
  bi := EO.bi
  apart := clo_apart EO.apart _ _ CK.nodup (fun _ _ h => nomatch h) .nil

/-- the frame inside -/
theorem fr_comp (EO : EnvOk env) (F : FR X env nm l σ s.heap) (hl : l.length = N) (CK : CompOk env.scope.names nm N scope.names nm' k) {h' : Heap} {C : Addr} (hk : ∀ b o, s.heap.get? b = some o → h'.get? b = some o)
    (hC : h'.Ns C fun _ => none) (hσC : σ C = none) (hCnew : X.h₀.get? C = none) :
    FR X (compEnvC scope (clo env.cells scope.names []) C env) nm' (l ++ List.replicate k none) σ h' := by
  have kv : KeepV s.heap h' := fun b o e _ => hk b o e
  refine ⟨⟨_, hC, fun x i hx hkx => ?_⟩, fun x i hx hkx => ?_, ⟨hσC, hCnew⟩, ⟨fun x i hx => ?_, CK.inj⟩, by rw [List.length_append, List.length_replicate, hl, CK.len], fun x c hx => ?_⟩
  · rcases CK.vars x i hx with ⟨_, h1, h2⟩ | ⟨h1, _⟩
    · have : (l ++ List.replicate k none).getD i none = none := by
        rw [List.getD_eq_getElem?_getD, List.getElem?_append_right (by omega), List.getElem?_replicate]
        split <;> rfl
      rw [this]; trivial
    · rw [(relabel_kind EO CK _ C x).2 h1] at hkx; cases hkx
  · rcases CK.vars x i hx with ⟨h1, _⟩ | ⟨h1, h2⟩
    · rw [(relabel_kind EO CK _ C x).1 h1] at hkx; cases hkx
    · have hm := mem_of_lookup' h1
      rcases CK.kinds x .free hm with h | h | ⟨_, h, _⟩
      · cases h
      · cases h
      · obtain ⟨c, v, hc, hcc, hr⟩ := F.cell x i h2 h
        refine ⟨c, v, ?_, hcc.keeps hk, ?_⟩
        · have h3 : (x, c) ∈ clo env.cells scope.names [] := clo_mem_of _ _ hm hc
          cases h4 : (clo env.cells scope.names []).lookup x with
          | none =>
            exfalso
            have := List.lookup_eq_none_iff.mp h4 (x, c) h3
            simp at this
          | some c' =>
            rcases clo_mem _ _ (mem_of_lookup' h4) with q | ⟨q, _⟩
            · cases q
            · rw [hc] at q; cases q; exact h4
        · have hi : i < l.length := F.nmok.1 x i h2
          rw [List.getD_eq_getElem?_getD, List.getElem?_append_left hi, ← List.getD_eq_getElem?_getD]
          exact hr.mono kv
  · rw [List.length_append, List.length_replicate, hl]
    rcases CK.vars x i hx with ⟨_, h1, h2⟩ | ⟨_, h2⟩
    · omega
    · have := F.nmok.1 x i h2; omega
  · rcases clo_mem _ _ hx with q | ⟨q, _⟩
    · cases q
    · obtain ⟨h1, h2, v, h3⟩ := F.outc x c (mem_of_lookup' q)
      exact ⟨h1, h2, v, h3.keeps hk⟩
end
end Mine

set_option maxRecDepth 100000
set_option linter.unusedVariables false
namespace Mine
open PySem PyProof.Rows

/-- the test of a comprehension, if there is one -/
def testA (c : Option AE) (d : Nat) (l : Loc) (Q : Bool → AHeap → Prop) (σ : AHeap) : Prop :=
  match c with
  | none => Q true σ
  | some m => m d l (isB Q) (fun _ _ => False) σ

def compL (I : AHeap → Prop) (t : Tgt) (c : Option AE) (elt : AE) (d : Nat) (Q : List AV → AHeap → Prop) : List AV → List AV → Loc → AHeap → Prop
  | [], acc, l, σ => Q acc σ
  | x :: xs, acc, l, σ => ∃ l', bindT t x l = some l' ∧ testA c d l' (fun ok σ1 => if ok then elt d l' (fun v σ2 => I σ2 ∧ acc.length < 1000000 ∧ compL I t c elt d Q xs (acc ++ [v]) l' σ2) (fun _ _ => False) σ1
      else I σ1 ∧ compL I t c elt d Q xs acc l' σ1) σ

def SoundC (X : Cx) (env : Env) (nm : List (Str × Nat)) : List Expr → Option AE → Prop
  | [], none => True
  | [e], some m => SoundB X env nm e m
  | _, _ => False

theorem noStay_list (vs : List Value) (n : Nat) : ¬ Stays (listObj vs n) := by
  rintro (⟨h, _⟩ | ⟨h, _⟩ | ⟨_, _, h, _⟩) <;> simp [listObj] at h

theorem ltA {h : Heap} {a : Nat} {o : Obj} (e : h.get? a = some o) : a < h.objs.size := Heap.lt_size e
theorem neA {a b : Nat} (h : ¬ a = b) : ¬ a = b := h
theorem leA {a b : Nat} (h : a ≤ b) : a ≤ b := h

section
variable {X : Cx} {A : Around}

theorem code_compLoop {elt target iter : Expr} {ifs : List Expr} {scope : Scope} {pos : Pos} {it acc : Value} {env : Env} {R : Result → Shared → Prop} {s : Shared} (J : Nat → Shared → Prop)
    (turn : ∀ n s, J n s → wpAny X.M A (pyNext it) (fun r s₁ => match r with
      | none => R (.ok .next) s₁
      | some v => wpAny X.M A (letOwnedTupleGo target it v) (fun _ s₁' => wpAny X.M A (assign target env v) (fun _ s₂ =>
          wpAny X.M A (forIn ifs true fun c r => if r = true then do let ok ← isTrue c env (eval c env); pure (ForInStep.yield ok) else pure (ForInStep.yield r)) (fun ok s₃ =>
            if ok = true then wpAny X.M A (eval elt env) (fun x s₄ => wpAny X.M A (call (.builtin "list.append") [acc, x]) (fun _ s₅ => ∃ m, m < n ∧ J m s₅) (fun _ _ => False) s₄) (fun _ _ => False) s₃
            else ∃ m, m < n ∧ J m s₃) (fun _ _ => False) s₂) (fun _ _ => False) s₁') (fun _ _ => False) s₁) (fun _ _ => False) s)
    (n : Nat) (h : J n s) : codeAny X.M A (.compLoop (.ListComp elt [⟨target, iter, ifs, 0⟩] scope pos) 0 it acc env) R s := by
  refine codeAny_loop rfl J (fun n s hI => ?_) n h
  show wpAny _ A ((compTurn (.ListComp elt [⟨target, iter, ifs, 0⟩] scope pos) 0 it acc env).onRaise (fun x => do noteFrame x env; theTreesLotGoes x)) _ _ s
  refine wpAny_noted ?_
  rw [compTurn_list]
  refine wpAny_bind (wpAny_standAt (wpAny_bind (wpAny_mono (turn n s hI) (fun r s₁ h₁ => ?_) fun _ _ h' => h'.elim)))
  cases r with
  | none => exact wpAny_pure h₁
  | some v =>
    refine wpAny_bind (wpAny_mono h₁ (fun _ s₁' h₁' => ?_) fun _ _ h' => h'.elim)
    refine wpAny_bind (wpAny_mono h₁' (fun _ s₂ h₂ => wpAny_bind (wpAny_mono h₂ (fun ok s₃ h₃ => ?_) fun _ _ h' => h'.elim)) fun _ _ h' => h'.elim)
    cases ok with
    | false => exact wpAny_pure ⟨rfl, h₃⟩
    | true =>
      exact wpAny_bind (wpAny_bind (wpAny_mono h₃ (fun x s₄ h₄ => wpAny_bind (wpAny_mono h₄ (fun _ s₅ h₅ => wpAny_pure (wpAny_pure ⟨rfl, h₅⟩)) fun _ _ h' => h'.elim)) fun _ _ h' => h'.elim))

theorem tests_sound {env : Env} {nm : List (Str × Nat)} {ifs : List Expr} {c : Option AE} {d : Nat} {l : Loc} {σ : AHeap} {s : Shared} {Q : Bool → AHeap → Prop} {R : Bool → Shared → Prop} (hc : SoundC X env nm ifs c) (L : Live d A) (a : At X σ s) (F : FR X env nm l σ s.heap)
    (h : testA c d l Q σ) (k : ∀ b s', liftB X σ s Q b s' → R b s') :
    wpAny X.M A (forIn ifs true fun c r => if r = true then do let ok ← isTrue c env (eval c env); pure (ForInStep.yield ok) else pure (ForInStep.yield r)) R (fun _ _ => False) s := by
  match ifs, c, hc with
  | [], none, _ => exact wpAny_tests_nil (k _ _ ⟨σ, a, .refl .., h⟩)
  | [e], some m, hc => exact wpAny_tests_one (wpAny_mono (hc d A l σ s Q (fun _ _ => False) L a F h) (fun b s' x => k b s' x) fun _ _ x => noX x)

/-- in a comprehension stores go to its own names alone -/
def SoundTC (X : Cx) (env : Env) (nm : List (Str × Nat)) (target : Expr) (t : Tgt) : Prop :=
  ∀ d A l l' σ s x v (Q : Unit → Shared → Prop) E, Live d A → At X σ s → FR X env nm l σ s.heap → RepV s.heap x v → bindT t x l = some l' →
    (∀ s', FR X env nm l' σ s'.heap → At X σ s' → Step (fun b => b = env.locals) σ s σ s' → Q () s') → wpAny X.M A (assign target env v) Q E s

theorem comp_core {env : Env} {nm nm' : List (Str × Nat)} {l : Loc} {σ : AHeap} {s : Shared} {N k d : Nat} {elt target iter : Expr} {ifs : List Expr} {scope : Scope} {pos : Pos} {it : Value} {I : AHeap → Prop} {xs : List AV} {W : Addr → Prop}
    {St : Nat → Heap → Prop} {t : Tgt} {c : Option AE} {m : AE} {Q : List AV → AHeap → Prop} {RR : Value → Addr → Result → Shared → Prop} {E : Value → Shared → Prop}
    (EO : EnvOk env) (L : Live d A) (a : At X σ s) (F : FR X env nm l σ s.heap) (hl : l.length = N) (CK : CompOk env.scope.names nm N scope.names nm' k) (hk : scope.kind = .function)
    (IT : ItOk X A target it I xs W St) (hSt : St 0 s.heap) (hW : ∀ b, W b → σ b = none ∧ X.h₀.get? b = none) (hI : I σ)
    (ht : ∀ C, SoundTC X (compEnvC scope (clo env.cells scope.names []) C env) nm' target t) (hc : ∀ C, SoundC X (compEnvC scope (clo env.cells scope.names []) C env) nm' ifs c) (hm : ∀ C, SoundE X (compEnvC scope (clo env.cells scope.names []) C env) nm' elt m)
    (h : compL I t c m d Q xs [] (l ++ List.replicate k none) σ)
    (hRR : ∀ D C s' σ' acc mC, s.heap.objs.size ≤ D → s.heap.objs.size ≤ C → D ≠ C → σ' D = none → σ' C = none → s'.heap.Ns C mC → At X (σ'.set D (.list acc)) s' → Step W σ s (σ'.set D (.list acc)) s' → Q acc σ' → RR (.ref D) C (.ok .next) s') :
    wpAny X.M A (newList []) (fun acc s₃ => wpAny X.M A (newFunctionEnv scope env.globals (clo env.cells scope.names []) [] env.qual none .none (some env)) (fun cenv s₄ =>
      codeAny X.M A (.compStart (.ListComp elt [⟨target, iter, ifs, 0⟩] scope pos) 0 it acc { cenv with scope := relabel scope env }) (RR acc cenv.locals) s₄) E s₃) E s := by
  have hcell : ∀ y ∈ scope.names, y.2 ≠ .cell := fun y hy e => by
    obtain ⟨x, kd⟩ := y
    rcases CK.kinds x kd hy with h | h | ⟨h, _⟩ <;> (dsimp only at e; rw [h] at e; cases e)
  refine wpAny_newObj_type (wpAny_newFunctionEnv hcell (by intro y hy; simp at hy) (fun h₁ hns₁ hsb₁ => ?_) hk)
  dsimp only at hns₁ hsb₁ ⊢
  generalize hH2 : s.heap.push { cls := .type "list", dict := none, data := .seq ([] : List Value).toArray } = H2 at hns₁ hsb₁ ⊢
  generalize hDD : s.heap.objs.size = D
  generalize hCC : H2.objs.size = C at hns₁ hsb₁ ⊢
  have hCD : C = D + 1 := by rw [← hCC, ← hH2, Heap.size_push, hDD]
  have old : ∀ b o, s.heap.get? b = some o → h₁.get? b = some o := fun b o e => by
    have hb := ltA e
    exact hsb₁.extBut b o (neA (by lia)) (Heap.get?_push_of_some _ (hH2 ▸ Heap.get?_push_of_some _ e))
  have hDobj : h₁.get? D = some (listObj [] 0) := by
    refine hsb₁.extBut _ _ (neA (by lia)) (Heap.get?_push_of_some _ ?_)
    rw [← hH2, ← hDD]; exact Heap.get?_push_size _ rfl
  have hσ : ∀ b, D ≤ b → σ b = none := fun b hb => a.none_of_size (by rw [hDD]; exact hb)
  have hh₀ : ∀ b, D ≤ b → X.h₀.get? b = none := fun b hb => by
    cases e : X.h₀.get? b with
    | none => rfl
    | some o => have := ltA (a.keep b o e); lia
  generalize hs1 : ({ s with heap := h₁, toks := s.toks + ([] : List (Str × Value)).length } : Shared) = s1
  have hs1h : s1.heap = h₁ := by rw [← hs1]
  have hsz1 : s1.heap.objs.size = C + 1 := by rw [hs1h, hsb₁.1]; simp [hCC]
  have kv1 : KeepV s.heap s1.heap := fun b o e _ => by rw [hs1h]; exact old b o e
  have a1 : At X σ s1 := by
    refine ⟨fun b o e => by rw [hs1h]; exact old b o (a.keep b o e), fun b ao e => (a.rep b ao e).mono kv1 fun o ho => by rw [hs1h]; exact old b o ho, a.own, ?_, ?_⟩
    · rw [← hs1]; exact a.gens
    · rw [← hs1]; exact a.os
  have F1 := fr_comp (X := X) EO F hl CK (h' := s1.heap) (C := C) (fun b o e => by rw [hs1h]; exact old b o e) (by rw [hs1h]; exact hns₁) (hσ C (by lia)) (hh₀ C (by lia))
  have hSt1 : St 0 s1.heap := IT.stable _ _ _ hSt kv1 fun b o _ e => by rw [hs1h]; exact old b o e
  let W' : Addr → Prop := fun b => W b ∨ D ≤ b
  have st1 : Step W' σ s σ s1 := ⟨fun b o e _ _ => by rw [hs1h]; exact old b o e, fun b h1 h2 => absurd h2 h1, by rw [hsz1, hDD]; lia⟩
  have loop : codeAny X.M A (.compLoop (.ListComp elt [⟨target, iter, ifs, 0⟩] scope pos) 0 it (.ref D) (compEnvC scope (clo env.cells scope.names []) C env)) (RR (.ref D) C) s1 := by
    refine code_compLoop (fun j s2 => ∃ i l2 σ2 acc ys n, j = xs.length + 1 - i ∧ i ≤ xs.length ∧ At X σ2 s2 ∧ FR X (compEnvC scope (clo env.cells scope.names []) C env) nm' l2 σ2 s2.heap ∧ Step W' σ s σ2 s2 ∧ I σ2 ∧ St i s2.heap ∧
      (∀ b, W b → σ2 b = none ∧ X.h₀.get? b = none) ∧ σ2 D = none ∧ s2.heap.get? D = some (listObj ys n) ∧ RepVs s2.heap acc ys ∧ acc.length ≤ 1000000 ∧ C < s2.heap.objs.size ∧ compL I t c m d Q (xs.drop i) acc l2 σ2) ?_ (xs.length + 1)
      ⟨0, _, σ, [], [], 0, rfl, Nat.zero_le _, a1, F1, st1, hI, hSt1, hW, hσ D (Nat.le_refl _), by rw [hs1h]; exact hDobj, .nil, Nat.zero_le _, by lia, h⟩
    rintro j s2 ⟨i, l2, σ2, acc, ys, n, rfl, hi, a2, F2, st2, hI2, hSt2, hW2, hD2, hDo, rys, hacc2, hC2, hf⟩
    have noW : NoStay W s2.heap := fun b o hb e => by obtain ⟨o', e', h', _⟩ := IT.there i _ b hSt2 hb; rw [e] at e'; cases e'; exact h'
    have dis : ∀ b, FB (compEnvC scope (clo env.cells scope.names []) C env) b → ¬ W b := fun b hb hw => by
      obtain ⟨o', e', _, h1, h2⟩ := IT.there i _ b hSt2 hw
      rcases hb with hb | ⟨x, hx⟩
      · obtain ⟨_, ⟨o, es, ep, ho, hd, _⟩, _⟩ := F2.ns
        rw [← hb, e'] at ho; cases ho; exact h1 _ _ hd
      · obtain ⟨_, _, v, o, ho, hd⟩ := F2.outc x b hx
        rw [ho] at e'; cases e'; exact h2 _ hd
    have disD : ¬ W D := fun hw => by
      obtain ⟨o', e', _⟩ := IT.there 0 _ D hSt hw
      have := ltA e'; lia
    have hDF : ¬ FB (compEnvC scope (clo env.cells scope.names []) C env) D := fun hb => by
      rcases hb with h | ⟨x, hx⟩
      · have h : D = C := h
        lia
      · obtain ⟨_, _, v, o, ho, hd⟩ := F2.outc x D hx
        rw [hDo] at ho; cases ho; cases hd
    cases hx : xs[i]? with
    | none =>
      have hil : i = xs.length := Nat.le_antisymm hi (List.getElem?_eq_none_iff.mp hx)
      subst hil
      refine IT.done σ2 s2 _ _ a2 hI2 hSt2 hW2 fun s3 a3 st3 => ?_
      rw [List.drop_length] at hf
      obtain ⟨mC, hmC, _⟩ := (F2.stepB a2 st3 dis noW).ns
      have hDo3 : s3.heap.get? D = some (listObj ys n) := st3.keep _ _ hDo hD2 disD
      have kv3 : KeepV s2.heap s3.heap := st3.keepV a2 noW
      have a3' : At X (σ2.set D (.list acc)) s3 := by
        refine ⟨a3.keep, fun b ao e => ?_, fun b ao e hro => ?_, a3.gens, a3.os⟩
        · by_cases hb : b = D
          · subst hb; rw [AHeap.set_self] at e; cases e; exact ⟨ys, n, hDo3, rys.mono kv3, hacc2⟩
          · rw [AHeap.set_ne _ _ hb] at e; exact a3.rep b ao e
        · by_cases hb : b = D
          · subst hb; exact hh₀ _ (Nat.le_refl _)
          · rw [AHeap.set_ne _ _ hb] at e; exact a3.own b ao e hro
      have st3' : Step W' σ s σ2 s3 := st2.trans (st3.weaken fun b hb => .inl hb)
      have stF : Step W σ s (σ2.set D (.list acc)) s3 := by
        have := st3'.drop (B := W) fun b hb => hb.imp id fun q => by rw [hDD]; exact q
        refine ⟨this.keep, fun b h1 h2 => ?_, this.size⟩
        by_cases hb : b = D
        · rw [hb, hDD]; exact Nat.le_refl _
        · rw [AHeap.set_ne _ _ hb] at h1; exact this.fresh b h1 h2
      exact hRR D C s3 σ2 acc mC (by lia) (by lia) (by lia) hD2 F2.out.1 hmC a3' stF hf
    | some x =>
      have hlt : i < xs.length := (List.getElem?_eq_some_iff.mp hx).1
      have hd : xs.drop i = x :: xs.drop (i + 1) := by rw [List.drop_eq_getElem_cons hlt, (List.getElem?_eq_some_iff.mp hx).2]
      rw [hd] at hf
      obtain ⟨l3, hb3, hf⟩ := hf
      refine IT.item i x σ2 s2 _ _ _ (fun v s3 hr => hr) hx a2 hI2 hSt2 hW2 fun v s3 rv a3 st3 hSt3 => ?_
      have F3 := F2.stepB a2 st3 dis noW
      have hDo3 : s3.heap.get? D = some (listObj ys n) := st3.keep _ _ hDo hD2 disD
      have rys3 := rys.mono (st3.keepV a2 noW)
      refine ht C d A l2 l3 σ2 s3 x v _ _ L a3 F3 rv hb3 fun s4 F4 a4 st4 => ?_
      have noC : NoStay (fun b => b = C) s3.heap := fun b o hb e => F3.noStay b o (.inl hb) e
      have hDo4 : s4.heap.get? D = some (listObj ys n) := st4.keep _ _ hDo3 hD2 (by show ¬ D = C; lia)
      have rys4 := rys3.mono (st4.keepV a3 noC)
      have hSt4 : St (i + 1) s4.heap := IT.stable _ _ _ hSt3 (st4.keepV a3 noC) fun b o hb e => st4.keep b o e (hW2 b hb).1 fun q => dis b (.inl q) hb
      refine tests_sound (hc C) L a4 F4 hf fun ok s5 ⟨σ5, a5, st5, q5⟩ => ?_
      have hD5 : σ5 D = none := by
        cases e : σ5 D with
        | none => rfl
        | some ao => exact absurd (st5.fresh D (by rw [e]; simp) hD2) (Nat.not_le.mpr (Heap.lt_size hDo4))
      have F5 := F4.step a4 st5
      have hDo5 : s5.heap.get? D = some (listObj ys n) := st5.keep _ _ hDo4 hD2 id
      have rys5 := rys4.mono (st5.keepV0 a4)
      have out5 : ∀ b, W b → σ5 b = none ∧ X.h₀.get? b = none := fun b hb => ⟨by
        obtain ⟨o, ho, _⟩ := IT.there _ _ b hSt4 hb
        cases e : σ5 b with
        | none => rfl
        | some ao => exact absurd (st5.fresh b (by rw [e]; simp) (hW2 b hb).1) (Nat.not_le.mpr (Heap.lt_size ho)), (hW2 b hb).2⟩
      have hSt5 : St (i + 1) s5.heap := IT.stable _ _ _ hSt4 (st5.keepV0 a4) fun b o hb e => st5.keep b o e (hW2 b hb).1 id
      have stA5 : Step W' σ s σ5 s5 := st2.trans ((st3.weaken fun b hb => .inl hb).trans ((st4.weaken fun b hb => .inr (leA (by have hb : @Eq Nat b C := hb; lia))).trans (st5.weaken fun b hb => hb.elim)))
      have hC5 : C < s5.heap.objs.size := Nat.lt_of_lt_of_le hC2 (Nat.le_trans st3.size (Nat.le_trans st4.size st5.size))
      cases ok with
      | false =>
        simp only [Bool.false_eq_true, if_false] at q5 ⊢
        exact ⟨xs.length + 1 - (i + 1), by lia, i + 1, l3, σ5, acc, ys, n, rfl, hlt, a5, F5, stA5, q5.1, hSt5, out5, hD5, hDo5, rys5, hacc2, hC5, q5.2⟩
      | true =>
        simp only [if_true] at q5 ⊢
        refine wpAny_mono (hm C d A l3 σ5 s5 _ _ L a5 F5 q5) (fun y s6 ⟨av, σ6, r6, a6, st6, hI6, hsz6, hf6⟩ => ?_) fun _ _ x => noX x
        have hD6 : σ6 D = none := by
          cases e : σ6 D with
          | none => rfl
          | some ao => exact absurd (st6.fresh D (by rw [e]; simp) hD5) (Nat.not_le.mpr (Heap.lt_size hDo5))
        have F6 := F5.step a5 st6
        have hDo6 : s6.heap.get? D = some (listObj ys n) := st6.keep _ _ hDo5 hD5 id
        have rys6 := rys5.mono (st6.keepV0 a5)
        have hSt6 : St (i + 1) s6.heap := IT.stable _ _ _ hSt5 (st6.keepV0 a5) fun b o hb e => st6.keep b o e (out5 b hb).1 id
        have out6 : ∀ b, W b → σ6 b = none ∧ X.h₀.get? b = none := fun b hb => ⟨by
          obtain ⟨o, ho, _⟩ := IT.there _ _ b hSt5 hb
          cases e : σ6 b with
          | none => rfl
          | some ao => exact absurd (st6.fresh b (by rw [e]; simp) (out5 b hb).1) (Nat.not_le.mpr (Heap.lt_size ho)), (hW2 b hb).2⟩
        refine wpAny_list_append_plain (items := ys.toArray) ⟨n, hDo6⟩ (fun h7 ⟨n7, hl7⟩ hs7 => ?_) (by
          have := rys6.length; rw [sizeLine_eq]; simp; lia)
        have kv7 : KeepV s6.heap h7 := fun b o e stb => by
          have hb : b ≠ D := by rintro rfl; rw [hDo6] at e; cases e; exact noStay_list _ _ stb
          exact (hs7.2 b hb).trans e
        have a7 : At X σ6 { s6 with heap := h7 } := a6.aside (t := s6.toks) (h' := h7) hD6 (hh₀ D (Nat.le_refl _)) (fun o e => by rw [hDo6] at e; cases e; exact noStay_list _ _) hs7
        have st7 : Step (fun b => b = D) σ6 s6 σ6 { s6 with heap := h7 } := Step.aside (t := s6.toks) (h' := h7) rfl hs7
        have noD : NoStay (fun b => b = D) s6.heap := fun b o hb e => by subst hb; rw [hDo6] at e; cases e; exact noStay_list _ _
        have F7 := F6.stepB a6 st7 (fun b hb q => hDF (q ▸ hb)) noD
        refine ⟨xs.length + 1 - (i + 1), by lia, i + 1, l3, σ6, acc ++ [av], ys ++ [y], n7, rfl, hlt, a7, F7, stA5.trans ((st6.weaken fun b hb => hb.elim).trans (st7.weaken fun b hb => .inr (leA (by have hb : @Eq Nat b D := hb; lia)))), hI6,
          IT.stable _ _ _ hSt6 kv7 fun b o hb e => (hs7.2 b fun q => disD (q ▸ hb)).trans e, out6, hD6, ?_, (rys6.mono kv7).append (.cons (r6.mono kv7) .nil), by rw [List.length_append]; exact hsz6, ?_, hf6⟩
        · have : (ys.toArray.push y) = (ys ++ [y]).toArray := by simp
          rw [this] at hl7; exact hl7
        · show C < h7.objs.size
          rw [hs7.1]; exact Nat.lt_of_lt_of_le hC5 st6.size
  show codeAny X.M A (.compStart (.ListComp elt [⟨target, iter, ifs, 0⟩] scope pos) 0 it (.ref D) (compEnvC scope (clo env.cells scope.names []) C env)) (RR (.ref D) C) s1
  exact codeAny_compStart_list loop (IT.self 0 s1 _ _ hSt1 loop)
end
end Mine

set_option maxRecDepth 100000
set_option linter.unusedVariables false
set_option autoImplicit false
namespace Mine
open PySem PyProof.Rows PySem.SeqAt

theorem RepVs.mem {h : Heap} : ∀ {xs vs}, RepVs h xs vs → ∀ v ∈ vs, ∃ x ∈ xs, RepV h x v
  | _, _, .nil, v, hv => nomatch hv
  | _, _, .cons a r, v, hv => by
    rcases List.mem_cons.mp hv with e | hv
    · subst e; exact ⟨_, List.mem_cons_self, a⟩
    · obtain ⟨x, hx, q⟩ := r.mem v hv; exact ⟨x, List.mem_cons_of_mem _ hx, q⟩
section
variable {prog : Program} {w : World}

/-- hashing: what it gives, what it draws -/
def HashOk (prog : Program) (w : World) (h : Heap) (n : Nat) (v : Value) (x : Int) (dr : Nat) : Prop :=
  ∀ (A : Around) (E : Value → Shared → Prop) (s : Shared) (Q : Int → Shared → Prop), s.heap = h → A.units + n < cLine → Q x { s with toks := s.toks + dr } → wpAny (model prog w) A (pyHash v) Q E s
inductive HashAll (prog : Program) (w : World) (h : Heap) (n : Nat) : List Value → List Int → Nat → Prop
  | nil : HashAll prog w h n [] [] 0
  | cons {v x dr vs xs drs} : HashOk prog w h n v x dr → HashAll prog w h n vs xs drs → HashAll prog w h n (v :: vs) (x :: xs) (dr + drs)

theorem hashOk_str {h : Heap} {n : Nat} (x : Str) (t : Tok) : HashOk prog w h n (.str x t) (hashStr w x) 1 := fun A E s Q _ _ hq => wpAny_pyHash_str hq
theorem hashOk_int {h : Heap} {n : Nat} (x : Int) (t : Tok) : HashOk prog w h n (.int x t) (hashInt x) 1 := fun A E s Q _ _ hq => wpAny_pyHash_int hq

theorem hashOk_tuple {h : Heap} {n : Nat} {a : Addr} {vs : List Value} {xs : List Int} {dr : Nat} (ht : IsTup h a vs.toArray) (hi : HashAll prog w h n vs xs dr) : HashOk prog w h (n + 10) (.ref a) (reduceHash (Builtin.Tuple.tupleHashOf xs)) (dr + 1) := fun A E s Q hs hu hq => by
  subst hs
  obtain ⟨o, ho, hc, m, hd⟩ := ht
  have hT : s.TypeIs (.ref a) "tuple" := ⟨o, ho, hc⟩
  unfold pyHash
  first | unfold pyHashByItsType | skip
  first | refine wpAny_bind (wpAny_cRoomFor_or (.inr (by lia)) ?_) | skip
  refine wpAny_bind (wpAny_specialOf hT F.slot_tuple_hash.lookup ?_)
  show wpAny _ _ (if (some (Value.builtin "tuple.__hash__") == some Value.none) = true then _ else _) Q E s
  rw [if_neg (by rw [beq_builtin_none]; exact Bool.false_ne_true)]
  refine wpAny_bind (wpAny_specialOf hT F.slot_tuple_hash.lookup ?_)
  show wpAny _ _ (callSpecialIfBoundUnlessNone? (.ref a) "__hash__" _ >>= _) Q E s
  refine wpAny_bind (wpAny_callSpecialIfBoundUnlessNone?_slot hT F.slot_tuple_hash (wpAny_call_entry F.slot_tuple_hash hT F.entry_tuple_hash ?_ (F.args_tuple_hash_1 _)))
  show wpAny _ _ (Builtin.Tuple.tupleItemsOf (.ref a) >>= _) _ _ s
  refine wpAny_bind (wpAny_tupleItemsOf ho hd ?_)
  refine wpAny_bind ?_
  rw [← Array.forIn_toList]
  refine wpAny_forIn_list _
    (fun rest (b : Array Int) s' => ∃ (left : List Int) (d1 d2 : Nat), xs = b.toList ++ left ∧ HashAll prog w s.heap n rest left d2 ∧ dr = d1 + d2 ∧ s' = { s with toks := s.toks + d1 })
    _ ?_ ?_ _ _ ⟨xs, 0, dr, rfl, hi, by simp, rfl⟩
  · rintro v rest b s' ⟨left, d1, d2, hx, hl, hdr, rfl⟩
    cases hl with
    | @cons _ x0 e1 _ xs' e2 h1 hl' =>
      refine wpAny_bind (h1 _ _ _ _ rfl ?_ ?_)
      · have : ∀ B : Around, B.units ≤ A.units + 9 → B.units + n < cLine := fun B hB => by lia
        exact this _ (by show A.units + _ ≤ A.units + 9; lia)
      first
        | exact wpAny_pure ⟨xs', d1 + e1, e2, by simp [hx], hl', by lia, by simp [Nat.add_assoc]⟩
        | exact wpAny_bind (wpAny_pure (wpAny_pure ⟨xs', d1 + e1, e2, by simp [hx], hl', by lia, by simp [Nat.add_assoc]⟩))
  · rintro b s' ⟨left, d1, d2, hx, hl, hdr, rfl⟩
    cases hl
    rw [List.append_nil] at hx
    subst hdr
    show wpAny _ _ (retInt (Builtin.Tuple.tupleHashOf b.toList)) _ _ _
    rw [← hx]
    refine wpAny_ret_mkInt ?_
    show wpAny _ _ (if (decide (-(2 : Int) ^ 63 ≤ Builtin.Tuple.tupleHashOf xs) && decide (Builtin.Tuple.tupleHashOf xs < 2 ^ 63)) = true then _ else _) Q E _
    unfold reduceHash at hq
    by_cases hr : (decide (-(2 : Int) ^ 63 ≤ Builtin.Tuple.tupleHashOf xs) && decide (Builtin.Tuple.tupleHashOf xs < 2 ^ 63)) = true
    · rw [if_pos hr]
      rw [if_pos hr] at hq
      exact wpAny_pure (by simpa [Nat.add_assoc] using hq)
    · rw [if_neg hr]
      rw [if_neg hr] at hq
      exact wpAny_bind (wpAny_rule (wpAny_pure (by simpa [Nat.add_assoc] using hq)))
end
end Mine
namespace Mine
open PySem PyProof.Rows PySem.SeqAt
section
variable {prog : Program} {w : World}
/-- comparing is quiet -/
def QuietOk (prog : Program) (w : World) (h : Heap) (k : Nat) (v : Value) : Prop :=
  ∀ (A : Around) (E : Value → Shared → Prop) (s : Shared) (Q : Bool → Shared → Prop), s.heap = h → Q true s → wpAny (model prog w) A (eqIsQuiet k v) Q E s
theorem quietOk_val {h : Heap} {k : Nat} {v : Value} (hv : carriedByValue v = true) : QuietOk prog w h k v := fun A E s Q _ hq => by
  rw [eqIsQuiet_byValue _ hv]; exact wpAny_pure hq
theorem quietOk_tuple {h : Heap} {k : Nat} {a : Addr} {vs : List Value} (ht : IsTup h a vs.toArray) (hi : ∀ v ∈ vs, QuietOk prog w h k v) : QuietOk prog w h (k + 1) (.ref a) := fun A E s Q hs hq => by
  subst hs
  obtain ⟨o, ho, hc, m, hd⟩ := ht
  have hT : s.TypeIs (.ref a) "tuple" := ⟨o, ho, hc⟩
  unfold eqIsQuiet
  refine wpAny_bind (wpAny_specialOf hT F.slot_tuple_eq.lookup ?_)
  show wpAny _ _ (isInstance (.ref a) (.type "tuple") >>= _) _ _ s
  refine wpAny_bind (wpAny_isInstance hT isSubtype_tuple_tuple ?_)
  simp only [Bool.not_true, Bool.false_eq_true, if_false]
  refine wpAny_bind (wpAny_seqItems ho hd ?_)
  refine wpAny_bind ?_
  show wpAny _ _ (forIn vs.toArray _ _) _ _ s
  rw [← Array.forIn_toList]
  refine wpAny_forIn_list _ (fun rest r s' => r.1 = none ∧ s' = s ∧ ∀ v ∈ rest, QuietOk prog w s.heap k v) _ ?_ ?_ _ _ ⟨rfl, rfl, hi⟩
  · rintro v rest r s' ⟨hr, rfl, hall⟩
    refine wpAny_bind (hall v List.mem_cons_self _ _ _ _ rfl ?_)
    simp only [Bool.not_true, Bool.false_eq_true, if_false]
    exact wpAny_pure ⟨rfl, rfl, fun u hu' => hall u (List.mem_cons_of_mem _ hu')⟩
  · rintro ⟨r1, r2⟩ s' ⟨hr, rfl, _⟩
    simp only at hr
    subst hr
    exact wpAny_pure hq
end

def mkD (m : Mark) : PyData := .tuple [.str m.1, .int m.2]
section
variable {prog : Program} {w : World} {h : Heap}
theorem mark_parts {m : Mark} {v : Value} (r : RepV h (mkAV m) v) : ∃ a t u, v = .ref a ∧ IsTup h a [Value.str m.1 t, .int m.2 u].toArray := by
  cases r with
  | @tup _ a vs hl ht rs =>
    cases rs with
    | cons r1 rs => cases r1 with
      | str _ t => cases rs with
        | cons r2 rs => cases r2 with
          | int _ u => cases rs; exact ⟨a, t, u, rfl, ht⟩
theorem mark_hash {m : Mark} {v : Value} (r : RepV h (mkAV m) v) : HashOk prog w h 10 v (mkH w m) 3 := by
  obtain ⟨a, t, u, rfl, ht⟩ := mark_parts r
  exact hashOk_tuple (n := 0) ht (.cons (hashOk_str _ _) (.cons (hashOk_int _ _) .nil))
theorem mark_quiet {m : Mark} {v : Value} (r : RepV h (mkAV m) v) : QuietOk prog w h 7 v := by
  obtain ⟨a, t, u, rfl, ht⟩ := mark_parts r
  refine quietOk_tuple ht fun v hv => quietOk_val ?_
  simp at hv
  rcases hv with rfl | rfl <;> rfl
theorem row_hashes : ∀ {ms : List Mark} {vs : List Value}, RepVs h (ms.map mkAV) vs → HashAll prog w h 10 vs (ms.map (mkH w)) (3 * ms.length)
  | [], _, .nil => .nil
  | m :: ms, _, .cons r rs => by
    have := HashAll.cons (mark_hash (prog := prog) (w := w) r) (row_hashes rs)
    have e : 3 * (m :: ms).length = 3 + 3 * ms.length := by simp; lia
    rw [e]; exact this
theorem isTup_inj {a : Addr} {vs us : List Value} (h1 : IsTup h a vs.toArray) (h2 : IsTup h a us.toArray) : vs = us := by
  obtain ⟨o, ho, hc, n, hd⟩ := h1
  obtain ⟨o', ho', hc', n', hd'⟩ := h2
  rw [ho] at ho'; cases ho'
  rw [hd] at hd'; injection hd' with e; simpa using e
theorem mark_inj {m m' : Mark} {v : Value} (r : RepV h (mkAV m) v) (r' : RepV h (mkAV m') v) : m = m' := by
  obtain ⟨a, t, u, rfl, ht⟩ := mark_parts r
  obtain ⟨a', t', u', e, ht'⟩ := mark_parts r'
  cases e
  have := isTup_inj ht ht'
  simp at this
  exact Prod.ext this.1.1 this.2.1
theorem rows_inj : ∀ {xs ys : List Mark} {vs : List Value}, RepVs h (xs.map mkAV) vs → RepVs h (ys.map mkAV) vs → xs = ys
  | [], [], _, _, _ => rfl
  | [], _ :: _, _, .nil, r => nomatch r
  | _ :: _, [], _, r, .nil => nomatch r
  | x :: xs, y :: ys, _, .cons r rs, .cons r' rs' => by rw [mark_inj r r', rows_inj rs rs']
theorem row_parts {ms : List Mark} {v : Value} (r : RepV h (rowAV ms) v) : ∃ a vs, v = .ref a ∧ IsTup h a vs.toArray ∧ RepVs h (ms.map mkAV) vs := by
  cases r with
  | @tup _ a vs hl ht rs => exact ⟨a, vs, rfl, ht, rs⟩
theorem mark_reads {m : Mark} {v : Value} (r : RepV h (mkAV m) v) : Reads h v (mkD m) [] := by
  obtain ⟨a, t, u, rfl, o, ho, hc, n, hd⟩ := mark_parts r
  exact .tuple ho hc hd (.cons (.str _ _) (.cons (.int _ _) .nil))
theorem marks_reads : ∀ {ms : List Mark} {vs : List Value}, RepVs h (ms.map mkAV) vs → ReadsAll h vs (ms.map mkD) []
  | [], _, .nil => .nil
  | m :: ms, _, .cons r rs => ReadsAll.cons (as := []) (bs := []) (mark_reads r) (marks_reads rs)
theorem row_reads {ms : List Mark} {v : Value} (r : RepV h (rowAV ms) v) : Reads h v (.tuple (ms.map mkD)) [] := by
  obtain ⟨a, vs, rfl, ⟨o, ho, hc, n, hd⟩, rs⟩ := row_parts r
  exact .tuple ho hc hd (marks_reads rs)
theorem mkD_eqv (m m' : Mark) : PyData.eqv (mkD m) (mkD m') = decide (m = m') := by
  obtain ⟨a, b⟩ := m
  obtain ⟨c, d⟩ := m'
  simp [mkD, PyData.eqv, PyData.eqvAll, Prod.ext_iff]
  by_cases h1 : a = c <;> by_cases h2 : b = d <;> simp [h1, h2]
theorem row_eqv : ∀ xs ys : List Mark, PyData.eqvAll (xs.map mkD) (ys.map mkD) = decide (xs = ys)
  | [], [] => rfl
  | [], y :: ys => by simp [PyData.eqvAll]
  | x :: xs, [] => by simp [PyData.eqvAll]
  | x :: xs, y :: ys => by
    simp only [List.map_cons, PyData.eqvAll, mkD_eqv, row_eqv xs ys, List.cons.injEq]
    by_cases h1 : x = y <;> by_cases h2 : xs = ys <;> simp [h1, h2]
theorem row_lay : ∀ {ms : List Mark}, (∀ m ∈ ms, mOk m) → PyData.canLayAll0 (ms.map mkD) = true ∧ PyData.depthAll (ms.map mkD) ≤ 5
  | [], _ => ⟨rfl, by simp [PyData.depthAll]⟩
  | m :: ms, hm => by
    have h1 : PyData.strOk m.1 = true := hm m (by simp)
    have h2 := row_lay (ms := ms) fun x hx => hm x (by simp [hx])
    refine ⟨by simp [PyData.canLayAll0, mkD, PyData.canLay0, h1, h2.1], ?_⟩
    have := h2.2
    simp [PyData.depthAll, mkD, PyData.depth]; lia
end

/-- rows of marks as keys -/
def rowKind (prog : Program) (w : World) : HeapKind prog w (List Mark) where
  is := fun h ms a => RepV h (rowAV ms) (.ref a) ∧ ∀ m ∈ ms, mOk m
  hash := rowH w
  draws := fun ms => 3 * ms.length + 1
  room := fun A => A.units + 100 < cLine
  inj := fun hx hy => by
    obtain ⟨a, vs, e, ht, rs⟩ := row_parts hx.1
    obtain ⟨a', vs', e', ht', rs'⟩ := row_parts hy.1
    cases e; cases e'
    have := isTup_inj ht ht'
    subst this
    exact rows_inj rs rs'
  keeps := fun x ho hd hs => ⟨x.1.mono fun b o e st => by
    refine (hs.2 b ?_).trans e
    rintro rfl
    rw [ho] at e; cases e
    exact noStay_dict hd st, x.2⟩
  pyHash := fun hu hk hq => by
    obtain ⟨a, vs, e, ht, rs⟩ := row_parts hk.1
    cases e
    exact hashOk_tuple (n := 10) ht (row_hashes rs) _ _ _ _ rfl (by lia) hq
  eqBool := fun hu hx hy hq => by
    have l1 := row_lay hx.2
    have l2 := row_lay hy.2
    refine eqAt_reads _ _ _ _ _ _ _ _ (row_reads hx.1) (row_reads hy.1) (by simpa [PyData.canLay0] using l1.1) (by simpa [PyData.canLay0] using l2.1) ?_ _ _ _ _ ?_
    · simp only [PyData.depth]
      have := l1.2; have := l2.2
      lia
    · simp only [PyData.eqv, row_eqv]; exact hq
  quiet := fun hk hq => by
    obtain ⟨a, vs, e, ht, rs⟩ := row_parts hk.1
    cases e
    refine quietOk_tuple (k := 7) ht (fun v hv => ?_) _ _ _ _ rfl hq
    obtain ⟨x, hx, rx⟩ := rs.mem v hv
    obtain ⟨m, _, rfl⟩ := List.mem_map.mp hx
    exact mark_quiet rx
end Mine

set_option maxRecDepth 100000
set_option linter.unusedVariables false
set_option autoImplicit false
namespace Mine
open PySem PyProof.Rows PySem.SeqAt

abbrev Tab := List (List Mark × AV)
def Tab.at (kvs : Tab) (k : List Mark) : Option AV := (kvs.find? fun x => decide (x.1 = k)).map (·.2)
def Tab.put (kvs : Tab) (k : List Mark) (v : AV) : Tab := if (kvs.at k).isSome then kvs.map (fun x => if x.1 = k then (x.1, v) else x) else kvs ++ [(k, v)]

/-- the library's form of the entries -/
inductive TX (h : Heap) : List (List Mark × Addr × Value) → Tab → Prop
  | nil : TX h [] []
  | cons {k : List Mark} {a : Addr} {v : Value} {x : AV} {xs kvs} : RepV h (rowAV k) (.ref a) → RepV h x v → TX h xs kvs → TX h ((k, a, v) :: xs) ((k, x) :: kvs)
section
variable {prog : Program} {w : World} {h h' : Heap}
theorem TX.keys : ∀ {xs kvs}, TX h xs kvs → xs.map (·.1) = kvs.map (·.1)
  | _, _, .nil => rfl
  | _, _, .cons _ _ r => by simp [r.keys]
theorem TX.length : ∀ {xs kvs}, TX h xs kvs → xs.length = kvs.length
  | _, _, .nil => rfl
  | _, _, .cons _ _ r => by simp [r.length]
theorem TX.mono (k : KeepV h h') : ∀ {xs kvs}, TX h xs kvs → TX h' xs kvs
  | _, _, .nil => .nil
  | _, _, .cons a b r => .cons (a.mono k) (b.mono k) (r.mono k)
theorem TX.of : ∀ {kvs : Tab} {es : List DictEntry}, RepT w h kvs es → ∃ xs, TX h xs kvs ∧ es = xs.map (entryOfKey (rowKind prog w))
  | _, _, .nil => ⟨[], .nil, rfl⟩
  | (k, x) :: r, e :: es, .cons a b c t => by
    obtain ⟨xs, h1, h2⟩ := TX.of t
    obtain ⟨ad, vs, ea, _, _⟩ := row_parts a
    obtain ⟨eh, ek, ev⟩ := e
    simp only at ea a b c
    subst ea
    exact ⟨(k, ad, ev) :: xs, .cons a b h1, by rw [h2, List.map_cons]; congr 1; simp only [entryOfKey]; rw [c]; rfl⟩
theorem TX.to : ∀ {xs kvs}, TX h xs kvs → RepT w h kvs (xs.map (entryOfKey (rowKind prog w)))
  | _, _, .nil => .nil
  | _, _, .cons a b r => .cons a b rfl r.to
theorem TX.at_ {k : List Mark} : ∀ {xs kvs}, TX h xs kvs → match atKey xs k, Tab.at kvs k with | none, none => True | some p, some x => RepV h x p.2 | _, _ => False
  | _, _, .nil => trivial
  | _, _, .cons (k := k') (a := a) (v := v) (x := x) (xs := xs) (kvs := kvs) ra rb r => by
    unfold atKey Tab.at
    by_cases hk : k' = k
    · simp only [List.find?_cons, hk, decide_true, Option.map_some]; exact rb
    · simp only [List.find?_cons, hk, decide_false]; exact r.at_
theorem TX.snoc {k : List Mark} {a : Addr} {v : Value} {x : AV} (ra : RepV h (rowAV k) (.ref a)) (rb : RepV h x v) : ∀ {xs kvs}, TX h xs kvs → TX h (xs ++ [(k, a, v)]) (kvs ++ [(k, x)])
  | _, _, .nil => .cons ra rb .nil
  | _, _, .cons p q r => .cons p q (r.snoc ra rb)
theorem TX.over {k : List Mark} {v : Value} {x : AV} (rb : RepV h x v) : ∀ {xs kvs}, TX h xs kvs → TX h (xs.map (putAt k v)) (kvs.map fun y => if y.1 = k then (y.1, x) else y)
  | _, _, .nil => .nil
  | _, _, .cons (k := k') (a := a') (v := v') p q r => by
    simp only [List.map_cons]
    unfold putAt
    by_cases hk : k' = k
    · simp only [hk, if_true]; rw [← hk]; exact .cons p rb (by rw [hk]; exact r.over rb)
    · simp only [hk, if_false]; exact .cons p q (r.over rb)
theorem TX.put {k : List Mark} {a : Addr} {v : Value} {x : AV} (ra : RepV h (rowAV k) (.ref a)) (rb : RepV h x v) {xs kvs} (t : TX h xs kvs) : TX h (storedH xs k a v) (Tab.put kvs k x) := by
  have q := t.at_ (k := k)
  unfold Tab.put
  cases h1 : atKey xs k with
  | none =>
    cases h2 : Tab.at kvs k with
    | none => rw [storedH_new h1]; simp only [Option.isSome_none, Bool.false_eq_true, if_false]; exact t.snoc ra rb
    | some y => rw [h1, h2] at q; exact q.elim
  | some p =>
    cases h2 : Tab.at kvs k with
    | none => rw [h1, h2] at q; exact q.elim
    | some y => rw [storedH_old h1]; simp only [Option.isSome_some, if_true]; exact t.over rb
end

section
variable {X : Cx} {σ : AHeap} {s : Shared} {d : Addr} {kvs : Tab}
theorem At.tab (a : At X σ s) (e : σ d = some (.tdict kvs)) : ∃ xs, s.heap.DictOfH (rowKind X.prog X.w) d xs ∧ TX s.heap xs kvs := by
  obtain ⟨es, n, ho, rt, nd, hm, hl, _⟩ := a.rep _ _ e
  obtain ⟨xs, h1, h2⟩ := TX.of (prog := X.prog) rt
  refine ⟨xs, ⟨_, es, n, ho, ⟨rfl, rfl, rfl⟩, rfl, h2, fun x hx => ?_, by rw [h1.keys]; exact nd⟩, h1⟩
  have gen : ∀ {xs kvs}, TX s.heap xs kvs → (∀ k ∈ kvs, ∀ m ∈ k.1, mOk m) → ∀ x ∈ xs, (rowKind X.prog X.w).is s.heap x.1 x.2.1 := by
    intro xs kvs t
    induction t with
    | nil => intro _ x hx; cases hx
    | cons ra rb r ih =>
      intro hm x hx
      rcases List.mem_cons.mp hx with rfl | hx
      · exact ⟨ra, hm _ List.mem_cons_self⟩
      · exact ih (fun k hk => hm k (List.mem_cons_of_mem _ hk)) x hx
  exact gen h1 hm x hx
theorem At.tabNe (a : At X σ s) (e : σ d = some (.tdict kvs)) : (d == sysModules) = false := by
  obtain ⟨es, n, ho, rt, nd, hm, hl, h⟩ := a.rep _ _ e; exact h
theorem At.tabLen (a : At X σ s) (e : σ d = some (.tdict kvs)) : kvs.length ≤ 1000000 := by
  obtain ⟨es, n, ho, rt, nd, hm, hl, h⟩ := a.rep _ _ e; exact hl

theorem Tab.put_length (kvs : Tab) (k : List Mark) (v : AV) : (kvs.put k v).length ≤ kvs.length + 1 := by
  unfold Tab.put; split <;> simp
theorem Tab.put_keys {kvs : Tab} {k : List Mark} {v : AV} {x : List Mark × AV} (h : x ∈ kvs.put k v) : x.1 = k ∨ ∃ y ∈ kvs, y.1 = x.1 := by
  unfold Tab.put at h
  split at h
  · obtain ⟨y, hy, rfl⟩ := List.mem_map.mp h
    refine .inr ⟨y, hy, ?_⟩
    split <;> rfl
  · rcases List.mem_append.mp h with h | h
    · exact .inr ⟨x, h, rfl⟩
    · simp at h; exact .inl (by rw [h])

theorem tab_back {h' : Heap} {xs : List (List Mark × Addr × Value)} {k : List Mark} {ad : Addr} {x : AV} {v : Value} (a : At X σ s) (e : σ d = some (.tdict kvs)) (hk : ∀ m ∈ k, mOk m) (tx : TX s.heap xs kvs) (rk : RepV s.heap (rowAV k) (.ref ad)) (rv : RepV s.heap x v) (hl : kvs.length < 1000000) (kv : KeepV s.heap h')
    (hD' : h'.DictOfH (rowKind X.prog X.w) d (storedH xs k ad v)) : RepA X h' d (.tdict (kvs.put k x)) := by
  obtain ⟨o, es, ep, ho, ⟨hc1, hc2, hc3⟩, hd, he, hi, hn⟩ := hD'
  have tx' := (tx.mono kv).put (rk.mono kv) (rv.mono kv)
  refine ⟨es, ep, ?_, ?_, ?_, ?_, ?_, a.tabNe e⟩
  · rw [ho]; obtain ⟨c, di, da, sl⟩ := o; simp only at hc1 hc2 hc3 hd; subst hc1; subst hc2; subst hc3; subst hd; rfl
  · rw [he]; exact tx'.to
  · rw [← tx'.keys]; exact hn
  · intro y hy m hm
    rcases Tab.put_keys hy with h1 | ⟨z, hz, h1⟩
    · rw [h1] at hm; exact hk m hm
    · obtain ⟨_, _, _, _, _, hm', _⟩ := a.rep _ _ e
      rw [← h1] at hm; exact hm' z hz m hm
  · have := Tab.put_length kvs k x; lia

theorem tab_set {A : Around} {dp : Nat} {ka v : Value} {k : List Mark} {x : AV} {Q : Unit → Shared → Prop} {E} (L : Live dp A) (a : At X σ s) (e : σ d = some (.tdict kvs)) (rk : RepV s.heap (rowAV k) ka) (hk : ∀ m ∈ k, mOk m) (rv : RepV s.heap x v) (hl : kvs.length < 1000000)
    (q : ∀ s', At X (σ.set d (.tdict (kvs.put k x))) s' → Step E0 σ s (σ.set d (.tdict (kvs.put k x))) s' → Q () s') : wpAny X.M A (setItem (.ref d) ka v) Q E s := by
  obtain ⟨ad, vs, rfl, _, _⟩ := row_parts rk
  obtain ⟨xs, hD, tx⟩ := a.tab e
  have hro : ∀ kv, (AO.tdict kv).ro = false := fun _ => rfl
  have room := L.room
  refine wpAny_setItem_heap (knd := rowKind X.prog X.w) (by show A.units + 1 + 100 < cLine; lia) ⟨rk, hk⟩ hD (fun h' hD' hs => ?_) (by rw [tx.length, sizeLine_eq]; lia)
  refine q _ (a.store (t := _) (ao := .tdict (kvs.put k x)) e rfl hs fun kv => ?_) (Step.store (t := _) e hs)
  exact tab_back a e hk tx rk rv hl kv hD'

theorem tab_some {h : Heap} {xs : List (List Mark × Addr × Value)} {kvs : Tab} (tx : TX h xs kvs) (k : List Mark) : (atKey xs k).isSome = (kvs.at k).isSome := by
  have q := tx.at_ (k := k)
  cases h1 : atKey xs k <;> cases h2 : kvs.at k <;> rw [h1, h2] at q <;> first | rfl | exact q.elim
variable {A : Around} {E : Value → Shared → Prop} {dp : Nat} {Q : Post} {k : List Mark} {u : Value}
theorem tab_in (L : Live dp A) (a : At X σ s) (e : σ d = some (.tdict kvs)) (rk : RepV s.heap (rowAV k) u) (hk : ∀ m ∈ k, mOk m) (q : Q (.bool (kvs.at k).isSome) σ) : wpAny X.M A (compareOp .In u (.ref d)) (liftQ X σ s Q) E s := by
  obtain ⟨ad, vs, rfl, _, _⟩ := row_parts rk
  obtain ⟨xs, hD, tx⟩ := a.tab e
  have room := L.room
  refine wpAny_in_heap (knd := rowKind X.prog X.w) (by show A.units + 1 + 100 < cLine; omega) ⟨rk, hk⟩ (a.tabNe e) hD ?_
  rw [tab_some tx]; exact retT a (.bool _) q
theorem tab_notIn (L : Live dp A) (a : At X σ s) (e : σ d = some (.tdict kvs)) (rk : RepV s.heap (rowAV k) u) (hk : ∀ m ∈ k, mOk m) (q : Q (.bool (!(kvs.at k).isSome)) σ) : wpAny X.M A (compareOp .NotIn u (.ref d)) (liftQ X σ s Q) E s := by
  obtain ⟨ad, vs, rfl, _, _⟩ := row_parts rk
  obtain ⟨xs, hD, tx⟩ := a.tab e
  have room := L.room
  refine wpAny_notIn_heap (knd := rowKind X.prog X.w) (by show A.units + 1 + 100 < cLine; omega) ⟨rk, hk⟩ (a.tabNe e) hD ?_
  rw [tab_some tx]; exact retT a (.bool _) q
theorem tab_get {x : AV} (L : Live dp A) (a : At X σ s) (e : σ d = some (.tdict kvs)) (rk : RepV s.heap (rowAV k) u) (hk : ∀ m ∈ k, mOk m) (hx : kvs.at k = some x) (q : Q x σ) : wpAny X.M A (getItem (.ref d) u) (liftQ X σ s Q) E s := by
  obtain ⟨ad, vs, rfl, _, _⟩ := row_parts rk
  obtain ⟨xs, hD, tx⟩ := a.tab e
  have room := L.room
  have q' := tx.at_ (k := k)
  rw [hx] at q'
  cases h1 : atKey xs k with
  | none => rw [h1] at q'; exact q'.elim
  | some p =>
    rw [h1] at q'
    exact wpAny_getItem_heap (knd := rowKind X.prog X.w) (by show A.units + 1 + 100 < cLine; omega) ⟨rk, hk⟩ hD h1 (retT a q' q)
theorem tab_len (a : At X σ s) (e : σ d = some (.tdict kvs)) (q : Q (.int kvs.length) σ) : wpAny X.M A (PySem.call (.builtin "len") [.ref d]) (liftQ X σ s Q) E s := by
  obtain ⟨xs, hD, tx⟩ := a.tab e
  have hT := hD.typeIs
  have hl := a.tabLen e
  obtain ⟨o, es, ep, ho, hc, hdat, he, _, _⟩ := hD
  have hs : es.size = kvs.length := by rw [← tx.length, ← Array.length_toList, he, List.length_map]
  refine Calls.call_function_entry kind_len plain_len entry_len (args_len1 _) ?_
  unfold Builtin.«len»
  refine wpAny_bind (m := oneArg "len" _) (wpAny_pure ?_)
  refine wpAny_bind (m := callSpecial? (.ref d) (Str.ofString "__len__")) (wpAny_callSpecial?_slot (name := Str.ofString "__len__") hT F.slot_dict_len
    (wpAny_call_entry F.slot_dict_len hT F.entry_dict_len ?_ (F.args_dict_len_1 _)))
  show wpAny _ _ (dictSize d >>= _) _ _ s
  unfold dictSize
  refine wpAny_bind (wpAny_bind (wpAny_dictEntries ho hdat (wpAny_pure ?_)))
  show wpAny _ _ (Builtin.Dict.pendingCount d >>= _) _ _ s
  refine wpAny_bind (wpAny_pendingCount_other (a.tabNe e) ?_)
  refine wpAny_ret_mkInt ?_
  rw [Nat.add_zero, hs]
  show wpAny _ _ _ _ _ { s with toks := s.toks + 1 }
  refine wpAny_bind (wpAny_holding (wpAny_pure ?_))
  refine wpAny_bind (wpAny_letGo ?_)
  show wpAny _ _ (if ((kvs.length : Nat) : Int) < 0 then _ else _) _ _ _
  rw [if_neg (by omega)]
  show wpAny _ _ (if ((kvs.length : Nat) : Int) ≥ 2 ^ 63 then _ else _) _ _ _
  rw [if_neg (by omega)]
  exact wpAny_bind (wpAny_mkInt (wpAny_pure ⟨_, rfl, retT a (.int _ _) q⟩))
theorem tab_put {dp : Nat} {ka v : Value} {x : AV} {R : Unit → Shared → Prop} (L : Live dp A) (a : At X σ s) (e : σ d = some (.tdict kvs)) (rk : RepV s.heap (rowAV k) ka) (hk : ∀ m ∈ k, mOk m) (rv : RepV s.heap x v) (hl : kvs.length < 1000000)
    (q : ∀ s', At X (σ.set d (.tdict (kvs.put k x))) s' → Step E0 σ s (σ.set d (.tdict (kvs.put k x))) s' → R () s') : wpAny X.M A (dictSet d ka v) R E s := by
  obtain ⟨ad, vs, rfl, _, _⟩ := row_parts rk
  obtain ⟨xs, hD, tx⟩ := a.tab e
  have room := L.room
  refine wpAny_dictSet_heap (knd := rowKind X.prog X.w) (by show A.units + 100 < cLine; omega) ⟨rk, hk⟩ hD (fun h' hD' hs => ?_) (by rw [tx.length, sizeLine_eq]; omega)
  refine q _ (a.store (t := _) (ao := .tdict (kvs.put k x)) e rfl hs fun kv => ?_) (Step.store (t := _) e hs)
  exact tab_back a e hk tx rk rv hl kv hD'
end
end Mine

set_option maxRecDepth 100000
set_option linter.unusedVariables false
namespace Mine
open PySem PyProof.Rows

def resR (X : Cx) (σ : AHeap) (s : Shared) (Q : Post) (Z : XP) : Result → Shared → Prop := fun r s' => match r with
  | .ok (.ret v) => liftQ X σ s Q v s'
  | .ok _ => False
  | .error e => liftX X σ s Z e s'

/-- a call of the function at f -/
def CallOk (X : Cx) (f : Addr) (d : Nat) (args : List AV) (Q : Post) (Z : XP) (σ : AHeap) : Prop :=
  ∀ A s vs, Live d A → At X σ s → RepVs s.heap args vs → codeAny X.M A (.call (.ref f) ⟨vs, []⟩) (resR X σ s Q Z) s

structure FnOk (X : Cx) (f : Addr) (ps : List Str) (body : List Stmt) (scope : Scope) : Prop where
  ex : ∃ o fd, X.h₀.get? f = some o ∧ o.data = .func fd ∧ fd.scope = scope ∧ fd.body = .stmts body ∧ fd.closure = [] ∧ fd.globals = mainGlobals ∧ fd.builtins = builtinsNs ∧ X.h₀.CodeRec fd.code fd.qualname ∧
    ∀ vs, vs.length = ps.length → bindArgs fd ⟨vs, []⟩ = pure (ps.zip vs)

/-- names by number: the parameters first -/
structure NamesOk (names : List (Str × NameKind)) (nm : List (Str × Nat)) (ps : List Str) (N : Nat) : Prop where
  nodup : (names.map (·.1)).Nodup
  kinds : ∀ x i, nm.lookup x = some i → i < N ∧ (names.lookup x = some .local ∨ names.lookup x = some .cell)
  inj : ∀ x y i, nm.lookup x = some i → nm.lookup y = some i → x = y
  par : ∀ x i, nm.lookup x = some i → ∀ p, ps[i]? = some p → p = x
  par' : ∀ (i : Nat) p, ps[i]? = some p → nm.lookup p = some i
  le : ps.length ≤ N
  len : lenOf nm = N
  psnd : ps.Nodup

theorem cellsFrom_has {x : Str} : ∀ (names : List (Str × NameKind)) (n : Nat) (acc : List (Str × Addr)), names.lookup x = some .cell ∨ (acc.lookup x).isSome = true → ((cellsFrom n names acc).lookup x).isSome = true
  | [], _, _, h => h.elim (fun e => by simp at e) id
  | (y, k) :: r, n, acc, h => by
    unfold cellsFrom
    by_cases hk : (k == .cell) = true
    · rw [if_pos hk]
      refine cellsFrom_has r (n + 1) ((y, n) :: acc) ?_
      by_cases hy : (x == y) = true
      · exact .inr (by rw [List.lookup_cons, hy]; rfl)
      · have hy' : (x == y) = false := by simpa using hy
        refine h.imp (fun e => ?_) fun e => ?_
        · rw [List.lookup_cons, hy'] at e; exact e
        · rw [List.lookup_cons, hy']; exact e
    · rw [if_neg hk]
      refine cellsFrom_has r n acc ?_
      by_cases hy : (x == y) = true
      · refine .inr (h.elim (fun e => ?_) id)
        rw [List.lookup_cons, hy] at e
        cases e; simp at hk
      · have hy' : (x == y) = false := by simpa using hy
        refine h.imp (fun e => ?_) id
        rw [List.lookup_cons, hy'] at e; exact e

theorem cellsFrom_keys : ∀ (names : List (Str × NameKind)) (n : Nat) (acc : List (Str × Addr)), (names.map (·.1)).Nodup → (acc.map (·.1)).Nodup → (∀ x, x ∈ acc.map (·.1) → x ∉ names.map (·.1)) → ((cellsFrom n names acc).map (·.1)).Nodup
  | [], _, _, _, h, _ => h
  | (y, k) :: r, n, acc, hn, ha, hd => by
    have hn' := List.nodup_cons.mp hn
    unfold cellsFrom
    split
    · refine cellsFrom_keys r _ _ hn'.2 (List.nodup_cons.mpr ⟨fun q => hd y q List.mem_cons_self, ha⟩) fun x hx q => ?_
      rcases List.mem_cons.mp hx with e | hx
      · subst e; exact hn'.1 q
      · exact hd x hx (List.mem_cons_of_mem _ q)
    · exact cellsFrom_keys r _ _ hn'.2 ha fun x hx q => hd x hx (List.mem_cons_of_mem _ q)

theorem bindL_at {kindOf : Str → Option NameKind} {x : Str} (hx : kindOf x = some .local) : ∀ (binds : List (Str × Value)) (m : Str → Option Value), (binds.map (·.1)).Nodup → bindL kindOf binds m x = (binds.lookup x).or (m x)
  | [], m, _ => by simp [bindL]
  | (y, v) :: r, m, hn => by
    have hn' := List.nodup_cons.mp hn
    unfold bindL
    rw [bindL_at hx r _ hn'.2, List.lookup_cons]
    by_cases hy : (x == y) = true
    · have e := beq_iff_eq.mp hy
      subst e
      have : r.lookup x = none := by
        cases h : r.lookup x with
        | none => rfl
        | some c => exact absurd (List.mem_map_of_mem (f := (·.1)) (mem_of_lookup h)) hn'.1
      rw [this]; simp [hx]
    · have hy' : (x == y) = false := by simpa using hy
      have hne : x ≠ y := by simpa using hy
      simp only [hy']
      split
      · simp [hne]
      · rfl
theorem bindC_at {kindOf : Str → Option NameKind} {x : Str} (hx : kindOf x = some .cell) : ∀ (binds : List (Str × Value)) (m : Str → Option Value), (binds.map (·.1)).Nodup → bindC kindOf binds m x = (binds.lookup x).or (m x)
  | [], m, _ => by simp [bindC]
  | (y, v) :: r, m, hn => by
    have hn' := List.nodup_cons.mp hn
    unfold bindC
    rw [bindC_at hx r _ hn'.2, List.lookup_cons]
    by_cases hy : (x == y) = true
    · have e := beq_iff_eq.mp hy
      subst e
      have : r.lookup x = none := by
        cases h : r.lookup x with
        | none => rfl
        | some c => exact absurd (List.mem_map_of_mem (f := (·.1)) (mem_of_lookup h)) hn'.1
      rw [this]; simp [hx]
    · have hy' : (x == y) = false := by simpa using hy
      have hne : x ≠ y := by simpa using hy
      simp only [hy']
      split
      · rfl
      · simp [hne]

theorem zip_lookup : ∀ {ps : List Str} {vs : List Value} {i : Nat} {x : Str}, ps.Nodup → ps.length = vs.length → ps[i]? = some x → (ps.zip vs).lookup x = vs[i]?
  | p :: ps, v :: vs, 0, x, _, _, h => by simp at h; subst h; simp
  | p :: ps, v :: vs, i + 1, x, hn, hl, h => by
    have hn' := List.nodup_cons.mp hn
    simp only [List.getElem?_cons_succ] at h
    have hne : (x == p) = false := by
      cases hb : x == p with
      | false => rfl
      | true => rw [beq_iff_eq.mp hb] at h; exact absurd (List.mem_of_getElem? h) hn'.1
    simp only [List.zip_cons_cons, List.lookup_cons, hne, List.getElem?_cons_succ]
    exact zip_lookup hn'.2 (by simpa using hl) h
  | [], [], i, x, _, _, h => by simp at h
theorem zip_lookup_none : ∀ {ps : List Str} {vs : List Value} {x : Str}, x ∉ ps → (ps.zip vs).lookup x = none
  | [], _, x, _ => by simp
  | p :: ps, [], x, _ => by simp
  | p :: ps, v :: vs, x, h => by
    have hne : (x == p) = false := by
      cases hb : x == p with
      | false => rfl
      | true => rw [beq_iff_eq.mp hb] at h; exact absurd List.mem_cons_self h
    simp only [List.zip_cons_cons, List.lookup_cons, hne]
    exact zip_lookup_none fun q => h (List.mem_cons_of_mem _ q)

def loc0 (args : List AV) (N : Nat) : Loc := args.map some ++ List.replicate (N - args.length) none
theorem loc0_get (args : List AV) (N i : Nat) : (loc0 args N).getD i none = args[i]? := by
  unfold loc0
  rw [List.getD_eq_getElem?_getD]
  by_cases h : i < args.length
  · rw [List.getElem?_append_left (by simpa using h), List.getElem?_map]
    rw [List.getElem?_eq_getElem h]; rfl
  · rw [List.getElem?_append_right (by simpa using Nat.not_lt.mp h), List.getElem?_replicate, List.getElem?_eq_none (Nat.not_lt.mp h)]
    split <;> rfl

def retOf : Fl → AV
  | .next => .none
  | .ret v => v

theorem RepVs.getO {h : Heap} : ∀ {xs vs}, RepVs h xs vs → ∀ (i : Nat), RepO h xs[i]? vs[i]?
  | _, _, .nil, i => by simp; trivial
  | _, _, .cons a _, 0 => a
  | _, _, .cons _ r, i + 1 => by simpa using r.getO i

section
variable {X : Cx}

/-- a call, by its body: nothing is raised -/
theorem callOk_of {f : Addr} {ps : List Str} {body : List Stmt} {scope : Scope} {nm : List (Str × Nat)} {N d : Nat} {m : AS} {args : List AV} {Q : Post} {Z : XP} {σ : AHeap} (XO : X.Ok) (FN : FnOk X f ps body scope) (NO : NamesOk scope.names nm ps N)
    (hk : scope.kind = .function) (hco : scope.isCoroutine = false) (hgen : scope.isGenerator = false) (hs : ∀ env, EnvOk env → env.scope = scope → SoundSs X env nm body m) (hd : d < 600) (hlen : args.length = ps.length)
    (h : m (d + 1) (loc0 args N) (fun fl _ σ' => Q (retOf fl) σ') (fun _ _ _ => False) σ) : CallOk X f d args Q Z σ := by
  intro A s vs L a rv
  obtain ⟨o, fd, ho, hfd, hsc, hbd, hcl, hgl, hbi, hcd, hbind⟩ := FN.ex
  have hvl : vs.length = ps.length := by rw [← rv.length]; exact hlen
  have hps : ps.Nodup := NO.psnd
  have hbn : ((ps.zip vs).map (·.1)).Nodup := by
    have : (ps.zip vs).map (·.1) = ps := by
      rw [List.map_fst_zip]; lia
    rw [this]; exact hps
  subst hsc
  refine codeAny_call_function (fd := fd) (by have := L.depth; have := L.small; show A.depth < 1000; lia) (a.keep _ _ ho) hfd hco hgen hbd (hcd.keeps a.keep) ?_
  rw [hbind vs hvl, hcl, hgl, hbi]
  refine wpAny_pure (wpAny_newFunctionEnv_cells hk (fun x hx => ?_) fun env he s1 IC => ?_)
  · have hm : x.1 ∈ ps := by
      have := List.mem_map_of_mem (f := (·.1)) hx
      rwa [List.map_fst_zip (by lia)] at this
    obtain ⟨i, hi⟩ := List.mem_iff_getElem?.mp hm
    rcases (NO.kinds x.1 i (NO.par' i _ hi)).2 with q | q
    · exact .inl q
    · exact .inr ⟨q, cellsFrom_has _ _ _ (.inl q)⟩
  subst he
  generalize henv : newEnv fd.scope s.heap.objs.size mainGlobals (cellsFrom (s.heap.objs.size + 1) fd.scope.names []) (fd.qualname ++ ".<locals>.") (some f) fd.code none builtinsNs = env at IC ⊢
  have eL : env.locals = s.heap.objs.size := by rw [← henv]; rfl
  have eC : env.cells = cellsFrom (s.heap.objs.size + 1) fd.scope.names [] := by rw [← henv]; rfl
  have eS : env.scope = fd.scope := by rw [← henv]; rfl
  have eK : ∀ x, env.kindOf x = fd.scope.names.lookup x := fun x => by unfold Env.kindOf; rw [eS]
  have EO : EnvOk env := ⟨by rw [eS]; exact hk, by rw [← henv]; rfl, by rw [← henv]; rfl, IC.apart⟩
  have keep := IC.toInCall.keep
  obtain ⟨h1, tk, hs1⟩ := IC.toInCall.same
  have kv : KeepV s.heap s1.heap := fun b o e _ => keep b o e
  have a1 : At X σ s1 := ⟨fun b o e => keep b o (a.keep b o e), fun b ao e => (a.rep b ao e).mono kv fun o ho => keep b o ho, a.own, by rw [hs1]; exact a.gens, by rw [hs1]; exact a.os⟩
  have cnd : (env.cells.map (·.1)).Nodup := by rw [eC]; exact cellsFrom_keys _ _ _ NO.nodup .nil fun x hx => by simp at hx
  have new : ∀ c : Nat, s.heap.objs.size ≤ c → σ c = none ∧ X.h₀.get? c = none := fun c hc => ⟨a.none_of_size hc, by
    cases e : X.h₀.get? c with
    | none => rfl
    | some o => have := ltA (a.keep c o e); lia⟩
  have val : ∀ x i, nm.lookup x = some i → RepO s1.heap ((loc0 args N).getD i none) ((ps.zip vs).lookup x) := fun x i hx => by
    rw [loc0_get]
    by_cases hi : i < ps.length
    · have hp : ps[i]? = some ps[i] := List.getElem?_eq_getElem hi
      have hpx := NO.par x i hx _ hp
      rw [← hpx, zip_lookup hps (by lia) hp]
      exact (rv.getO i).mono kv
    · have : x ∉ ps := fun q => by
        obtain ⟨j, hj⟩ := List.mem_iff_getElem?.mp q
        have h2 := NO.par' j x hj
        rw [hx] at h2; cases h2
        exact hi (List.getElem?_eq_some_iff.mp hj).1
      rw [zip_lookup_none this, List.getElem?_eq_none (by lia)]
      trivial
  have F1 : FR X env nm (loc0 args N) σ s1.heap := by
    refine ⟨⟨_, IC.toInCall.ns, fun x i hx hkx => ?_⟩, fun x i hx hkx => ?_, by rw [eL]; exact new _ (Nat.le_refl _), ⟨fun x i hx => ?_, NO.inj⟩, ?_, fun x c hx => ?_⟩
    · rw [bindL_at hkx _ _ hbn, Option.or_none]; exact val x i hx
    · have hsome := cellsFrom_has (x := x) fd.scope.names (s.heap.objs.size + 1) [] (.inl (by rw [← eK]; exact hkx))
      rw [← eC] at hsome
      obtain ⟨c, hc⟩ := Option.isSome_iff_exists.mp hsome
      refine ⟨c, _, hc, IC.cell x c hc, ?_⟩
      rw [bindC_at hkx _ _ hbn, Option.or_none]; exact val x i hx
    · have := (NO.kinds x i hx).1
      have hle := NO.le
      unfold loc0
      rw [List.length_append, List.length_map, List.length_replicate]; lia
    · have hle := NO.le
      unfold loc0
      rw [List.length_append, List.length_map, List.length_replicate, NO.len]; lia
    · have hc := IC.above x c hx
      rw [eL] at hc
      have hc' : s.heap.objs.size ≤ c := Nat.le_of_lt hc
      exact ⟨(new c hc').1, (new c hc').2, _, IC.cell x c (lookup_of_nodup cnd hx)⟩
  refine ⟨XO.nolimit.keeps fun b o e => keep b o (a.keep b o e), ?_⟩
  refine code_size (codeAny_func ?_)
  have L1 : Live (d + 1) (A.deeper env) := ⟨by have := L.depth; show A.depth + 1 ≤ _; lia, by have := L.units; show A.units + 3 ≤ _; lia, L.handled, hd⟩
  have szL : s.heap.objs.size < s1.heap.objs.size := by
    have := IC.toInCall.ns.lt; rw [eL] at this; exact this
  refine wpAny_mono (hs env EO eS (d + 1) (A.deeper env) _ σ s1 _ _ L1 a1 F1 h) (fun fl s2 ⟨afl, l2, σ2, r2, a2, F2, st2, q2⟩ hsz => ?_) fun _ _ x => noSX x
  have st : Step E0 σ s σ2 s2 := by
    have st0 : Step (FB env) σ s σ s1 := ⟨fun b o e _ _ => keep b o e, fun _ h1 h2 => absurd h2 h1, Nat.le_of_lt szL⟩
    refine (st0.trans st2).drop fun b hb => ?_
    rcases hb with hb | ⟨x, hx⟩
    · rw [eL] at hb; rw [hb]; exact .inr (Nat.le_refl _)
    · have hc := IC.above x b hx
      rw [eL] at hc
      exact .inr (Nat.le_of_lt hc)
  refine ⟨retOf afl, σ2, ?_, a2, st, q2⟩
  cases fl with
  | next => cases afl with
    | next => exact RepV.none
    | ret v => exact r2.elim
  | ret v => cases afl with
    | next => exact r2.elim
    | ret av => exact r2
  | brk => cases afl <;> exact r2.elim
  | cont => cases afl <;> exact r2.elim
end
end Mine

set_option maxRecDepth 100000
set_option linter.unusedVariables false
namespace Mine
open PySem PyProof.Rows

def evalL : List AE → Nat → Loc → (List AV → AHeap → Prop) → XP → AHeap → Prop
  | [], _, _, Q, _, σ => Q [] σ
  | m :: ms, d, l, Q, Z, σ => m d l (fun a σ1 => evalL ms d l (fun as σ2 => Q (a :: as) σ2) Z σ1) Z σ

def notStar : Expr → Bool
  | .Starred .. => false
  | _ => true
theorem starEach_cons {e : Expr} {rest : List Expr} {env : Env} (h : notStar e = true) : starEach (e :: rest) env = (false, eval e env) :: starEach rest env := by
  cases e <;> first | rfl | (simp [notStar] at h)

inductive SoundEs (X : Cx) (env : Env) (nm : List (Str × Nat)) : List Expr → List AE → Prop
  | nil : SoundEs X env nm [] []
  | cons {e es m ms} : notStar e = true → SoundE X env nm e m → SoundEs X env nm es ms → SoundEs X env nm (e :: es) (m :: ms)

section
variable {X : Cx} {env : Env} {nm : List (Str × Nat)}

theorem SoundEs.plain {pos : Pos} : ∀ {es ms}, SoundEs X env nm es ms → (backTo pos (starEach es env)).any (·.1) = false
  | _, _, .nil => rfl
  | _, _, .cons hs _ r => by
    rw [starEach_cons hs]
    show (false || (backTo pos (starEach _ env)).any (·.1)) = false
    rw [r.plain]; rfl

theorem sound_spliced {pos : Pos} {es ms} (h0 : SoundEs X env nm es ms) : ∀ {d A l σ s Q Z}, Live d A → At X σ s → FR X env nm l σ s.heap → evalL ms d l Q Z σ →
    wpAny X.M A (spliced (backTo pos (starEach es env))) (liftL X σ s Q) (liftX X σ s Z) s := by
  induction h0 with
  | nil => intro d A l σ s Q Z L a F q; exact wpAny_pure ⟨[], σ, .nil, a, .refl .., q⟩
  | @cons e es m ms hs he r ih =>
    intro d A l σ s Q Z L a F q
    rw [starEach_cons hs]
    show wpAny X.M A (spliced ((false, eval e env) :: backTo pos (starEach es env))) _ _ s
    refine Calls.spliced_cons (seqQ (he d A l σ s _ Z L a F q) fun av v σ1 s1 rv a1 st1 q1 => ?_)
    refine wpAny_mono (ih L a1 (F.step a st1) q1) (fun vs s2 x => ?_) fun _ _ x => x.back st1
    obtain ⟨avs, σ2, rvs, a2, st2, q2⟩ := x
    exact ⟨av :: avs, σ2, .cons (rv.mono (st2.keepV0 a1)) rvs, a2, st1.trans st2, q2⟩

/-- arguments -/
theorem sound_args {f : Value} {pos : Pos} {es ms} (h : SoundEs X env nm es ms) {d A l σ s Q Z} (L : Live d A) (a : At X σ s) (F : FR X env nm l σ s.heap) (q : evalL ms d l Q Z σ) {R : Args → Shared → Prop}
    (k : ∀ vs s', liftL X σ s Q vs s' → R ⟨vs, []⟩ s') : wpAny X.M A (evalArgs f true (backTo pos (starEach es env)) []) R (liftX X σ s Z) s := by
  cases h with
  | nil => exact PyProof.Rows.evalArgs_none (k [] s ⟨[], σ, .nil, a, .refl .., q⟩)
  | cons hs he r =>
    have := sound_spliced (pos := pos) (.cons hs he r) L a F q
    rw [starEach_cons hs] at this ⊢
    exact Calls.evalArgs_plain (wpAny_mono this (fun vs s' x => k vs s' x) fun _ _ x => x)
end

namespace A
def tup (xs : List AE) : AE := fun d l Q Z σ => evalL xs d l (fun as σ' => as.length ≤ 1000000 ∧ Q (.tup as) σ') Z σ
def lst (xs : List AE) : AE := fun d l Q Z σ => evalL xs d l (fun as σ' => as.length ≤ 1000000 ∧ ∀ r, σ' r = none → Q (.ref r) (σ'.set r (.list as))) Z σ
/-- a call of a def of the text -/
def call (X : Cx) (g : Str) (args : List AE) : AE := fun d l Q Z σ => ∃ f, X.mg g = some (.ref f) ∧ (∃ o fd, X.h₀.get? f = some o ∧ o.data = .func fd) ∧ evalL args d l (fun as σ' => CallOk X f d as Q Z σ') Z σ
end A

section
variable {X : Cx} {env : Env} {nm : List (Str × Nat)}

theorem newTuple_sound {A : Around} {σ : AHeap} {s : Shared} {Q : Post} {E} {as : List AV} {vs : List Value} (a : At X σ s) (r : RepVs s.heap as vs) (hl : as.length ≤ 1000000) (q : Q (.tup as) σ) : wpAny X.M A (newTuple vs) (liftQ X σ s Q) E s := by
  refine wpAny_newObj_type ?_ (by show vs.toArray.size ≤ sizeLine; rw [List.size_toArray, ← r.length, sizeLine_eq]; lia)
  have kv : KeepV s.heap (s.heap.push { cls := .type "tuple", data := .seq vs.toArray }) := fun b o e _ => Heap.get?_push_of_some _ e
  exact ⟨.tup as, σ, .tup hl ⟨_, Heap.get?_push_size _ rfl, rfl, 0, rfl⟩ (r.mono kv), a.push _ s.toks, Step.push σ s _ s.toks, q⟩
theorem newList_sound {A : Around} {σ : AHeap} {s : Shared} {Q : Post} {E} {as : List AV} {vs : List Value} (a : At X σ s) (r : RepVs s.heap as vs) (hl : as.length ≤ 1000000) (q : ∀ r, σ r = none → Q (.ref r) (σ.set r (.list as))) :
    wpAny X.M A (newList vs) (liftQ X σ s Q) E s := by
  refine wpAny_newObj_type ?_ (by show vs.toArray.size ≤ sizeLine; rw [List.size_toArray, ← r.length, sizeLine_eq]; lia)
  have kv : KeepV s.heap (s.heap.push { cls := .type "list", data := .seq vs.toArray }) := fun b o e _ => Heap.get?_push_of_some _ e
  exact ⟨.ref s.heap.objs.size, _, .ref _, a.alloc (ao := .list as) s.toks ⟨vs, 0, Heap.get?_push_size _ rfl, r.mono kv, hl⟩, Step.alloc σ s _ _ s.toks, q _ (a.none_of_size (Nat.le_refl _))⟩

theorem sound_tup {es : List Expr} {ms : List AE} {k : Nat} {pos : Pos} (h : SoundEs X env nm es ms) : SoundE X env nm (.Tuple es k pos) (A.tup ms) := fun d A l σ s Q Z L a F q =>
  Tuple_ (wpAny_mono (sound_spliced h L a F q) (fun vs s1 ⟨avs, σ1, r, a1, st, hl, q1⟩ => backQ st (newTuple_sound a1 r hl q1)) fun _ _ x => x)
theorem sound_lst {es : List Expr} {ms : List AE} {pos : Pos} (h : SoundEs X env nm es ms) : SoundE X env nm (.List es pos) (A.lst ms) := fun d A l σ s Q Z L a F q =>
  List_ (wpAny_mono (sound_spliced h L a F q) (fun vs s1 ⟨avs, σ1, r, a1, st, hl, q1⟩ => backQ st (newList_sound a1 r hl q1)) fun _ _ x => x)

/-- a global name -/
theorem wp_global {A : Around} {s : Shared} {σ : AHeap} {x : Str} {pos : Pos} {v : Value} {Q : Value → Shared → Prop} {E} (XO : X.Ok) (EO : EnvOk env) (a : At X σ s) (hx : env.kindOf x = some .globalImplicit) (hd : (x == ("__debug__" : Str)) = false)
    (hv : X.mg x = some v) (h : Q v s) : wpAny X.M A (eval (.Name x pos) env) Q E s :=
  Calls.Name_function_global EO.kind hx (Calls.loadGlobal_global (by rw [EO.glob]; exact XO.g.keeps a.keep) hv h) hd
theorem wp_builtin {A : Around} {s : Shared} {σ : AHeap} {x : Str} {pos : Pos} {v : Value} {Q : Value → Shared → Prop} {E} (XO : X.Ok) (EO : EnvOk env) (a : At X σ s) (hx : env.kindOf x = some .globalImplicit) (hd : (x == ("__debug__" : Str)) = false)
    (hn : X.mg x = none) (hv : X.mb x = some v) (h : Q v s) : wpAny X.M A (eval (.Name x pos) env) Q E s :=
  Calls.Name_function_global EO.kind hx (Calls.loadGlobal_builtin (by rw [EO.glob]; exact XO.g.keeps a.keep) hn (by rw [EO.bi]; exact XO.b.keeps a.keep) hv h) hd

theorem CallOk.call {A : Around} {σ : AHeap} {s : Shared} {f : Addr} {d : Nat} {args : List AV} {Q : Post} {Z : XP} {vs : List Value} (h : CallOk X f d args Q Z σ) (L : Live d A) (a : At X σ s) (r : RepVs s.heap args vs) :
    wpAny X.M A (PySem.call (.ref f) vs []) (liftQ X σ s Q) (liftX X σ s Z) s := wpAny_call (codeAny_mono (h A s vs L a r) fun res s' x => x)

theorem sound_call {g : Str} {es : List Expr} {ms : List AE} {gp pos : Pos} (XO : X.Ok) (EO : EnvOk env) (hx : env.kindOf g = some .globalImplicit) (hd : (g == ("__debug__" : Str)) = false) (h : SoundEs X env nm es ms) :
    SoundE X env nm (.Call (.Name g gp) es [] pos) (A.call X g ms) := fun d A l σ s Q Z L a F ⟨f, hf, ⟨o, fd, ho, hfd⟩, q⟩ => by
  refine Call_ (wp_global XO EO a hx hd hf ?_)
  refine callWith_function_kw (o := o) (fd := fd) (sound_args h L a F q fun vs s1 ⟨avs, σ1, r, a1, st, q1⟩ => ⟨⟨a1.keep _ _ ho, hfd⟩, ?_⟩)
  exact backQ st (q1.call L a1 r)
end
end Mine

set_option maxRecDepth 100000
set_option linter.unusedVariables false
namespace Mine
open PySem PyProof.Rows

/-- one factor is short -/
def MulOk (i j : Int) : Prop := i.natAbs < 2 ^ 60 ∨ j.natAbs < 2 ^ 60

inductive binA : Operator → AV → AV → Post → AHeap → Prop
  | add {i j : Int} {Q : Post} {σ : AHeap} (h : Q (.int (i + j)) σ) : binA .Add (.int i) (.int j) Q σ
  | addT {xs ys : List AV} {Q : Post} {σ : AHeap} (hl : xs.length + ys.length ≤ 1000000) (h : Q (.tup (xs ++ ys)) σ) : binA .Add (.tup xs) (.tup ys) Q σ
  | addL {p q : Addr} {xs ys : List AV} {Q : Post} {σ : AHeap} (h1 : listAt p xs σ) (h2 : listAt q ys σ) (hl : xs.length + ys.length ≤ 1000000) (h : ∀ r, σ r = none → Q (.ref r) (σ.set r (.list (xs ++ ys)))) : binA .Add (.ref p) (.ref q) Q σ
  | sub {i j : Int} {Q : Post} {σ : AHeap} (h : Q (.int (i - j)) σ) : binA .Sub (.int i) (.int j) Q σ
  | mul {i j : Int} {Q : Post} {σ : AHeap} (hm : MulOk i j) (h : Q (.int (i * j)) σ) : binA .Mult (.int i) (.int j) Q σ
  | div {i j : Int} {Q : Post} {σ : AHeap} (h0 : j ≠ 0) (h1 : j.natAbs < 1073741824) (h : Q (.int (i.fdiv j)) σ) : binA .FloorDiv (.int i) (.int j) Q σ
  | mod {i j : Int} {Q : Post} {σ : AHeap} (h0 : j ≠ 0) (h : Q (.int (i.fmod j)) σ) : binA .Mod (.int i) (.int j) Q σ
  | pow {i j : Int} {Q : Post} {σ : AHeap} (h0 : 0 ≤ j) (h1 : j ≤ 1000) (h2 : i.natAbs < 2 ^ 64) (h : Q (.int (i ^ j.toNat)) σ) : binA .Pow (.int i) (.int j) Q σ

section
variable {X : Cx} {A : Around} {σ : AHeap} {s : Shared} {Q : Post} {E : Value → Shared → Prop}

theorem bits_of_natAbs {i : Int} (h : i.natAbs < 2 ^ 60) : Builtin.Int.intBits i ≤ 64 := by
  unfold Builtin.Int.intBits
  split
  · lia
  · rename_i h0
    have : i.natAbs.log2 < 60 := (Nat.log2_lt (by intro e; simp [Int.natAbs_eq_zero] at e; subst e; simp at h0)).mpr h
    lia

theorem bin_sound {op : Operator} {x y : AV} {u v : Value} (a : At X σ s) (rx : RepV s.heap x u) (ry : RepV s.heap y v) (q : binA op x y Q σ) : wpAny X.M A (binaryOp op u v) (liftQ X σ s Q) E s := by
  cases q with
  | add q => cases rx; cases ry; exact P.add_int (retT a (.int _ _) q)
  | addT hq q => cases rx with
    | tup hla ht rs => cases ry with
      | tup hlb ht2 rs2 =>
        rename_i t vs t2 ws
        obtain ⟨⟨cls, dd, data, sl⟩, ho, hc, n, hd⟩ := id ht
        obtain ⟨⟨cls2, dd2, data2, sl2⟩, ho2, hc2, n2, hd2⟩ := id ht2
        simp only at hc hd hc2 hd2
        subst hc hd hc2 hd2
        have l1 := rs.length
        have l2 := rs2.length
        have e : vs.toArray ++ ws.toArray = (vs ++ ws).toArray := by simp
        by_cases hv : vs = []
        · subst hv; cases rs
          exact concat_meets ⟨_, ho, rfl⟩ ⟨_, ho2, rfl⟩ noFill_tuple_add seq_tuple_add PySem.F.slot_tuple_add PySem.F.entry_tuple_add (PySem.F.args_tuple_add_2 _ _)
            (tuple_addW0 t t2 _ ws.toArray n n2 dd dd2 sl sl2 (by simp)) ⟨ho, ho2, retQ a (.tup hlb ht2 rs2) q⟩
        · by_cases hw : ws = []
          · subst hw; cases rs2
            refine concat_meets ⟨_, ho, rfl⟩ ⟨_, ho2, rfl⟩ noFill_tuple_add seq_tuple_add PySem.F.slot_tuple_add PySem.F.entry_tuple_add (PySem.F.args_tuple_add_2 _ _)
              (tuple_addW1 t t2 vs.toArray _ n n2 dd dd2 sl sl2 (by simpa using hv) (by simp)) ⟨ho, ho2, retQ a (.tup hla ht rs) ?_⟩
            rwa [List.append_nil] at q
          · refine concat_meets ⟨_, ho, rfl⟩ ⟨_, ho2, rfl⟩ noFill_tuple_add seq_tuple_add PySem.F.slot_tuple_add PySem.F.entry_tuple_add (PySem.F.args_tuple_add_2 _ _)
              (tuple_addW2 t t2 vs.toArray ws.toArray n n2 dd dd2 sl sl2 (by simpa using hv) (by simpa using hw) (by rw [List.size_toArray, List.size_toArray, sizeLine_eq]; lia)) ⟨ho, ho2, ?_⟩
            rw [e]
            have kv : KeepV s.heap (s.heap.push { cls := .type "tuple", data := .seq (vs ++ ws).toArray }) := fun b o e _ => Heap.get?_push_of_some _ e
            exact ⟨_, σ, .tup (by rw [List.length_append]; exact hq) ⟨_, Heap.get?_push_size _ rfl, rfl, 0, rfl⟩ ((rs.append rs2).mono kv), a.push _ s.toks, Step.push σ s _ s.toks, q⟩
  | @addL p p2 xs ys _ _ hx hy hl q =>
    cases rx; cases ry
    obtain ⟨vs, ht, rs⟩ := a.isList hx
    obtain ⟨ws, ht2, rs2⟩ := a.isList hy
    obtain ⟨⟨cls, dd, data, sl⟩, ho, hc, n, hd⟩ := id ht
    obtain ⟨⟨cls2, dd2, data2, sl2⟩, ho2, hc2, n2, hd2⟩ := id ht2
    simp only at hc hd hc2 hd2
    subst hc hd hc2 hd2
    have l1 := rs.length
    have l2 := rs2.length
    have e : vs.toArray ++ ws.toArray = (vs ++ ws).toArray := by simp
    refine concat_meets ⟨_, ho, rfl⟩ ⟨_, ho2, rfl⟩ noFill_list_add seq_list_add PySem.F.slot_list_add PySem.F.entry_list_add (PySem.F.args_list_add_2 _ _)
      (list_addW p p2 vs.toArray ws.toArray n n2 dd dd2 sl sl2 (by rw [List.size_toArray, List.size_toArray, sizeLine_eq]; lia)) ⟨ho, ho2, ?_⟩
    rw [e]
    have kv : KeepV s.heap (s.heap.push { cls := .type "list", data := .seq (vs ++ ws).toArray }) := fun b o e _ => Heap.get?_push_of_some _ e
    exact ⟨.ref s.heap.objs.size, _, .ref _, a.alloc (ao := .list (xs ++ ys)) s.toks ⟨vs ++ ws, 0, Heap.get?_push_size _ rfl, (rs.append rs2).mono kv, by rw [List.length_append]; exact hl⟩, Step.alloc σ s _ _ s.toks, q _ (a.none_of_size (Nat.le_refl _))⟩
  | sub q => cases rx; cases ry; exact P.sub_int (retT a (.int _ _) q)
  | mul hq q =>
    cases rx; cases ry
    exact P.mul_int (retT a (.int _ _) q) (hq.elim (fun h => IntMulOk.of_left (bits_of_natAbs h)) fun h => IntMulOk.of_right (bits_of_natAbs h))
  | div h0 h1 q =>
    cases rx; cases ry
    exact floordiv_int h0 (retT a (.int _ _) q) (.inl (PyProof.noPylong_small h1))
  | mod h0 q =>
    cases rx; cases ry
    exact mod_int' h0 (retT a (.int _ _) q)
  | pow h0 h1 h2 q =>
    cases rx; cases ry
    exact pow_int_small h0 (by lia) h2 (retT a (.int _ _) q)
end
end Mine

set_option maxRecDepth 100000
set_option linter.unusedVariables false
namespace Mine
open PySem PyProof.Rows PySem.SeqAt

mutual
/-- a value read as a tree -/
inductive Rd (σ : AHeap) : AV → PyData → Prop
  | none : Rd σ .none .none
  | bool (b : Bool) : Rd σ (.bool b) (.bool b)
  | int (i : Int) : Rd σ (.int i) (.int i)
  | str (x : Str) : Rd σ (.str x) (.str x)
  | tup {xs ds} : RdL σ xs ds → Rd σ (.tup xs) (.tuple ds)
  | list {a xs ds} : listAt a xs σ → RdL σ xs ds → Rd σ (.ref a) (.list ds)
inductive RdL (σ : AHeap) : List AV → List PyData → Prop
  | nil : RdL σ [] []
  | cons {x xs d ds} : Rd σ x d → RdL σ xs ds → RdL σ (x :: xs) (d :: ds)
end

theorem Rd.both {X : Cx} {σ : AHeap} {s : Shared} (a : At X σ s) : (∀ {x d}, Rd σ x d → ∀ v, RepV s.heap x v → ∃ as, Reads s.heap v d as) ∧ ∀ {xs ds}, RdL σ xs ds → ∀ vs, RepVs s.heap xs vs → ∃ as, ReadsAll s.heap vs ds as := by
  have c1 : ∀ v, RepV s.heap .none v → ∃ as, Reads s.heap v .none as := fun v r => by cases r; exact ⟨_, .none⟩
  have c2 : ∀ b v, RepV s.heap (.bool b) v → ∃ as, Reads s.heap v (.bool b) as := fun b v r => by cases r; exact ⟨_, .bool b⟩
  have c3 : ∀ i v, RepV s.heap (.int i) v → ∃ as, Reads s.heap v (.int i) as := fun i v r => by cases r; exact ⟨_, .int i _⟩
  have c4 : ∀ x v, RepV s.heap (.str x) v → ∃ as, Reads s.heap v (.str x) as := fun i v r => by cases r; exact ⟨_, .str i _⟩
  have c5 : ∀ xs ds, (∀ vs, RepVs s.heap xs vs → ∃ as, ReadsAll s.heap vs ds as) → ∀ v, RepV s.heap (.tup xs) v → ∃ as, Reads s.heap v (.tuple ds) as := fun xs ds ih v r => by
    cases r with
    | tup _ ht rv =>
      obtain ⟨o, ho, hc, n, hd⟩ := ht
      obtain ⟨as, h⟩ := ih _ rv
      exact ⟨as, .tuple ho hc hd (by simpa using h)⟩
  have c6 : ∀ p xs ds, listAt p xs σ → (∀ vs, RepVs s.heap xs vs → ∃ as, ReadsAll s.heap vs ds as) → ∀ v, RepV s.heap (.ref p) v → ∃ as, Reads s.heap v (.list ds) as := fun p xs ds hl ih v r => by
    cases r
    obtain ⟨vs, ⟨o, ho, hc, n, hd⟩, rv⟩ := a.isList hl
    obtain ⟨as, h⟩ := ih _ rv
    exact ⟨_, .list ho hc hd (by simpa using h)⟩
  have c7 : ∀ vs, RepVs s.heap [] vs → ∃ as, ReadsAll s.heap vs [] as := fun vs r => by cases r; exact ⟨_, .nil⟩
  have c8 : ∀ x xs d ds, (∀ v, RepV s.heap x v → ∃ as, Reads s.heap v d as) → (∀ vs, RepVs s.heap xs vs → ∃ as, ReadsAll s.heap vs ds as) → ∀ vs, RepVs s.heap (x :: xs) vs → ∃ as, ReadsAll s.heap vs (d :: ds) as := fun x xs d ds h1 h2 vs r => by
    cases r with
    | cons rv rvs =>
      obtain ⟨as, g1⟩ := h1 _ rv
      obtain ⟨bs, g2⟩ := h2 _ rvs
      exact ⟨_, .cons g1 g2⟩
  constructor
  · intro x d h
    exact Rd.rec (motive_1 := fun x d _ => ∀ v, RepV s.heap x v → ∃ as, Reads s.heap v d as) (motive_2 := fun xs ds _ => ∀ vs, RepVs s.heap xs vs → ∃ as, ReadsAll s.heap vs ds as)
      c1 c2 c3 c4 (fun {xs ds} _ ih => c5 xs ds ih) (fun {p xs ds} hl _ ih => c6 p xs ds hl ih) c7 (fun {x xs d ds} _ _ h1 h2 => c8 x xs d ds h1 h2) h
  · intro x d h
    exact RdL.rec (motive_1 := fun x d _ => ∀ v, RepV s.heap x v → ∃ as, Reads s.heap v d as) (motive_2 := fun xs ds _ => ∀ vs, RepVs s.heap xs vs → ∃ as, ReadsAll s.heap vs ds as)
      c1 c2 c3 c4 (fun {xs ds} _ ih => c5 xs ds ih) (fun {p xs ds} hl _ ih => c6 p xs ds hl ih) c7 (fun {x xs d ds} _ _ h1 h2 => c8 x xs d ds h1 h2) h
theorem Rd.reads {X : Cx} {σ : AHeap} {s : Shared} (a : At X σ s) {x : AV} {d : PyData} (h : Rd σ x d) {v : Value} (r : RepV s.heap x v) : ∃ as, Reads s.heap v d as := (Rd.both a).1 h v r
theorem RdL.reads {X : Cx} {σ : AHeap} {s : Shared} (a : At X σ s) {xs : List AV} {ds : List PyData} (h : RdL σ xs ds) {vs : List Value} (r : RepVs s.heap xs vs) : ∃ as, ReadsAll s.heap vs ds as := (Rd.both a).2 h vs r

def LtAt (A : Around) (s : Shared) (x y : Value) (t : Bool) : Prop :=
  ∀ (prog : Program) (w : World) (E : Value → Shared → Prop) (Q : Value → Shared → Prop), Q (.bool t) s → wpAny (model prog w) A (richCompare .Lt x y) Q E s

inductive LtL (A : Around) (s : Shared) : List Value → List Value → Bool → Prop
  | nn : LtL A s [] [] false
  | nc {y ys} : LtL A s [] (y :: ys) true
  | cn {x xs} : LtL A s (x :: xs) [] false
  | eq {x y xs ys t} : EqAt A s x y true → LtL A s xs ys t → LtL A s (x :: xs) (y :: ys) t
  | ne {x y xs ys t} : EqAt A s x y false → LtAt A s x y t → LtL A s (x :: xs) (y :: ys) t

theorem tuple_lt_tree (l b : Value) : Builtin.«tuple.__lt__» ⟨[l, b], []⟩ = (do
    if !(← isInstance b (.type "tuple")) then return ← ret .notImplemented
    let xs ← Builtin.Tuple.tupleItemsOf l
    let ys ← Builtin.Tuple.tupleItemsOf b
    for (x, y) in xs.toList.zip ys.toList do
      if !(← eqBool x y) then
        rule "tuple.compare.by-the-first-pair-that-differs"; return ← ret (← richCompare .Lt x y)
    ret (Builtin.Tuple.tupleCompareSizes .Lt xs.size ys.size)) := rfl

theorem lt_tuples {A : Around} {s : Shared} {l b : Addr} {xs ys : List Value} {t : Bool} (hl : IsTup s.heap l xs.toArray) (hb : IsTup s.heap b ys.toArray) (hu : A.units < cLine) (h : LtL A.in1 s xs ys t) : LtAt A s (.ref l) (.ref b) t := by
  intro prog w E Q q
  refine wpAny_richCompare_same_or (op := .Lt) hl.typeIs hb.typeIs F.slot_tuple_lt (wpAny_call_entry F.slot_tuple_lt hl.typeIs F.entry_tuple_lt ?_ (F.args_tuple_lt_2 _ _)) (.inr hu)
  rw [tuple_lt_tree]
  refine wpAny_bind (wpAny_isInstance (T := "tuple") (b := true) hb.typeIs AutoSeq1.sub_tuple_tuple ?_)
  simp only [Bool.not_true, Bool.false_eq_true, if_false]
  refine wpAny_bind (tupleItemsOf_ hl (wpAny_bind (tupleItemsOf_ hb ?_)))
  simp only [List.size_toArray]
  refine wpAny_bind ?_
  refine wpAny_forIn_list _ (fun rest b s' => b = (none, ()) ∧ s' = s ∧ ∃ xs' ys', rest = xs'.zip ys' ∧ LtL A.in1 s xs' ys' t ∧ (xs'.length < ys'.length ↔ xs.length < ys.length)) _ ?_ ?_ _ _ ⟨rfl, rfl, xs, ys, rfl, h, Iff.rfl⟩
  · rintro ⟨x, y⟩ rest b s' ⟨rfl, rfl, xs', ys', hz, hL, hlen⟩
    cases hL with
    | nn => cases hz
    | nc => cases hz
    | cn => cases hz
    | eq he hr =>
      simp only [List.zip_cons_cons, List.cons.injEq, Prod.mk.injEq] at hz
      obtain ⟨⟨rfl, rfl⟩, rfl⟩ := hz
      dsimp only
      refine wpAny_bind (he prog w _ _ ?_)
      simp only [Bool.not_true, Bool.false_eq_true, if_false]
      exact wpAny_pure ⟨rfl, rfl, _, _, rfl, hr, by simpa using hlen⟩
    | ne he hr =>
      simp only [List.zip_cons_cons, List.cons.injEq, Prod.mk.injEq] at hz
      obtain ⟨⟨rfl, rfl⟩, rfl⟩ := hz
      dsimp only
      refine wpAny_bind (he prog w _ _ ?_)
      simp only [Bool.not_false, if_true]
      refine wpAny_bind (wpAny_rule (wpAny_bind (hr prog w _ _ ?_)))
      refine wpAny_bind (wpAny_pure (wpAny_pure ?_))
      exact wpAny_pure ⟨_, rfl, (fun e => nomatch e), q⟩
  · rintro b s' ⟨rfl, rfl, xs', ys', hz, hL, hlen⟩
    refine wpAny_pure ⟨_, rfl, (fun e => nomatch e), ?_⟩
    have : t = decide (xs.length < ys.length) := by
      cases hL with
      | nn => simp at hlen ⊢; lia
      | nc => simp at hlen ⊢; lia
      | cn => simp at hlen ⊢; lia
      | eq _ _ => cases hz
      | ne _ _ => cases hz
    subst this; exact q

mutual
/-- the order of trees, where Python has one -/
def ltD : PyData → PyData → Option Bool
  | .int i, .int j => some (decide (i < j))
  | .str x, .str y => some (decide (x.cps.toList < y.cps.toList))
  | .tuple xs, .tuple ys => ltDL xs ys
  | _, _ => none
def ltDL : List PyData → List PyData → Option Bool
  | [], [] => some false
  | [], _ :: _ => some true
  | _ :: _, [] => some false
  | x :: xs, y :: ys => if PyData.eqv x y then ltDL xs ys else ltD x y
end

mutual
theorem lt_reads {A : Around} {s : Shared} (da db : PyData) {a b : Value} {as bs : List Addr} {t : Bool} (ra : Reads s.heap a da as) (rb : Reads s.heap b db bs) (ha : da.canLay0 = true) (hb : db.canLay0 = true) (hu : A.units + 2 * da.depth + 10 < cLine) (e : ltD da db = some t) : LtAt A s a b t := by
  cases da with
  | int i =>
    cases db with
    | int j =>
      cases ra; cases rb
      simp only [ltD, Option.some.injEq] at e; subst e
      intro prog w E Q q; exact P.lt_int q
    | _ => simp [ltD] at e
  | str x =>
    cases db with
    | str y =>
      cases ra; cases rb
      simp only [ltD, Option.some.injEq] at e; subst e
      intro prog w E Q q; exact P.lt_str q
    | _ => simp [ltD] at e
  | tuple xs =>
    cases db with
    | tuple ys =>
      simp only [ltD] at e
      simp only [PyData.canLay0] at ha hb
      cases ra with
      | @tuple a1 o1 vs n _ _ ho hc hd hr =>
        cases rb with
        | @tuple a2 o2 vs2 n2 _ _ ho2 hc2 hd2 hr2 =>
          refine lt_tuples (xs := vs.toList) (ys := vs2.toList) ⟨_, ho, hc, _, by simpa using hd⟩ ⟨_, ho2, hc2, _, by simpa using hd2⟩ (by lia) (ltL_reads xs ys hr hr2 ha hb ?_ e)
          simp only [PyData.depth] at hu
          rw [Around.in1_units]
          lia
    | _ => simp [ltD] at e
  | _ => simp [ltD] at e
termination_by structural da
theorem ltL_reads {A : Around} {s : Shared} (xs ys : List PyData) {vs ws : List Value} {as bs : List Addr} {t : Bool} (rx : ReadsAll s.heap vs xs as) (ry : ReadsAll s.heap ws ys bs) (ha : PyData.canLayAll0 xs = true) (hb : PyData.canLayAll0 ys = true) (hu : A.units + 2 * PyData.depthAll xs + 10 < cLine)
    (e : ltDL xs ys = some t) : LtL A s vs ws t := by
  cases xs with
  | nil =>
    cases rx
    cases ys with
    | nil => cases ry; simp only [ltDL, Option.some.injEq] at e; subst e; exact .nn
    | cons y ys => cases ry; simp only [ltDL, Option.some.injEq] at e; subst e; exact .nc
  | cons x xs =>
    cases rx with
    | cons h1 h2 =>
      cases ys with
      | nil => cases ry; simp only [ltDL, Option.some.injEq] at e; subst e; exact .cn
      | cons y ys =>
        cases ry with
        | cons k1 k2 =>
          simp only [PyData.canLayAll0, Bool.and_eq_true] at ha hb
          simp only [PyData.depthAll] at hu
          have h5 : x.depth ≤ max x.depth (PyData.depthAll xs) := Nat.le_max_left _ _
          have h6 : PyData.depthAll xs ≤ max x.depth (PyData.depthAll xs) := Nat.le_max_right _ _
          have hmin : min x.depth y.depth ≤ x.depth := Nat.min_le_left _ _
          have heq := eqAt_reads x y A s _ _ _ _ h1 k1 ha.1 hb.1 (by lia)
          simp only [ltDL] at e
          cases hE : PyData.eqv x y with
          | true => rw [hE] at e heq; exact .eq heq (ltL_reads xs ys h2 k2 ha.2 hb.2 (by lia) e)
          | false => rw [hE] at e heq; exact .ne heq (lt_reads x y h1 k1 ha.1 hb.1 (by lia) (by simpa using e))
termination_by structural xs
end
end Mine

set_option maxRecDepth 100000
set_option linter.unusedVariables false
set_option autoImplicit false
namespace Mine
open PySem PyProof.Rows PySem.SeqAt

def DOk (d : PyData) : Prop := d.canLay0 = true ∧ d.depth ≤ 100

def AV.isNone : AV → Bool
  | .none => true
  | _ => false

/-- what «in» asks of: a list or a tuple read as trees; a dict by its keys -/
def inA (X : Cx) (x c : AV) (Q : Bool → AHeap → Prop) (σ : AHeap) : Prop :=
  ∃ ds d, (Rd σ c (.list ds) ∨ Rd σ c (.tuple ds)) ∧ Rd σ x d ∧ DOk (.list ds) ∧ DOk d ∧ Q (ds.any fun y => PyData.eqv y d) σ

inductive cmpA (X : Cx) : CmpOp → AV → AV → Post → AHeap → Prop
  | eq {a b : AV} {x y : PyData} {Q : Post} {σ : AHeap} (h1 : Rd σ a x) (h2 : Rd σ b y) (k1 : DOk x) (k2 : DOk y) (h : Q (.bool (PyData.eqv x y)) σ) : cmpA X .Eq a b Q σ
  | ne {a b : AV} {x y : PyData} {Q : Post} {σ : AHeap} (h1 : Rd σ a x) (h2 : Rd σ b y) (k1 : DOk x) (k2 : DOk y) (h : Q (.bool (!PyData.eqv x y)) σ) : cmpA X .NotEq a b Q σ
  | lt {i j : Int} {Q : Post} {σ : AHeap} (h : Q (.bool (decide (i < j))) σ) : cmpA X .Lt (.int i) (.int j) Q σ
  | ltT {xs ys : List AV} {x y : PyData} {t : Bool} {Q : Post} {σ : AHeap} (h1 : Rd σ (.tup xs) x) (h2 : Rd σ (.tup ys) y) (k1 : DOk x) (k2 : DOk y) (ht : ltD x y = some t) (h : Q (.bool t) σ) : cmpA X .Lt (.tup xs) (.tup ys) Q σ
  | le {i j : Int} {Q : Post} {σ : AHeap} (h : Q (.bool (decide (i ≤ j))) σ) : cmpA X .LtE (.int i) (.int j) Q σ
  | gt {i j : Int} {Q : Post} {σ : AHeap} (h : Q (.bool (decide (i > j))) σ) : cmpA X .Gt (.int i) (.int j) Q σ
  | ge {i j : Int} {Q : Post} {σ : AHeap} (h : Q (.bool (decide (i ≥ j))) σ) : cmpA X .GtE (.int i) (.int j) Q σ
  | inn {a b : AV} {Q : Post} {σ : AHeap} (h : inA X a b (fun t σ' => Q (.bool t) σ') σ) : cmpA X .In a b Q σ
  | notIn {a b : AV} {Q : Post} {σ : AHeap} (h : inA X a b (fun t σ' => Q (.bool (!t)) σ') σ) : cmpA X .NotIn a b Q σ
  | is {a : AV} {Q : Post} {σ : AHeap} (h : Q (.bool a.isNone) σ) : cmpA X .Is a .none Q σ
  | isNot {a : AV} {Q : Post} {σ : AHeap} (h : Q (.bool (!a.isNone)) σ) : cmpA X .IsNot a .none Q σ
  | inD {k : List Mark} {p : Addr} {kvs : Tab} {Q : Post} {σ : AHeap} (hp : σ p = some (.tdict kvs)) (hk : ∀ m ∈ k, mOk m) (h : Q (.bool (kvs.at k).isSome) σ) : cmpA X .In (rowAV k) (.ref p) Q σ
  | notInD {k : List Mark} {p : Addr} {kvs : Tab} {Q : Post} {σ : AHeap} (hp : σ p = some (.tdict kvs)) (hk : ∀ m ∈ k, mOk m) (h : Q (.bool (!(kvs.at k).isSome)) σ) : cmpA X .NotIn (rowAV k) (.ref p) Q σ

section
variable {X : Cx} {A : Around} {σ : AHeap} {s : Shared} {Q : Post} {E : Value → Shared → Prop} {d : Nat}

theorem isSame_none {x : AV} {u : Value} {R : Bool → Shared → Prop} (rx : RepV s.heap x u) (h : R x.isNone s) : wpAny X.M A (isSame u .none) R E s := by
  cases rx <;> exact wpAny_pure h

theorem in_sound {x y : AV} {u v : Value} {R : Bool → AHeap → Prop} (L : Live d A) (a : At X σ s) (rx : RepV s.heap x u) (ry : RepV s.heap y v) (q : inA X x y R σ) :
    wpAny X.M A (compareOp .In u v) (fun w s' => ∃ t, w = .bool t ∧ liftB X σ s R t s') E s ∧ wpAny X.M A (compareOp .NotIn u v) (fun w s' => ∃ t, w = .bool (!t) ∧ liftB X σ s R t s') E s := by
  have room := L.room
  obtain ⟨ds, dd, hc, hx, kc, kd, q⟩ := q
  obtain ⟨as, r1⟩ := hx.reads a rx
  have hd1 : PyData.depthAll ds ≤ 100 := by have := kc.2; simp only [PyData.depth] at this; lia
  have hu : A.units + 1 + min (PyData.depthAll ds) dd.depth < cLine := by
    have : min (PyData.depthAll ds) dd.depth ≤ PyData.depthAll ds := Nat.min_le_left _ _
    lia
  have kc1 : PyData.canLayAll0 ds = true := by have := kc.1; simpa only [PyData.canLay0] using this
  rcases hc with hc | hc
  · obtain ⟨bs, r2⟩ := hc.reads a ry
    exact ⟨in_list_reads r2 r1 kc1 kd.1 hu ⟨_, rfl, σ, a, .refl .., q⟩, notIn_list_reads r2 r1 kc1 kd.1 hu ⟨_, rfl, σ, a, .refl .., q⟩⟩
  · obtain ⟨bs, r2⟩ := hc.reads a ry
    exact ⟨in_tuple_reads r2 r1 kc1 kd.1 hu ⟨_, rfl, σ, a, .refl .., q⟩, notIn_tuple_reads r2 r1 kc1 kd.1 hu ⟨_, rfl, σ, a, .refl .., q⟩⟩

theorem cmp_sound {op : CmpOp} {x y : AV} {u v : Value} (L : Live d A) (a : At X σ s) (rx : RepV s.heap x u) (ry : RepV s.heap y v) (q : cmpA X op x y Q σ) : wpAny X.M A (compareOp op u v) (liftQ X σ s Q) E s := by
  have room := L.room
  cases q with
  | @eq _ _ da db _ _ h1 h2 k1 k2 q =>
    obtain ⟨as, r1⟩ := h1.reads a rx
    obtain ⟨bs, r2⟩ := h2.reads a ry
    have hm : min da.depth db.depth ≤ da.depth := Nat.min_le_left _ _
    exact compareEq_reads r1 r2 k1.1 k2.1 (by have := k1.2; lia) (retQ a (.bool _) q)
  | @ne _ _ da db _ _ h1 h2 k1 k2 q =>
    obtain ⟨as, r1⟩ := h1.reads a rx
    obtain ⟨bs, r2⟩ := h2.reads a ry
    have hm : min da.depth db.depth ≤ da.depth := Nat.min_le_left _ _
    exact compareNe_reads r1 r2 k1.1 k2.1 (by have := k1.2; lia) (retQ a (.bool _) q)
  | lt q => cases rx; cases ry; exact P.lt_int (retQ a (.bool _) q)
  | @ltT _ _ da db t _ _ h1 h2 k1 k2 ht q =>
    obtain ⟨as, r1⟩ := h1.reads a rx
    obtain ⟨bs, r2⟩ := h2.reads a ry
    exact lt_reads da db r1 r2 k1.1 k2.1 (by have := k1.2; lia) ht _ _ _ _ (retQ a (.bool _) q)
  | le q => cases rx; cases ry; exact P.le_int (retQ a (.bool _) q)
  | gt q => cases rx; cases ry; exact P.gt_int (retQ a (.bool _) q)
  | ge q => cases rx; cases ry; exact P.ge_int (retQ a (.bool _) q)
  | inn q =>
    refine wpAny_mono (in_sound L a rx ry q).1 (fun w s' x => ?_) fun _ _ e => e
    obtain ⟨t, e, σ', a', st, q'⟩ := x
    subst e; exact ⟨_, σ', .bool _, a', st, q'⟩
  | notIn q =>
    refine wpAny_mono (in_sound L a rx ry q).2 (fun w s' x => ?_) fun _ _ e => e
    obtain ⟨t, e, σ', a', st, q'⟩ := x
    subst e; exact ⟨_, σ', .bool _, a', st, q'⟩
  | is q =>
    cases ry
    exact wpAny_bind (isSame_none rx (wpAny_pure (retQ a (.bool _) q)))
  | isNot q =>
    cases ry
    exact wpAny_bind (isSame_none rx (wpAny_pure (retQ a (.bool _) q)))
  | inD hp hk q =>
    cases ry
    exact tab_in L a hp rx hk q
  | notInD hp hk q =>
    cases ry
    exact tab_notIn L a hp rx hk q
end

namespace A
def bin (op : Operator) (x y : AE) : AE := fun d l Q Z σ => x d l (fun a σ1 => y d l (fun b σ2 => binA op a b Q σ2) Z σ1) Z σ
def neg (x : AE) : AE := fun d l Q Z σ => x d l (fun a σ1 => ∃ i, a = .int i ∧ Q (.int (-i)) σ1) Z σ
def not_ (x : AE) : AE := fun d l Q Z σ => x d l (fun a σ1 => ∃ b, a = .bool b ∧ Q (.bool (!b)) σ1) Z σ
def and_ (x y : AE) : AE := fun d l Q Z σ => x d l (fun a σ1 => ∃ b, a = .bool b ∧ if b then y d l Q Z σ1 else Q (.bool false) σ1) Z σ
def or_ (x y : AE) : AE := fun d l Q Z σ => x d l (fun a σ1 => ∃ b, a = .bool b ∧ if b then Q (.bool true) σ1 else y d l Q Z σ1) Z σ
def chain (X : Cx) (d : Nat) (l : Loc) (Q : Post) (Z : XP) : AV → List (CmpOp × AE) → AHeap → Prop
  | _, [], _ => False
  | a, [(op, y)], σ => y d l (fun b σ1 => cmpA X op a b Q σ1) Z σ
  | a, (op, y) :: r, σ => y d l (fun b σ1 => cmpA X op a b (fun c σ2 => ∃ t, c = .bool t ∧ if t then chain X d l Q Z b r σ2 else Q (.bool false) σ2) σ1) Z σ
def cmp (X : Cx) (x : AE) (ops : List (CmpOp × AE)) : AE := fun d l Q Z σ => x d l (fun a σ1 => chain X d l Q Z a ops σ1) Z σ
end A

section
variable {X : Cx} {env : Env} {nm : List (Str × Nat)}

theorem sound_bin {op : Operator} {e1 e2 : Expr} {m1 m2 : AE} {pos : Pos} (h1 : SoundE X env nm e1 m1) (h2 : SoundE X env nm e2 m2) : SoundE X env nm (.BinOp e1 op e2 pos) (A.bin op m1 m2) := fun d A l σ s Q Z L a F q =>
  wpAny_BinOp (seqQ (h1 d A l σ s _ Z L a F q) fun av v σ1 s1 rv a1 st1 q1 =>
    wpAny_mono (h2 d A l σ1 s1 _ Z L a1 (F.step a st1) q1) (fun v2 s2 ⟨av2, σ2, rv2, a2, st2, q2⟩ => backQ (st1.trans st2) (bin_sound a2 (rv.mono (st2.keepV0 a1)) rv2 q2)) fun _ _ x => x.back st1)

theorem sound_not {e : Expr} {m : AE} {pos : Pos} (h : SoundE X env nm e m) : SoundE X env nm (.UnaryOp .Not e pos) (A.not_ m) := fun d A l σ s Q Z L a F q => by
  show wpAny X.M A (do let v ← eval e env; standAt pos; holding [v] (unaryOp .Not v)) _ _ s
  refine wpAny_bind (seqQ (h d A l σ s _ Z L a F q) fun av v σ1 s1 rv a1 st1 ⟨b, hb, q1⟩ => ?_)
  subst hb; cases rv
  refine wpAny_bind (wpAny_standAt (wpAny_holding ?_))
  show wpAny X.M A (holding [Value.bool b] (do return Value.bool (!(← truthy (.bool b))))) _ _ s1
  exact wpAny_holding (wpAny_bind (wpAny_truthy_bool (wpAny_pure (liftQ.back st1 (retQ a1 (.bool _) q1)))))
theorem soundB_not {e : Expr} {m : AE} {pos : Pos} (h : SoundB X env nm e m) : SoundB X env nm (.UnaryOp .Not e pos) (A.not_ m) := fun d A l σ s Q Z L a F q => by
  show wpAny X.M A (do return !(← isTrue e env (eval e env))) _ _ s
  have q' : m d l (isB fun b σ1 => Q (!b) σ1) Z σ := by
    refine (show m d l (isB fun b σ1 => Q (!b) σ1) Z σ from ?_)
    have e : (fun a σ1 => ∃ b, a = AV.bool b ∧ isB Q (.bool (!b)) σ1) = isB fun b σ1 => Q (!b) σ1 := by
      funext a σ1
      unfold isB
      refine propext ⟨?_, ?_⟩
      · rintro ⟨b, rfl, c, hc, q⟩; cases hc; exact ⟨b, rfl, q⟩
      · rintro ⟨b, rfl, q⟩; exact ⟨b, rfl, _, rfl, q⟩
    have q0 : m d l (fun a σ1 => ∃ b, a = AV.bool b ∧ isB Q (.bool (!b)) σ1) Z σ := q
    rw [e] at q0; exact q0
  exact wpAny_bind (wpAny_mono (h d A l σ s _ Z L a F q') (fun b s1 ⟨σ1, a1, st1, q1⟩ => wpAny_pure ⟨σ1, a1, st1, q1⟩) fun _ _ x => x)

def andL : List AE → AE
  | [] => fun _ _ _ _ _ => False
  | [x] => x
  | x :: y :: r => A.and_ x (andL (y :: r))
def orL : List AE → AE
  | [] => fun _ _ _ _ _ => False
  | [x] => x
  | x :: y :: r => A.or_ x (orL (y :: r))

inductive SoundEBs (X : Cx) (env : Env) (nm : List (Str × Nat)) : List Expr → List AE → Prop
  | nil : SoundEBs X env nm [] []
  | cons {e es m ms} : SoundE X env nm e m → SoundB X env nm e m → SoundEBs X env nm es ms → SoundEBs X env nm (e :: es) (m :: ms)

theorem allTrue_cons (op : BoolOp) (x : Expr) (r : List Expr) : allTrue op (x :: r) env = (do
    match op, ← isTrue x env (eval x env) with
    | .And, false => pure false
    | .Or, true => pure true
    | _, _ => allTrue op r env) := rfl

theorem isB_and {Q : Bool → AHeap → Prop} {y : AE} {d : Nat} {l : Loc} {Z : XP} : (fun a σ1 => ∃ b, a = AV.bool b ∧ if b then y d l (isB Q) Z σ1 else isB Q (.bool false) σ1) = isB fun b σ1 => if b then y d l (isB Q) Z σ1 else Q false σ1 := by
  funext a σ1
  unfold isB
  refine propext ⟨?_, ?_⟩
  · rintro ⟨b, rfl, h⟩
    refine ⟨b, rfl, ?_⟩
    cases b with
    | true => exact h
    | false => simp only [Bool.false_eq_true, if_false] at h ⊢; obtain ⟨c, hc, q⟩ := h; cases hc; exact q
  · rintro ⟨b, rfl, h⟩
    refine ⟨b, rfl, ?_⟩
    cases b with
    | true => exact h
    | false => simp only [Bool.false_eq_true, if_false] at h ⊢; exact ⟨_, rfl, h⟩
theorem isB_or {Q : Bool → AHeap → Prop} {y : AE} {d : Nat} {l : Loc} {Z : XP} : (fun a σ1 => ∃ b, a = AV.bool b ∧ if b then isB Q (.bool true) σ1 else y d l (isB Q) Z σ1) = isB fun b σ1 => if b then Q true σ1 else y d l (isB Q) Z σ1 := by
  funext a σ1
  unfold isB
  refine propext ⟨?_, ?_⟩
  · rintro ⟨b, rfl, h⟩
    refine ⟨b, rfl, ?_⟩
    cases b with
    | false => exact h
    | true => simp only [if_true] at h ⊢; obtain ⟨c, hc, q⟩ := h; cases hc; exact q
  · rintro ⟨b, rfl, h⟩
    refine ⟨b, rfl, ?_⟩
    cases b with
    | false => exact h
    | true => simp only [if_true] at h ⊢; exact ⟨_, rfl, h⟩

theorem allTrue_and {es ms} (h0 : SoundEBs X env nm es ms) : ∀ {d A l σ s Q Z}, Live d A → At X σ s → FR X env nm l σ s.heap → andL ms d l (isB Q) Z σ → wpAny X.M A (allTrue .And es env) (liftB X σ s Q) (liftX X σ s Z) s := by
  induction h0 with
  | nil => intro d A l σ s Q Z L a F q; exact q.elim
  | cons h hb r ih =>
    intro d A l σ s Q Z L a F q
    rw [allTrue_cons]
    cases r with
    | nil =>
      refine wpAny_bind (wpAny_mono (hb d A l σ s Q Z L a F q) (fun b s1 x => ?_) fun _ _ x => x)
      cases b with
      | false => exact wpAny_pure x
      | true => exact wpAny_pure x
    | cons h2 hb2 r =>
      have q0 := q
      simp only [andL, Mine.A.and_] at q0
      rw [isB_and] at q0
      refine wpAny_bind (wpAny_mono (hb d A l σ s _ Z L a F q0) (fun b s1 x => ?_) fun _ _ x => x)
      obtain ⟨σ1, a1, st1, q1⟩ := x
      cases b with
      | false => exact wpAny_pure ⟨σ1, a1, st1, by simpa using q1⟩
      | true => exact backB st1 (ih L a1 (F.step a st1) (by simpa using q1))
theorem allTrue_or {es ms} (h0 : SoundEBs X env nm es ms) : ∀ {d A l σ s Q Z}, Live d A → At X σ s → FR X env nm l σ s.heap → orL ms d l (isB Q) Z σ → wpAny X.M A (allTrue .Or es env) (liftB X σ s Q) (liftX X σ s Z) s := by
  induction h0 with
  | nil => intro d A l σ s Q Z L a F q; exact q.elim
  | cons h hb r ih =>
    intro d A l σ s Q Z L a F q
    rw [allTrue_cons]
    cases r with
    | nil =>
      refine wpAny_bind (wpAny_mono (hb d A l σ s Q Z L a F q) (fun b s1 x => ?_) fun _ _ x => x)
      cases b with
      | false => exact wpAny_pure x
      | true => exact wpAny_pure x
    | cons h2 hb2 r =>
      have q0 := q
      simp only [orL, Mine.A.or_] at q0
      rw [isB_or] at q0
      refine wpAny_bind (wpAny_mono (hb d A l σ s _ Z L a F q0) (fun b s1 x => ?_) fun _ _ x => x)
      obtain ⟨σ1, a1, st1, q1⟩ := x
      cases b with
      | true => exact wpAny_pure ⟨σ1, a1, st1, by simpa using q1⟩
      | false => exact backB st1 (ih L a1 (F.step a st1) (by simpa using q1))
theorem soundB_and {pos : Pos} {es : List Expr} {ms : List AE} (h : SoundEBs X env nm es ms) : SoundB X env nm (.BoolOp .And es pos) (andL ms) := fun d A l σ s Q Z L a F q => allTrue_and h L a F q
theorem soundB_or {pos : Pos} {es : List Expr} {ms : List AE} (h : SoundEBs X env nm es ms) : SoundB X env nm (.BoolOp .Or es pos) (orL ms) := fun d A l σ s Q Z L a F q => allTrue_or h L a F q

/-- comparisons, in a row -/
inductive SoundOps (X : Cx) (env : Env) (nm : List (Str × Nat)) : List CmpOp → List Expr → List (CmpOp × AE) → Prop
  | one {op e m} : SoundE X env nm e m → behindInMarks op e = false → SoundOps X env nm [op] [e] [(op, m)]
  | cons {op e m op2 ops es ms} : SoundE X env nm e m → SoundOps X env nm (op2 :: ops) es ms → SoundOps X env nm (op :: op2 :: ops) (e :: es) ((op, m) :: ms)

theorem SoundOps.ne {ops es ms} (h : SoundOps X env nm ops es ms) : ms ≠ [] := by cases h <;> simp

theorem wp_release {M : Model} {A : Around} {vs keep : List Value} {Q : Unit → Shared → Prop} {E : Value → Shared → Prop} {s : Shared} (h : Q () s) : wpAny M A (release vs keep) Q E s := fun Γ p hΓ => by rw [Sem.wp_release]; exact h

theorem chain_sound {pos : Pos} {ops es ms} (h0 : SoundOps X env nm ops es ms) : ∀ {d A l σ s Q Z av v}, Live d A → At X σ s → FR X env nm l σ s.heap → RepV s.heap av v → Mine.A.chain X d l Q Z av ms σ →
    wpAny X.M A (compareChain pos v ops (markedEach ops es (evalEach es env))) (liftQ X σ s Q) (liftX X σ s Z) s := by
  induction h0 with
  | @one op e m h hm =>
    intro d A l σ s Q Z av v L a F rv q
    show wpAny X.M A (do let rv ← holding [v] (markedBehindIn op e (eval e env)); standAt pos; operate [v, rv] (compareOp op v rv)) _ _ s
    rw [markedBehindIn_of_false hm]
    refine wpAny_bind (wpAny_holding (seqQ (h d A l σ s _ Z L a F q) fun av2 v2 σ1 s1 rv2 a1 st1 q1 => ?_))
    refine wpAny_bind (wpAny_standAt ?_)
    refine backQ st1 ?_
    unfold operate
    refine wpAny_bind (wpAny_holding (wpAny_mono (cmp_sound L a1 (rv.mono (st1.keepV0 a)) rv2 q1) (fun r s2 x => ?_) fun _ _ x => x))
    exact wpAny_bind (wp_release (wpAny_pure x))
  | @cons op e m op2 ops es ms h hr ih =>
    intro d A l σ s Q Z av v L a F rv q
    obtain ⟨e2, es2, hes⟩ : ∃ e2 es2, es = e2 :: es2 := by cases hr <;> exact ⟨_, _, rfl⟩
    obtain ⟨m2, ms2, hms⟩ : ∃ m2 ms2, ms = m2 :: ms2 := by
      cases ms with
      | nil => exact absurd rfl hr.ne
      | cons m2 ms2 => exact ⟨m2, ms2, rfl⟩
    have e1 : markedEach (op :: op2 :: ops) (e :: es) (evalEach (e :: es) env) = eval e env :: markedEach (op2 :: ops) es (evalEach es env) := by subst hes; rfl
    rw [e1]
    have q' : m d l (fun b σ1 => cmpA X op av b (fun c σ2 => ∃ t, c = .bool t ∧ if t then Mine.A.chain X d l Q Z b ms σ2 else Q (.bool false) σ2) σ1) Z σ := by subst hms; exact q
    have e3 : compareChain pos v (op :: op2 :: ops) (eval e env :: markedEach (op2 :: ops) es (evalEach es env)) = (do
        let rv ← holding [v] (eval e env)
        standAt pos
        let c ← holding [v, rv] (compareOp op v rv)
        release [v, rv] [c]
        if ← holding [c, rv] (truthy c) then compareChain pos rv (op2 :: ops) (markedEach (op2 :: ops) es (evalEach es env)) else pure c) := by
      subst hes
      cases ops <;> cases es2 <;> rfl
    rw [e3]
    refine wpAny_bind (wpAny_holding (seqQ (h d A l σ s _ Z L a F q') fun av2 v2 σ1 s1 rv2 a1 st1 q1 => ?_))
    refine wpAny_bind (wpAny_standAt ?_)
    refine backQ st1 ?_
    refine wpAny_bind (wpAny_holding (wpAny_mono (cmp_sound L a1 (rv.mono (st1.keepV0 a)) rv2 q1) (fun c s2 x => ?_) fun _ _ x => x))
    obtain ⟨ac, σ2, rc, a2, st2, t, ht, q2⟩ := x
    subst ht; cases rc
    refine wpAny_bind (wp_release ?_)
    refine wpAny_bind (wpAny_holding (wpAny_truthy_bool ?_))
    cases t with
    | false => exact wpAny_pure (liftQ.back st2 (retQ a2 (.bool _) (by simpa using q2)))
    | true =>
      refine backQ st2 ?_
      exact ih L a2 ((F.step a st1).step a1 st2) (rv2.mono (st2.keepV0 a1)) (by simpa using q2)

theorem sound_cmp {pos : Pos} {e : Expr} {m : AE} {ops es ms} (h : SoundE X env nm e m) (hr : SoundOps X env nm ops es ms) : SoundE X env nm (.Compare e ops es pos) (A.cmp X m ms) := fun d A l σ s Q Z L a F q => by
  show wpAny X.M A (do compareChain pos (← eval e env) ops (markedEach ops es (evalEach es env))) _ _ s
  refine wpAny_bind (seqQ (h d A l σ s _ Z L a F q) fun av v σ1 s1 rv a1 st1 q1 => ?_)
  exact backQ st1 (chain_sound hr L a1 (F.step a st1) rv q1)
end
end Mine

set_option maxRecDepth 100000
set_option linter.unusedVariables false
set_option autoImplicit false
namespace Mine
open PySem PyProof.Rows PySem.SeqAt

section
variable {X : Cx} {env : Env} {nm : List (Str × Nat)}

theorem testChain_sound {pos : Pos} : ∀ {ops es ms}, SoundOps X env nm ops es ms → ∀ {d A l σ s Q Z av v}, Live d A → At X σ s → FR X env nm l σ s.heap → RepV s.heap av v → Mine.A.chain X d l (isB Q) Z av ms σ →
    wpAny X.M A (testChain pos v ops (markedEach ops es (evalEach es env))) (liftB X σ s Q) (liftX X σ s Z) s
  | _, _, _, .one (op := op) (e := e) (m := m) h hm, d, A, l, σ, s, Q, Z, av, v, L, a, F, rv, q => by
    show wpAny X.M A (do let rv ← holding [v] (markedBehindIn op e (eval e env)); standAt pos; let c ← operate [v, rv] (compareOp op v rv); holding [c] (truthy c)) _ _ s
    rw [markedBehindIn_of_false hm]
    refine wpAny_bind (wpAny_holding (seqQ (h d A l σ s _ Z L a F q) fun av2 v2 σ1 s1 rv2 a1 st1 q1 => ?_))
    refine wpAny_bind (wpAny_standAt ?_)
    refine backB st1 ?_
    unfold operate
    refine wpAny_bind (wpAny_bind (wpAny_holding (wpAny_mono (cmp_sound L a1 (rv.mono (st1.keepV0 a)) rv2 q1) (fun r s2 ⟨ac, σ2, rc, a2, st2, t, ht, q2⟩ => ?_) fun _ _ x => x)))
    subst ht; cases rc
    exact wpAny_bind (wp_release (wpAny_pure (wpAny_holding (wpAny_truthy_bool ⟨σ2, a2, st2, q2⟩))))
  | _, _, _, .cons (op := op) (e := e) (m := m) (op2 := op2) (ops := ops) (es := es) (ms := ms) h hr, d, A, l, σ, s, Q, Z, av, v, L, a, F, rv, q => by
    obtain ⟨e2, es2, hes⟩ : ∃ e2 es2, es = e2 :: es2 := by cases hr <;> exact ⟨_, _, rfl⟩
    obtain ⟨m2, ms2, hms⟩ : ∃ m2 ms2, ms = m2 :: ms2 := by
      cases ms with
      | nil => exact absurd rfl hr.ne
      | cons m2 ms2 => exact ⟨m2, ms2, rfl⟩
    have e1 : markedEach (op :: op2 :: ops) (e :: es) (evalEach (e :: es) env) = eval e env :: markedEach (op2 :: ops) es (evalEach es env) := by subst hes; rfl
    rw [e1]
    have q' : m d l (fun b σ1 => cmpA X op av b (fun c σ2 => ∃ t, c = .bool t ∧ if t then Mine.A.chain X d l (isB Q) Z b ms σ2 else isB Q (.bool false) σ2) σ1) Z σ := by subst hms; exact q
    have e3 : testChain pos v (op :: op2 :: ops) (eval e env :: markedEach (op2 :: ops) es (evalEach es env)) = (do
        let rv ← holding [v] (eval e env)
        standAt pos
        let c ← holding [v, rv] (compareOp op v rv)
        release [v, rv] [c]
        if ← holding [c, rv] (truthy c) then testChain pos rv (op2 :: ops) (markedEach (op2 :: ops) es (evalEach es env)) else pure false) := by
      subst hes
      cases ops <;> cases es2 <;> rfl
    rw [e3]
    refine wpAny_bind (wpAny_holding (seqQ (h d A l σ s _ Z L a F q') fun av2 v2 σ1 s1 rv2 a1 st1 q1 => ?_))
    refine wpAny_bind (wpAny_standAt ?_)
    refine backB st1 ?_
    refine wpAny_bind (wpAny_holding (wpAny_mono (cmp_sound L a1 (rv.mono (st1.keepV0 a)) rv2 q1) (fun c s2 ⟨ac, σ2, rc, a2, st2, t, ht, q2⟩ => ?_) fun _ _ x => x))
    subst ht; cases rc
    refine wpAny_bind (wp_release ?_)
    refine wpAny_bind (wpAny_holding (wpAny_truthy_bool ?_))
    cases t with
    | false =>
      simp only [Bool.false_eq_true, if_false] at q2 ⊢
      obtain ⟨b, hb, q3⟩ := q2; cases hb
      exact wpAny_pure ⟨σ2, a2, st2, q3⟩
    | true =>
      refine backB st2 ?_
      exact testChain_sound hr L a2 ((F.step a st1).step a1 st2) (rv2.mono (st2.keepV0 a1)) (by simpa using q2)

theorem soundB_cmp {pos : Pos} {e : Expr} {m : AE} {ops es ms} (h : SoundE X env nm e m) (hr : SoundOps X env nm ops es ms) : SoundB X env nm (.Compare e ops es pos) (A.cmp X m ms) := fun d A l σ s Q Z L a F q => by
  show wpAny X.M A (do testChain pos (← eval e env) ops (markedEach ops es (evalEach es env))) _ _ s
  refine wpAny_bind (seqQ (h d A l σ s _ Z L a F q) fun av v σ1 s1 rv a1 st1 q1 => ?_)
  exact backB st1 (testChain_sound hr L a1 (F.step a st1) rv q1)
end
end Mine

set_option maxRecDepth 100000
set_option linter.unusedVariables false
set_option autoImplicit false
namespace Mine
open PySem PyProof.Rows PySem.SeqAt

def atIdx {α : Type} (xs : List α) (k : Int) : Option α := if 0 ≤ k then xs[k.toNat]? else if -(xs.length : Int) ≤ k then xs[(k + xs.length).toNat]? else none

/-- hook for dicts -/

inductive idxA (X : Cx) : AV → AV → Post → AHeap → Prop
  | tup {xs : List AV} {k : Int} {x : AV} {Q : Post} {σ : AHeap} (e : atIdx xs k = some x) (h : Q x σ) : idxA X (.tup xs) (.int k) Q σ
  | list {p : Addr} {xs : List AV} {k : Int} {x : AV} {Q : Post} {σ : AHeap} (hp : listAt p xs σ) (e : atIdx xs k = some x) (h : Q x σ) : idxA X (.ref p) (.int k) Q σ
  | dict {p : Addr} {kvs : Tab} {k : List Mark} {x : AV} {Q : Post} {σ : AHeap} (hp : σ p = some (.tdict kvs)) (hk : ∀ m ∈ k, mOk m) (e : kvs.at k = some x) (h : Q x σ) : idxA X (.ref p) (rowAV k) Q σ

def cut (xs : List AV) (lo hi : Option Int) : List AV := (xs.drop (lo.elim 0 (clipAt xs.length))).take (hi.elim xs.length (clipAt xs.length) - lo.elim 0 (clipAt xs.length))
def sliceA (a : AV) (lo hi : Option Int) (Q : Post) (σ : AHeap) : Prop := match a with
  | .ref p => ∃ xs, listAt p xs σ ∧ ∀ r, σ r = none → Q (.ref r) (σ.set r (.list (cut xs lo hi)))
  | .tup xs => ∃ k : Nat, lo = some (k : Int) ∧ hi = none ∧ 1 ≤ k ∧ k ≤ xs.length ∧ Q (.tup (xs.drop k)) σ
  | _ => False

section
variable {X : Cx} {A : Around} {σ : AHeap} {s : Shared} {Q : Post} {E : Value → Shared → Prop} {d : Nat}

theorem atIdx_rep {h : Heap} {xs : List AV} {vs : List Value} {k : Int} {x : AV} (r : RepVs h xs vs) (e : atIdx xs k = some x) : ∃ v, RepV h x v ∧ ((0 ≤ k ∧ vs[k.toNat]? = some v) ∨ (k < 0 ∧ -(vs.length : Int) ≤ k ∧ vs[(k + vs.length).toNat]? = some v)) := by
  unfold atIdx at e
  split at e
  · obtain ⟨v, h1, h2⟩ := r.get e; exact ⟨v, h2, .inl ⟨by assumption, h1⟩⟩
  · split at e
    · obtain ⟨v, h1, h2⟩ := r.get e
      rw [r.length] at h1
      rename_i h3 h4
      rw [r.length] at h4
      exact ⟨v, h2, .inr ⟨by lia, h4, h1⟩⟩
    · cases e

theorem getItem_sound {x i : AV} {u v : Value} {dp : Nat} (L : Live dp A) (a : At X σ s) (rx : RepV s.heap x u) (ri : RepV s.heap i v) (q : idxA X x i Q σ) :
    wpAny X.M A (getItem u v) (liftQ X σ s Q) E s ∧ ∃ T id, s.TypeIs u T ∧ typeLookup (.type T) "__getitem__" = pure (some (.builtin id)) := by
  cases q with
  | @tup xs k y _ _ hy q =>
    cases rx with
    | @tup _ t vs hl ht rs =>
      cases ri
      obtain ⟨w, rw_, hw⟩ := atIdx_rep rs hy
      have hlen := rs.length
      refine ⟨?_, "tuple", _, ht.typeIs, slot_tuple_getitem.lookup⟩
      rcases hw with ⟨h1, h2⟩ | ⟨h1, h2, h3⟩
      · have h4 : k.toNat < vs.length := (List.getElem?_eq_some_iff.mp h2).1
        exact getItem_tuple ht (by lia) (by lia) (seqIndex_of h1 (by simp; lia)) (by simpa using h2) (retQ a rw_ q)
      · exact getItem_tuple ht (by lia) (by lia) (seqIndex_neg h1 (by simpa using h2)) (by simpa using h3) (retQ a rw_ q)
  | @list p xs k y _ _ hp hy q =>
      cases rx; cases ri
      obtain ⟨vs, hl, rs⟩ := a.isList hp
      obtain ⟨w, rw_, hw⟩ := atIdx_rep rs hy
      have hlen := rs.length
      have hm := a.len hp
      refine ⟨?_, "list", _, hl.typeIs, slot_list_getitem.lookup⟩
      rcases hw with ⟨h1, h2⟩ | ⟨h1, h2, h3⟩
      · have h4 : k.toNat < vs.length := (List.getElem?_eq_some_iff.mp h2).1
        exact wpAny_getItem_list hl h1 (by lia) (by simpa using h2) (retQ a rw_ q)
      · exact wpAny_getItem_list_neg hl h1 (by simpa using h2) (by lia) (by simpa using h3) (retQ a rw_ q)
  | dict hp hk e q =>
      cases rx
      obtain ⟨xs, hD, _⟩ := a.tab hp
      exact ⟨tab_get L a hp ri hk e q, "dict", _, hD.typeIs, slot_dict_getitem.lookup⟩

theorem RepVs.cut {h : Heap} {xs : List AV} {vs : List Value} (r : RepVs h xs vs) (lo hi : Option Int) : RepVs h (cut xs lo hi) (slicePick vs.toArray lo hi none).toList := by
  rw [slicePick_plain]
  unfold Mine.cut
  simp only [List.size_toArray, r.length]
  exact (r.drop _).take _

theorem cut_length (xs : List AV) (lo hi : Option Int) : (cut xs lo hi).length ≤ xs.length := by
  unfold cut
  rw [List.length_take, List.length_drop]; lia
end

def notSlice : Expr → Bool
  | .Slice .. => false
  | _ => true
theorem subscripted_plain {e : Expr} (h : notSlice e = true) (o i : Value) : subscripted e false o i = operate [o, i] (getItem o i) := by
  cases e <;> first | rfl | (simp [notSlice] at h)

namespace A
def idx (X : Cx) (x i : AE) : AE := fun d l Q Z σ => x d l (fun a σ1 => i d l (fun b σ2 => idxA X a b Q σ2) Z σ1) Z σ
def opt (m : Option AE) (d : Nat) (l : Loc) (Q : Option Int → AHeap → Prop) (Z : XP) (σ : AHeap) : Prop := match m with
  | none => Q none σ
  | some m => m d l (fun v σ1 => ∃ i, v = .int i ∧ Q (some i) σ1) Z σ
def slice (x : AE) (lo hi : Option AE) : AE := fun d l Q Z σ => x d l (fun a σ1 => opt lo d l (fun lo' σ2 => opt hi d l (fun hi' σ3 => sliceA a lo' hi' Q σ3) Z σ2) Z σ1) Z σ
end A

def SoundO (X : Cx) (env : Env) (nm : List (Str × Nat)) : Option Expr → Option AE → Prop
  | none, none => True
  | some e, some m => SoundE X env nm e m
  | _, _ => False

section
variable {X : Cx} {env : Env} {nm : List (Str × Nat)}

theorem sound_idx {e i : Expr} {m mi : AE} {pos : Pos} (h : SoundE X env nm e m) (hi : SoundE X env nm i mi) (hn : notSlice i = true) : SoundE X env nm (.Subscript e i pos) (A.idx X m mi) := fun d A l σ s Q Z L a F q => by
  refine Subscript_ (seqQ (h d A l σ s _ Z L a F q) fun av v σ1 s1 rv a1 st1 q1 => ?_)
  refine wpAny_mono (hi d A l σ1 s1 _ Z L a1 (F.step a st1) q1) (fun v2 s2 ⟨av2, σ2, rv2, a2, st2, q2⟩ => ?_) fun _ _ x => x.back st1
  obtain ⟨h1, T, id, hT, hl⟩ := getItem_sound (A := A) (E := liftX X σ2 s2 Z) L a2 (rv.mono (st2.keepV0 a1)) rv2 q2
  exact backQ (st1.trans st2) (tail_any hT hl h1 (subscripted_plain hn _ _))

theorem opt_sound {e : Option Expr} {m : Option AE} (h : SoundO X env nm e m) {d A l σ s Q Z} (L : Live d A) (a : At X σ s) (F : FR X env nm l σ s.heap) (q : Mine.A.opt m d l Q Z σ) {R : Value → Shared → Prop}
    (k : ∀ v o s' σ', IsPart v o → At X σ' s' → Step E0 σ s σ' s' → Q o σ' → R v s') : wpAny X.M A (valueOrNone (evalOpt e env)) R (liftX X σ s Z) s := by
  cases e with
  | none =>
    cases m with
    | none => exact wpAny_pure (k _ _ _ _ .none a (.refl ..) q)
    | some m => exact h.elim
  | some e =>
    cases m with
    | none => exact h.elim
    | some m =>
      refine wpAny_mono (h d A l σ s _ Z L a F q) (fun v s1 ⟨av, σ1, rv, a1, st1, i, hi, q1⟩ => ?_) fun _ _ x => x
      subst hi; cases rv
      exact k _ _ _ _ (.int _ _) a1 st1 q1

theorem sound_slice {e : Expr} {lo hi : Option Expr} {m : AE} {mlo mhi : Option AE} {p pos : Pos} (h : SoundE X env nm e m) (hlo : SoundO X env nm lo mlo) (hhi : SoundO X env nm hi mhi) :
    SoundE X env nm (.Subscript e (.Slice lo hi none p) pos) (A.slice m mlo mhi) := fun d A l σ s Q Z L a F q => by
  refine Subscript_ (seqQ (h d A l σ s _ Z L a F q) fun av v σ1 s1 rv a1 st1 q1 => ?_)
  have F1 := F.step a st1
  show wpAny X.M A (do let l ← valueOrNone (evalOpt lo env); let u ← holding [l] (valueOrNone (evalOpt hi env)); let s ← holding [l, u] (valueOrNone (evalOpt none env)); newFields "slice" [l, u, s]) _ _ s1
  refine wpAny_bind (wpAny_mono (opt_sound hlo L a1 F1 q1 (R := fun v2 s2 => ∃ o σ2, IsPart v2 o ∧ At X σ2 s2 ∧ Step E0 σ1 s1 σ2 s2 ∧ _) fun v2 o s2 σ2 p2 a2 st2 q2 => ⟨o, σ2, p2, a2, st2, q2⟩) (fun v2 s2 ⟨o, σ2, p2, a2, st2, q2⟩ => ?_) fun _ _ x => x.back st1)
  have F2 := F1.step a1 st2
  refine wpAny_bind (wpAny_holding (wpAny_mono (opt_sound hhi L a2 F2 q2 (R := fun v3 s3 => ∃ o σ3, IsPart v3 o ∧ At X σ3 s3 ∧ Step E0 σ2 s2 σ3 s3 ∧ _) fun v3 o s3 σ3 p3 a3 st3 q3 => ⟨o, σ3, p3, a3, st3, q3⟩) (fun v3 s3 ⟨o3, σ3, p3, a3, st3, q3⟩ => ?_) fun _ _ x => x.back (st1.trans st2)))
  refine wpAny_bind (wpAny_holding (wpAny_pure ?_))
  refine wpAny_newObj_type ?_
  have rv3 := (rv.mono (st2.keepV0 a1)).mono (st3.keepV0 a2)
  have st13 := st1.trans (st2.trans st3)
  generalize hso : ({ cls := .type "slice", data := .fields #[v2, v3, Value.none] } : Obj) = so
  have st4 : Step E0 σ3 s3 σ3 { s3 with heap := s3.heap.push so } := Step.push σ3 s3 so s3.toks
  have a4 : At X σ3 { s3 with heap := s3.heap.push so } := a3.push so s3.toks
  have rv4 := rv3.mono (st4.keepV0 a3)
  have hsl : (s3.heap.push so).IsSliceOf s3.heap.objs.size v2 v3 .none := by rw [← hso]; exact Heap.IsSliceOf.new ..
  refine backQ (st13.trans st4) ?_
  unfold sliceA at q3
  split at q3
  · obtain ⟨xs, hp, q3⟩ := q3
    cases rv4
    obtain ⟨vs, hl, rs⟩ := a4.isList hp
    have hm := a4.len hp
    refine tail_any (ops := [.ref s3.heap.objs.size, _]) hl.typeIs slot_list_getitem.lookup (wpAny_getItem_list_slice hl hsl p2 p3 .none (by simp) ?_ (by simp [← rs.length, sizeLine_eq]; lia)) rfl
    generalize hH : ({ s3 with heap := s3.heap.push so } : Shared) = s4 at a4 rs hl ⊢
    have hh : s4.heap = s3.heap.push so := by rw [← hH]
    have kv : KeepV s4.heap (s4.heap.push { cls := .type "list", data := .seq (slicePick vs.toArray o o3 none) }) := fun b o e _ => Heap.get?_push_of_some _ e
    refine ⟨.ref s4.heap.objs.size, _, ?_, a4.alloc (ao := .list (cut xs o o3)) s4.toks ⟨(slicePick vs.toArray o o3 none).toList, 0, ?_, (rs.cut o o3).mono kv, Nat.le_trans (cut_length ..) hm⟩, Step.alloc σ3 s4 _ _ s4.toks, q3 _ (a4.none_of_size (Nat.le_refl _))⟩
    · rw [hh]; exact .ref _
    · exact Heap.get?_push_size _ rfl
  · obtain ⟨k, rfl, rfl, h1, h2, q3⟩ := q3
    cases rv4 with
    | @tup xs t vs hl ht rs =>
      cases p2; cases p3
      have hlen := rs.length
      refine tail_any (ops := [.ref s3.heap.objs.size, _]) ht.typeIs slot_tuple_getitem.lookup (getItem_tuple_from ht hsl h1 (by simp; lia) ?_ (by simp [sizeLine_eq]; lia)) rfl
      generalize hH : ({ s3 with heap := s3.heap.push so } : Shared) = s4 at a4 rs ht ⊢
      have hh : s4.heap = s3.heap.push so := by rw [← hH]
      have kv : KeepV s4.heap (s4.heap.push { cls := .type "tuple", data := .seq (vs.toArray.toList.drop k).toArray }) := fun b o e _ => Heap.get?_push_of_some _ e
      refine ⟨_, σ3, .tup (by rw [List.length_drop]; lia) (vs := vs.drop k) ⟨{ cls := .type "tuple", data := .seq (vs.toArray.toList.drop k).toArray }, ?_, rfl, 0, by simp⟩ ((rs.drop k).mono kv), a4.push _ s4.toks, Step.push σ3 s4 _ s4.toks, q3⟩
      rw [hh]; exact Heap.get?_push_size _ rfl
  · exact q3.elim
end
end Mine

set_option maxRecDepth 100000
set_option linter.unusedVariables false
set_option autoImplicit false
namespace Mine
open PySem PyProof.Rows PySem.SeqAt

abbrev Prim := List AV → Post → AHeap → Prop
def SoundPrim (X : Cx) (f : Value) (p : Prim) : Prop :=
  ∀ d A σ s as vs Q E, Live d A → At X σ s → RepVs s.heap as vs → p as Q σ → wpAny X.M A (PySem.call f vs) (liftQ X σ s Q) E s

namespace A
def prim (p : Prim) (args : List AE) : AE := fun d l Q Z σ => evalL args d l (fun as σ' => p as Q σ') Z σ
end A

section
variable {X : Cx} {env : Env} {nm : List (Str × Nat)}

theorem sound_prim {x : Str} {f : Value} {p : Prim} {es : List Expr} {ms : List AE} {gp pos : Pos} (XO : X.Ok) (EO : EnvOk env) (hx : env.kindOf x = some .globalImplicit) (hd : (x == ("__debug__" : Str)) = false) (hn : X.mg x = none) (hv : X.mb x = some f)
    (hf : (∃ id, f = .builtin id) ∨ ∃ T, f = .type T) (hp : SoundPrim X f p) (h : SoundEs X env nm es ms) : SoundE X env nm (.Call (.Name x gp) es [] pos) (A.prim p ms) := fun d A l σ s Q Z L a F q => by
  refine Call_ (wp_builtin XO EO a hx hd hn hv ?_)
  rcases hf with ⟨id, rfl⟩ | ⟨T, rfl⟩
  · refine Calls.callWith_builtin h.plain (sound_args h L a F q fun vs s1 ⟨avs, σ1, r, a1, st, q1⟩ => ?_)
    exact backQ st (hp d A σ1 s1 avs vs Q _ L a1 r q1)
  · refine PyProof.Rows.callWith_type h.plain (sound_args h L a F q fun vs s1 ⟨avs, σ1, r, a1, st, q1⟩ => ?_)
    exact backQ st (hp d A σ1 s1 avs vs Q _ L a1 r q1)
end

inductive pLen : List AV → Post → AHeap → Prop
  | tup {xs : List AV} {Q : Post} {σ : AHeap} (h : Q (.int xs.length) σ) : pLen [.tup xs] Q σ
  | list {p : Addr} {xs : List AV} {Q : Post} {σ : AHeap} (hp : listAt p xs σ) (h : Q (.int xs.length) σ) : pLen [.ref p] Q σ
  | dict {p : Addr} {kvs : Tab} {Q : Post} {σ : AHeap} (hp : σ p = some (.tdict kvs)) (h : Q (.int kvs.length) σ) : pLen [.ref p] Q σ
inductive pRange : List AV → Post → AHeap → Prop
  | one {n : Int} {Q : Post} {σ : AHeap} (h : Q (.rng 0 n) σ) : pRange [.int n] Q σ
  | two {a b : Int} {Q : Post} {σ : AHeap} (h : Q (.rng a b) σ) : pRange [.int a, .int b] Q σ
/-- the intL of a range -/
def rngL (lo hi : Int) : List AV := intL lo (hi - lo).toNat
inductive pList : List AV → Post → AHeap → Prop
  | list {p : Addr} {xs : List AV} {Q : Post} {σ : AHeap} (hp : listAt p xs σ) (h : ∀ r, σ r = none → Q (.ref r) (σ.set r (.list xs))) : pList [.ref p] Q σ
  | tup {xs : List AV} {Q : Post} {σ : AHeap} (h : ∀ r, σ r = none → Q (.ref r) (σ.set r (.list xs))) : pList [.tup xs] Q σ

section
variable {X : Cx}

theorem repVs1 {h : Heap} {x : AV} {vs : List Value} (r : RepVs h [x] vs) : ∃ v, vs = [v] ∧ RepV h x v := by
  cases r with
  | cons a r => cases r; exact ⟨_, rfl, a⟩
theorem repVs2 {h : Heap} {x y : AV} {vs : List Value} (r : RepVs h [x, y] vs) : ∃ v w, vs = [v, w] ∧ RepV h x v ∧ RepV h y w := by
  cases r with
  | cons a r => cases r with
    | cons b r => cases r; exact ⟨_, _, rfl, a, b⟩

theorem sound_len : SoundPrim X (.builtin "len") pLen := fun d A σ s as vs Q E L a r q => by
  cases q with
  | tup q =>
    obtain ⟨v, rfl, rv⟩ := repVs1 r
    cases rv with
    | @tup xs t vs hl ht rs =>
      have hlen := rs.length
      refine len_tuple ht (by simp; lia) ?_
      have e : (vs.toArray.size : Int) = vs.length := by simp
      rw [e, ← hlen]; exact retT a (.int _ _) q
  | @list p xs _ _ hp q =>
    obtain ⟨v, rfl, rv⟩ := repVs1 r
    cases rv
    obtain ⟨vs, hl, rs⟩ := a.isList hp
    have hlen := rs.length
    have hm := a.len hp
    refine Calls.call_len_list hl (by simp; lia) ?_
    have e : (vs.toArray.size : Int) = xs.length := by simp [hlen]
    rw [e]; exact retT a (.int _ _) q
  | dict hp q =>
    obtain ⟨v, rfl, rv⟩ := repVs1 r
    cases rv
    exact tab_len a hp q

theorem sound_range : SoundPrim X (.type "range") pRange := fun d A σ s as vs Q E L a r q => by
  cases q with
  | one q =>
    obtain ⟨v, rfl, rv⟩ := repVs1 r
    cases rv
    exact call_range_1 ⟨_, σ, .rng (Heap.get?_push_size _ rfl), a.push _ _, Step.push σ s _ _, q⟩
  | two q =>
    obtain ⟨v, w, rfl, rv, rw_⟩ := repVs2 r
    cases rv; cases rw_
    exact call_range_2 ⟨_, σ, .rng (Heap.get?_push_size _ rfl), a.push _ _, Step.push σ s _ _, q⟩

theorem newListAt {σ : AHeap} {s : Shared} {h' : Heap} {t : Nat} {xs : List AV} {vs : List Value} {n : Nat} {Q : Post} (a : At X σ s) (hk : ∀ b o, s.heap.get? b = some o → h'.get? b = some o) (hn : h'.get? s.heap.objs.size = some (listObj vs n)) (r : RepVs h' xs vs)
    (hl : xs.length ≤ 1000000) (hsz : s.heap.objs.size ≤ h'.objs.size) (q : ∀ r, σ r = none → Q (.ref r) (σ.set r (.list xs))) : liftQ X σ s Q (.ref s.heap.objs.size) { s with heap := h', toks := t } := by
  have kv : KeepV s.heap h' := fun b o e _ => hk b o e
  have hσ := a.none_of_size (b := s.heap.objs.size) (Nat.le_refl _)
  refine ⟨.ref _, σ.set s.heap.objs.size (.list xs), .ref _, ⟨fun b o e => hk b o (a.keep b o e), fun b ao e => ?_, fun b ao e hro => ?_, a.gens, a.os⟩, ⟨fun b o e _ _ => hk b o e, fun b h1 h2 => ?_, hsz⟩, q _ hσ⟩
  · by_cases hb : b = s.heap.objs.size
    · subst hb; rw [AHeap.set_self] at e; cases e; exact ⟨vs, n, hn, r, hl⟩
    · rw [AHeap.set_ne _ _ hb] at e; exact (a.rep b ao e).mono kv fun o ho => hk b o ho
  · by_cases hb : b = s.heap.objs.size
    · subst hb
      cases h : X.h₀.get? s.heap.objs.size with
      | none => rfl
      | some ob => exact absurd (Heap.lt_size (a.keep _ _ h)) (Nat.lt_irrefl _)
    · rw [AHeap.set_ne _ _ hb] at e; exact a.own b ao e hro
  · by_cases hb : b = s.heap.objs.size
    · rw [hb]; exact Nat.le_refl _
    · rw [AHeap.set_ne _ _ hb] at h1; exact absurd h2 h1

theorem sound_list : SoundPrim X (.type "list") pList := fun d A σ s as vs Q E L a r q => by
  cases q with
  | list hp q =>
    obtain ⟨v, rfl, rv⟩ := repVs1 r
    cases rv
    obtain ⟨vs, ⟨o, ho, hc, n, hd⟩, rs⟩ := a.isList hp
    have hlen := rs.length
    have hm := a.len hp
    refine with_size (call_list_seq _ (.inl rfl) ho hc hd (fun h' c' hk hn hsz => ?_) (by simp [sizeLine_eq]; lia))
    exact newListAt (t := s.toks) a hk hn (rs.mono fun b o e _ => hk b o e) hm hsz q
  | tup q =>
    obtain ⟨v, rfl, rv⟩ := repVs1 r
    cases rv with
    | @tup xs t vs hl ht rs =>
      obtain ⟨o, ho, hc, n, hd⟩ := ht
      have hlen := rs.length
      refine with_size (call_list_seq _ (.inr rfl) ho hc hd (fun h' c' hk hn hsz => ?_) (by simp [sizeLine_eq]; lia))
      exact newListAt (t := s.toks) a hk hn (rs.mono fun b o e _ => hk b o e) hl hsz q
end

/-- kinds that the text asks for -/
inductive PyT where
  | tuple | str | int | bool | list | dict
  deriving DecidableEq
def PyT.name : PyT → String
  | .tuple => "tuple" | .str => "str" | .int => "int" | .bool => "bool" | .list => "list" | .dict => "dict"
/-- whether a value is of a kind -/
def isA (T : PyT) (x : AV) (σ : AHeap) : Option Bool := match x with
  | .none => some false
  | .bool _ => some (T == .bool || T == .int)
  | .int _ => some (T == .int)
  | .str _ => some (T == .str)
  | .tup _ => some (T == .tuple)
  | .ref p => match σ p with
    | some (.list _) => some (T == .list)
    | some (.rolist _) => some (T == .list)
    | some (.tdict _) => some (T == .dict)
    | _ => none
  | _ => none

theorem meta_T (T : PyT) : typeOf (.type T.name) = pure (.type "type") := by cases T <;> (unfold PyT.name; kernel_rfl)

theorem sub_T (K : String) (hK : K = "int" ∨ K = "bool" ∨ K = "str" ∨ K = "tuple" ∨ K = "list" ∨ K = "dict" ∨ K = "NoneType") (T : PyT) :
    isSubtype (.type K) (.type T.name) = pure (K == T.name || (K == "bool" && T.name == "int")) := by
  rcases hK with rfl | rfl | rfl | rfl | rfl | rfl | rfl <;> cases T <;> (unfold PyT.name; rw [isSubtype_type]; kernel_rfl)

def pIsA (T : PyT) (x : AV) (Q : Post) (σ : AHeap) : Prop := ∃ b, isA T x σ = some b ∧ Q (.bool b) σ

section
variable {X : Cx} {A : Around} {σ : AHeap} {s : Shared} {Q : Post} {E : Value → Shared → Prop}

theorem isa_sound {T : PyT} {x : AV} {v : Value} (a : At X σ s) (rx : RepV s.heap x v) (q : pIsA T x Q σ) : wpAny X.M A (PySem.call (.builtin "isinstance") [v, .type T.name]) (liftQ X σ s Q) E s := by
  obtain ⟨b, hb, q⟩ := q
  have tt : ∀ {K : String} (hK : K = "int" ∨ K = "bool" ∨ K = "str" ∨ K = "tuple" ∨ K = "list" ∨ K = "dict" ∨ K = "NoneType"), s.TypeIs v K → (K == T.name || (K == "bool" && T.name == "int")) = true → Q (.bool true) σ →
      wpAny X.M A (PySem.call (.builtin "isinstance") [v, .type T.name]) (liftQ X σ s Q) E s := fun {K} hK hT e q' =>
    call_isinstance (isinstance_true (Tx := K) (meta_T T) (by rw [sub_T K hK, e])) ⟨hT, retQ a (.bool _) q'⟩
  have nb : ∀ {K : String}, (K == T.name || (K == "bool" && T.name == "int")) = false → (Value.type K == Value.type T.name) = false := fun {K} h => by
    simp only [Bool.or_eq_false_iff] at h
    have h1 : K ≠ T.name := by simpa using h.1
    simpa using h1
  have nsb : ∀ {K : String} (hK : K = "int" ∨ K = "bool" ∨ K = "str" ∨ K = "tuple" ∨ K = "list" ∨ K = "dict" ∨ K = "NoneType"), (K == T.name || (K == "bool" && T.name == "int")) = false → isSubtype (.type K) (.type T.name) = pure false :=
    fun {K} hK h => by rw [sub_T K hK, h]
  have fin : liftQ X σ s Q (.bool b) { s with toks := s.toks + 1 } := retT a (.bool _) q
  cases rx with
  | none =>
    simp only [isA, Option.some.injEq] at hb; subst hb
    have h0 : ("NoneType" == T.name || ("NoneType" == "bool" && T.name == "int")) = false := by cases T <;> decide
    exact call_isinstance (isinstance_false_none (nb h0) (meta_T T) (nsb (by simp) h0)) fin
  | bool c =>
    simp only [isA, Option.some.injEq] at hb
    have h0 : ("bool" == T.name || ("bool" == "bool" && T.name == "int")) = b := by rw [← hb]; cases T <;> decide
    cases b with
    | true => exact tt (K := "bool") (by simp) rfl h0 q
    | false => exact call_isinstance (isinstance_false_bool (nb h0) (meta_T T) (nsb (by simp) h0)) fin
  | int c t =>
    simp only [isA, Option.some.injEq] at hb
    have h0 : ("int" == T.name || ("int" == "bool" && T.name == "int")) = b := by rw [← hb]; cases T <;> decide
    cases b with
    | true => exact tt (K := "int") (by simp) rfl h0 q
    | false => exact call_isinstance (isinstance_false_int (nb h0) (meta_T T) (nsb (by simp) h0)) fin
  | str c t =>
    simp only [isA, Option.some.injEq] at hb
    have h0 : ("str" == T.name || ("str" == "bool" && T.name == "int")) = b := by rw [← hb]; cases T <;> decide
    cases b with
    | true => exact tt (K := "str") (by simp) rfl h0 q
    | false => exact call_isinstance (isinstance_false_str (nb h0) (meta_T T) (nsb (by simp) h0)) fin
  | tup hl ht rs =>
    simp only [isA, Option.some.injEq] at hb
    have h0 : ("tuple" == T.name || ("tuple" == "bool" && T.name == "int")) = b := by rw [← hb]; cases T <;> decide
    cases b with
    | true => exact tt (K := "tuple") (by simp) ht.typeIs h0 q
    | false =>
      obtain ⟨o, ho, hc, _⟩ := ht
      exact call_isinstance (isinstance_false_tuple (nb h0) (meta_T T) (nsb (by simp) h0)) ⟨⟨o, ho, hc⟩, fin⟩
  | ref p =>
    unfold isA at hb
    dsimp only at hb
    split at hb
    · rename_i xs hp
      simp only [Option.some.injEq] at hb
      obtain ⟨vs, ⟨o, ho, hc, n, hd⟩, rs⟩ := a.isList (.inl hp)
      have h0 : ("list" == T.name || ("list" == "bool" && T.name == "int")) = b := by rw [← hb]; cases T <;> decide
      cases b with
      | true => exact tt (K := "list") (by simp) ⟨o, ho, hc⟩ h0 q
      | false => exact call_isinstance (isinstance_false_list (nb h0) (meta_T T) (nsb (by simp) h0)) ⟨⟨o, ho, hc⟩, fin⟩
    · rename_i xs hp
      simp only [Option.some.injEq] at hb
      obtain ⟨vs, ⟨o, ho, hc, n, hd⟩, rs⟩ := a.isList (.inr hp)
      have h0 : ("list" == T.name || ("list" == "bool" && T.name == "int")) = b := by rw [← hb]; cases T <;> decide
      cases b with
      | true => exact tt (K := "list") (by simp) ⟨o, ho, hc⟩ h0 q
      | false => exact call_isinstance (isinstance_false_list (nb h0) (meta_T T) (nsb (by simp) h0)) ⟨⟨o, ho, hc⟩, fin⟩
    · rename_i kvs hp
      simp only [Option.some.injEq] at hb
      obtain ⟨es, n, ho, rs⟩ := a.rep _ _ hp
      have h0 : ("dict" == T.name || ("dict" == "bool" && T.name == "int")) = b := by rw [← hb]; cases T <;> decide
      cases b with
      | true => exact tt (K := "dict") (by simp) ⟨_, ho, rfl⟩ h0 q
      | false => exact call_isinstance (isinstance_false_dict (nb h0) (meta_T T) (nsb (by simp) h0)) ⟨⟨_, ho, rfl⟩, fin⟩
    · cases hb
  | rng _ => simp [isA] at hb
  | exc _ _ _ => simp [isA] at hb
end

namespace A
def isa (T : PyT) (x : AE) : AE := fun d l Q Z σ => x d l (fun a σ1 => pIsA T a Q σ1) Z σ
end A

section
variable {X : Cx} {env : Env} {nm : List (Str × Nat)}
theorem sound_isa {T : PyT} {Tn : Str} {e : Expr} {m : AE} {gp tp pos : Pos} (XO : X.Ok) (EO : EnvOk env) (hx : env.kindOf "isinstance" = some .globalImplicit) (hn : X.mg "isinstance" = none) (hv : X.mb "isinstance" = some (.builtin "isinstance"))
    (hxT : env.kindOf Tn = some .globalImplicit) (hd : (Tn == ("__debug__" : Str)) = false) (hnT : X.mg Tn = none) (hvT : X.mb Tn = some (.type T.name)) (hs : notStar e = true) (h : SoundE X env nm e m) :
    SoundE X env nm (.Call (.Name "isinstance" gp) [e, .Name Tn tp] [] pos) (A.isa T m) := fun d A l σ s Q Z L a F q => by
  refine Call_ (wp_builtin XO EO a hx (by decide) hn hv ?_)
  refine Calls.callWith_builtin ?_ ?_
  · rw [starEach_cons hs]; rfl
  rw [starEach_cons hs]
  refine Calls.evalArgs_plain ?_
  show wpAny X.M A (spliced ((false, eval e env) :: backTo pos (starEach [.Name Tn tp] env))) _ _ s
  refine Calls.spliced_cons (seqQ (h d A l σ s _ Z L a F q) fun av v σ1 s1 rv a1 st1 q1 => ?_)
  show wpAny X.M A (spliced ((false, eval (.Name Tn tp) env) :: [])) _ _ s1
  refine Calls.spliced_cons (wp_builtin XO EO a1 hxT hd hnT hvT (Calls.spliced_nil ?_))
  exact backQ st1 (isa_sound a1 rv q1)
end
end Mine

set_option maxRecDepth 100000
set_option linter.unusedVariables false
set_option autoImplicit false
namespace Mine
open PySem PyProof.Rows PySem.SeqAt

section
variable {X : Cx} {env : Env} {nm : List (Str × Nat)}

/-- names of a tuple target, each with its number -/
inductive Names (env : Env) (nm : List (Str × Nat)) : List Expr → List Nat → Prop
  | nil : Names env nm [] []
  | cons {x pos es i is} : nm.lookup x = some i → (env.kindOf x = some .local ∨ env.kindOf x = some .cell) → Names env nm es is → Names env nm (.Name x pos :: es) (i :: is)

theorem Names.length {env : Env} {nm : List (Str × Nat)} : ∀ {es is}, Names env nm es is → es.length = is.length
  | _, _, .nil => rfl
  | _, _, .cons _ _ r => by simp [r.length]

theorem assignEach_cons (x : Str) (pos : Pos) (es : List Expr) : assignEach (.Name x pos :: es) env = (false, assign (.Name x pos) env) :: assignEach es env := rfl
theorem assignEach_length {nm : List (Str × Nat)} : ∀ {es is}, Names env nm es is → (assignEach es env).length = es.length ∧ (assignEach es env).findIdx? (·.1) = none
  | _, _, .nil => ⟨rfl, rfl⟩
  | _, _, .cons (x := x) (pos := pos) (es := es) _ _ r => by
    rw [assignEach_cons]
    have h := assignEach_length r
    refine ⟨by simp [h.1], ?_⟩
    rw [List.findIdx?_cons]
    simp [h.2]

theorem assignAll_sound (EO : EnvOk env) {es is} (N0 : Names env nm es is) : ∀ {A : Around} {l : Loc} {σ : AHeap} {s : Shared} {xs : List AV} {vs : List Value} {Q : Unit → Shared → Prop} {E : Value → Shared → Prop}, At X σ s → FR X env nm l σ s.heap → RepVs s.heap xs vs →
    (∀ s', FR X env nm (sets is xs l) σ s'.heap → At X σ s' → Step (FB env) σ s σ s' → Q () s') → wpAny X.M A (assignInOrder ((assignEach es env).map (·.2)) vs) Q E s := by
  induction N0 with
  | nil =>
    intro A l σ s xs vs Q E a F r h
    have : assignInOrder ([] : List (Value → Sem Unit)) vs = pure () := by cases vs <;> rfl
    show wpAny X.M A (assignInOrder [] vs) Q E s
    rw [this]
    exact wpAny_pure (h s (by cases xs <;> exact F) a (.refl ..))
  | @cons x pos es i is hx hk nr ih =>
    intro A l σ s xs vs Q E a F r h
    rw [assignEach_cons]
    cases r with
    | nil => exact wpAny_pure (h s F a (.refl ..))
    | @cons y ys v ws ry rs =>
      show wpAny X.M A (do holding ws (assign (.Name x pos) env v); assignInOrder ((assignEach es env).map (·.2)) ws) Q E s
      refine wpAny_bind (wpAny_holding (wpAny_assign_Name (wp_store EO F a hx hk ry fun s1 F1 a1 st1 => ?_)))
      refine ih a1 F1 (rs.mono (st1.keepV a F.noStay)) fun s2 F2 a2 st2 => h s2 F2 a2 (st1.trans st2)

theorem soundT_many {es : List Expr} {is : List Nat} {k : Nat} {pos : Pos} (EO : EnvOk env) (N : Names env nm es is) : SoundT X env nm (.Tuple es k pos) (.many is) := fun d A l l' σ s x v Q E L a F r hb h => by
  unfold bindT at hb
  split at hb
  · cases ‹Tgt.many is = Tgt.one _›
  · rename_i is' xs' l0 heq
    cases heq
    split at hb
    · rename_i hlen
      cases hb
      cases r with
      | @tup xs t vs hl ht rs =>
        have e := assignEach_length N
        have hvl := rs.length
        show wpAny X.M A (do standAt pos; unpack (.ref t) (assignEach es env)) _ _ s
        refine wpAny_bind (wpAny_standAt ?_)
        unfold unpack
        have en : (assignEach es env).length = vs.toArray.size := by rw [e.1, N.length, ← hlen, hvl]; simp
        rw [e.2, en]
        refine wpAny_bind (wpAny_holding (with_size (wpAny_unpackItems_tuple L.handled ht fun h' he' hsz => ?_)))
        have hk : ∀ b o, ¬ b = s.heap.objs.size → s.heap.get? b = some o → h'.get? b = some o := fun b o hb eo => he' b o hb eo
        have nW : NoStay (fun b => b = s.heap.objs.size) s.heap := fun b o hb eo => by subst hb; exact absurd (Heap.lt_size eo) (Nat.lt_irrefl _)
        have hW : ∀ b, b = s.heap.objs.size → σ b = none ∧ X.h₀.get? b = none := fun b hb => by
          subst hb
          refine ⟨a.none_of_size (Nat.le_refl _), ?_⟩
          cases h : X.h₀.get? s.heap.objs.size with
          | none => rfl
          | some ob => exact absurd (Heap.lt_size (a.keep _ _ h)) (Nat.lt_irrefl _)
        have a1 : At X σ { s with heap := h' } := a.moved (t := s.toks) hW nW hk
        have st1 : Step E0 σ s σ { s with heap := h' } := (Step.moved (W := fun b => b = s.heap.objs.size) σ s.toks hk hsz).drop fun b hb => .inr (by rw [hb]; exact Nat.le_refl _)
        have rs1 := rs.mono (st1.keepV0 a)
        have : vs.toArray.toList = vs := by simp
        rw [this]
        exact assignAll_sound EO N a1 (F.step a st1) rs1 fun s2 F2 a2 st2 => h s2 F2 a2 ((st1.weaken FB.of_e0).trans st2)
    · cases hb
  · cases hb

/-- the same inside a comprehension: its own names alone -/
inductive NamesL (env : Env) (nm : List (Str × Nat)) : List Expr → List Nat → Prop
  | nil : NamesL env nm [] []
  | cons {x pos es i is} : nm.lookup x = some i → env.kindOf x = some .local → NamesL env nm es is → NamesL env nm (.Name x pos :: es) (i :: is)
theorem NamesL.toNames {env : Env} {nm : List (Str × Nat)} : ∀ {es is}, NamesL env nm es is → Names env nm es is
  | _, _, .nil => .nil
  | _, _, .cons h k r => .cons h (.inl k) r.toNames

theorem soundTC_one {x : Str} {pos : Pos} {i : Nat} (EO : EnvOk env) (hx : nm.lookup x = some i) (hk : env.kindOf x = some .local) : SoundTC X env nm (.Name x pos) (.one i) := fun d A l l' σ s y v Q E L a F r hb h => by
  cases hb
  exact wpAny_assign_Name (wp_storeL EO F a hx hk r h)

theorem assignAllL_sound (EO : EnvOk env) {es is} (N0 : NamesL env nm es is) : ∀ {A : Around} {l : Loc} {σ : AHeap} {s : Shared} {xs : List AV} {vs : List Value} {Q : Unit → Shared → Prop} {E : Value → Shared → Prop}, At X σ s → FR X env nm l σ s.heap → RepVs s.heap xs vs →
    (∀ s', FR X env nm (sets is xs l) σ s'.heap → At X σ s' → Step (fun b => b = env.locals) σ s σ s' → Q () s') → wpAny X.M A (assignInOrder ((assignEach es env).map (·.2)) vs) Q E s := by
  induction N0 with
  | nil =>
    intro A l σ s xs vs Q E a F r h
    have : assignInOrder ([] : List (Value → Sem Unit)) vs = pure () := by cases vs <;> rfl
    show wpAny X.M A (assignInOrder [] vs) Q E s
    rw [this]
    exact wpAny_pure (h s (by cases xs <;> exact F) a (.refl ..))
  | @cons x pos es i is hx hk nr ih =>
    intro A l σ s xs vs Q E a F r h
    rw [assignEach_cons]
    cases r with
    | nil => exact wpAny_pure (h s F a (.refl ..))
    | @cons y ys v ws ry rs =>
      show wpAny X.M A (do holding ws (assign (.Name x pos) env v); assignInOrder ((assignEach es env).map (·.2)) ws) Q E s
      refine wpAny_bind (wpAny_holding (wpAny_assign_Name (wp_storeL EO F a hx hk ry fun s1 F1 a1 st1 => ?_)))
      have no : NoStay (fun b => b = env.locals) s.heap := fun b o hb e => F.noStay b o (.inl hb) e
      refine ih a1 F1 (rs.mono (st1.keepV a no)) fun s2 F2 a2 st2 => h s2 F2 a2 (st1.trans st2)

theorem soundTC_many {es : List Expr} {is : List Nat} {k : Nat} {pos : Pos} (EO : EnvOk env) (N : NamesL env nm es is) : SoundTC X env nm (.Tuple es k pos) (.many is) := fun d A l l' σ s x v Q E L a F r hb h => by
  unfold bindT at hb
  split at hb
  · cases ‹Tgt.many is = Tgt.one _›
  · rename_i is' xs' l0 heq
    cases heq
    split at hb
    · rename_i hlen
      cases hb
      cases r with
      | @tup xs t vs hl ht rs =>
        have e := assignEach_length N.toNames
        have hvl := rs.length
        show wpAny X.M A (do standAt pos; unpack (.ref t) (assignEach es env)) _ _ s
        refine wpAny_bind (wpAny_standAt ?_)
        unfold unpack
        have en : (assignEach es env).length = vs.toArray.size := by rw [e.1, N.toNames.length, ← hlen, hvl]; simp
        rw [e.2, en]
        refine wpAny_bind (wpAny_holding (with_size (wpAny_unpackItems_tuple L.handled ht fun h' he' hsz => ?_)))
        have hk : ∀ b o, ¬ b = s.heap.objs.size → s.heap.get? b = some o → h'.get? b = some o := fun b o hb eo => he' b o hb eo
        have nW : NoStay (fun b => b = s.heap.objs.size) s.heap := fun b o hb eo => by subst hb; exact absurd (Heap.lt_size eo) (Nat.lt_irrefl _)
        have hW : ∀ b, b = s.heap.objs.size → σ b = none ∧ X.h₀.get? b = none := fun b hb => by
          subst hb
          refine ⟨a.none_of_size (Nat.le_refl _), ?_⟩
          cases h : X.h₀.get? s.heap.objs.size with
          | none => rfl
          | some ob => exact absurd (Heap.lt_size (a.keep _ _ h)) (Nat.lt_irrefl _)
        have a1 : At X σ { s with heap := h' } := a.moved (t := s.toks) hW nW hk
        have st1 : Step E0 σ s σ { s with heap := h' } := (Step.moved (W := fun b => b = s.heap.objs.size) σ s.toks hk hsz).drop fun b hb => .inr (by rw [hb]; exact Nat.le_refl _)
        have rs1 := rs.mono (st1.keepV0 a)
        have : vs.toArray.toList = vs := by simp
        rw [this]
        exact assignAllL_sound EO N a1 (F.step a st1) rs1 fun s2 F2 a2 st2 => h s2 F2 a2 ((st1.weaken fun b hb => hb.elim).trans st2)
    · cases hb
  · cases hb
end
end Mine

set_option maxRecDepth 100000
set_option linter.unusedVariables false
set_option autoImplicit false
namespace Mine
open PySem PyProof.Rows PySem.SeqAt

def itemsA (v : AV) (σ : AHeap) (K : (AHeap → Prop) → List AV → Prop) : Prop := match v with
  | .ref p => ∃ xs, listAt p xs σ ∧ K (listAt p xs) xs
  | .tup xs => K (fun _ => True) xs
  | .rng lo hi => -1000000000000 < lo ∧ lo < 1000000000000 ∧ -1000000000000 < hi ∧ hi < 1000000000000 ∧ K (fun _ => True) (rngL lo hi)
  | _ => False

structure IterAt (X : Cx) (A : Around) (target : Expr) (σ : AHeap) (s : Shared) (K : (AHeap → Prop) → List AV → Prop) (it : Value) (s' : Shared) : Prop where
  ex : ∃ I xs W St, ItOk X A target it I xs W St ∧ St 0 s'.heap ∧ (∀ b, W b → σ b = none ∧ X.h₀.get? b = none ∧ s.heap.objs.size ≤ b) ∧ I σ ∧ K I xs
  at_ : At X σ s'
  step : Step E0 σ s σ s'

section
variable {X : Cx} {A : Around} {σ : AHeap} {s : Shared} {E : Value → Shared → Prop} {d : Nat} {target : Expr}

theorem new_out (a : At X σ s) {b : Nat} (hb : s.heap.objs.size ≤ b) : σ b = none ∧ X.h₀.get? b = none ∧ s.heap.objs.size ≤ b := ⟨a.none_of_size hb, by
  cases h : X.h₀.get? b with
  | none => rfl
  | some ob => exact absurd (Heap.lt_size (a.keep _ _ h)) (Nat.not_lt.mpr hb), hb⟩

theorem iter_sound {v : AV} {u : Value} {K : (AHeap → Prop) → List AV → Prop} (L : Live d A) (a : At X σ s) (r : RepV s.heap v u) (h : itemsA v σ K) : wpAny X.M A (pyIter u) (IterAt X A target σ s K) E s := by
  unfold itemsA at h
  split at h
  · cases r
    obtain ⟨xs, hp, k⟩ := h
    obtain ⟨vs, hl, rs⟩ := a.isList hp
    refine wpAny_pyIter_list hl ⟨⟨_, xs, _, _, itOk_list L.handled s.heap.objs.size _ xs, ⟨_, Heap.get?_push_size _ rfl, rfl, rfl⟩, fun b hb => by subst hb; exact new_out a (Nat.le_refl _), hp, k⟩, a.push _ s.toks, Step.push σ s _ s.toks⟩
  · cases r with
    | @tup xs t vs hl ht rs =>
      refine wpAny_pyIter_tuple ht ⟨⟨_, _, _, _, itOk_tuple L.handled s.heap.objs.size t _, ⟨⟨_, Heap.get?_push_size _ rfl, rfl, rfl⟩, vs, ?_, ?_⟩, fun b hb => by subst hb; exact new_out a (Nat.le_refl _), trivial, h⟩, a.push _ s.toks, Step.push σ s _ s.toks⟩
      · obtain ⟨o, ho, q⟩ := ht; exact ⟨o, Heap.get?_push_of_some _ ho, q⟩
      · exact rs.mono fun b o e _ => Heap.get?_push_of_some _ e
  · rename_i lo hi
    cases r with
    | @rng _ _ t x y z ho =>
      obtain ⟨h1, h2, h3, h4, k⟩ := h
      have hsz : Builtin.Range.rangeSize lo hi 1 = (((hi - lo).toNat : Nat) : Int) := by
        rw [rangeSize_one]; split <;> lia
      have fl : ∀ z : Int, -1000000000000000 < z → z < 1000000000000000 → Builtin.Range.rangeFitsLong z = true := fun z hz1 hz2 => by
        unfold Builtin.Range.rangeFitsLong
        simp only [Bool.and_eq_true, decide_eq_true_eq]
        constructor <;> lia
      have hsmall : Builtin.Range.small lo hi 1 = true := by
        unfold Builtin.Range.small
        rw [hsz, fl lo (by lia) (by lia), fl hi (by lia) (by lia), fl 1 (by lia) (by lia), fl _ (by lia) (by lia)]
        simp only [Bool.true_and, Bool.and_true]
        have : (1 : Int) > 0 := by lia
        simp only [this, if_true]
        rw [show hi + (1 - 1) = hi by lia, fl hi (by lia) (by lia)]
        simp
      refine wpAny_pyIter_range (t := x) (u := y) (v := z) ho hsmall ?_
      refine ⟨⟨_, rngL lo hi, _, _, itOk_range L.handled s.heap.objs.size lo (hi - lo).toNat, ?_, fun b hb => by subst hb; exact new_out a (Nat.le_refl _), trivial, k⟩, a.push _ s.toks, Step.push σ s _ s.toks⟩
      show (s.heap.push _).get? s.heap.objs.size = some _
      rw [Heap.get?_push_size _ rfl, hsz]
      simp [rawInt]
  · exact h.elim
end

def notSet : Expr → Bool
  | .Set .. => false
  | _ => true
theorem folded_plain {e : Expr} {env : Env} (h : notSet e = true) (x : Value) : foldedSetIterable e env x = pure x := by
  cases e <;> first | rfl | (simp [notSet] at h)

namespace A
def fin (Q : Post) : List AV → AHeap → Prop := fun acc σ' => ∀ r, σ' r = none → Q (.ref r) (σ'.set r (.list acc))
def comp (t : Tgt) (k : Nat) (iter : AE) (c : Option AE) (elt : AE) : AE := fun d l Q Z σ => iter d l (fun v σ1 => itemsA v σ1 fun I xs => compL I t c elt d (fin Q) xs [] (l ++ List.replicate k none) σ1) Z σ
end A

section
variable {X : Cx} {env : Env} {nm : List (Str × Nat)}

/-- the iterable as the statement's head gives it: an iterator, and what is wanted of its items -/
def SoundI (X : Cx) (env : Env) (nm : List (Str × Nat)) (target iter : Expr) (m : Nat → Loc → (AHeap → (AHeap → Prop) → List AV → Prop) → XP → AHeap → Prop) : Prop :=
  ∀ d A l σ s K Z (R : Value → Shared → Prop) E, Live d A → At X σ s → FR X env nm l σ s.heap → m d l K Z σ → (∀ e s', liftX X σ s Z e s' → E e s') →
    (∀ σ1 s1 it s2, At X σ1 s1 → Step E0 σ s σ1 s1 → IterAt X A target σ1 s1 (K σ1) it s2 → R it s2) →
    wpAny X.M A (eval iter env) (fun x s1 => wpAny X.M A (pyIter x) R E s1) E s

theorem soundI_plain {target iter : Expr} {m : AE} (h : SoundE X env nm iter m) : SoundI X env nm target iter (fun d l K Z σ => m d l (fun v σ1 => itemsA v σ1 fun I xs => K σ1 I xs) Z σ) := fun d A l σ s K Z R E L a F q hE hR =>
  wpAny_mono (h d A l σ s _ Z L a F q) (fun x s1 ⟨av, σ1, rv, a1, st1, q1⟩ => wpAny_mono (iter_sound (target := target) L a1 rv q1) (fun it s2 x => hR σ1 s1 it s2 a1 st1 x) fun _ _ (e : False) => e.elim) fun e s' x => hE e s' x

theorem soundI_enum {elts : List Expr} {x1 : Nat} {tp gp pos : Pos} {e : Expr} {m : AE} (XO : X.Ok) (EO : EnvOk env) (hx : env.kindOf "enumerate" = some .globalImplicit) (hn : X.mg "enumerate" = none) (hv : X.mb "enumerate" = some (.type "enumerate")) (hs : notStar e = true) (h : SoundE X env nm e m) :
    SoundI X env nm (.Tuple elts x1 tp) (.Call (.Name "enumerate" gp) [e] [] pos) (fun d l K Z σ => m d l (fun v σ1 => ∃ p xs, v = .ref p ∧ listAt p xs σ1 ∧ K σ1 (listAt p xs) (enumL 0 xs)) Z σ) := fun d A l σ s K Z R E L a F q hE hR => by
  refine Call_ (wp_builtin XO EO a hx (by decide) hn hv ?_)
  refine PyProof.Rows.callWith_type ?_ ?_
  · rw [starEach_cons hs]; rfl
  rw [starEach_cons hs]
  refine Calls.evalArgs_plain ?_
  show wpAny X.M A (spliced ((false, eval e env) :: [])) _ _ s
  refine Calls.spliced_cons (wpAny_mono (h d A l σ s _ Z L a F q) (fun v s1 ⟨av, σ1, rv, a1, st1, p, xs, hp', hp, q1⟩ => Calls.spliced_nil ?_) fun e s' x => hE e s' x)
  subst hp'; cases rv
  obtain ⟨vs, hl, rs⟩ := a1.isList hp
  refine with_size (call_enumerate_list hl fun h' he hit hsz hk hsz' => ?_)
  have a2 : At X σ1 { s1 with heap := h' } := ⟨fun b o e => hk b o (a1.keep b o e), fun b ao e => (a1.rep b ao e).mono (fun b o e _ => hk b o e) fun o ho => hk b o ho, a1.own, a1.gens, a1.os⟩
  have st2 : Step E0 σ1 s1 σ1 { s1 with heap := h' } := ⟨fun b o e _ _ => hk b o e, fun _ h1 h2 => absurd h2 h1, hsz'⟩
  refine wpAny_pyIter_enum he ?_
  refine hR σ1 s1 _ _ a1 st1 ⟨⟨_, _, _, _, itOk_enum L.handled (s1.heap.objs.size + 1) s1.heap.objs.size p (neA (by lia)) xs, ⟨hit, _, he⟩, fun b hb => ?_, hp, q1⟩, a2, st2⟩
  rcases hb with rfl | rfl
  · exact new_out a1 (Nat.le_succ _)
  · exact new_out a1 (Nat.le_refl _)

theorem sound_for {target iter : Expr} {body : List Stmt} {pos : Pos} {t : Tgt} {b : AS} {m : Nat → Loc → (AHeap → (AHeap → Prop) → List AV → Prop) → XP → AHeap → Prop} (hn : notSet iter = true) (hi : SoundI X env nm target iter m) (ht : SoundT X env nm target t) (hb : SoundSs X env nm body b) :
    SoundS X env nm (.For target iter body [] pos) (fun d l Q Z σ => m d l (fun σ1 I xs => forL I t b d Q xs l σ1) (fun c σ' => Z c l σ') σ) := fun d A l σ s Q Z L a F q => by
  refine wpAny_For (hi d A l σ s _ _ _ _ L a F q (fun e s' x => x.toS a F) fun σ1 s1 it s2 a1 st1 IA => ?_) (folded_plain hn)
  obtain ⟨I, xs, W, St, IT, hSt, hW, hI, q1⟩ := IA.ex
  have F2 := (F.step a st1).step a1 IA.step
  refine for_loop (σ := σ1) (Q := Q) L IT ht hb (fun b hb => ⟨(hW b hb).1, (hW b hb).2.1⟩) IA.at_ F2 hI hSt q1 fun f s' ⟨fl, l', σ', r, a', F', st', q'⟩ => ?_
  refine ⟨fl, l', σ', r, a', F', ?_, q'⟩
  have st12 : Step (fun b => FB env b ∨ W b) σ1 s1 σ1 s2 := IA.step.weaken fun b hb => hb.elim
  have := (st12.trans st').drop (B := FB env) fun b hb => hb.imp id fun hb => (hW b hb).2.2
  exact (st1.weaken FB.of_e0).trans this

/-- a comprehension's parts -/
structure SoundLC (X : Cx) (env : Env) (nm : List (Str × Nat)) (N : Nat) (elt target iter : Expr) (ifs : List Expr) (scope : Scope) (nm' : List (Str × Nat)) (k : Nat) (t : Tgt) (c : Option AE) (e : AE)
    (m : Nat → Loc → (AHeap → (AHeap → Prop) → List AV → Prop) → XP → AHeap → Prop) : Prop where
  ns : notSet iter = true
  ck : CompOk env.scope.names nm N scope.names nm' k
  kind : scope.kind = .function
  iter : SoundI X env nm target iter m
  tgt : ∀ C, SoundTC X (compEnvC scope (clo env.cells scope.names []) C env) nm' target t
  test : ∀ C, SoundC X (compEnvC scope (clo env.cells scope.names []) C env) nm' ifs c
  elt : ∀ C, SoundE X (compEnvC scope (clo env.cells scope.names []) C env) nm' elt e

theorem names_local {sc : List (Str × NameKind)} {N : Nat} {names : List (Str × NameKind)} {nm' : List (Str × Nat)} {k : Nat} (CK : CompOk sc nm N names nm' k) : ∀ x ∈ names, x.2 = .local → names.lookup x.1 = some .local := fun x hx h => by
  have := lookup_of_nodup CK.nodup (n := x.1) (c := x.2) hx
  rw [h] at this; exact this

theorem sound_comp {elt target iter : Expr} {ifs : List Expr} {scope : Scope} {pos : Pos} {nm' : List (Str × Nat)} {N k : Nat} {t : Tgt} {c : Option AE} {e : AE} {m : Nat → Loc → (AHeap → (AHeap → Prop) → List AV → Prop) → XP → AHeap → Prop}
    (EO : EnvOk env) (hN : lenOf nm = N) (S : SoundLC X env nm N elt target iter ifs scope nm' k t c e m) :
    SoundE X env nm (.ListComp elt [⟨target, iter, ifs, 0⟩] scope pos) (fun d l Q Z σ => m d l (fun σ1 I xs => compL I t c e d (A.fin Q) xs [] (l ++ List.replicate k none) σ1) Z σ) := fun d A l σ s Q Z L a F q => by
  rw [eval_ListComp]
  refine wpAny_comprehension_free (use := none) rfl (folded_plain S.ns) (closureFor_clo (S.ck.closure F)) S.kind (names_local S.ck) ?_
  refine S.iter d A l σ s _ Z _ _ L a F q (fun e s' x => x) fun σ1 s1 it s2 a1 st1 IA => ?_
  obtain ⟨I, xs, W, St, IT, hSt, hW, hI, q1⟩ := IA.ex
  have F2 := (F.step a st1).step a1 IA.step
  refine comp_core (RR := fun acc C => compPost X.M A (liftX X σ s Z) none (liftQ X σ s Q) acc C) EO L IA.at_ F2 (F.len.trans hN) S.ck S.kind IT hSt (fun b hb => ⟨(hW b hb).1, (hW b hb).2.1⟩) hI S.tgt S.test S.elt q1 ?_
  intro D C s' σ' acc mC hD hC hDC hσD hσC hns a3 st3 q3
  refine ⟨mC, hns, fun h' hs' => ?_⟩
  have hC0 : X.h₀.get? C = none := (new_out IA.at_ hC).2.1
  have hCσ : (σ'.set D (.list acc)) C = none := by rw [AHeap.set_ne _ _ (Ne.symm hDC)]; exact hσC
  have a4 : At X (σ'.set D (.list acc)) { s' with heap := h' } := a3.aside (t := s'.toks) (h' := h') hCσ hC0 (noStay_ns hns) hs'
  have st4 : Step (fun b => W b ∨ s1.heap.objs.size ≤ b) σ1 s1 (σ'.set D (.list acc)) { s' with heap := h' } := by
    have x1 : Step (fun b => W b ∨ s1.heap.objs.size ≤ b) σ1 s1 σ1 s2 := IA.step.weaken fun b hb => hb.elim
    have x2 : Step (fun b => W b ∨ s1.heap.objs.size ≤ b) σ1 s2 (σ'.set D (.list acc)) s' := st3.weaken fun b hb => .inl hb
    have x3 : Step (fun b => W b ∨ s1.heap.objs.size ≤ b) (σ'.set D (.list acc)) s' (σ'.set D (.list acc)) { s' with heap := h' } := Step.aside (t := s'.toks) (h' := h') (.inr (Nat.le_trans IA.step.size hC)) hs'
    exact x1.trans (x2.trans x3)
  refine ⟨.ref D, _, .ref D, a4, st1.trans (st4.drop fun b hb => .inr (hb.elim (fun hb => (hW b hb).2.2) id)), q3 D hσD⟩
end
end Mine

set_option maxRecDepth 100000
set_option linter.unusedVariables false
set_option autoImplicit false
namespace Mine
open PySem PyProof.Rows PySem.SeqAt

section
variable {X : Cx} {env : Env} {nm : List (Str × Nat)}

theorem FB.lt {l : Loc} {σ : AHeap} {s : Shared} (F : FR X env nm l σ s.heap) {b : Nat} (h : FB env b) : b < s.heap.objs.size := by
  rcases h with h | ⟨x, hx⟩
  · obtain ⟨m, hn, _⟩ := F.ns; rw [h]; exact hn.lt
  · obtain ⟨_, _, v, hc⟩ := F.outc x b hx; exact hc.lt

theorem sound_setComp {elt target iter : Expr} {ifs : List Expr} {scope : Scope} {cpos py pos : Pos} {y : Str} {i : Nat} {nm' : List (Str × Nat)} {N k : Nat} {t : Tgt} {c : Option AE} {e : AE} {m : Nat → Loc → (AHeap → (AHeap → Prop) → List AV → Prop) → XP → AHeap → Prop}
    (EO : EnvOk env) (hN : lenOf nm = N) (S : SoundLC X env nm N elt target iter ifs scope nm' k t c e m) (hy : nm.lookup y = some i) (hky : env.kindOf y = some .local ∨ env.kindOf y = some .cell) :
    SoundS X env nm (.Assign [.Name y py] (.ListComp elt [⟨target, iter, ifs, 0⟩] scope cpos) pos) (A.set i (fun d l Q Z σ => m d l (fun σ1 I xs => compL I t c e d (A.fin Q) xs [] (l ++ List.replicate k none) σ1) Z σ)) := by
  have hsw : swapsWith (.ListComp elt [⟨target, iter, ifs, 0⟩] scope cpos) (some (.Name y py)) pos.line env = pure (env.blockKind == .function && env.kindOf y == some .local && py.line == cpos.line && !(scope.names.any fun (n, k) => n == y && (k == .local || k == .cell))) := rfl
  cases hb : (env.blockKind == .function && env.kindOf y == some .local && py.line == cpos.line && !(scope.names.any fun (n, k) => n == y && (k == .local || k == .cell))) with
  | false => rw [hb] at hsw; exact sound_set EO (sound_comp EO hN S) hy hky hsw
  | true =>
    rw [hb] at hsw
    intro d A l σ s Q Z L a F q
    rw [exec_Assign_Name_used _ _ _ _ hsw]
    refine wpAny_bind (wpAny_standAt (wpAny_bind ?_))
    show wpAny X.M A (do let _ ← comprehension (.ListComp elt [⟨target, iter, ifs, 0⟩] scope cpos) scope env _ (newList []) false (eval iter env) (some (assign (.Name y py) env))) _ _ s
    refine wpAny_bind (wpAny_mono (wpAny_comprehension_free (use := some (assign (.Name y py) env)) (Q := fun _ s' => liftS X env nm σ s Q .next s') rfl (folded_plain S.ns) (closureFor_clo (S.ck.closure F)) S.kind (names_local S.ck) ?_) (fun _ s' hq => wpAny_pure (wpAny_pure hq)) fun _ _ e => e)
    refine S.iter d A l σ s _ _ _ _ L a F q (fun e s' x => x.toS a F) fun σ1 s1 it s2 a1 st1 IA => ?_
    obtain ⟨I, xs, W, St, IT, hSt, hW, hI, q1⟩ := IA.ex
    have F1 := F.step a st1
    have F2 := F1.step a1 IA.step
    refine comp_core (RR := fun acc C => compPost X.M A (liftSX X env nm σ s Z) (some (assign (.Name y py) env)) (fun _ s' => liftS X env nm σ s Q .next s') acc C) EO L IA.at_ F2 (F.len.trans hN) S.ck S.kind IT hSt (fun b hb => ⟨(hW b hb).1, (hW b hb).2.1⟩) hI S.tgt S.test S.elt q1 ?_
    intro D C s' σ' acc mC hD hC hDC hσD hσC hns a3 st3 q3
    have noW : NoStay W s2.heap := fun b o hb e => by obtain ⟨o', e', h', _⟩ := IT.there 0 _ b hSt hb; rw [e] at e'; cases e'; exact h'
    have dis : ∀ b, FB env b → ¬ W b := fun b hb hw => absurd (FB.lt F1 hb) (Nat.not_lt.mpr (hW b hw).2.2)
    have F3 := F2.stepB IA.at_ st3 dis noW
    show wpAny X.M A (assign (.Name y py) env (.ref D)) _ _ s'
    refine wpAny_assign_Name (wp_store EO F3 a3 hy hky (.ref D) fun s4 F4 a4 st4 => ?_)
    have hCF : ¬ FB env C := fun hb => absurd (FB.lt F2 hb) (Nat.not_lt.mpr hC)
    have hCσ : (σ'.set D (.list acc)) C = none := by rw [AHeap.set_ne _ _ (Ne.symm hDC)]; exact hσC
    obtain ⟨oC, es, ep, hoC, hdC, hr⟩ := id hns
    have hoC4 : s4.heap.get? C = some oC := st4.keep C oC hoC hCσ hCF
    refine ⟨mC, ⟨oC, es, ep, hoC4, hdC, hr⟩, fun h' hs' => ?_⟩
    have hC0 : X.h₀.get? C = none := (new_out IA.at_ hC).2.1
    have nC : ∀ o, s4.heap.get? C = some o → ¬ Stays o := fun o ho => by rw [hoC4] at ho; cases ho; exact noStay_dict hdC
    have a5 : At X (σ'.set D (.list acc)) { s4 with heap := h' } := a4.aside (t := s4.toks) (h' := h') hCσ hC0 nC hs'
    have st5 : Step (fun b => b = C) (σ'.set D (.list acc)) s4 (σ'.set D (.list acc)) { s4 with heap := h' } := Step.aside (t := s4.toks) (h' := h') rfl hs'
    have F5 := F4.stepB a4 st5 (fun b hb e => hCF (e ▸ hb)) (fun b o hb e => by subst hb; exact nC o e)
    have stA : Step (fun b => FB env b ∨ s1.heap.objs.size ≤ b) σ1 s1 (σ'.set D (.list acc)) { s4 with heap := h' } := by
      have x1 : Step (fun b => FB env b ∨ s1.heap.objs.size ≤ b) σ1 s1 σ1 s2 := IA.step.weaken fun b hb => hb.elim
      have x2 : Step (fun b => FB env b ∨ s1.heap.objs.size ≤ b) σ1 s2 (σ'.set D (.list acc)) s' := st3.weaken fun b hb => .inr (hW b hb).2.2
      have x3 : Step (fun b => FB env b ∨ s1.heap.objs.size ≤ b) (σ'.set D (.list acc)) s' (σ'.set D (.list acc)) s4 := st4.weaken fun b hb => .inl hb
      have x4 : Step (fun b => FB env b ∨ s1.heap.objs.size ≤ b) (σ'.set D (.list acc)) s4 (σ'.set D (.list acc)) { s4 with heap := h' } := st5.weaken fun b hb => .inr (by rw [hb]; exact Nat.le_trans IA.step.size hC)
      exact x1.trans (x2.trans (x3.trans x4))
    exact ⟨.next, _, _, trivial, a5, F5, (st1.weaken FB.of_e0).trans (stA.drop fun b hb => hb), q3 D hσD⟩
end
end Mine

set_option maxRecDepth 100000
set_option linter.unusedVariables false
set_option autoImplicit false
namespace Mine
open PySem PyProof.Rows PySem.SeqAt PySem.W

/-- the ground: the heap that the top leaves, as a table -/
structure Gd (X : Cx) (K : Frag) : Prop where
  ok : X.Ok
  inn : K.In X.h₀
  bi : ∀ x : Str, x ≠ "__name__" → X.mb x = bootBuiltins x

structure EK (env : Env) (names : List (Str × NameKind)) : Prop where
  eo : EnvOk env
  nm : env.scope.names = names
def isVar (names : List (Str × NameKind)) (x : Str) : Bool := names.lookup x == some .local || names.lookup x == some .cell
def isGlob (names : List (Str × NameKind)) (x : Str) : Bool := names.lookup x == some .globalImplicit && !(x == ("__debug__" : Str))

section
variable {X : Cx} {K : Frag} {env : Env} {nm : List (Str × Nat)} {names : List (Str × NameKind)}

theorem EK.var (E : EK env names) {x : Str} (h : isVar names x = true) : env.kindOf x = some .local ∨ env.kindOf x = some .cell := by
  unfold Env.kindOf; rw [E.nm]
  unfold isVar at h
  simpa using h
theorem EK.glob (E : EK env names) {x : Str} (h : isGlob names x = true) : env.kindOf x = some .globalImplicit ∧ (x == ("__debug__" : Str)) = false := by
  unfold Env.kindOf; rw [E.nm]
  unfold isGlob at h
  simp only [Bool.and_eq_true, beq_iff_eq, Bool.not_eq_true'] at h
  exact h

/-- a builtin's name: hidden by no global -/
def isBi (K : Frag) (x : Str) (v : Value) : Prop := nsIn K mainGlobals x = some none ∧ bootBuiltins x = some v ∧ x ≠ "__name__"
theorem Gd.none (G : Gd X K) {x : Str} {v : Value} (h : isBi K x v) : X.mg x = none := mg_none_of G.inn G.ok.g h.1
theorem Gd.some (G : Gd X K) {x : Str} {v : Value} (h : isBi K x v) : X.mb x = some v := (G.bi x h.2.2).trans h.2.1

/-! comprehensions: names by number -/
def relab (names ns : List (Str × NameKind)) : List (Str × NameKind) := ns.map fun (n, k) => if (k == NameKind.free && true && names.lookup n == some NameKind.cell) then (n, NameKind.cell) else (n, k)
def compNm (nm : List (Str × Nat)) : Nat → List (Str × NameKind) → List (Str × Nat)
  | _, [] => []
  | n, (x, .local) :: r => (x, n) :: compNm nm (n + 1) r
  | n, (x, .free) :: r => (match nm.lookup x with | some i => (x, i) :: compNm nm n r | none => compNm nm n r)
  | n, _ :: r => compNm nm n r
def locsOf (ns : List (Str × NameKind)) : Nat := (ns.filter fun p => p.2 == .local).length
def nodupB : List Str → Bool
  | [] => true
  | x :: r => !r.contains x && nodupB r
theorem nodup_of : ∀ {l : List Str}, nodupB l = true → l.Nodup
  | [], _ => .nil
  | x :: r, h => by
    unfold nodupB at h
    simp only [Bool.and_eq_true, Bool.not_eq_true'] at h
    have h1 := h.1
    refine List.nodup_cons.mpr ⟨fun q => ?_, nodup_of h.2⟩
    rw [List.contains_iff_mem.mpr q] at h1; cases h1
def injB : List (Str × Nat) → Bool
  | [] => true
  | p :: r => r.all (fun q => !(q.2 == p.2)) && injB r
theorem inj_of : ∀ {l : List (Str × Nat)}, injB l = true → ∀ x y i, (x, i) ∈ l → (y, i) ∈ l → x = y
  | [], _, _, _, _, h, _ => nomatch h
  | p :: r, h, x, y, i, h1, h2 => by
    unfold injB at h
    simp only [Bool.and_eq_true, List.all_eq_true, Bool.not_eq_true', beq_eq_false_iff_ne, ne_eq] at h
    rcases List.mem_cons.mp h1 with e1 | h1 <;> rcases List.mem_cons.mp h2 with e2 | h2
    · rw [← e1] at e2; cases e2; rfl
    · rw [← e1] at h; exact absurd rfl (h.1 (y, i) h2)
    · rw [← e2] at h; exact absurd rfl (h.1 (x, i) h1)
    · exact inj_of h.2 x y i h1 h2
def compB (names : List (Str × NameKind)) (nm : List (Str × Nat)) (N : Nat) (ns : List (Str × NameKind)) : Bool :=
  nodupB (ns.map (·.1)) && ns.all (fun p => p.2 == .local || p.2 == .globalImplicit || (p.2 == .free && names.lookup p.1 == some .cell && (nm.lookup p.1).isSome)) &&
  (compNm nm N ns).all (fun p => (ns.lookup p.1 == some .local && N ≤ p.2 && p.2 < N + locsOf ns) || (ns.lookup p.1 == some .free && nm.lookup p.1 == some p.2)) && injB (compNm nm N ns) && lenOf (compNm nm N ns ++ nm) == N + locsOf ns &&
  ns.all (fun p => !(p.2 == .free) || (compNm nm N ns ++ nm).lookup p.1 == nm.lookup p.1) && lenOf (compNm nm N ns) == N + locsOf ns
theorem compOk_of {N : Nat} {ns : List (Str × NameKind)} (h : compB names nm N ns = true) : CompOk names nm N ns (compNm nm N ns) (locsOf ns) := by
  unfold compB at h
  simp only [Bool.and_eq_true, List.all_eq_true, beq_iff_eq, Bool.or_eq_true, decide_eq_true_eq, Bool.not_eq_true', beq_eq_false_iff_ne, ne_eq] at h
  obtain ⟨⟨⟨⟨⟨⟨h1, h2⟩, h3⟩, h4⟩, h5⟩, h6⟩, h7⟩ := h
  have nd := nodup_of h1
  have fr : ∀ (n : Nat) (l : List (Str × NameKind)) x i, (x, NameKind.free) ∈ l → nm.lookup x = some i → (x, i) ∈ compNm nm n l := by
    intro n l
    induction l generalizing n with
    | nil => intro x i hx; cases hx
    | cons p r ih =>
      intro x i hx hi
      obtain ⟨y, k⟩ := p
      rcases List.mem_cons.mp hx with e | hx'
      · cases e; unfold compNm; rw [hi]; exact List.mem_cons_self
      · clear hx
        cases k <;> unfold compNm
        all_goals first
          | exact ih _ x i hx' hi
          | exact List.mem_cons_of_mem _ (ih _ x i hx' hi)
          | (split
             · exact List.mem_cons_of_mem _ (ih _ x i hx' hi)
             · exact ih _ x i hx' hi)
  have nd' : ∀ (l : List (Str × NameKind)) (n : Nat), (l.map (·.1)).Nodup → ((compNm nm n l).map (·.1)).Nodup ∧ ∀ x, x ∈ (compNm nm n l).map (·.1) → x ∈ l.map (·.1) := by
    intro l
    induction l with
    | nil => intro n _; exact ⟨.nil, fun x hx => by simp [compNm] at hx⟩
    | cons p r ih =>
      intro n hn
      obtain ⟨y, k⟩ := p
      have hn' := List.nodup_cons.mp hn
      have stay : ∀ m, ((compNm nm m r).map (·.1)).Nodup ∧ ∀ x, x ∈ (compNm nm m r).map (·.1) → x ∈ ((y, k) :: r).map (·.1) := fun m => ⟨(ih m hn'.2).1, fun x hx => List.mem_cons_of_mem _ ((ih m hn'.2).2 x hx)⟩
      have more : ∀ m i, (((y, i) :: compNm nm m r).map (·.1)).Nodup ∧ ∀ x, x ∈ ((y, i) :: compNm nm m r).map (·.1) → x ∈ ((y, k) :: r).map (·.1) := fun m i =>
        ⟨List.nodup_cons.mpr ⟨fun q => hn'.1 ((ih m hn'.2).2 y q), (ih m hn'.2).1⟩, fun x hx => by
          rcases List.mem_cons.mp hx with e | hx
          · rw [e]; exact List.mem_cons_self
          · exact List.mem_cons_of_mem _ ((ih m hn'.2).2 x hx)⟩
      cases k <;> unfold compNm
      all_goals first
        | exact stay _
        | exact more _ _
        | (split
           · exact more _ _
           · exact stay _)
  refine ⟨nd, fun x kd hx => ?_, fun x i hx => ?_, fun x y i hx hy => inj_of h4 x y i (mem_of_lookup hx) (mem_of_lookup hy), h7⟩
  · rcases h2 (x, kd) hx with (q | q) | ⟨⟨q1, q2⟩, q3⟩
    · exact .inl q
    · exact .inr (.inl q)
    · obtain ⟨i, hi⟩ := Option.isSome_iff_exists.mp q3
      simp only at q1; subst q1
      exact .inr (.inr ⟨rfl, q2, i, hi, lookup_of_nodup (nd' _ _ nd).1 (fr _ _ _ _ hx hi)⟩)
  · rcases h3 (x, i) (mem_of_lookup hx) with ⟨⟨q1, q2⟩, q3⟩ | ⟨q1, q2⟩
    · exact .inl ⟨q1, q2, q3⟩
    · exact .inr ⟨q1, q2⟩

theorem EK.comp (E : EK env names) {N : Nat} {scope : Scope} (hc : compB names nm N scope.names = true) (hk : scope.kind = .function) (C : Addr) : EK (compEnvC scope (clo env.cells scope.names []) C env) (relab names scope.names) := by
  have CK : CompOk env.scope.names nm N scope.names (compNm nm N scope.names) (locsOf scope.names) := by rw [E.nm]; exact compOk_of hc
  refine ⟨envOk_comp E.eo CK hk C, ?_⟩
  show List.map _ scope.names = relab names scope.names
  unfold relab
  have : ∀ n, env.kindOf n = names.lookup n := fun n => by unfold Env.kindOf; rw [E.nm]
  simp only [this, E.eo.kind]
  rfl

namespace A
def lc (m : Nat → Loc → (AHeap → (AHeap → Prop) → List AV → Prop) → XP → AHeap → Prop) (t : Tgt) (k : Nat) (c : Option AE) (e : AE) : AE := fun d l Q Z σ => m d l (fun σ1 I xs => compL I t c e d (A.fin Q) xs [] (l ++ List.replicate k none) σ1) Z σ
def fr (m : Nat → Loc → (AHeap → (AHeap → Prop) → List AV → Prop) → XP → AHeap → Prop) (t : Tgt) (b : AS) : AS := fun d l Q Z σ => m d l (fun σ1 I xs => forL I t b d Q xs l σ1) (fun c σ' => Z c l σ') σ
def itP (m : AE) : Nat → Loc → (AHeap → (AHeap → Prop) → List AV → Prop) → XP → AHeap → Prop := fun d l K Z σ => m d l (fun v σ1 => itemsA v σ1 fun I xs => K σ1 I xs) Z σ
def itE (m : AE) : Nat → Loc → (AHeap → (AHeap → Prop) → List AV → Prop) → XP → AHeap → Prop := fun d l K Z σ => m d l (fun v σ1 => ∃ p xs, v = .ref p ∧ listAt p xs σ1 ∧ K σ1 (listAt p xs) (enumL 0 xs)) Z σ
def callF (X : Cx) (f : Addr) (args : List AE) : AE := fun d l Q Z σ => evalL args d l (fun as σ' => CallOk X f d as Q Z σ') Z σ
end A

theorem lcOk {elt target iter : Expr} {ifs : List Expr} {scope : Scope} {N : Nat} {t : Tgt} {c : Option AE} {e : AE} {m : Nat → Loc → (AHeap → (AHeap → Prop) → List AV → Prop) → XP → AHeap → Prop}
    (E : EK env names) (hc : compB names nm N scope.names = true) (hk : scope.kind = .function) (hn : notSet iter = true) (hi : SoundI X env nm target iter m)
    (ht : ∀ env', EK env' (relab names scope.names) → SoundTC X env' (compNm nm N scope.names) target t) (hcc : ∀ env', EK env' (relab names scope.names) → SoundC X env' (compNm nm N scope.names) ifs c)
    (he : ∀ env', EK env' (relab names scope.names) → SoundE X env' (compNm nm N scope.names) elt e) : SoundLC X env nm N elt target iter ifs scope (compNm nm N scope.names) (locsOf scope.names) t c e m :=
  ⟨hn, by rw [E.nm]; exact compOk_of hc, hk, hi, fun C => ht _ (E.comp hc hk C), fun C => hcc _ (E.comp hc hk C), fun C => he _ (E.comp hc hk C)⟩

/-! the rules, each with what it looks at -/
theorem w_comp {elt target iter : Expr} {ifs : List Expr} {scope : Scope} {pos : Pos} {t : Tgt} {c : Option AE} {e : AE} {m : Nat → Loc → (AHeap → (AHeap → Prop) → List AV → Prop) → XP → AHeap → Prop}
    (E : EK env names) (hc : compB names nm (lenOf nm) scope.names = true) (hk : scope.kind = .function) (hn : notSet iter = true) (hi : SoundI X env nm target iter m)
    (ht : ∀ env', EK env' (relab names scope.names) → SoundTC X env' (compNm nm (lenOf nm) scope.names) target t) (hcc : ∀ env', EK env' (relab names scope.names) → SoundC X env' (compNm nm (lenOf nm) scope.names) ifs c)
    (he : ∀ env', EK env' (relab names scope.names) → SoundE X env' (compNm nm (lenOf nm) scope.names) elt e) : SoundE X env nm (.ListComp elt [⟨target, iter, ifs, 0⟩] scope pos) (A.lc m t (locsOf scope.names) c e) :=
  sound_comp E.eo rfl (lcOk E hc hk hn hi ht hcc he)
theorem w_setComp {elt target iter : Expr} {ifs : List Expr} {scope : Scope} {cpos py pos : Pos} {y : Str} {i : Nat} {t : Tgt} {c : Option AE} {e : AE} {m : Nat → Loc → (AHeap → (AHeap → Prop) → List AV → Prop) → XP → AHeap → Prop}
    (E : EK env names) (hy : nm.lookup y = some i) (hv : isVar names y = true) (hc : compB names nm (lenOf nm) scope.names = true) (hk : scope.kind = .function) (hn : notSet iter = true) (hi : SoundI X env nm target iter m)
    (ht : ∀ env', EK env' (relab names scope.names) → SoundTC X env' (compNm nm (lenOf nm) scope.names) target t) (hcc : ∀ env', EK env' (relab names scope.names) → SoundC X env' (compNm nm (lenOf nm) scope.names) ifs c)
    (he : ∀ env', EK env' (relab names scope.names) → SoundE X env' (compNm nm (lenOf nm) scope.names) elt e) :
    SoundS X env nm (.Assign [.Name y py] (.ListComp elt [⟨target, iter, ifs, 0⟩] scope cpos) pos) (A.set i (A.lc m t (locsOf scope.names) c e)) :=
  sound_setComp E.eo rfl (lcOk E hc hk hn hi ht hcc he) hy (E.var hv)
theorem w_cNone {env : Env} {nm : List (Str × Nat)} : SoundC X env nm [] none := trivial
theorem w_cSome {env : Env} {nm : List (Str × Nat)} {e : Expr} {m : AE} (h : SoundB X env nm e m) : SoundC X env nm [e] (some m) := h
theorem w_tOne {x : Str} {pos : Pos} {i : Nat} (E : EK env names) (hx : nm.lookup x = some i) (hv : isVar names x = true) : SoundT X env nm (.Name x pos) (.one i) := soundT_one E.eo hx (E.var hv)
theorem w_tMany {es : List Expr} {is : List Nat} {k : Nat} {pos : Pos} (E : EK env names) (N : Names env nm es is) : SoundT X env nm (.Tuple es k pos) (.many is) := soundT_many E.eo N
theorem w_nNil {env : Env} {nm : List (Str × Nat)} : Names env nm [] [] := .nil
theorem w_nCons {x : Str} {pos : Pos} {es : List Expr} {i : Nat} {is : List Nat} (E : EK env names) (hx : nm.lookup x = some i) (hv : isVar names x = true) (r : Names env nm es is) : Names env nm (.Name x pos :: es) (i :: is) := .cons hx (E.var hv) r
theorem EK.loc (E : EK env names) {x : Str} (h : (names.lookup x == some .local) = true) : env.kindOf x = some .local := by
  unfold Env.kindOf; rw [E.nm]; exact beq_iff_eq.mp h
theorem w_tcOne {x : Str} {pos : Pos} {i : Nat} (E : EK env names) (hx : nm.lookup x = some i) (hv : (names.lookup x == some .local) = true) : SoundTC X env nm (.Name x pos) (.one i) := soundTC_one E.eo hx (E.loc hv)
theorem w_tcMany {es : List Expr} {is : List Nat} {k : Nat} {pos : Pos} (E : EK env names) (N : NamesL env nm es is) : SoundTC X env nm (.Tuple es k pos) (.many is) := soundTC_many E.eo N
theorem w_nlNil {env : Env} {nm : List (Str × Nat)} : NamesL env nm [] [] := .nil
theorem w_nlCons {x : Str} {pos : Pos} {es : List Expr} {i : Nat} {is : List Nat} (E : EK env names) (hx : nm.lookup x = some i) (hv : (names.lookup x == some .local) = true) (r : NamesL env nm es is) : NamesL env nm (.Name x pos :: es) (i :: is) := .cons hx (E.loc hv) r

theorem w_loc {x : Str} {pos : Pos} {i : Nat} (E : EK env names) (hx : nm.lookup x = some i) (hv : isVar names x = true) (hd : (x == ("__debug__" : Str)) = false) : SoundE X env nm (.Name x pos) (A.loc i) := sound_loc E.eo hx (E.var hv) hd
theorem w_set {x : Str} {pos' pos : Pos} {value : Expr} {m : AE} {i : Nat} (E : EK env names) (hx : nm.lookup x = some i) (hv : isVar names x = true) (h : SoundE X env nm value m)
    (hs : swapsWith value (some (.Name x pos')) pos.line env = pure false) : SoundS X env nm (.Assign [.Name x pos'] value pos) (A.set i m) := sound_set E.eo h hx (E.var hv) hs
theorem w_prim {x : Str} {f : Value} {p : Prim} {es : List Expr} {ms : List AE} {gp pos : Pos} (G : Gd X K) (E : EK env names) (hb : isBi K x f) (hf : (∃ id, f = .builtin id) ∨ ∃ T, f = .type T) (hp : SoundPrim X f p) (hg : isGlob names x = true) (h : SoundEs X env nm es ms) :
    SoundE X env nm (.Call (.Name x gp) es [] pos) (A.prim p ms) := sound_prim G.ok E.eo (E.glob hg).1 (E.glob hg).2 (G.none hb) (G.some hb) hf hp h
theorem w_len {es : List Expr} {ms : List AE} {gp pos : Pos} (G : Gd X K) (E : EK env names) (hb : isBi K "len" (.builtin "len")) (hg : isGlob names "len" = true) (h : SoundEs X env nm es ms) :
    SoundE X env nm (.Call (.Name "len" gp) es [] pos) (A.prim pLen ms) := w_prim G E hb (.inl ⟨_, rfl⟩) sound_len hg h
theorem w_range {es : List Expr} {ms : List AE} {gp pos : Pos} (G : Gd X K) (E : EK env names) (hb : isBi K "range" (.type "range")) (hg : isGlob names "range" = true) (h : SoundEs X env nm es ms) :
    SoundE X env nm (.Call (.Name "range" gp) es [] pos) (A.prim pRange ms) := w_prim G E hb (.inr ⟨_, rfl⟩) sound_range hg h
theorem w_list {es : List Expr} {ms : List AE} {gp pos : Pos} (G : Gd X K) (E : EK env names) (hb : isBi K "list" (.type "list")) (hg : isGlob names "list" = true) (h : SoundEs X env nm es ms) :
    SoundE X env nm (.Call (.Name "list" gp) es [] pos) (A.prim pList ms) := w_prim G E hb (.inr ⟨_, rfl⟩) sound_list hg h
theorem w_isa {Tn : Str} (T : PyT) {e : Expr} {m : AE} {gp tp pos : Pos} (G : Gd X K) (E : EK env names) (hb : isBi K "isinstance" (.builtin "isinstance")) (hg : isGlob names "isinstance" = true) (hbT : isBi K Tn (.type T.name)) (hgT : isGlob names Tn = true) (hs : notStar e = true) (h : SoundE X env nm e m) :
    SoundE X env nm (.Call (.Name "isinstance" gp) [e, .Name Tn tp] [] pos) (A.isa T m) := sound_isa G.ok E.eo (E.glob hg).1 (G.none hb) (G.some hb) (E.glob hgT).1 (E.glob hgT).2 (G.none hbT) (G.some hbT) hs h
theorem w_enum {elts : List Expr} {x1 : Nat} {tp gp pos : Pos} {e : Expr} {m : AE} (G : Gd X K) (E : EK env names) (hb : isBi K "enumerate" (.type "enumerate")) (hg : isGlob names "enumerate" = true) (hs : notStar e = true) (h : SoundE X env nm e m) :
    SoundI X env nm (.Tuple elts x1 tp) (.Call (.Name "enumerate" gp) [e] [] pos) (A.itE m) := soundI_enum G.ok E.eo (E.glob hg).1 (G.none hb) (G.some hb) hs h
theorem w_it {target iter : Expr} {m : AE} (h : SoundE X env nm iter m) : SoundI X env nm target iter (A.itP m) := soundI_plain h
theorem w_for {target iter : Expr} {body : List Stmt} {pos : Pos} {t : Tgt} {b : AS} {m : Nat → Loc → (AHeap → (AHeap → Prop) → List AV → Prop) → XP → AHeap → Prop} (hn : notSet iter = true) (hi : SoundI X env nm target iter m) (ht : SoundT X env nm target t) (hb : SoundSs X env nm body b) :
    SoundS X env nm (.For target iter body [] pos) (A.fr m t b) := sound_for hn hi ht hb
/-- a def of the text -/
def isFn (K : Frag) (f : Addr) : Prop := ∃ o fd, K.lookup f = some o ∧ o.data = .func fd
theorem w_call {g : Str} {f : Addr} {es : List Expr} {ms : List AE} {gp pos : Pos} (G : Gd X K) (E : EK env names) (hf : nsIn K mainGlobals g = some (some (.ref f))) (hF : isFn K f) (hg : isGlob names g = true) (h : SoundEs X env nm es ms) :
    SoundE X env nm (.Call (.Name g gp) es [] pos) (A.callF X f ms) := fun d A l σ s Q Z L a F q =>
  sound_call G.ok E.eo (E.glob hg).1 (E.glob hg).2 h d A l σ s Q Z L a F ⟨f, mg_of G.inn G.ok.g hf, let ⟨o, fd, h1, h2⟩ := hF; ⟨o, fd, G.inn _ _ h1, h2⟩, q⟩
theorem w_es0 {env : Env} {nm : List (Str × Nat)} : SoundEs X env nm [] [] := .nil
theorem w_es1 {e : Expr} {es : List Expr} {m : AE} {ms : List AE} (hs : notStar e = true) (h : SoundE X env nm e m) (r : SoundEs X env nm es ms) : SoundEs X env nm (e :: es) (m :: ms) := .cons hs h r

/-! a call, by the table -/
def namesB (names : List (Str × NameKind)) (nm : List (Str × Nat)) (ps : List Str) : Bool :=
  nodupB (names.map (·.1)) && nm.all (fun p => names.lookup p.1 == some .local || names.lookup p.1 == some .cell) && injB nm && nodupB (nm.map (·.1)) && (nm.take ps.length == ps.zipIdx) && nodupB ps
theorem mem_lt_lenOf {nm : List (Str × Nat)} {x : Str} {i : Nat} (h : (x, i) ∈ nm) : i < lenOf nm := by
  unfold lenOf
  have gen : ∀ (l : List (Str × Nat)) (n : Nat), n ≤ l.foldl (fun n p => max n (p.2 + 1)) n ∧ ∀ x i, (x, i) ∈ l → i < l.foldl (fun n p => max n (p.2 + 1)) n := by
    intro l
    induction l with
    | nil => intro n; exact ⟨Nat.le_refl _, fun _ _ h => nomatch h⟩
    | cons p r ih =>
      intro n
      rw [List.foldl_cons]
      have := ih (max n (p.2 + 1))
      refine ⟨by omega, fun x i hx => ?_⟩
      rcases List.mem_cons.mp hx with e | hx
      · rw [← e] at this ⊢; simp only at this ⊢; omega
      · exact this.2 x i hx
  exact (gen nm 0).2 x i h
theorem namesOk_of {ps : List Str} (h : namesB names nm ps = true) : NamesOk names nm ps (lenOf nm) := by
  unfold namesB at h
  simp only [Bool.and_eq_true, List.all_eq_true, beq_iff_eq, Bool.or_eq_true] at h
  obtain ⟨⟨⟨⟨⟨h1, h2⟩, h3⟩, h4⟩, h5⟩, h6⟩ := h
  have nd := nodup_of h4
  have hz : ∀ (i : Nat) p, ps[i]? = some p → (p, i) ∈ nm := fun i p hp => by
    have : (p, i) ∈ ps.zipIdx := List.mk_mem_zipIdx_iff_getElem?.mpr hp
    rw [← h5] at this
    exact List.mem_of_mem_take this
  refine ⟨nodup_of h1, fun x i hx => ⟨mem_lt_lenOf (mem_of_lookup hx), h2 _ (mem_of_lookup hx)⟩, fun x y i hx hy => inj_of h3 x y i (mem_of_lookup hx) (mem_of_lookup hy), fun x i hx p hp => inj_of h3 p x i (hz i p hp) (mem_of_lookup hx),
    fun i p hp => lookup_of_nodup nd (hz i p hp), ?_, rfl, nodup_of h6⟩
  rcases Nat.eq_zero_or_pos ps.length with e | e
  · rw [e]; exact Nat.zero_le _
  · have : (ps[ps.length - 1], ps.length - 1) ∈ nm := hz _ _ (List.getElem?_eq_getElem (by omega))
    have := mem_lt_lenOf this; omega

theorem len1 {α : Type} {l : List α} {n : Nat} (h : l.length = n + 1) : ∃ a r, l = a :: r ∧ r.length = n := by
  cases l with
  | nil => simp at h
  | cons a r => exact ⟨a, r, rfl, by simpa using h⟩
theorem bind1 {fd : FuncData} {p : Str} (h : ∀ a0, bindArgs fd ⟨[a0], []⟩ = pure [(p, a0)]) (vs : List Value) (hl : vs.length = [p].length) : bindArgs fd ⟨vs, []⟩ = pure ([p].zip vs) := by
  obtain ⟨a0, v0, rfl, h0⟩ := len1 hl
  have e := List.length_eq_zero_iff.mp h0
  subst e
  exact h a0
theorem bind2 {fd : FuncData} {p q : Str} (h : ∀ a0 a1, bindArgs fd ⟨[a0, a1], []⟩ = pure [(p, a0), (q, a1)]) (vs : List Value) (hl : vs.length = [p, q].length) : bindArgs fd ⟨vs, []⟩ = pure ([p, q].zip vs) := by
  obtain ⟨a0, v0, rfl, h0⟩ := len1 hl
  obtain ⟨a1, v1, rfl, h1⟩ := len1 h0
  have e := List.length_eq_zero_iff.mp h1
  subst e
  exact h a0 a1
/-- what a call of the def at f comes to -/
theorem callK {f : Addr} {oc : Value} {od : Option Addr} {fd : FuncData} {osl : Array (Option Value)} {body : List Stmt} (ps : List Str) (nm : List (Str × Nat)) {d : Nat} {m : AS} {args : List AV} {Q : Post} {Z : XP} {σ : AHeap} (G : Gd X K)
    (ho : K.lookup f = some ⟨oc, od, .func fd, osl⟩) (hb : fd.body = .stmts body) (hbind : ∀ vs, vs.length = ps.length → bindArgs fd ⟨vs, []⟩ = pure (ps.zip vs)) (hc : fd.closure = []) (hg : fd.globals = mainGlobals) (hbi : fd.builtins = builtinsNs) (hcd : codeIn K fd.code fd.qualname = true)
    (hN : namesB fd.scope.names nm ps = true) (hk : fd.scope.kind = .function) (hco : fd.scope.isCoroutine = false) (hgen : fd.scope.isGenerator = false)
    (hs : ∀ env, EK env fd.scope.names → SoundSs X env nm body m) (hd : d < 600) (hlen : args.length = ps.length)
    (h : m (d + 1) (loc0 args (lenOf nm)) (fun fl _ σ' => Q (retOf fl) σ') (fun _ _ _ => False) σ) : CallOk X f d args Q Z σ :=
  callOk_of G.ok (scope := fd.scope) ⟨_, fd, G.inn _ _ ho, rfl, rfl, hb, hc, hg, hbi, codeRec_of G.inn hcd, hbind⟩ (namesOk_of hN) hk hco hgen (fun env EO es => hs env ⟨EO, by rw [es]⟩) hd hlen h
end
end Mine
namespace Mine
open PySem
theorem w_oNone {X : Cx} {env : Env} {nm : List (Str × Nat)} : SoundO X env nm none none := trivial
theorem w_oSome {X : Cx} {env : Env} {nm : List (Str × Nat)} {e : Expr} {m : AE} (h : SoundE X env nm e m) : SoundO X env nm (some e) (some m) := h
end Mine

set_option maxRecDepth 100000
set_option linter.unusedVariables false
set_option autoImplicit false
namespace Mine
open PySem PyProof.Rows PySem.SeqAt PySem.W

section
variable {prog : Program} {w : World} {A : Around} {E : Value → Shared → Prop} {s : Shared}

/-- the tuples' own loop, by what they read -/
theorem lex_reads {b : Bool} {t : Bool} {Q : Bool → Shared → Prop} (xs : List PyData) : ∀ (ys : List PyData) {vs ws : List Value} {as bs : List Addr} {fin : Bool} {i : Nat}, ReadsAll s.heap vs xs as → ReadsAll s.heap ws ys bs → PyData.canLayAll0 xs = true → PyData.canLayAll0 ys = true → A.units + 2 * PyData.depthAll xs + 10 < cLine →
    fin = decide (xs.length < ys.length) → (i = 0 → b = true → ∀ x y, xs.head? = some x → ys.head? = some y → (∃ u v, x = .int u ∧ y = .int v) ∨ ∃ u v, x = .str u ∧ y = .str v) → ltDL xs ys = some t → Q t s → KatLex prog w A b fin Q (vs.zip ws) i s := by
  induction xs with
  | nil =>
    intro ys vs ws as bs fin i rx ry ha hb hu hf hi e q
    cases rx
    cases ys with
    | nil => cases ry; simp only [ltDL, Option.some.injEq] at e; subst e; subst hf; exact q
    | cons y ys => cases ry; simp only [ltDL, Option.some.injEq] at e; subst e; subst hf; exact kat_nil (by simpa using q)
  | cons x xs ih =>
    intro ys vs ws as bs fin i rx ry ha hb hu hf hi e q
    cases rx with
    | cons h1 h2 =>
      cases ys with
      | nil => cases ry; simp only [ltDL, Option.some.injEq] at e; subst e; subst hf; exact kat_nil (by simpa using q)
      | cons y ys =>
        cases ry with
        | cons k1 k2 =>
          simp only [PyData.canLayAll0, Bool.and_eq_true] at ha hb
          simp only [PyData.depthAll] at hu
          have h5 : x.depth ≤ max x.depth (PyData.depthAll xs) := Nat.le_max_left _ _
          have h6 : PyData.depthAll xs ≤ max x.depth (PyData.depthAll xs) := Nat.le_max_right _ _
          have hmin : min x.depth y.depth ≤ x.depth := Nat.min_le_left _ _
          have heq := eqAt_reads x y A s _ _ _ _ h1 k1 ha.1 hb.1 (by lia)
          simp only [ltDL] at e
          simp only [List.zip_cons_cons]
          refine kat_cons (heq prog w _ _ ?_)
          cases hE : PyData.eqv x y with
          | true =>
            rw [hE] at e
            exact kat_yes (ih ys h2 k2 ha.2 hb.2 (by lia) (by simpa using hf) (fun h0 => by lia) e q)
          | false =>
            rw [hE] at e
            simp only [Bool.false_eq_true, if_false] at e
            refine kat_no ?_
            cases hbi : (b && i == 0) with
            | false =>
              rw [oneLt'_eq]
              simp only [Bool.false_eq_true, if_false]
              exact wpAny_bind (lt_reads x y h1 k1 ha.1 hb.1 (by lia) e prog w _ _ (wpAny_truthy_bool q))
            | true =>
              simp only [Bool.and_eq_true, beq_iff_eq] at hbi
              rcases hi hbi.2 hbi.1 x y rfl rfl with ⟨u, u', rfl, rfl⟩ | ⟨u, u', rfl, rfl⟩
              · cases h1; cases k1
                simp only [ltD, Option.some.injEq] at e; subst e
                exact oneLt_int q
              · cases h1; cases k1
                simp only [ltD, Option.some.injEq] at e; subst e
                exact oneLt_str q
end
end Mine

set_option maxRecDepth 100000
set_option linter.unusedVariables false
set_option autoImplicit false
namespace Mine
open PySem PyProof.Rows PySem.SeqAt PySem.W

def LtAV (σ : AHeap) (x y : AV) (t : Bool) : Prop := ∃ a b, Rd σ x a ∧ Rd σ y b ∧ DOk a ∧ DOk b ∧ ltD a b = some t
theorem repVs_cons {h : Heap} {xs : List AV} {v : Value} {vs : List Value} (r : RepVs h xs (v :: vs)) : ∃ x xs', xs = x :: xs' ∧ RepV h x v ∧ RepVs h xs' vs := by
  cases r with
  | cons a r => exact ⟨_, _, rfl, a, r⟩
theorem RepVs.perm {h : Heap} {vs ws : List Value} (p : ws.Perm vs) : ∀ {xs}, RepVs h xs vs → ∃ ys, ys.Perm xs ∧ RepVs h ys ws := by
  induction p with
  | nil => intro xs r; exact ⟨xs, .refl _, r⟩
  | cons v p ih =>
    intro xs r
    obtain ⟨x, xs', rfl, a, r⟩ := repVs_cons r
    obtain ⟨ys, h1, h2⟩ := ih r
    exact ⟨x :: ys, .cons x h1, .cons a h2⟩
  | swap v w l =>
    intro xs r
    obtain ⟨x, xs', rfl, a, r⟩ := repVs_cons r
    obtain ⟨y, xs'', rfl, b, r⟩ := repVs_cons r
    exact ⟨y :: x :: xs'', .swap .., .cons b (.cons a r)⟩
  | trans p q ih1 ih2 =>
    intro xs r
    obtain ⟨ys, h1, h2⟩ := ih2 r
    obtain ⟨zs, h3, h4⟩ := ih1 h2
    exact ⟨zs, h3.trans h1, h4⟩

theorem RepVs.pair {h : Heap} {ρ : AV → Nat} {ρV : Value → Nat} : ∀ {ys out}, RepVs h ys out → (∀ y ∈ ys, ∀ v, RepV h y v → ρV v = ρ y) → out.Pairwise (fun x y => ρV x ≤ ρV y) → ys.Pairwise (fun x y => ρ x ≤ ρ y)
  | _, _, .nil, _, _ => .nil
  | _, _, .cons (x := x) (xs := xs) (v := v) (vs := vs) a r, hρ, hp => by
    obtain ⟨h1, h2⟩ := List.pairwise_cons.mp hp
    refine List.pairwise_cons.mpr ⟨fun y hy => ?_, r.pair (fun y hy => hρ y (List.mem_cons_of_mem _ hy)) h2⟩
    obtain ⟨i, hi⟩ := List.mem_iff_getElem?.mp hy
    obtain ⟨w, hw, rw_⟩ := r.get hi
    have := h1 w (List.mem_of_getElem? hw)
    rw [hρ x List.mem_cons_self v a, hρ y (List.mem_cons_of_mem _ hy) w rw_] at this
    exact this

theorem katTups_of {h : Heap} {T : Value} {M : Model} : ∀ {xs : List AV} {vs : List Value}, RepVs h xs vs → (∀ x ∈ xs, ∃ y r, x = .tup (y :: r) ∧ ∀ v, RepV h y v → Looks M h (typeOf v) T) → ∃ fs, KatTups h vs fs ∧ fs.length = vs.length ∧ ∀ v ∈ fs, Looks M h (typeOf v) T
  | _, _, .nil, _ => ⟨[], .nil, rfl, fun v hv => nomatch hv⟩
  | _, _, .cons (x := x) (xs := xs) (v := v) (vs := vs) a r, hx => by
    obtain ⟨fs, h1, h2, h3⟩ := katTups_of r fun x hx' => hx x (List.mem_cons_of_mem _ hx')
    obtain ⟨y, ys, rfl, hl⟩ := hx x List.mem_cons_self
    cases a with
    | @tup _ t ws hlen ht rs =>
      obtain ⟨o, ho, hc, n, hd⟩ := ht
      cases rs with
      | @cons _ _ u us ru rus =>
        exact ⟨u :: fs, .cons ho hc hd (by simp) h1, by simp [h2], fun w hw => by
          rcases List.mem_cons.mp hw with e | hw
          · subst e; exact hl w ru
          · exact h3 w hw⟩

theorem newListAtD {X : Cx} {σ : AHeap} {s : Shared} {h' : Heap} {t : Nat} {xs : List AV} {vs : List Value} {n D : Nat} {Q : Post} (a : At X σ s) (hk : ∀ b o, s.heap.get? b = some o → h'.get? b = some o) (hD : s.heap.objs.size ≤ D) (hn : h'.get? D = some (listObj vs n)) (r : RepVs h' xs vs)
    (hl : xs.length ≤ 1000000) (hsz : s.heap.objs.size ≤ h'.objs.size) (q : ∀ r, σ r = none → Q (.ref r) (σ.set r (.list xs))) : liftQ X σ s Q (.ref D) { s with heap := h', toks := t } := by
  have kv : KeepV s.heap h' := fun b o e _ => hk b o e
  have hσ := a.none_of_size (b := D) hD
  refine ⟨.ref _, σ.set D (.list xs), .ref _, ⟨fun b o e => hk b o (a.keep b o e), fun b ao e => ?_, fun b ao e hro => ?_, a.gens, a.os⟩, ⟨fun b o e _ _ => hk b o e, fun b h1 h2 => ?_, hsz⟩, q _ hσ⟩
  · by_cases hb : b = D
    · subst hb; rw [AHeap.set_self] at e; cases e; exact ⟨vs, n, hn, r, hl⟩
    · rw [AHeap.set_ne _ _ hb] at e; exact (a.rep b ao e).mono kv fun o ho => hk b o ho
  · by_cases hb : b = D
    · subst hb; exact (new_out a hD).2.1
    · rw [AHeap.set_ne _ _ hb] at e; exact a.own b ao e hro
  · by_cases hb : b = D
    · rw [hb]; exact hD
    · rw [AHeap.set_ne _ _ hb] at h1; exact absurd h2 h1

end Mine

set_option maxRecDepth 100000
set_option linter.unusedVariables false
set_option autoImplicit false
set_option maxHeartbeats 4000000
namespace Mine
open PySem PyProof.Rows PySem.SeqAt PySem.W

/-- a tree of questions whose answers all end well -/
def kOk {α : Type} (n : Nat) (P : α → Prop) : KasT α → Prop
  | .ret a => P a
  | .ask i j k => i < n ∧ j < n ∧ ∀ b, kOk n P (k b)
theorem kOk_bind {α β : Type} {n : Nat} {P : α → Prop} {R : β → Prop} {f : α → KasT β} (hf : ∀ a, P a → kOk n R (f a)) : ∀ t : KasT α, kOk n P t → kOk n R (t.bind f)
  | .ret a, h => hf a h
  | .ask i j k, h => ⟨h.1, h.2.1, fun b => kOk_bind hf (k b) (h.2.2 b)⟩
theorem kOk_wp {α : Type} {n : Nat} {P : α → Prop} {cmp : Nat → Nat → (Bool → Shared → Prop) → Shared → Prop} {Q : α → Shared → Prop} {s : Shared} (hc : ∀ i j C, i < n → j < n → (∀ b, C b s) → cmp i j C s) (hq : ∀ a, P a → Q a s) : ∀ t : KasT α, kOk n P t → t.kasWp cmp Q s
  | .ret a, h => hq a h
  | .ask i j k, h => hc i j _ h.1 h.2.1 fun b => kOk_wp hc hq (k b) (h.2.2 b)
def pLt (n : Nat) (p : Array Nat) : Prop := 0 < n ∧ p.toList.Perm (List.range n)
theorem pLt.get {n : Nat} {p : Array Nat} (h : pLt n p) (i : Nat) : p.getD i 0 < n := by
  rw [Array.getD_eq_getD_getElem?]
  cases he : p[i]? with
  | none => exact h.1
  | some x =>
    rw [← Array.getElem?_toList] at he
    exact List.mem_range.mp (h.2.mem_iff.mp (List.mem_of_getElem? he))
theorem pLt.perm {n : Nat} {p q : Array Nat} (h : pLt n p) (hp : q.Perm p) : pLt n q := ⟨h.1, (Array.perm_iff_toList_perm.mp hp).trans h.2⟩
theorem pLt.rev {n i j : Nat} {p : Array Nat} (h : pLt n p) : pLt n (kas_rev p i j) := h.perm (mirror_perm _ _ _ _)
theorem kOk_asc {n : Nat} {p : Array Nat} (h : pLt n p) : ∀ f m, kOk n (fun _ => True) (kas_asc p f m)
  | 0, _ => trivial
  | f + 1, m => ⟨h.get _, h.get _, fun b => by cases b; exact kOk_asc h f (m + 1); exact trivial⟩
theorem kOk_desc {n : Nat} : ∀ f (p : Array Nat) m q, pLt n p → kOk n (fun r => pLt n r.1) (kas_desc f p m q)
  | 0, _, _, _, h => h
  | f + 1, p, m, q, h => ⟨h.get _, h.get _, fun b => by
      cases b
      · exact ⟨h.get _, h.get _, fun d => by cases d; exact kOk_desc f p _ _ h; exact h⟩
      · show kOk n _ (if q > 0 then _ else _)
        split
        · exact kOk_desc f _ _ _ h.rev
        · exact kOk_desc f p _ _ h⟩
theorem kOk_tail3 {n m nrem : Nat} {p : Array Nat} (h : pLt n p) : kOk n (fun r => pLt n r.2) (kas_tail3 m nrem p) := by
  unfold kas_tail3
  refine kOk_bind (P := fun _ => True) (fun _ _ => ?_) _ (kOk_asc h.rev _ _)
  exact h.rev (i := 0) (j := m)
theorem kOk_descPart {n m nrem : Nat} {p : Array Nat} (h : pLt n p) : kOk n (fun r => pLt n r.2) (kas_descPart m nrem p) :=
  kOk_bind (fun r hr => by
    show kOk n _ (if r.2.2 > 0 then _ else _)
    split
    · exact kOk_tail3 hr.rev
    · exact kOk_tail3 hr) _ (kOk_desc _ _ _ _ h)
theorem kOk_count {n nrem : Nat} {p : Array Nat} (h : pLt n p) : kOk n (fun r => pLt n r.2) (kas_count nrem p) :=
  kOk_bind (fun m _ => by
    show kOk n _ (if (m == nrem) = true then _ else _)
    split
    · exact h
    · split
      · exact ⟨h.get _, h.get _, fun b => by cases b; exact kOk_descPart h.rev; exact h⟩
      · exact kOk_descPart h) _ (kOk_asc h _ _)
theorem kOk_place {n : Nat} {p : Array Nat} (h : pLt n p) (k : Nat) : ∀ f l r, kOk n (fun _ => True) (kas_place p k f l r)
  | 0, _, _ => trivial
  | f + 1, l, r => by
    unfold kas_place
    split
    · exact trivial
    · exact ⟨h.get _, h.get _, fun b => by cases b; exact kOk_place h k f _ _; exact kOk_place h k f _ _⟩
theorem kOk_bin {n : Nat} : ∀ f (p : Array Nat) k, pLt n p → kOk n (pLt n) (kas_bin f p k)
  | 0, _, _, h => h
  | f + 1, p, k, h => kOk_bind (fun l _ => kOk_bin f _ _ (h.perm (bubble_perm _ _ _))) _ (kOk_place h k _ _ _)
theorem kOk_sort {n : Nat} (hn : 0 < n) : kOk n (pLt n) (kas_sort n) := by
  have h0 : pLt n (List.toArray (List.range n)) := ⟨hn, .refl _⟩
  refine kOk_bind (fun r hr => ?_) _ (kOk_count h0)
  show kOk n _ (if r.1 < n then _ else _)
  split
  · exact kOk_bin _ _ _ hr
  · exact hr

section
variable {prog : Program} {w : World} {A : Around} {E : Value → Shared → Prop} {s : Shared}
/-- list.sort of a few: what is there stays there, in some order -/
theorem s_sortFew {a : Addr} {vs : List Value} {n : Nat} {P : PySem.Fin → Shared → Prop} (ho : s.heap.get? a = some (seqObj "list" vs.toArray n)) (h64 : vs.length < 64)
    (hk : ∀ h' : Heap, (∀ b o, b ≠ a → s.heap.get? b = some o → h'.get? b = some o) → 2 ≤ vs.length → ∃ κ, (∀ (Q : SortKind → Shared → Prop), Q κ { s with heap := h' } → wpAny (model prog w) A (keyKind' vs.toArray) Q E { s with heap := h' }) ∧
      ∀ x ∈ vs, ∀ y ∈ vs, ∀ Q : Bool → Shared → Prop, (∀ b, Q b { s with heap := h' }) → wpAny (model prog w) A (keyLt' κ x y) Q (fun _ _ => False) { s with heap := h' })
    (h : ∀ (out : List Value) c (h3 : Heap), out.Perm vs → h3.get? a = some (seqObj "list" out.toArray c) → (∀ b o, b ≠ a → s.heap.get? b = some o → h3.get? b = some o) → P (.done (.ret .none)) { s with heap := h3 }) :
    wpAny (model prog w) A (Builtin.«list.sort» ⟨[.ref a], []⟩) P E s := by
  obtain ⟨e1, ho1⟩ : ∃ e1, (s.heap.update a (Obj.mapSeq fun _ => (#[] : Array Value))).get? a = some (seqObj "list" #[] e1) := ⟨_, get?_update_seq ho fun _ => #[]⟩
  have s1 := Heap.SameBut.update s.heap a (Obj.mapSeq fun _ => (#[] : Array Value))
  obtain ⟨h2, hh2⟩ : ∃ x, x = ((s.heap.update a (Obj.mapSeq fun _ => (#[] : Array Value))).push (seqObj "tuple" vs.toArray 0)).push (seqObj "list" #[] 0) := ⟨_, rfl⟩
  have keep2 : ∀ b o, b ≠ a → s.heap.get? b = some o → h2.get? b = some o := fun b o hb e => by
    rw [hh2]; exact Heap.get?_push_of_some _ (Heap.get?_push_of_some _ ((s1.2 b hb).trans e))
  have ho2 : h2.get? a = some (seqObj "list" #[] e1) := by rw [hh2]; exact Heap.get?_push_of_some _ (Heap.get?_push_of_some _ ho1)
  rw [list_sort_plain]
  refine wpAny_bind (listItems_at ho rfl ?_)
  refine wpAny_bind (listUpdate_at ho rfl ?_ (by rw [List.size_toArray, sizeLine_eq]; lia) (Nat.zero_le _))
  refine wpAny_bind (seqEpoch_at ho1 rfl ?_)
  refine wpAny_bind (wpAny_newTuple ?_ (by show vs.length ≤ _; rw [sizeLine_eq]; lia))
  refine wpAny_bind (wpAny_newList ?_ (Nat.zero_le _))
  refine wpAny_holding ?_
  show wpAny (model prog w) A _ P E { s with heap := ((s.heap.update a (Obj.mapSeq fun _ => (#[] : Array Value))).push (seqObj "tuple" vs.toArray 0)).push (seqObj "list" #[] 0) }
  rw [← hh2]
  dsimp only
  have rest : ∀ st' : SortSt, failedOf st' = none → ((arrOf st').map (·.2)).toList.Perm vs → wpAny (model prog w) A (do
      let touched := (← seqEpoch a) != e1
      Builtin.List.listUpdate (.ref a) fun _ => (arrOf st').map (·.2)
      if let some e := failedOf st' then rule "list.sort.comparison-raised"; throw e
      if touched then rule "list.sort.modified"; raiseError "ValueError" "list modified during sort"
      ret .none) P E { s with heap := h2 } := by
    intro st' hf hpm
    have hl := hpm.length_eq
    obtain ⟨c2, hc2⟩ : ∃ c2, (h2.update a (Obj.mapSeq fun _ => (arrOf st').map (·.2))).get? a = some (seqObj "list" ((arrOf st').map (·.2)) c2) := ⟨_, get?_update_seq ho2 fun _ => (arrOf st').map (·.2)⟩
    have s2 := Heap.SameBut.update h2 a (Obj.mapSeq fun _ => (arrOf st').map (·.2))
    refine wpAny_bind (seqEpoch_at ho2 rfl ?_)
    refine wpAny_bind (listUpdate_at ho2 rfl ?_ (Nat.zero_le _) (by rw [Array.length_toList] at hl; rw [hl, sizeLine_eq]; lia))
    rw [hf]
    simp only [bne_self_eq_false, Bool.false_eq_true, if_false]
    exact wpAny_pure (h ((arrOf st').map (·.2)).toList c2 _ hpm (by rw [hc2]) fun b o hb e => (s2.2 b hb).trans (keep2 b o hb e))
  by_cases hn : vs.length < 2
  · have hn2 : vs.toArray.size < 2 := by rw [List.size_toArray]; exact hn
    rw [if_pos hn2, if_pos hn2]
    refine wpAny_bind (wpAny_pure ?_)
    refine wpAny_bind ?_
    show wpAny (model prog w) A (pure ((), SortSt.mk' general' (vs.toArray.zip vs.toArray) #[] 7 none) : Sem (Unit × SortSt)) _ E _
    refine wpAny_pure ?_
    have e : ((vs.toArray.zip vs.toArray).map (·.2)).toList = vs := by simp [List.map_snd_zip]
    refine rest (SortSt.mk' general' (vs.toArray.zip vs.toArray) #[] 7 none) rfl ?_
    show (((vs.toArray.zip vs.toArray).map (·.2)).toList).Perm vs
    rw [e]
  · have hn2 : ¬ vs.toArray.size < 2 := by rw [List.size_toArray]; exact hn
    rw [if_neg hn2, if_neg hn2]
    obtain ⟨κ, hq, H⟩ := hk h2 keep2 (by lia)
    refine wpAny_bind (hq _ ?_)
    have est : SortSt.mk' κ (vs.toArray.zip vs.toArray) #[] 7 none = kas_st κ (pairsOf vs) (List.toArray (List.range vs.length)) := by
      have e := kas_range (pairsOf vs)
      rw [pairsOf_size] at e
      show SortSt.mk' κ (pairsOf vs) #[] 7 none = SortSt.mk' κ ((List.toArray (List.range vs.length)).map (kas_item (pairsOf vs))) #[] 7 none
      rw [e]
    have at_ : ∀ i, i < vs.length → vs.getD i Value.none ∈ vs := fun i hi => by rw [List.getD_eq_getElem?_getD, List.getElem?_eq_getElem hi]; exact List.getElem_mem hi
    have ask : (kas_sort vs.length).kasWp (kas_cmp prog w A κ (pairsOf vs)) (fun p s' => s' = { s with heap := h2 } ∧ pLt vs.length p) { s with heap := h2 } := by
      rw [← kas_ask_eq]
      exact kOk_wp (fun i j C hi hj hC => H _ (at_ i hi) _ (at_ j hj) C hC) (fun p hp => ⟨rfl, hp⟩) _ (kOk_sort (by lia))
    have run := kas_runs (E := E) (Q := fun _ st' s' => ∃ p : Array Nat, p.size = vs.length ∧ arrOf st' = p.map (kas_item (pairsOf vs)) ∧ failedOf st' = none ∧ s' = { s with heap := h2 } ∧ pLt vs.length p)
      (by lia) h64 (fun p' st' s' a1 a2 a3 a4 => ⟨p', a1, a2, a3, a4⟩) ask
    rw [← est] at run
    refine wpAny_bind (wpAny_mono run (fun r s' hr => ?_) fun _ _ e => e)
    obtain ⟨⟨⟩, st'⟩ := r
    obtain ⟨p, hp, har, hf, rfl, hlt⟩ := hr
    have hout : ((arrOf st').map (·.2)).toList = p.toList.map fun i => vs.getD i Value.none := by
      rw [har, Array.map_map, Array.toList_map]
      exact List.map_congr_left fun i _ => by show (kas_item (pairsOf vs) i).2 = _; rw [kas_item_eq]
    refine rest st' hf ?_
    rw [hout]
    have := hlt.2.map fun i => vs.getD i Value.none
    have e3 : (List.range vs.length).map (fun i => vs.getD i Value.none) = vs := by
      apply List.ext_getElem?
      intro i
      rw [List.getElem?_map]
      by_cases hi : i < vs.length
      · rw [List.getElem?_range hi, List.getElem?_eq_getElem hi]; simp [hi]
      · rw [List.getElem?_eq_none (by simpa using hi), List.getElem?_eq_none (by omega)]; rfl
    rw [e3] at this
    exact this
end

/-- tuples that begin with ints, or ints -/
def KindP (xs : List AV) : Prop := (∀ x ∈ xs, ∃ i r, x = .tup (.int i :: r)) ∨ ∀ x ∈ xs, ∃ i, x = .int i
/-- a sort of a few of these: the same things in some order -/
inductive pSortP : List AV → Post → AHeap → Prop
  | mk {p : Addr} {xs : List AV} {Q : Post} {σ : AHeap} (hp : listAt p xs σ) (h64 : xs.length < 64) (hk : KindP xs) (hlt : ∀ x ∈ xs, ∀ y ∈ xs, ∃ t, LtAV σ x y t)
    (h : ∀ ys : List AV, ys.Perm xs → ∀ r, σ r = none → Q (.ref r) (σ.set r (.list ys))) : pSortP [.ref p] Q σ
theorem sound_sortP {X : Cx} : SoundPrim X (.builtin "sorted") pSortP := fun d A σ s as vs Q E L a r q => by
  cases q with
  | @mk p xs _ _ hp h64 hkd hlt q =>
    obtain ⟨v, rfl, rv⟩ := repVs1 r
    cases rv
    obtain ⟨vs, hl, rs⟩ := a.isList hp
    have hlen := rs.length
    have room := L.room
    refine with_size (Calls.call_function_entry kind_sorted plain_sorted entry_sorted (args_sorted1 _) ?_)
    unfold Builtin.«sorted»
    refine wpAny_bind (m := checkCount "sorted" 1 1 _) (wpAny_pure ?_)
    refine wpAny_bind (collect_list hl ?_ (by rw [sizeLine_eq]; lia))
    refine wpAny_bind (wpAny_newList ?_ (by rw [sizeLine_eq]; lia))
    have hsz : ((s.heap.push (seqObj "list" #[] 0)).update s.heap.objs.size (Obj.mapSeq (· ++ vs.toArray))).objs.size = s.heap.objs.size + 1 := by
      rw [Heap.size_update, size_push']
    obtain ⟨h1, hh1⟩ : ∃ x, x = ((s.heap.push (seqObj "list" #[] 0)).update s.heap.objs.size (Obj.mapSeq (· ++ vs.toArray))).push (seqObj "list" vs.toArray 0) := ⟨_, rfl⟩
    have hoL : h1.get? (s.heap.objs.size + 1) = some (seqObj "list" vs.toArray 0) := by
      rw [hh1, ← hsz]; exact Heap.get?_push_size _ rfl
    have keep : ∀ b o, s.heap.get? b = some o → h1.get? b = some o := fun b o q => by
      have hlt : b < s.heap.objs.size := Heap.lt_size q
      rw [hh1, Heap.get?_push_ne _ _ _ (by rw [hsz]; exact Nat.ne_of_lt (Nat.lt_succ_of_lt hlt)), Heap.get?_update_ne _ _ _ _ (Nat.ne_of_lt hlt), Heap.get?_push_ne _ _ _ (Nat.ne_of_lt hlt)]
      exact q
    show wpAny _ _ _ _ _ { s with heap := ((s.heap.push (seqObj "list" #[] 0)).update s.heap.objs.size (Obj.mapSeq (· ++ vs.toArray))).push (seqObj "list" vs.toArray 0) }
    rw [hsz, ← hh1]
    have keep' : ∀ h' : Heap, (∀ b o, b ≠ s.heap.objs.size + 1 → h1.get? b = some o → h'.get? b = some o) → ∀ b o, s.heap.get? b = some o → h'.get? b = some o := fun h' hk b o e => by
      have hlt : b < s.heap.objs.size := Heap.lt_size e
      exact hk b o (Nat.ne_of_lt (Nat.lt_succ_of_lt hlt)) (keep b o e)
    refine wpAny_bind (wpAny_holding (wpAny_call_entry slot_list_sort ⟨_, hoL, rfl⟩ entry_list_sort ?body (args_list_sort _)))
    case body =>
      refine s_sortFew (s := { s with heap := h1 }) hoL (by lia) (fun h' hk' h2 => ?_) fun out c h3 hperm ho3 hk3 => ?_
      · have kp := keep' h' hk'
        have kv : KeepV s.heap h' := fun b o e _ => kp b o e
        have a' : At X σ { s with heap := h' } := ⟨fun b o e => kp b o (a.keep b o e), fun b ao e => (a.rep b ao e).mono kv fun o ho => kp b o ho, a.own, a.gens, a.os⟩
        have rs' := rs.mono kv
        rcases hkd with hkd | hki
        case inr =>
          refine ⟨oneType', fun Q' hq => ?_, fun u hu v hv Q' hQ => ?_⟩
          · refine kas_kind (s := { s with heap := h' }) (vs := vs) (T := .type "int") (by lia) (fun v hv => ?_) (by decide) (by decide) hq
            obtain ⟨x, hx, rx⟩ := rs'.mem v hv
            obtain ⟨i, rfl⟩ := hki x hx
            cases rx; exact .now
          · obtain ⟨x, hx, rx⟩ := rs'.mem u hu
            obtain ⟨y, hy, ry⟩ := rs'.mem v hv
            obtain ⟨i, rfl⟩ := hki x hx
            obtain ⟨j, rfl⟩ := hki y hy
            cases rx; cases ry
            rw [keyLt'_oneType]; exact oneLt_int (hQ _)
        obtain ⟨fs, f1, f2, f3⟩ := katTups_of (M := X.M) (T := .type "int") rs' fun x hx => by
          obtain ⟨i, r, rfl⟩ := hkd x hx
          refine ⟨_, r, rfl, fun v rv => ?_⟩
          cases rv; exact .now
        refine ⟨tuples' true, fun Q' hq => ?_, fun u hu v hv Q' hQ => ?_⟩
        · refine kat_kind (s := { s with heap := h' }) f1 (by lia) f3 (by decide) ?_
          rw [show ((Value.type "int" != Value.type "tuple") = true) from by decide]; exact hq
        · obtain ⟨x, hx, rx⟩ := rs'.mem u hu
          obtain ⟨y, hy, ry⟩ := rs'.mem v hv
          obtain ⟨t, da, db, ra, rb, oa, ob, el⟩ := hlt x hx y hy
          obtain ⟨as1, q1⟩ := ra.reads a' rx
          obtain ⟨as2, q2⟩ := rb.reads a' ry
          obtain ⟨i, r, rfl⟩ := hkd x hx
          obtain ⟨j, r', rfl⟩ := hkd y hy
          clear rx ry
          cases ra with
          | @tup _ ds rda =>
            cases rb with
            | @tup _ es rdb =>
              cases q1 with
              | tuple ho1 hc1 hd1 hr1 =>
                cases q2 with
                | tuple ho2 hc2 hd2 hr2 =>
                  have c1 := oa.1; have c2 := ob.1; have c3 := oa.2
                  simp only [PyData.canLay0] at c1 c2
                  simp only [PyData.depth] at c3
                  simp only [ltD] at el
                  have len1 : ∀ {z : List Value} {ds : List PyData} {as}, ReadsAll h' z ds as → z.length = ds.length := by
                    intro z ds
                    induction z generalizing ds with
                    | nil => intro as q; cases q; rfl
                    | cons u z ih => intro as q; cases q with | cons _ q => simp [ih q]
                  refine kat_lt (s := { s with heap := h' }) ho1 hd1 ho2 hd2 (lex_reads ds es hr1 hr2 c1 c2 (by
                    have : A.in1.in1.units = A.units + 2 := by rw [Around.in1_units, Around.in1_units]
                    rw [this]; lia) (by rw [← len1 hr1, ← len1 hr2]; simp) (fun _ _ u v hu hv => ?_) el (hQ t))
                  cases rda with
                  | cons g1 g2 =>
                    cases rdb with
                    | cons g3 g4 =>
                      simp only [List.head?_cons, Option.some.injEq] at hu hv
                      subst hu; subst hv
                      cases g1; cases g3; exact .inl ⟨i, j, rfl, rfl⟩
      · have kp := keep' h3 hk3
        have kv : KeepV s.heap h3 := fun b o e _ => kp b o e
        obtain ⟨ys, hy1, hy2⟩ := rs.perm hperm
        have hyl := hy1.length_eq
        refine ⟨_, rfl, wpAny_pure ⟨_, rfl, fun hsz' => ?_⟩⟩
        exact newListAtD (t := s.toks) a kp (Nat.le_succ _) ho3 (hy2.mono kv) (by lia) hsz' (q ys hy1)
end Mine

set_option maxRecDepth 100000
set_option linter.unusedVariables false
set_option autoImplicit false
namespace Mine
open PySem

theorem forL_of {I : AHeap → Prop} {t : Tgt} {body : AS} {d : Nat} {Q : SPost} (J : List AV → Loc → AHeap → Prop)
    (step : ∀ x xs l σ (K : Loc → AHeap → Prop), J (x :: xs) l σ → (∀ l' σ', J xs l' σ' → K l' σ') →
      ∃ l', bindT t x l = some l' ∧ body d l' (fun f l'' σ' => match f with | .next => I σ' ∧ K l'' σ' | .ret v => Q (.ret v) l'' σ') (fun _ _ _ => False) σ)
    (fin : ∀ l σ, J [] l σ → Q .next l σ) : ∀ (xs : List AV) (l : Loc) (σ : AHeap), J xs l σ → forL I t body d Q xs l σ
  | [], l, σ, h => fin l σ h
  | x :: xs, l, σ, h => step x xs l σ (forL I t body d Q xs) h (forL_of J step fin xs)

theorem compL_go {α : Type} {I : AHeap → Prop} {t : Tgt} {elt : AE} {d : Nat} {Q : List AV → AHeap → Prop} {σ : AHeap} (g f : α → AV) (lx : α → Loc) : ∀ (xs : List α) (acc : List AV) (l : Loc), (∀ x ∈ xs, bindT t (g x) l = some (lx x)) → (∀ x ∈ xs, ∀ y ∈ xs, bindT t (g x) (lx y) = some (lx x)) →
    (∀ x ∈ xs, ∀ R : Post, R (f x) σ → elt d (lx x) R (fun _ _ => False) σ) → I σ → acc.length + xs.length ≤ 1000000 → Q (acc ++ xs.map f) σ → compL I t none elt d Q (xs.map g) acc l σ
  | [], acc, l, h0, h1, he, hI, hl, q => by simpa [compL] using q
  | x :: xs, acc, l, h0, h1, he, hI, hl, q => by
    simp only [List.length_cons] at hl
    refine ⟨lx x, h0 x (by simp), ?_⟩
    unfold testA
    simp only [if_true]
    refine he x (by simp) _ ⟨hI, by lia, ?_⟩
    refine compL_go g f lx xs (acc ++ [f x]) (lx x) (fun y hy => h1 y (by simp [hy]) x (by simp)) (fun y hy z hz => h1 y (by simp [hy]) z (by simp [hz])) (fun y hy => he y (by simp [hy])) hI (by simp; lia) ?_
    simpa using q
theorem compL_as {α : Type} {I : AHeap → Prop} {t : Tgt} {elt : AE} {d : Nat} {Q : List AV → AHeap → Prop} {σ : AHeap} (xs : List α) (g f : α → AV) (lx : α → Loc) {l : Loc} (h0 : ∀ x ∈ xs, bindT t (g x) l = some (lx x)) (h1 : ∀ x ∈ xs, ∀ y ∈ xs, bindT t (g x) (lx y) = some (lx x))
    (he : ∀ x ∈ xs, ∀ R : Post, R (f x) σ → elt d (lx x) R (fun _ _ => False) σ) (hI : I σ) (hl : xs.length ≤ 1000000) (q : Q (xs.map f) σ) : compL I t none elt d Q (xs.map g) [] l σ :=
  compL_go g f lx xs [] l h0 h1 he hI (by simpa using hl) (by simpa using q)
theorem compLf_go {α : Type} {I : AHeap → Prop} {t : Tgt} {c elt : AE} {d : Nat} {Q : List AV → AHeap → Prop} {σ : AHeap} (p : α → Bool) (g f : α → AV) (lx : α → Loc) : ∀ (xs : List α) (acc : List AV) (l : Loc), (∀ x ∈ xs, bindT t (g x) l = some (lx x)) → (∀ x ∈ xs, ∀ y ∈ xs, bindT t (g x) (lx y) = some (lx x)) →
    (∀ x ∈ xs, ∀ R : Bool → AHeap → Prop, R (p x) σ → c d (lx x) (isB R) (fun _ _ => False) σ) →
    (∀ x ∈ xs, p x = true → ∀ R : Post, R (f x) σ → elt d (lx x) R (fun _ _ => False) σ) → I σ → acc.length + xs.length ≤ 1000000 → Q (acc ++ (xs.filter p).map f) σ → compL I t (some c) elt d Q (xs.map g) acc l σ
  | [], acc, l, h0, h1, hc, he, hI, hl, q => by simpa [compL] using q
  | x :: xs, acc, l, h0, h1, hc, he, hI, hl, q => by
    simp only [List.length_cons] at hl
    refine ⟨lx x, h0 x (by simp), ?_⟩
    show c d (lx x) (isB _) (fun _ _ => False) σ
    refine hc x (by simp) _ ?_
    have go := fun acc' => compLf_go (I := I) (t := t) (c := c) (elt := elt) (d := d) (Q := Q) (σ := σ) p g f lx xs acc' (lx x) (fun y hy => h1 y (by simp [hy]) x (by simp)) (fun y hy z hz => h1 y (by simp [hy]) z (by simp [hz])) (fun y hy => hc y (by simp [hy])) (fun y hy => he y (by simp [hy])) hI
    cases hp : p x with
    | true =>
      rw [if_pos rfl]
      refine he x (by simp) hp _ ⟨hI, by lia, go _ (by simp; lia) ?_⟩
      simpa [List.filter_cons, hp] using q
    | false =>
      rw [if_neg (by simp)]
      refine ⟨hI, go _ (by lia) ?_⟩
      simpa [List.filter_cons, hp] using q
theorem compLf_as {α : Type} {I : AHeap → Prop} {t : Tgt} {c elt : AE} {d : Nat} {Q : List AV → AHeap → Prop} {σ : AHeap} (xs : List α) (p : α → Bool) (g f : α → AV) (lx : α → Loc) {l : Loc} (h0 : ∀ x ∈ xs, bindT t (g x) l = some (lx x)) (h1 : ∀ x ∈ xs, ∀ y ∈ xs, bindT t (g x) (lx y) = some (lx x))
    (hc : ∀ x ∈ xs, ∀ R : Bool → AHeap → Prop, R (p x) σ → c d (lx x) (isB R) (fun _ _ => False) σ)
    (he : ∀ x ∈ xs, p x = true → ∀ R : Post, R (f x) σ → elt d (lx x) R (fun _ _ => False) σ) (hI : I σ) (hl : xs.length ≤ 1000000) (q : Q ((xs.filter p).map f) σ) : compL I t (some c) elt d Q (xs.map g) [] l σ :=
  compLf_go p g f lx xs [] l h0 h1 hc he hI (by simpa using hl) (by simpa using q)

theorem rdL_map {σ : AHeap} {α : Type} {f : α → AV} {g : α → PyData} (h : ∀ a, Rd σ (f a) (g a)) : ∀ l : List α, RdL σ (l.map f) (l.map g)
  | [] => .nil
  | a :: l => .cons (h a) (rdL_map h l)
theorem intL_eq (lo : Int) : ∀ n, intL lo n = (List.range n).map (fun i : Nat => AV.int (lo + i)) := by
  intro n
  first
    | rfl
    | (induction n generalizing lo with
       | zero => rfl
       | succ n ih => simp [intL, List.range_succ_eq_map, ih, Function.comp_def]; intros; lia)
theorem rngL_eq (n : Nat) : rngL 0 n = (List.range n).map (fun i : Nat => AV.int i) := by
  unfold rngL; rw [intL_eq]; simp
end Mine

set_option maxRecDepth 100000
set_option linter.unusedVariables false
set_option autoImplicit false
namespace Mine
open PySem

section
variable {X : Cx} {σ : AHeap} {Q : Post} {i j k : Int} {a b : AV} {xs ys : List AV} {p : Addr} {T : PyT} {R : List AV → Prop}

theorem d_int : DOk (.int i) ↔ True := by simp [DOk, PyData.canLay0, PyData.depth]
theorem d_str {s : Str} : DOk (.str s) ↔ PyData.strOk s = true := by simp [DOk, PyData.canLay0, PyData.depth]
theorem d_bank : PyData.strOk "bank" = true := by decide +kernel
theorem d_book : PyData.strOk "book" = true := by decide +kernel
theorem e_int : PyData.eqv (.int i) (.int j) = (i == j) := by simp [PyData.eqv]
theorem e_str {s t : Str} : PyData.eqv (.str s) (.str t) = (s == t) := by simp [PyData.eqv]

theorem at_nat {n : Nat} : atIdx xs (n : Int) = xs[n]? := by simp [atIdx]

theorem a_list (h : listAt p xs σ) : isA T (.ref p) σ = some (T == .list) := by rcases h with h | h <;> simp [isA, h]

end
end Mine
namespace Mine
open PySem
/-- more may stand -/
def Ext (σ σ' : AHeap) : Prop := ∀ a o, σ a = some o → σ' a = some o
theorem Ext.refl (σ : AHeap) : Ext σ σ := fun _ _ h => h
theorem Ext.trans {σ σ' σ'' : AHeap} (h : Ext σ σ') (h' : Ext σ' σ'') : Ext σ σ'' := fun a o e => h' a o (h a o e)
theorem Ext.set {σ : AHeap} {r : Addr} {o : AO} (h : σ r = none) : Ext σ (σ.set r o) := fun a o' e => by
  have : a ≠ r := by rintro rfl; rw [h] at e; cases e
  rw [AHeap.set_ne _ _ this]; exact e
theorem Ext.list {σ σ' : AHeap} (h : Ext σ σ') {p : Addr} {xs : List AV} (e : listAt p xs σ) : listAt p xs σ' := e.imp (h _ _) (h _ _)
theorem Ext.none {σ σ' : AHeap} (h : Ext σ σ') {p : Addr} (e : σ' p = none) : σ p = none := by
  cases q : σ p with
  | none => rfl
  | some o => rw [h _ _ q] at e; cases e
end Mine
namespace Mine
theorem al {Q : Post} {σ : AHeap} {xs : List AV} (h : ∀ σ' r, Ext σ σ' → σ r = none → σ' r = some (.list xs) → Q (.ref r) σ') : ∀ r, σ r = none → Q (.ref r) (σ.set r (.list xs)) := fun r hr => h _ r (Ext.set hr) hr (AHeap.set_self ..)
end Mine
namespace Mine
theorem alf {Q : Post} {σ : AHeap} {xs : List AV} (h : ∀ σ' r, Ext σ σ' → σ r = none → σ' r = some (.list xs) → Q (.ref r) σ') : A.fin Q xs σ := al h
end Mine
namespace Mine
open PySem
theorem addL_of {Q : Post} {σ : AHeap} {p q : Addr} {xs ys : List AV} (h1 : listAt p xs σ) (h2 : listAt q ys σ) (hl : xs.length + ys.length ≤ 1000000) (h : ∀ σ' r, Ext σ σ' → σ r = none → σ' r = some (.list (xs ++ ys)) → Q (.ref r) σ') : binA .Add (.ref p) (.ref q) Q σ := .addL h1 h2 hl (al h)
theorem list_of {Q : Post} {σ : AHeap} {p : Addr} {xs : List AV} (h1 : listAt p xs σ) (h : ∀ σ' r, Ext σ σ' → σ r = none → σ' r = some (.list xs) → Q (.ref r) σ') : pList [.ref p] Q σ := .list h1 (al h)
end Mine
namespace Mine
open PySem
theorem dok_list {ds : List PyData} (h : ∀ d ∈ ds, d.canLay0 = true ∧ d.depth ≤ 90) : DOk (.list ds) := by
  have : ∀ l : List PyData, (∀ d ∈ l, d.canLay0 = true ∧ d.depth ≤ 90) → PyData.canLayAll0 l = true ∧ PyData.depthAll l ≤ 90 := by
    intro l
    induction l with
    | nil => intro _; exact ⟨rfl, by simp [PyData.depthAll]⟩
    | cons x r ih =>
      intro h
      have h1 := h x (by simp)
      have h2 := ih fun d hd => h d (by simp [hd])
      simp only [PyData.canLayAll0, PyData.depthAll, Bool.and_eq_true]
      exact ⟨⟨h1.1, h2.1⟩, by lia⟩
  have := this ds h
  refine ⟨by simpa [PyData.canLay0] using this.1, ?_⟩
  simp only [PyData.depth]; lia
end Mine

set_option maxRecDepth 100000
set_option linter.unusedVariables false
set_option autoImplicit false
namespace Mine
open PySem

/-! one step of a body, each by a small lemma: the goal's head tells which -/
section
variable {X : Cx} {d : Nat} {l : Loc} {σ : AHeap} {Q : Post} {Z : XP} {S : SPost} {SZ : SXP} {x y : AE} {a b : AS} {i j k : Int} {n : Nat} {p : Addr} {xs ys : List AV} {v u : AV}

theorem q_nil (h : S .next l σ) : A.nil d l S SZ σ := h
theorem q_set (h : x d l (fun a σ' => S .next (l.set n (some a)) σ') (fun c σ' => SZ c l σ') σ) : A.set n x d l S SZ σ := h
theorem q_ret (h : x d l (fun a σ' => S (.ret a) l σ') (fun c σ' => SZ c l σ') σ) : A.ret x d l S SZ σ := h
theorem q_if (h : x d l (isB fun c σ' => if c then a d l S SZ σ' else b d l S SZ σ') (fun c σ' => SZ c l σ') σ) : A.if_ x a b d l S SZ σ := h
theorem q_isB {R : Bool → AHeap → Prop} {c : Bool} (h : R c σ) : isB R (.bool c) σ := ⟨c, rfl, h⟩
theorem q_loc (e : l.getD n none = some v) (h : Q v σ) : A.loc n d l Q Z σ := ⟨v, e, h⟩
theorem q_k (h : Q v σ) : A.k v d l Q Z σ := h
theorem q_idx (h : x d l (fun a σ1 => y d l (fun b σ2 => idxA X a b Q σ2) Z σ1) Z σ) : A.idx X x y d l Q Z σ := h
theorem q_cmp {ops : List (CmpOp × AE)} (h : x d l (fun a σ1 => A.chain X d l Q Z a ops σ1) Z σ) : A.cmp X x ops d l Q Z σ := h
theorem q_chain1 {op : CmpOp} (h : y d l (fun b σ1 => cmpA X op v b Q σ1) Z σ) : A.chain X d l Q Z v [(op, y)] σ := h
theorem q_lt (h : Q (.bool (decide (i < j))) σ) : cmpA X .Lt (.int i) (.int j) Q σ := .lt h
theorem q_eqI (h : Q (.bool (i == j)) σ) : cmpA X .Eq (.int i) (.int j) Q σ := .eq (.int _) (.int _) (d_int.mpr trivial) (d_int.mpr trivial) (by rw [e_int]; exact h)
theorem q_neI (h : Q (.bool (!(i == j))) σ) : cmpA X .NotEq (.int i) (.int j) Q σ := .ne (.int _) (.int _) (d_int.mpr trivial) (d_int.mpr trivial) (by rw [e_int]; exact h)
theorem q_eqS {s t : Str} (hs : PyData.strOk s = true) (ht : PyData.strOk t = true) (h : Q (.bool (s == t)) σ) : cmpA X .Eq (.str s) (.str t) Q σ := .eq (.str _) (.str _) (d_str.mpr hs) (d_str.mpr ht) (by rw [e_str]; exact h)
theorem q_tupIdx (e : atIdx xs k = some v) (h : Q v σ) : idxA X (.tup xs) (.int k) Q σ := .tup e h
theorem q_listIdx (hp : listAt p xs σ) (e : atIdx xs k = some v) (h : Q v σ) : idxA X (.ref p) (.int k) Q σ := .list hp e h
theorem q_prim {pr : Prim} {as : List AE} (h : evalL as d l (fun as σ' => pr as Q σ') Z σ) : A.prim pr as d l Q Z σ := h
theorem q_callF {f : Addr} {as : List AE} (h : evalL as d l (fun as σ' => CallOk X f d as Q Z σ') Z σ) : A.callF X f as d l Q Z σ := h
theorem q_ev0 {R : List AV → AHeap → Prop} (h : R [] σ) : evalL [] d l R Z σ := h
theorem q_ev1 {R : List AV → AHeap → Prop} {as : List AE} (h : x d l (fun a σ1 => evalL as d l (fun as σ2 => R (a :: as) σ2) Z σ1) Z σ) : evalL (x :: as) d l R Z σ := h
theorem q_tup {as : List AE} (h : evalL as d l (fun as σ' => as.length ≤ 1000000 ∧ Q (.tup as) σ') Z σ) : A.tup as d l Q Z σ := h
theorem q_bin {op : Operator} (h : x d l (fun a σ1 => y d l (fun b σ2 => binA op a b Q σ2) Z σ1) Z σ) : A.bin op x y d l Q Z σ := h
theorem q_add (h : Q (.int (i + j)) σ) : binA .Add (.int i) (.int j) Q σ := .add h
theorem q_sub (h : Q (.int (i - j)) σ) : binA .Sub (.int i) (.int j) Q σ := .sub h
theorem q_div (h0 : j ≠ 0) (h1 : j.natAbs < 1073741824) (h : Q (.int (i.fdiv j)) σ) : binA .FloorDiv (.int i) (.int j) Q σ := .div h0 h1 h
theorem q_mod (h0 : j ≠ 0) (h : Q (.int (i.fmod j)) σ) : binA .Mod (.int i) (.int j) Q σ := .mod h0 h
theorem q_lenT (h : Q (.int xs.length) σ) : pLen [.tup xs] Q σ := .tup h
theorem q_lenL (hp : listAt p xs σ) (h : Q (.int xs.length) σ) : pLen [.ref p] Q σ := .list hp h
theorem q_rng1 (h : Q (.rng 0 i) σ) : pRange [.int i] Q σ := .one h
theorem q_isa {T : PyT} (h : x d l (fun a σ1 => pIsA T a Q σ1) Z σ) : A.isa T x d l Q Z σ := h
theorem q_pisa {T : PyT} {c : Bool} (e : isA T v σ = some c) (h : Q (.bool c) σ) : pIsA T v Q σ := ⟨c, e, h⟩
end
end Mine
namespace Mine
open PySem
section
variable {X : Cx} {d : Nat} {l : Loc} {σ : AHeap} {Q : Post} {Z : XP} {x y : AE} {i j : Int} {v : AV}
theorem q_not (h : x d l (fun a σ1 => ∃ b, a = .bool b ∧ Q (.bool (!b)) σ1) Z σ) : A.not_ x d l Q Z σ := h
theorem q_and {r : List AE} (h : x d l (fun a σ1 => ∃ b, a = .bool b ∧ if b then andL (y :: r) d l Q Z σ1 else Q (.bool false) σ1) Z σ) : andL (x :: y :: r) d l Q Z σ := h
theorem q_and1 (h : x d l Q Z σ) : andL [x] d l Q Z σ := h
theorem q_or {r : List AE} (h : x d l (fun a σ1 => ∃ b, a = .bool b ∧ if b then Q (.bool true) σ1 else orL (y :: r) d l Q Z σ1) Z σ) : orL (x :: y :: r) d l Q Z σ := h
theorem q_or1 (h : x d l Q Z σ) : orL [x] d l Q Z σ := h
theorem q_exB {R : Bool → Prop} {c : Bool} (h : R c) : ∃ b, AV.bool c = .bool b ∧ R b := ⟨c, rfl, h⟩
theorem q_exI {R : Int → Prop} (h : R i) : ∃ b, AV.int i = .int b ∧ R b := ⟨i, rfl, h⟩
end
end Mine
namespace Mine
open PySem
end Mine
namespace Mine
open PySem
section
variable {X : Cx} {d : Nat} {l : Loc} {σ : AHeap} {Q : Post} {Z : XP} {S : SPost} {SZ : SXP} {x y : AE} {i j : Int} {p : Addr} {xs ys : List AV} {u v : AV} {t : Tgt} {k : Nat} {c : Option AE} {b : AS}
  {m : Nat → Loc → (AHeap → (AHeap → Prop) → List AV → Prop) → XP → AHeap → Prop} {K : AHeap → (AHeap → Prop) → List AV → Prop} {R : (AHeap → Prop) → List AV → Prop}
theorem q_lc (h : m d l (fun σ1 I xs => compL I t c x d (A.fin Q) xs [] (l ++ List.replicate k none) σ1) Z σ) : A.lc m t k c x d l Q Z σ := h
theorem q_fr (h : m d l (fun σ1 I xs => forL I t b d S xs l σ1) (fun c σ' => SZ c l σ') σ) : A.fr m t b d l S SZ σ := h
theorem q_itP (h : x d l (fun v σ1 => itemsA v σ1 fun I xs => K σ1 I xs) Z σ) : A.itP x d l K Z σ := h
theorem q_itE (h : x d l (fun v σ1 => ∃ p xs, v = .ref p ∧ listAt p xs σ1 ∧ K σ1 (listAt p xs) (enumL 0 xs)) Z σ) : A.itE x d l K Z σ := h
theorem q_exE {W : Addr → List AV → Prop} (hp : listAt p xs σ) (h : W p xs) : ∃ p' xs', AV.ref p = .ref p' ∧ listAt p' xs' σ ∧ W p' xs' := ⟨p, xs, rfl, hp, h⟩
theorem q_itemsL (hp : listAt p xs σ) (h : R (listAt p xs) xs) : itemsA (.ref p) σ R := ⟨xs, hp, h⟩
theorem q_itemsT (h : R (fun _ => True) xs) : itemsA (.tup xs) σ R := h
theorem q_itemsR {n : Nat} (hn : n < 1000000000000) (h : R (fun _ => True) ((List.range n).map fun i : Nat => AV.int i)) : itemsA (.rng 0 n) σ R := by
  rw [← rngL_eq] at h; exact ⟨by lia, by lia, by lia, by lia, h⟩
theorem q_mulL (hm : i.natAbs < 2 ^ 60) (h : Q (.int (i * j)) σ) : binA .Mult (.int i) (.int j) Q σ := .mul (.inl hm) h
theorem q_isaL {T : PyT} (hp : listAt p xs σ) (h : Q (.bool (T == .list)) σ) : pIsA T (.ref p) Q σ := ⟨_, a_list hp, h⟩
theorem q_neD {x y : PyData} (hx : Rd σ u x) (hy : Rd σ v y) (ox : DOk x) (oy : DOk y) (h : Q (.bool (!PyData.eqv x y)) σ) : cmpA X .NotEq u v Q σ := .ne hx hy ox oy h
theorem q_eqD {x y : PyData} (hx : Rd σ u x) (hy : Rd σ v y) (ox : DOk x) (oy : DOk y) (h : Q (.bool (PyData.eqv x y)) σ) : cmpA X .Eq u v Q σ := .eq hx hy ox oy h
theorem q_neSame {x : PyData} (hx : Rd σ u x) (hy : Rd σ v x) (ox : DOk x) (h : Q (.bool false) σ) : cmpA X .NotEq u v Q σ := .ne hx hy ox ox (by rw [PySem.SeqAt.eqv_refl _ ox.1]; exact h)
theorem q_isNone (h : Q (.bool u.isNone) σ) : cmpA X .Is u .none Q σ := .is h
theorem q_isNotNone (h : Q (.bool (!u.isNone)) σ) : cmpA X .IsNot u .none Q σ := .isNot h
end
end Mine
namespace Mine
open PySem
/-- branches that meet again: what stands where they meet -/
theorem q_ifJ {d : Nat} {l : Loc} {σ : AHeap} {S : SPost} {SZ : SXP} {x : AE} {a b : AS} (J : Loc → AHeap → Prop) (h2 : ∀ S' : SPost, (∀ v l' σ', S (.ret v) l' σ' → S' (.ret v) l' σ') → (∀ l' σ', J l' σ' → S' .next l' σ') →
    x d l (isB fun c σ' => if c then a d l S' SZ σ' else b d l S' SZ σ') (fun c σ' => SZ c l σ') σ) (h1 : ∀ l' σ', J l' σ' → S .next l' σ') : A.if_ x a b d l S SZ σ := h2 S (fun _ _ _ h => h) h1
end Mine
namespace Mine
theorem q_tl {n : Nat} {A : Prop} (hn : Nat.ble n 1000000 = true) (h : A) : n ≤ 1000000 ∧ A := ⟨Nat.le_of_ble_eq_true hn, h⟩
end Mine
namespace Mine
open PySem
/-- what follows, sealed -/
structure KN (S' : SPost) (b : AS) (d : Nat) (S : SPost) (SZ : SXP) : Prop where
  next : ∀ l' σ', b d l' S SZ σ' → S' .next l' σ'
  ret : ∀ v l' σ', S (.ret v) l' σ' → S' (.ret v) l' σ'
section
variable {d : Nat} {l : Loc} {σ : AHeap} {S S' : SPost} {SZ : SXP} {a b : AS} {v : AV}
theorem q_consO (h : ∀ S' : SPost, KN S' b d S SZ → a d l S' SZ σ) : A.cons a b d l S SZ σ := h (fun f l' σ' => match f with | .next => b d l' S SZ σ' | .ret v => S (.ret v) l' σ') ⟨fun _ _ h => h, fun _ _ _ h => h⟩
theorem q_next (k : KN S' b d S SZ) (h : b d l S SZ σ) : S' .next l σ := k.next _ _ h
theorem q_retK (k : KN S' b d S SZ) (h : S (.ret v) l σ) : S' (.ret v) l σ := k.ret _ _ _ h
end
end Mine
namespace Mine
theorem q_ifTc {c : Bool} {A B : Prop} (e : c = true) (h : A) : if c = true then A else B := by rw [if_pos e]; exact h
theorem q_ifFc {c : Bool} {A B : Prop} (e : c = false) (h : B) : if c = true then A else B := by rw [if_neg (by simp [e])]; exact h
end Mine

set_option maxRecDepth 100000
set_option linter.unusedVariables false
set_option autoImplicit false
namespace Mine
open PySem PyProof.Rows PySem.SeqAt PySem.MeetsSeq

/-- methods of lists: the list's place, the arguments -/
abbrev MPrim := Addr → List AV → Post → AHeap → Prop
def SoundMeth (X : Cx) (id : String) (m : MPrim) : Prop :=
  ∀ d A σ s p as vs Q E, Live d A → At X σ s → RepVs s.heap as vs → m p as Q σ → wpAny X.M A (PySem.call (.builtin id) (.ref p :: vs)) (liftQ X σ s Q) E s

def AV.noRef : AV → Bool
  | .none => true
  | .bool _ => true
  | .int _ => true
  | .str _ => true
  | _ => false
namespace A
def meth (m : MPrim) (x : AE) (args : List AE) : AE := fun d l Q Z σ => x d l (fun r σ1 => ∃ p xs, r = .ref p ∧ σ1 p = some (.list xs) ∧ evalL args d l (fun as σ2 => m p as Q σ2) Z σ1) Z σ
/-- an expression as a statement -/
def ex (x : AE) : AS := fun d l S SZ σ => x d l (fun v σ' => v.noRef = true ∧ S .next l σ') (fun c σ' => SZ c l σ') σ
end A

section
variable {X : Cx} {env : Env} {nm : List (Str × Nat)}

theorem sound_meth {o : Expr} {name : Str} {id : String} {x : AE} {es : List Expr} {ms : List AE} {m : MPrim} {apos pos : Pos} (slot : Slot "list" name id) (hty : typeOf (.builtin id) = pure (.type "method_descriptor")) (hm : SoundMeth X id m)
    (hb : ∀ e, attributeBase o name e (eval o e) = eval o e) (hl : (apos.endLine == pos.line) = true) (hn : decide (es.length < 30) = true) (hx : SoundE X env nm o x) (h : SoundEs X env nm es ms) :
    SoundE X env nm (.Call (.Attribute o name apos) es [] pos) (A.meth m x ms) := fun d A l σ s Q Z L a F q => by
  refine wpAny_Call_method (hb env) ?_ hl PySem.F.plainAttrs_list slot hty ?_
  · have h1 : (backTo pos (starEach es env)).all (fun x => !x.1) = true := by
      rw [List.all_eq_not_any_not]
      simp only [Bool.not_not]
      rw [h.plain]; rfl
    rw [h1]
    show (true && true && decide (es.length + 0 + 0 < 30)) = true
    simpa using hn
  refine wpAny_mono (hx d A l σ s _ _ L a F q) (fun v s1 ⟨av, σ1, r, a1, st, p, xs, e, hp, q1⟩ => ?_) fun _ _ x => x
  subst e; cases r
  obtain ⟨vs, n, ho, _⟩ := a1.rep _ _ hp
  refine ⟨⟨_, ho, rfl⟩, fun b e => by cases e; exact ⟨_, ho, rfl⟩, ?_⟩
  refine Calls.callWith_builtin h.plain (wpAny_mono (sound_args h L a1 (F.step a st) q1 fun vs s2 ⟨avs, σ2, r2, a2, st2, q2⟩ => ?_) (fun _ _ x => x) fun _ _ x => x.back st)
  exact backQ (st.trans st2) (hm d A σ2 s2 p avs vs Q _ L a2 r2 q2)

theorem sound_ex {e : Expr} {pos : Pos} {m : AE} (EO : EnvOk env) (h : SoundE X env nm e m) (hs : swapsWith e none pos.line env = pure false) : SoundS X env nm (.Expr e pos) (A.ex m) := fun d A l σ s Q Z L a F q =>
  wpAny_Expr (wpAny_mono (h d A l σ s _ _ L a F q) (fun v s1 ⟨av, σ1, r, a1, st, hn, q1⟩ => by
    have fin : liftS X env nm σ s Q .next s1 := ⟨.next, l, σ1, trivial, a1, F.step a st, st.weaken FB.of_e0, q1⟩
    cases r with
    | none => exact fin
    | bool => exact fin
    | int => exact fin
    | str => exact fin
    | tup => cases hn
    | ref => cases hn
    | rng => cases hn
    | exc => cases hn) fun _ _ x => x.toS a F) (by unfold interactive; rw [EO.kind]; rfl) hs

inductive mAppend : Addr → List AV → Post → AHeap → Prop
  | mk {p : Addr} {v : AV} {xs : List AV} {Q : Post} {σ : AHeap} (hp : σ p = some (.list xs)) (hl : xs.length < 1000000) (h : Q .none (σ.set p (.list (xs ++ [v])))) : mAppend p [v] Q σ
inductive mPop : Addr → List AV → Post → AHeap → Prop
  | last {p : Addr} {xs : List AV} {x : AV} {Q : Post} {σ : AHeap} (hp : σ p = some (.list (xs ++ [x]))) (h : Q x (σ.set p (.list xs))) : mPop p [] Q σ
  | nth {p : Addr} {k : Int} {n : Nat} {xs : List AV} {x : AV} {Q : Post} {σ : AHeap} (hk : k = n) (hp : σ p = some (.list xs)) (hx : xs[n]? = some x) (h : Q x (σ.set p (.list (xs.eraseIdx n)))) : mPop p [.int k] Q σ

theorem RepVs.eraseIdx {h : Heap} : ∀ {xs vs}, RepVs h xs vs → ∀ n, RepVs h (xs.eraseIdx n) (vs.eraseIdx n)
  | _, _, .nil, n => .nil
  | _, _, .cons _ r, 0 => r
  | _, _, .cons a r, n + 1 => .cons a (r.eraseIdx n)

theorem isL_upd {h : Heap} {p : Addr} {us ws : List Value} {n : Nat} (ho : h.get? p = some (listObj us n)) (f : Array Value → Array Value) (e : f us.toArray = ws.toArray) : ∃ n', (h.update p (Obj.mapSeq f)).get? p = some (listObj ws n') := by
  have := IsL.update ho f
  rw [e] at this
  exact ⟨_, this⟩

theorem sound_append : SoundMeth X "list.append" mAppend := fun d A σ s p as vs Q E L a r q => by
  cases q with
  | @mk v0 xs _ _ hp hl q =>
    obtain ⟨v, rfl, rv⟩ := repVs1 r
    obtain ⟨us, n, ho, ru, _⟩ := a.rep _ _ hp
    have hsz : us.toArray.size ≤ sizeLine := by rw [List.size_toArray, ← ru.length, sizeLine_eq]; lia
    refine call_meets PySem.F.slot_list_append ⟨_, ho, rfl⟩ PySem.F.entry_list_append (PySem.F.args_list_append_2 _ _) (list_append p us.toArray n v hsz) ⟨ho, ?_⟩
    have hs : Heap.SameBut p s.heap (s.heap.update p (Obj.mapSeq fun x => x.push v)) := Heap.SameBut.update ..
    obtain ⟨n', hn'⟩ := isL_upd (ws := us ++ [v]) ho (fun x => x.push v) (by simp)
    exact ⟨.none, _, .none, a.store (ao := .list (xs ++ [v0])) (t := s.toks) hp rfl hs fun kv => ⟨us ++ [v], n', hn', (ru.mono kv).append (.cons (rv.mono kv) .nil), by rw [List.length_append]; exact hl⟩, Step.store (t := s.toks) hp hs, q⟩

end
end Mine
namespace Mine
open PySem PyProof.Rows PySem.SeqAt
section
variable {X : Cx} {env : Env} {nm : List (Str × Nat)} {names : List (Str × NameKind)} {o : Expr} {x : AE} {es : List Expr} {ms : List AE} {apos pos : Pos}
theorem w_append (hb : ∀ e, attributeBase o "append" e (eval o e) = eval o e) (hl : (apos.endLine == pos.line) = true) (hn : decide (es.length < 30) = true) (hx : SoundE X env nm o x) (h : SoundEs X env nm es ms) :
    SoundE X env nm (.Call (.Attribute o "append" apos) es [] pos) (A.meth mAppend x ms) := sound_meth PySem.F.slot_list_append PySem.F.type_list_append sound_append hb hl hn hx h
theorem w_ex {e : Expr} {m : AE} (E : EK env names) (h : SoundE X env nm e m) (hs : swapsWith e none pos.line env = pure false) : SoundS X env nm (.Expr e pos) (A.ex m) := sound_ex E.eo h hs
end
section
variable {d : Nat} {l : Loc} {σ : AHeap} {Q : Post} {Z : XP} {S : SPost} {SZ : SXP} {x : AE} {p : Addr} {xs : List AV} {v : AV} {m : MPrim} {as : List AE}
theorem q_ex (h : x d l (fun v σ' => v.noRef = true ∧ S .next l σ') (fun c σ' => SZ c l σ') σ) : A.ex x d l S SZ σ := h
theorem q_meth (h : x d l (fun r σ1 => ∃ p xs, r = .ref p ∧ σ1 p = some (.list xs) ∧ evalL as d l (fun as σ2 => m p as Q σ2) Z σ1) Z σ) : A.meth m x as d l Q Z σ := h
theorem q_exM {R : Addr → Prop} (hp : σ p = some (.list xs)) (h : R p) : ∃ p' xs', AV.ref p = .ref p' ∧ σ p' = some (.list xs') ∧ R p' := ⟨p, xs, rfl, hp, h⟩
theorem q_app (hp : σ p = some (.list xs)) (hl : xs.length < 1000000) (h : Q .none (σ.set p (.list (xs ++ [v])))) : mAppend p [v] Q σ := .mk hp hl h
theorem q_nr {A : Prop} (h : A) : AV.noRef .none = true ∧ A := ⟨rfl, h⟩
theorem q_lst (h : evalL as d l (fun as σ' => as.length ≤ 1000000 ∧ A.fin Q as σ') Z σ) : A.lst as d l Q Z σ := h
end
end Mine

set_option maxRecDepth 100000
set_option linter.unusedVariables false
set_option autoImplicit false
namespace Mine
open PySem PyProof.Rows PySem.SeqAt

inductive pMax : List AV → Post → AHeap → Prop
  | two {a b : Int} {Q : Post} {σ : AHeap} (h : Q (.int (max a b)) σ) : pMax [.int a, .int b] Q σ
  | list {p : Addr} {ns : List Int} {Q : Post} {σ : AHeap} (hp : listAt p (ns.map .int) σ) (hn : ns ≠ []) (h : ∀ M, M ∈ ns → (∀ a ∈ ns, a ≤ M) → Q (.int M) σ) : pMax [.ref p] Q σ
inductive pMin : List AV → Post → AHeap → Prop
  | two {a b : Int} {Q : Post} {σ : AHeap} (h : Q (.int (min a b)) σ) : pMin [.int a, .int b] Q σ
  | list {p : Addr} {ns : List Int} {Q : Post} {σ : AHeap} (hp : listAt p (ns.map .int) σ) (hn : ns ≠ []) (h : ∀ M, M ∈ ns → (∀ a ∈ ns, M ≤ a) → Q (.int M) σ) : pMin [.ref p] Q σ
inductive pSum : List AV → Post → AHeap → Prop
  | list {p : Addr} {ns : List Int} {Q : Post} {σ : AHeap} (hp : listAt p (ns.map .int) σ) (hf : PySem.SumFits ns) (h : Q (.int ns.sum) σ) : pSum [.ref p] Q σ
inductive pTuple : List AV → Post → AHeap → Prop
  | list {p : Addr} {xs : List AV} {Q : Post} {σ : AHeap} (hp : listAt p xs σ) (h : Q (.tup xs) σ) : pTuple [.ref p] Q σ

section
variable {X : Cx} {σ : AHeap} {s : Shared}

theorem At.grown (a : At X σ s) {h' : Heap} {t : Nat} (hk : ∀ b o, s.heap.get? b = some o → h'.get? b = some o) : At X σ { s with heap := h', toks := t } :=
  ⟨fun b o e => hk b o (a.keep b o e), fun b ao e => (a.rep b ao e).mono (fun b o e _ => hk b o e) fun o ho => hk b o ho, a.own, a.gens, a.os⟩
theorem Step.grown {B : Addr → Prop} {h' : Heap} {t : Nat} (hk : ∀ b o, s.heap.get? b = some o → h'.get? b = some o) (hsz : s.heap.objs.size ≤ h'.objs.size) : Step B σ s σ { s with heap := h', toks := t } :=
  ⟨fun b o e _ _ => hk b o e, fun _ h1 h2 => absurd h2 h1, hsz⟩
theorem repVs_ints {h : Heap} : ∀ {ns : List Int} {vs : List Value}, RepVs h (ns.map .int) vs → ∃ xs : List (Int × Tok), vs.toArray = intItems xs.toArray ∧ xs.map (·.1) = ns
 := by
  intro ns
  induction ns with
  | nil => intro vs r; cases r; exact ⟨[], by simp [intItems], rfl⟩
  | cons n ns ih =>
    intro vs r
    rw [List.map_cons] at r
    cases r with
    | cons a r =>
      cases a with
      | int _ t =>
        obtain ⟨xs, e1, e2⟩ := ih r
        refine ⟨(n, t) :: xs, ?_, by simp [e2]⟩
        simp [intItems] at e1 ⊢; exact e1

theorem sound_max : SoundPrim X (.builtin "max") pMax := fun d A σ s as vs Q E L a r q => by
  cases q with
  | @two i j _ _ q =>
    obtain ⟨v, w, rfl, rv, rw_⟩ := repVs2 r
    cases rv; cases rw_
    refine with_size (max_two_ints L.handled fun h' tk hk hsz => ?_)
    by_cases h : j > i
    · rw [if_pos h]; rw [Int.max_eq_right (by omega)] at q; exact ⟨_, σ, .int _ _, a.grown hk, .grown hk hsz, q⟩
    · rw [if_neg h]; rw [Int.max_eq_left (by omega)] at q; exact ⟨_, σ, .int _ _, a.grown hk, .grown hk hsz, q⟩
  | @list p ns _ _ hp hne q =>
    obtain ⟨v, rfl, rv⟩ := repVs1 r
    cases rv
    obtain ⟨us, hl, rs⟩ := a.isList hp
    obtain ⟨xs, e1, e2⟩ := repVs_ints rs
    rw [e1] at hl
    have hx : 0 < xs.length := by rw [← e2] at hne; cases xs <;> simp_all
    refine with_size (max_intList L.handled hl (by simpa using hx) fun v h' tk hv hk hsz => ?_)
    obtain ⟨t, rfl⟩ := intItems_at hv
    obtain ⟨h1, h2⟩ := argBest_gt (numAt xs.toArray) (xs.toArray.size - 1)
    have e3 : (xs.toArray.toList.map (·.1)) = ns := e2
    refine ⟨_, σ, .int _ _, a.grown hk, .grown hk hsz, q _ ?_ fun b hb => ?_⟩
    · rw [numAt_eq, e3]; exact PySem.getD_mem (by rw [← e3, List.length_map, Array.length_toList]; simp at h1 ⊢; omega)
    · rw [← e3] at hb
      obtain ⟨j, hj, rfl⟩ := PySem.mem_getD hb
      rw [List.length_map, Array.length_toList] at hj
      rw [← numAt_eq]; exact h2 j (by omega)
theorem sound_min : SoundPrim X (.builtin "min") pMin := fun d A σ s as vs Q E L a r q => by
  cases q with
  | @two i j _ _ q =>
    obtain ⟨v, w, rfl, rv, rw_⟩ := repVs2 r
    cases rv; cases rw_
    refine with_size (min_two_ints L.handled fun h' tk hk hsz => ?_)
    by_cases h : j < i
    · rw [if_pos h]; rw [Int.min_eq_right (by omega)] at q; exact ⟨_, σ, .int _ _, a.grown hk, .grown hk hsz, q⟩
    · rw [if_neg h]; rw [Int.min_eq_left (by omega)] at q; exact ⟨_, σ, .int _ _, a.grown hk, .grown hk hsz, q⟩
  | @list p ns _ _ hp hne q =>
    obtain ⟨v, rfl, rv⟩ := repVs1 r
    cases rv
    obtain ⟨us, hl, rs⟩ := a.isList hp
    obtain ⟨xs, e1, e2⟩ := repVs_ints rs
    rw [e1] at hl
    have hx : 0 < xs.length := by rw [← e2] at hne; cases xs <;> simp_all
    refine with_size (min_intList L.handled hl (by simpa using hx) fun v h' tk hv hk hsz => ?_)
    obtain ⟨t, rfl⟩ := intItems_at hv
    obtain ⟨h1, h2⟩ := argBest_lt (numAt xs.toArray) (xs.toArray.size - 1)
    have e3 : (xs.toArray.toList.map (·.1)) = ns := e2
    refine ⟨_, σ, .int _ _, a.grown hk, .grown hk hsz, q _ ?_ fun b hb => ?_⟩
    · rw [numAt_eq, e3]; exact PySem.getD_mem (by rw [← e3, List.length_map, Array.length_toList]; simp at h1 ⊢; omega)
    · rw [← e3] at hb
      obtain ⟨j, hj, rfl⟩ := PySem.mem_getD hb
      rw [List.length_map, Array.length_toList] at hj
      rw [← numAt_eq]; exact h2 j (by omega)
theorem sound_tuple : SoundPrim X (.type "tuple") pTuple := fun d A σ s as vs Q E L a r q => by
  cases q with
  | @list p xs _ _ hp q =>
    obtain ⟨v, rfl, rv⟩ := repVs1 r
    cases rv
    obtain ⟨us, hl, rs⟩ := a.isList hp
    have hm := a.len hp
    refine with_size (call_tuple_list hl (fun h' hk hsz => ?_) (by rw [List.size_toArray, ← rs.length, sizeLine_eq]; omega))
    have hk' : ∀ b o, s.heap.get? b = some o → (h'.push { cls := .type "tuple", data := .seq us.toArray }).get? b = some o := fun b o e => Heap.get?_push_of_some _ (hk b o e)
    refine ⟨.tup xs, σ, .tup hm ⟨_, Heap.get?_push_size _ rfl, rfl, 0, rfl⟩ (rs.mono fun b o e _ => hk' b o e), a.grown (t := s.toks) hk', .grown (t := s.toks) hk' hsz, q⟩
end
end Mine
namespace Mine
open PySem PyProof.Rows PySem.SeqAt PySem.W
section
variable {σ : AHeap} {Q : Post} {i j : Int} {p : Addr} {xs : List AV} {ns : List Int}
theorem q_max2 (h : Q (.int (max i j)) σ) : pMax [.int i, .int j] Q σ := .two h
theorem q_minL (hp : listAt p (ns.map .int) σ) (hn : ns ≠ []) (h : ∀ M, M ∈ ns → (∀ a ∈ ns, M ≤ a) → Q (.int M) σ) : pMin [.ref p] Q σ := .list hp hn h
theorem q_tupL (hp : listAt p xs σ) (h : Q (.tup xs) σ) : pTuple [.ref p] Q σ := .list hp h
end
end Mine
namespace Mine
open PySem PyProof.Rows PySem.SeqAt
section
variable {X : Cx} {σ : AHeap} {Q : Post} {k : Int} {p : Addr} {xs : List AV} {v x : AV} {α : Type} {ns : List α} {f : α → AV}
theorem q_lenTM (h : Q (.int ns.length) σ) : pLen [.tup (ns.map f)] Q σ := q_lenT (by rw [List.length_map]; exact h)
theorem q_lenLM (hp : listAt p (ns.map f) σ) (h : Q (.int ns.length) σ) : pLen [.ref p] Q σ := q_lenL hp (by rw [List.length_map]; exact h)
end
theorem forL_at {I : AHeap → Prop} {t : Tgt} {body : AS} {d : Nat} {S : SPost} (xs : List AV) (J : Nat → Loc → AHeap → Prop)
    (step : ∀ k x l σ (K : Loc → AHeap → Prop), xs[k]? = some x → J k l σ → (∀ l' σ', J (k + 1) l' σ' → K l' σ') →
      ∃ l', bindT t x l = some l' ∧ body d l' (fun f l'' σ' => match f with | .next => I σ' ∧ K l'' σ' | .ret v => S (.ret v) l'' σ') (fun _ _ _ => False) σ)
    (fin : ∀ l σ, J xs.length l σ → S .next l σ) {l : Loc} {σ : AHeap} (h : J 0 l σ) : forL I t body d S xs l σ := by
  refine forL_of (fun ys l σ => ∃ k, k ≤ xs.length ∧ ys = xs.drop k ∧ J k l σ) ?_ ?_ _ _ _ ⟨0, Nat.zero_le _, rfl, h⟩
  · rintro x ys l σ K ⟨k, hk, hy, hJ⟩ hK
    have h1 : xs[k]? = some x := by
      have := congrArg List.head? hy
      rw [List.head?_drop] at this; exact this.symm
    have h2 : ys = xs.drop (k + 1) := by
      have := congrArg List.tail hy
      rw [List.tail_drop] at this; exact this
    have h3 : k < xs.length := (List.getElem?_eq_some_iff.mp h1).1
    exact step k x l σ K h1 hJ fun l' σ' hJ' => hK l' σ' ⟨k + 1, h3, h2, hJ'⟩
  · rintro l σ ⟨k, hk, hy, hJ⟩
    have : k = xs.length := by
      have := congrArg List.length hy
      rw [List.length_drop] at this; simp at this; omega
    subst this; exact fin l σ hJ
theorem forL_range {I : AHeap → Prop} {t : Tgt} {body : AS} {d : Nat} {S : SPost} {n : Nat} (J : Nat → Loc → AHeap → Prop)
    (step : ∀ k l σ (K : Loc → AHeap → Prop), k < n → J k l σ → (∀ l' σ', J (k + 1) l' σ' → K l' σ') →
      ∃ l', bindT t (.int k) l = some l' ∧ body d l' (fun f l'' σ' => match f with | .next => I σ' ∧ K l'' σ' | .ret v => S (.ret v) l'' σ') (fun _ _ _ => False) σ)
    (fin : ∀ l σ, J n l σ → S .next l σ) {l : Loc} {σ : AHeap} (h : J 0 l σ) : forL I t body d S ((List.range n).map fun i : Nat => AV.int i) l σ := by
  refine forL_at _ J (fun k x l σ K hx hJ hK => ?_) (fun l σ hJ => fin l σ (by simpa using hJ)) h
  rw [List.getElem?_map] at hx
  obtain ⟨y, hy, rfl⟩ := Option.map_eq_some_iff.mp hx
  obtain ⟨h1, h2⟩ := List.getElem?_eq_some_iff.mp hy
  rw [List.length_range] at h1
  rw [List.getElem_range] at h2
  subst h2
  exact step k l σ K h1 hJ hK
/-- what a comprehension gives may differ in the heap: it is the same all the way -/
theorem compL_map {α : Type} {I : AHeap → Prop} {t : Tgt} {elt : AE} {d : Nat} {Q : List AV → AHeap → Prop} {σ : AHeap} (xs : List α) (g f : α → AV) (lx : α → Loc) {l : Loc} (h0 : ∀ x, bindT t (g x) l = some (lx x)) (h1 : ∀ x y, bindT t (g x) (lx y) = some (lx x))
    (he : ∀ x ∈ xs, ∀ R : Post, R (f x) σ → elt d (lx x) R (fun _ _ => False) σ) (hI : I σ) (hl : xs.length ≤ 1000000) (q : Q (xs.map f) σ) : compL I t none elt d Q (xs.map g) [] l σ :=
  compL_as xs g f lx (fun x _ => h0 x) (fun x _ y _ => h1 x y) he hI hl q
end Mine
namespace Mine
open PySem
inductive All2 {α β : Type} (R : α → β → Prop) : List α → List β → Prop
  | nil : All2 R [] []
  | cons {a b as bs} : R a b → All2 R as bs → All2 R (a :: as) (b :: bs)
theorem All2.length {α β : Type} {R : α → β → Prop} : ∀ {as bs}, All2 R as bs → as.length = bs.length
  | _, _, .nil => rfl
  | _, _, .cons _ r => by simp [r.length]
end Mine
namespace Mine
open PySem PyProof.Rows PySem.SeqAt
/-- list(range(n)) -/
inductive pListR : List AV → Post → AHeap → Prop
  | mk {k : Nat} {Q : Post} {σ : AHeap} (hk : k ≤ 1000000) (h : A.fin Q ((List.range k).map fun i : Nat => .int i) σ) : pListR [.rng 0 k] Q σ
end Mine
namespace Mine
open PySem
section
variable {X : Cx} {d : Nat} {l : Loc} {σ : AHeap} {Q : Post} {Z : XP} {x : AE} {lo hi : Option AE} {p : Addr} {xs : List AV} {i j : Option Int} {R : Option Int → AHeap → Prop}
theorem q_slice (h : x d l (fun a σ1 => A.opt lo d l (fun i σ2 => A.opt hi d l (fun j σ3 => sliceA a i j Q σ3) Z σ2) Z σ1) Z σ) : A.slice x lo hi d l Q Z σ := h
theorem q_optN (h : R none σ) : A.opt none d l R Z σ := h
theorem q_optS (h : x d l (fun v σ' => ∃ i, v = .int i ∧ R (some i) σ') Z σ) : A.opt (some x) d l R Z σ := h
theorem q_slL (hp : listAt p xs σ) (h : A.fin Q (cut xs i j) σ) : sliceA (.ref p) i j Q σ := ⟨xs, hp, h⟩
theorem q_slT {k : Nat} (h1 : 1 ≤ k) (h2 : k ≤ xs.length) (h : Q (.tup (xs.drop k)) σ) : sliceA (.tup xs) (some (k : Int)) none Q σ := ⟨k, rfl, rfl, h1, h2, h⟩
end
theorem rd_ints {σ : AHeap} {p : Addr} {ns : List Int} (h : listAt p (ns.map .int) σ) : Rd σ (.ref p) (.list (ns.map .int)) := .list h (rdL_map (fun i => .int i) _)
theorem dok_ints (ns : List Int) : DOk (.list (ns.map .int)) := dok_list fun d hd => by
  obtain ⟨i, _, rfl⟩ := List.mem_map.mp hd
  exact ⟨by simp [PyData.canLay0], by simp [PyData.depth]⟩
theorem eqv_nilL (ds : List PyData) : PyData.eqv (.list ds) (.list []) = ds.isEmpty := by
  cases ds <;> simp [PyData.eqv, PyData.eqvAll]
end Mine

set_option maxRecDepth 100000
set_option linter.unusedVariables false
set_option autoImplicit false
namespace Mine
open PySem PyProof.Rows PySem.SeqAt PySem.W PySem.Spec

theorem intsRep {h : Heap} : ∀ {vs : List Value} {ns : List Int}, IntsAre vs ns → RepVs h (ns.map AV.int) vs := by
  intro vs ns hi
  induction hi with
  | nil => exact .nil
  | cons _ _ _ ih => exact .cons (.int _ _) ih

theorem head_of {prog : Program} {w : World} {s₁ : Shared} {mg mb : Str → Option Value} {K : Frag} {c : ClaimW} {cl : Str → Option Addr} {mean : ExcName → Option Value} {args : List WData} {l fa : Addr} {vs : List Value} {ns : List Int}
    (G : Gd ⟨prog, w, s₁.heap, s₁.os, mg, mb⟩ K) (hl : s₁.heap.IsList l vs.toArray) (hi : IntsAre vs ns) (hlen : ns.length ≤ 1000000) (hg : s₁.gens = #[]) (hr : ∀ cls, c.raises args cls = false) (hpost : c.post args (.bool true) args = true)
    (hcall : ∀ (Q : Post) (Z : XP) (σ : AHeap), listAt l (ns.map .int) σ → (∀ σ', Q (.bool true) σ') → CallOk ⟨prog, w, s₁.heap, s₁.os, mg, mb⟩ fa 0 [.ref l] Q Z σ) :
    codeAny (model prog w) callerA (.call (.ref fa) ⟨[.ref l], []⟩) (GoodW c cl mean args s₁) s₁ := by
  have a : At ⟨prog, w, s₁.heap, s₁.os, mg, mb⟩ (fun b => if b = l then some (.rolist (ns.map .int)) else none) s₁ := by
    refine ⟨fun b o e => e, fun b o e => ?_, fun b o e hro => ?_, hg, rfl⟩
    · skip
      split at e
      · rename_i hb; subst hb; cases e; exact ⟨vs, hl, intsRep hi, by simpa using hlen⟩
      · cases e
    · skip
      split at e
      · cases e; cases hro
      · cases e
  have L : Live 0 callerA := ⟨by decide, by decide, rfl, by lia⟩
  refine codeAny_mono (hcall (fun v _ => v = .bool true) (fun _ _ => False) _ (.inr (by simp)) (fun _ => rfl) callerA s₁ [.ref l] L a (.cons (.ref l) .nil)) fun r s' x => ?_
  cases r with
  | ok f =>
    cases f with
    | ret v =>
      obtain ⟨av, σ', rv, a', st, rfl⟩ := x
      cases rv
      exact ⟨.inl ⟨_, _, [], rfl, hr, .bool true, hpost, fun _ => ⟨.nil, fun _ h => nomatch h⟩⟩, a'.keep, a'.os, a'.gens⟩
    | next => exact x.elim
    | brk => exact x.elim
    | cont => exact x.elim
  | error e => exact noX x
end Mine

set_option maxRecDepth 100000
set_option linter.unusedVariables false
set_option autoImplicit false
namespace Mine
open PySem PyProof.Rows PySem.SeqAt PySem.W

/-- a store into a table -/
inductive dPut : AV → AV → AV → (AHeap → Prop) → AHeap → Prop
  | mk {p : Addr} {kvs : Tab} {k : List Mark} {v : AV} {K : AHeap → Prop} {σ : AHeap} (hp : σ p = some (.tdict kvs)) (hk : ∀ m ∈ k, mOk m) (hl : kvs.length < 1000000) (h : K (σ.set p (.tdict (kvs.put k v)))) : dPut v (.ref p) (rowAV k) K σ
namespace A
def dSet (v x k : AE) : AS := fun d l S SZ σ => v d l (fun a σ1 => x d l (fun b σ2 => k d l (fun c σ3 => dPut a b c (fun σ4 => S .next l σ4) σ3) (fun c σ' => SZ c l σ') σ2) (fun c σ' => SZ c l σ') σ1) (fun c σ' => SZ c l σ') σ
def dNil : AE := fun d l Q Z σ => ∀ r, σ r = none → Q (.ref r) (σ.set r (.tdict []))
def dOne (k v : AE) : AE := fun d l Q Z σ => ∀ r, σ r = none → k d l (fun a σ1 => v d l (fun b σ2 => dPut b (.ref r) a (fun σ3 => Q (.ref r) σ3) σ2) Z σ1) Z (σ.set r (.tdict []))
end A

section
variable {X : Cx} {env : Env} {nm : List (Str × Nat)}
theorem newTab {σ : AHeap} {s : Shared} (XO : X.Ok) (a : At X σ s) : At X (σ.set s.heap.objs.size (.tdict [])) { s with heap := s.heap.push { cls := .type "dict", data := .dict #[] } } ∧ Step E0 σ s (σ.set s.heap.objs.size (.tdict [])) { s with heap := s.heap.push { cls := .type "dict", data := .dict #[] } } := by
  have h3 : (3 : Nat) < s.heap.objs.size := by
    obtain ⟨o, es, ep, ho, _⟩ := XO.g
    exact Heap.lt_size (a.keep _ _ ho)
  have hne : (s.heap.objs.size == sysModules) = false := by
    have h4 : ¬ (s.heap.objs.size : Nat) = 1 := fun e => by rw [e] at h3; exact absurd h3 (by decide)
    exact beq_false_of_ne h4
  exact ⟨a.alloc s.toks ⟨#[], 0, Heap.get?_push_size _ rfl, .nil, .nil, fun k h => (nomatch h), by simp, hne⟩, Step.alloc σ s _ _ s.toks⟩

theorem sound_dNil {pos : Pos} (XO : X.Ok) : SoundE X env nm (.Dict [] [] pos) A.dNil := fun d A l σ s Q Z L a F q => by
  have h := newTab XO a
  exact wpAny_Dict_empty ⟨.ref _, _, .ref _, h.1, h.2, q _ (a.none_of_size (Nat.le_refl _))⟩

theorem sound_dSet {o i value : Expr} {pos' pos : Pos} {mv mx mk : AE} (hv : SoundE X env nm value mv) (hx : SoundE X env nm o mx) (hk : SoundE X env nm i mk) (hs : swapsWith value (some (.Subscript o i pos')) pos.line env = pure false) :
    SoundS X env nm (.Assign [.Subscript o i pos'] value pos) (A.dSet mv mx mk) := fun d A l σ s Q Z L a F q => by
  refine wpAny_Assign_Subscript (wpAny_mono (hv d A l σ s _ _ L a F q) (fun v s1 x => ?_) fun _ _ x => x.toS a F) hs
  obtain ⟨av, σ1, rv, a1, st1, q1⟩ := x
  have F1 := F.step a st1
  have st1' := st1.weaken (B' := FB env) FB.of_e0
  refine wpAny_mono (hx d A l σ1 s1 _ _ L a1 F1 q1) (fun u s2 x => ?_) fun _ _ x => (x.toS a1 F1).back st1'
  obtain ⟨bv, σ2, ru, a2, st2e, q2⟩ := x
  have F2 := F1.step a1 st2e
  have st2' := st1'.trans (st2e.weaken (B' := FB env) FB.of_e0)
  refine wpAny_mono (hk d A l σ2 s2 _ _ L a2 F2 q2) (fun w s3 x => ?_) fun _ _ x => (x.toS a2 F2).back st2'
  obtain ⟨cv, σ3, rw_, a3, st3e, q3⟩ := x
  have F3 := F2.step a2 st3e
  have st3' := st2'.trans (st3e.weaken (B' := FB env) FB.of_e0)
  have rv3 := (rv.mono (st2e.keepV0 a1)).mono (st3e.keepV0 a2)
  have ru3 := ru.mono (st3e.keepV0 a2)
  cases q3 with
  | mk hp hk' hl q4 =>
    cases ru3
    refine tab_set L a3 hp rw_ hk' rv3 hl fun s4 a4 st4 => ?_
    exact ⟨.next, l, _, trivial, a4, F3.step a3 st4, st3'.trans (st4.weaken FB.of_e0), q4⟩

theorem sound_dOne {ke ve : Expr} {pos : Pos} {mk mv : AE} (XO : X.Ok) (hk : SoundE X env nm ke mk) (hv : SoundE X env nm ve mv) : SoundE X env nm (.Dict [some ke] [ve] pos) (A.dOne mk mv) := fun d A l σ s Q Z L a F q => by
  have hn := newTab XO a
  have a0 := hn.1
  have st0 := hn.2
  refine wpAny_Dict_any rfl rfl (by simp) (by simp) ?_
  have F0 := F.step a st0
  have q0 := q _ (a.none_of_size (Nat.le_refl _))
  show wpAny X.M A (do
    let kv ← eval ke env
    let vv ← holding [kv] (do let x ← eval ve env; standAt pos; pure x)
    return (kv, vv) :: (← holding [kv, vv] (evalPairs []))) _ _ _
  refine wpAny_bind (wpAny_mono (hk d A l _ _ _ _ L a0 F0 q0) (fun kv s1 x => ?_) fun _ _ x => x.back st0)
  obtain ⟨ak, σ1, rk, a1, st1, q1⟩ := x
  refine wpAny_bind (wpAny_holding (wpAny_bind (wpAny_mono (hv d A l σ1 s1 _ _ L a1 (F0.step a0 st1) q1) (fun vv s2 x => ?_) fun _ _ x => x.back (st0.trans st1))))
  obtain ⟨ax, σ2, rx, a2, st2, q2⟩ := x
  refine wpAny_bind (wpAny_standAt (wpAny_pure (wpAny_bind (wpAny_holding (wpAny_pure (wpAny_pure ?_))))))
  have rk2 := rk.mono (st2.keepV0 a1)
  cases q2 with
  | mk hp hk' hl q3 =>
    show wpAny X.M A (storeAll _ [(kv, vv)]) _ _ s2
    unfold storeAll
    refine wpAny_forIn_list _ (fun rest _ s' => (rest = [(kv, vv)] ∧ s' = s2) ∨ (rest = [] ∧ ∃ σ3, At X σ3 s' ∧ Step E0 σ2 s2 σ3 s' ∧ Q (.ref s.heap.objs.size) σ3)) _ ?_ ?_ _ _ (.inl ⟨rfl, rfl⟩)
    · rintro x rest b s' (⟨e, rfl⟩ | ⟨e, _⟩)
      · cases e
        exact wpAny_bind (tab_put L a2 hp rk2 hk' rx hl fun s4 a4 st4 => wpAny_pure (.inr ⟨rfl, _, a4, st4, q3⟩))
      · cases e
    · rintro b s' (⟨e, _⟩ | ⟨_, σ3, a3, st3, q4⟩)
      · cases e
      · exact ⟨.ref _, σ3, .ref _, a3, st0.trans (st1.trans (st2.trans st3)), q4⟩
end
section
variable {X : Cx} {K : Frag} {env : Env} {nm : List (Str × Nat)}
theorem w_dNil {pos : Pos} (G : Gd X K) : SoundE X env nm (.Dict [] [] pos) A.dNil := sound_dNil G.ok
theorem w_dOne {ke ve : Expr} {pos : Pos} {mk mv : AE} (G : Gd X K) (hk : SoundE X env nm ke mk) (hv : SoundE X env nm ve mv) : SoundE X env nm (.Dict [some ke] [ve] pos) (A.dOne mk mv) := sound_dOne G.ok hk hv
end
section
variable {X : Cx} {d : Nat} {l : Loc} {σ : AHeap} {Q : Post} {Z : XP} {S : SPost} {SZ : SXP} {v x k : AE} {p : Addr} {kvs : Tab} {ks : List Mark} {a : AV} {K : AHeap → Prop}
theorem q_dSet (h : v d l (fun a σ1 => x d l (fun b σ2 => k d l (fun c σ3 => dPut a b c (fun σ4 => S .next l σ4) σ3) (fun c σ' => SZ c l σ') σ2) (fun c σ' => SZ c l σ') σ1) (fun c σ' => SZ c l σ') σ) : A.dSet v x k d l S SZ σ := h
theorem q_dPut (hp : σ p = some (.tdict kvs)) (hk : ∀ m ∈ ks, mOk m) (hl : kvs.length < 1000000) (h : K (σ.set p (.tdict (kvs.put ks a)))) : dPut a (.ref p) (rowAV ks) K σ := .mk hp hk hl h
theorem q_notInD (hp : σ p = some (.tdict kvs)) (hk : ∀ m ∈ ks, mOk m) (h : Q (.bool (!(kvs.at ks).isSome)) σ) : cmpA X .NotIn (rowAV ks) (.ref p) Q σ := .notInD hp hk h
theorem q_idxD (hp : σ p = some (.tdict kvs)) (hk : ∀ m ∈ ks, mOk m) (e : kvs.at ks = some a) (h : Q a σ) : idxA X (.ref p) (rowAV ks) Q σ := .dict hp hk e h
end
end Mine

set_option maxRecDepth 100000
set_option linter.unusedVariables false
set_option autoImplicit false
set_option maxHeartbeats 4000000
namespace Mine
open PySem PyProof.Rows PySem.SeqAt PySem.W

/-- keys of values: whole numbers -/
inductive KA (kz : Value → Nat) : List Value → List Value → Prop
  | nil : KA kz [] []
  | cons {v : Value} {t : Tok} {vs ks : List Value} : KA kz vs ks → KA kz (v :: vs) (.int (kz v : Int) t :: ks)
theorem KA.snoc {kz : Value → Nat} {v : Value} {t : Tok} : ∀ {vs ks : List Value}, KA kz vs ks → KA kz (vs ++ [v]) (ks ++ [.int (kz v : Int) t])
  | _, _, .nil => .cons .nil
  | _, _, .cons r => .cons r.snoc
theorem KA.length {kz : Value → Nat} : ∀ {vs ks : List Value}, KA kz vs ks → ks.length = vs.length
  | _, _, .nil => rfl
  | _, _, .cons r => by simp [r.length]
theorem KA.zip {kz : Value → Nat} : ∀ {vs ks : List Value}, KA kz vs ks → (ks.zip vs).map (·.2) = vs ∧ ∀ p ∈ ks.zip vs, ∃ t, p.1 = .int (kz p.2 : Int) t
  | _, _, .nil => ⟨rfl, fun p h => (nomatch h)⟩
  | _, _, .cons r => ⟨by simp [r.zip.1], fun p hp => by
      rcases List.mem_cons.mp hp with e | hp
      · rw [e]; exact ⟨_, rfl⟩
      · exact r.zip.2 p hp⟩
theorem KA.ints {kz : Value → Nat} : ∀ {vs ks : List Value}, KA kz vs ks → IntsAre ks (vs.map fun v => (kz v : Int))
  | _, _, .nil => .nil
  | _, _, .cons r => .cons _ _ r.ints

section
variable {prog : Program} {w : World} {A : Around} {E : Value → Shared → Prop} {s : Shared}

theorem s_keyTail {a kS : Addr} {vs : List Value} {keys : Array Value} {e e1 : Nat} {st : SortSt} {P : PySem.Fin → Shared → Prop} (kz : Value → Nat) (hk : s.heap.get? kS = some (seqObj "list" keys e)) (ha : s.heap.get? a = some (seqObj "list" #[] e1)) (hka : kS ≠ a) (hks : keys.size ≤ 1000000)
    (hlen : vs.length ≤ 1000000) (KV : KA kz vs keys.toList) (hp : (arrOf st).Perm (keys.zip vs.toArray)) (hs : (arrOf st).toList.Pairwise fun x y => kz x.2 ≤ kz y.2) (hf : failedOf st = none)
    (h : ∀ (out : List Value) c (h3 : Heap) tk, out.Perm vs → out.Pairwise (fun x y => kz x ≤ kz y) → h3.get? a = some (seqObj "list" out.toArray c) → (∀ b o, b ≠ a → b ≠ kS → s.heap.get? b = some o → h3.get? b = some o) → P (.done (.ret .none)) { s with heap := h3, toks := tk }) :
    wpAny (model prog w) A (ksk_tail a false e1 (.ref kS) st) P E s := by
  have s1 := Heap.SameBut.update s.heap kS (Obj.mapSeq fun _ => (#[] : Array Value))
  have na1 : (s.heap.update kS (Obj.mapSeq fun _ => (#[] : Array Value))).get? a = some (seqObj "list" #[] e1) := (s1.2 a hka.symm).trans ha
  have s2 := Heap.SameBut.update (s.heap.update kS (Obj.mapSeq fun _ => (#[] : Array Value))) a (Obj.mapSeq fun _ => (arrOf st).map (·.2))
  obtain ⟨c2, hc2⟩ : ∃ c2, ((s.heap.update kS (Obj.mapSeq fun _ => (#[] : Array Value))).update a (Obj.mapSeq fun _ => (arrOf st).map (·.2))).get? a = some (seqObj "list" ((arrOf st).map (·.2)) c2) := ⟨_, get?_update_seq na1 fun _ => (arrOf st).map (·.2)⟩
  have hp' := Array.perm_iff_toList_perm.mp hp
  have ez : (keys.zip vs.toArray).toList = keys.toList.zip vs := ksk_zip keys vs
  rw [ez] at hp'
  have hperm : ((arrOf st).map (·.2)).toList.Perm vs := by
    have := hp'.map (·.2)
    rw [KV.zip.1] at this
    simpa using this
  have hsz : ((arrOf st).map (·.2)).size = vs.length := by rw [← hperm.length_eq]; simp
  unfold ksk_tail
  try dsimp only
  refine wpAny_bind (listUpdate_at hk rfl ?_ (by rw [sizeLine_eq]; omega) (Nat.zero_le _))
  refine wpAny_bind (wpAny_letGo ?_)
  refine wpAny_bind (seqEpoch_at na1 rfl ?_)
  simp only [Bool.false_eq_true, if_false]
  refine wpAny_bind (listUpdate_at na1 rfl ?_ (Nat.zero_le _) (Nat.le_trans (Nat.le_of_eq hsz) (by rw [sizeLine_eq]; omega)))
  rw [hf]
  simp only [bne_self_eq_false, Bool.false_eq_true, if_false]
  refine wpAny_pure (h ((arrOf st).map (·.2)).toList c2 _ _ hperm ?_ (by rw [hc2]) fun b o hb hbk q => (s2.2 b hb).trans ((s1.2 b hbk).trans q))
  rw [Array.toList_map, List.pairwise_map]
  exact hs

theorem s_keyEnd {a kS : Addr} {vs : List Value} {keys : Array Value} {e e1 : Nat} {P : PySem.Fin → Shared → Prop} (kz : Value → Nat) (hk : s.heap.get? kS = some (seqObj "list" keys e)) (ha : s.heap.get? a = some (seqObj "list" #[] e1)) (hka : kS ≠ a)
    (hlen : vs.length ≤ 1000000) (h64 : vs.length < 64) (KV : KA kz vs keys.toList)
    (h : ∀ (out : List Value) c (h3 : Heap) tk, out.Perm vs → out.Pairwise (fun x y => kz x ≤ kz y) → h3.get? a = some (seqObj "list" out.toArray c) → (∀ b o, b ≠ a → b ≠ kS → s.heap.get? b = some o → h3.get? b = some o) → P (.done (.ret .none)) { s with heap := h3, toks := tk }) :
    wpAny (model prog w) A (ksk_end a false vs.toArray e1 (.ref kS) keys) P E s := by
  have hsz : keys.size = vs.length := by have := KV.length; rw [Array.length_toList] at this; exact this
  have hzs : (keys.zip vs.toArray).size = vs.length := by rw [Array.size_zip, hsz, List.size_toArray, Nat.min_self]
  have ez : (keys.zip vs.toArray).toList = keys.toList.zip vs := ksk_zip keys vs
  have hkey : ∀ p ∈ (keys.zip vs.toArray).toList, ∃ t, p.1 = .int (kz p.2 : Int) t := fun p hp => by rw [ez] at hp; exact KV.zip.2 p hp
  unfold ksk_end
  try dsimp only
  simp only [Bool.false_eq_true, if_false]
  by_cases h2 : vs.toArray.size < 2
  · rw [if_pos h2, if_pos h2]
    refine wpAny_bind (wpAny_pure ?_)
    rw [StateT.run_pure]
    refine wpAny_bind (wpAny_pure ?_)
    try dsimp only
    refine s_keyTail (st := SortSt.mk' general' (keys.zip vs.toArray) #[] 7 none) kz hk ha hka (by omega) hlen KV (.refl _) ?_ rfl h
    have : (keys.zip vs.toArray).toList.length < 2 := by rw [Array.length_toList, hzs]; simpa using h2
    show (keys.zip vs.toArray).toList.Pairwise _
    generalize (keys.zip vs.toArray).toList = l at this
    match l, this with
    | [], _ => exact .nil
    | [x], _ => exact List.pairwise_singleton _ _
    | _ :: _ :: _, h => simp only [List.length_cons] at h; omega
  · rw [if_neg h2, if_neg h2]
    have h3 : ¬ vs.length < 2 := by simpa using h2
    rw [ksk_kind (kz := vs.map fun v => (kz v : Int)) KV.ints (by omega)]
    refine wpAny_bind (wpAny_pure ?_)
    have run := wpS_sortRuns (prog := prog) (w := w) (A := A) (s := s) (E := E) (a₀ := keys.zip vs.toArray) (st := SortSt.mk' oneType' (keys.zip vs.toArray) #[] 7 none) (Q := fun _ st' => (arrOf st').Perm (keys.zip vs.toArray) ∧ failedOf st' = none ∧ SortedTo (arrOf st') (keys.zip vs.toArray).size)
      (ksk_intKeys KV.ints) ⟨Array.Perm.refl _, rfl, rfl, rfl⟩ (by rw [hzs]; omega) (by rw [hzs]; exact h64) fun st' a1 a2 a3 => ⟨a1, a2, a3⟩
    refine wpAny_bind (wpAny_mono run (fun r s' hr => ?_) fun _ _ e => e)
    obtain ⟨⟨⟩, st'⟩ := r
    obtain ⟨rfl, hp, hf, hs⟩ := hr
    try dsimp only
    refine s_keyTail kz hk ha hka (by omega) hlen KV hp ?_ hf h
    have hmem : ∀ p ∈ (arrOf st').toList, ∃ t, p.1 = .int (kz p.2 : Int) t := fun p hp' => hkey p ((Array.perm_iff_toList_perm.mp hp).mem_iff.mp hp')
    rw [List.pairwise_iff_getElem]
    intro i j hi hj hij
    have hi' : i < (arrOf st').size := by simpa using hi
    have hj' : j < (arrOf st').size := by simpa using hj
    have q := hs i j (Nat.le_of_lt hij) (by rw [← hp.size_eq]; exact hj')
    rw [K_eq hi', K_eq hj'] at q
    obtain ⟨t1, g1⟩ := hmem _ (List.getElem_mem hi)
    obtain ⟨t2, g2⟩ := hmem _ (List.getElem_mem hj)
    rw [Array.getElem_toList] at g1 g2
    rw [g1, g2] at q
    rw [Array.getElem_toList, Array.getElem_toList]
    have q : (kz (arrOf st')[i].2 : Int) ≤ (kz (arrOf st')[j].2 : Int) := q
    omega

/-- list.sort with a key that gives whole numbers and leaves what stands -/
theorem s_sortKey {a : Addr} {vs : List Value} {n : Nat} {f : Value} {P : PySem.Fin → Shared → Prop} (kz : Value → Nat) (ho : s.heap.get? a = some (seqObj "list" vs.toArray n)) (hlen : vs.length ≤ 1000000) (h64 : vs.length < 64)
    (turn : ∀ v ∈ vs, ∀ (h' : Heap) (tk : Nat), (∀ b o, b ≠ a → s.heap.get? b = some o → h'.get? b = some o) → ∀ (Q : Value → Shared → Prop), (∀ tk' t, Q (.int (kz v : Int) t) { s with heap := h', toks := tk' }) → wpAny (model prog w) A (call f [v]) Q (fun _ _ => False) { s with heap := h', toks := tk })
    (h : ∀ (out : List Value) c (h3 : Heap) tk, out.Perm vs → out.Pairwise (fun x y => kz x ≤ kz y) → h3.get? a = some (seqObj "list" out.toArray c) → (∀ b o, b ≠ a → s.heap.get? b = some o → h3.get? b = some o) → P (.done (.ret .none)) { s with heap := h3, toks := tk }) :
    wpAny (model prog w) A (ksk_tree a f false) P E s := by
  have hla : a < s.heap.objs.size := Heap.lt_size ho
  have s1 := Heap.SameBut.update s.heap a (Obj.mapSeq fun _ => (#[] : Array Value))
  obtain ⟨e1, ho1⟩ : ∃ e1, (s.heap.update a (Obj.mapSeq fun _ => (#[] : Array Value))).get? a = some (seqObj "list" #[] e1) := ⟨_, get?_update_seq ho fun _ => #[]⟩
  have hkS : ((s.heap.update a (Obj.mapSeq fun _ => (#[] : Array Value))).push (seqObj "tuple" vs.toArray 0)).objs.size = s.heap.objs.size + 1 := by rw [size_push', Heap.size_update]
  unfold ksk_tree
  refine wpAny_bind (listItems_at ho rfl ?_)
  refine wpAny_bind (listUpdate_at ho rfl ?_ (by rw [List.size_toArray, sizeLine_eq]; omega) (Nat.zero_le _))
  refine wpAny_bind (seqEpoch_at ho1 rfl ?_)
  refine wpAny_bind (wpAny_newTuple ?_ (by show vs.length ≤ _; rw [sizeLine_eq]; omega))
  refine wpAny_bind (wpAny_newList ?_ (Nat.zero_le _))
  refine wpAny_holding ?_
  show wpAny (model prog w) A (ksk_rest a f false vs.toArray e1 (.ref ((s.heap.update a (Obj.mapSeq fun _ => (#[] : Array Value))).push (seqObj "tuple" vs.toArray 0)).objs.size)) P E { s with heap := ((s.heap.update a (Obj.mapSeq fun _ => (#[] : Array Value))).push (seqObj "tuple" vs.toArray 0)).push (seqObj "list" #[] 0) }
  have hk0 : (((s.heap.update a (Obj.mapSeq fun _ => (#[] : Array Value))).push (seqObj "tuple" vs.toArray 0)).push (seqObj "list" #[] 0)).get? (s.heap.objs.size + 1) = some (seqObj "list" #[] 0) := by rw [← hkS]; exact Heap.get?_push_size _ rfl
  rw [hkS]
  have ha0 : (((s.heap.update a (Obj.mapSeq fun _ => (#[] : Array Value))).push (seqObj "tuple" vs.toArray 0)).push (seqObj "list" #[] 0)).get? a = some (seqObj "list" #[] e1) := Heap.get?_push_of_some _ (Heap.get?_push_of_some _ ho1)
  have keep0 : ∀ b o, b ≠ a → s.heap.get? b = some o → (((s.heap.update a (Obj.mapSeq fun _ => (#[] : Array Value))).push (seqObj "tuple" vs.toArray 0)).push (seqObj "list" #[] 0)).get? b = some o := fun b o hb q => Heap.get?_push_of_some _ (Heap.get?_push_of_some _ ((s1.2 b hb).trans q))
  generalize (((s.heap.update a (Obj.mapSeq fun _ => (#[] : Array Value))).push (seqObj "tuple" vs.toArray 0)).push (seqObj "list" #[] 0)) = h0 at hk0 ha0 keep0
  have hka : s.heap.objs.size + 1 ≠ a := Nat.ne_of_gt (Nat.lt_succ_of_lt hla)
  have hnew : ∀ b o, s.heap.get? b = some o → b ≠ s.heap.objs.size + 1 := fun b o q => Nat.ne_of_lt (Nat.lt_succ_of_lt (Heap.lt_size q))
  unfold ksk_rest
  refine wpAny_bind (wpAny_rule ?_)
  first
    | rw [List.forIn_toArray]
    | (rw [← Array.forIn_toList]; simp only [List.toList_toArray])
    | rw [← Array.forIn_toList]
  refine wpAny_bind (ksk_fold (fun i s' => ∃ h' tk kA e, s' = { s with heap := h', toks := tk } ∧ (∀ b o, b ≠ a → s.heap.get? b = some o → h'.get? b = some o) ∧ h'.get? (s.heap.objs.size + 1) = some (seqObj "list" kA e) ∧ h'.get? a = some (seqObj "list" #[] e1) ∧ KA kz (vs.take i) kA.toList) vs 0 _
    ⟨h0, s.toks, #[], 0, rfl, keep0, hk0, ha0, .nil⟩ ?step ?done)
  case step =>
    rintro j x s' hx ⟨h', tk, kA, e, rfl, keep, hk, ha, KV⟩
    simp only [Nat.zero_add] at KV ⊢
    have hj : j < vs.length := (List.getElem?_eq_some_iff.mp hx).1
    have hz : kA.size ≤ vs.length := by
      have h1 := KV.length
      rw [Array.length_toList, List.length_take] at h1
      omega
    refine wpAny_bind (wpAny_attempt (wpAny_mono (turn x (List.mem_of_getElem? hx) h' tk keep (fun v s'' => ∃ tk' t, v = .int (kz x : Int) t ∧ s'' = { s with heap := h', toks := tk' }) fun tk' t => ⟨tk', t, rfl, rfl⟩) (fun v s'' he => ?_) fun _ _ hF => hF.elim))
    obtain ⟨tk2, t2, rfl, rfl⟩ := he
    try dsimp only
    have s1 := Heap.SameBut.update h' (s.heap.objs.size + 1) (Obj.mapSeq (·.push (.int (kz x : Int) t2)))
    obtain ⟨c2, hc2⟩ : ∃ c2, (h'.update (s.heap.objs.size + 1) (Obj.mapSeq (·.push (.int (kz x : Int) t2)))).get? (s.heap.objs.size + 1) = some (seqObj "list" (kA.push (.int (kz x : Int) t2)) c2) := ⟨_, get?_update_seq hk (·.push (.int (kz x : Int) t2))⟩
    have ek : vs.take (j + 1) = vs.take j ++ [x] := by rw [List.take_add_one, hx]; simp
    have ea : (kA.push (Value.int (kz x : Int) t2)).toList = kA.toList ++ [Value.int (kz x : Int) t2] := by simp
    refine wpAny_bind (listUpdate_at hk rfl ?_ (by rw [sizeLine_eq]; omega) (Nat.le_trans (Nat.le_of_eq (Array.size_push ..)) (by rw [sizeLine_eq]; omega)))
    exact wpAny_pure ⟨rfl, _, _, kA.push (.int (kz x : Int) t2), c2, rfl, fun b o hb q => (s1.2 b (hnew b o q)).trans (keep b o hb q), hc2, (s1.2 a hka.symm).trans ha, by rw [ea, ek]; exact KV.snoc⟩
  case done =>
    rintro s' ⟨h', tk, kA, e, rfl, keep, hk, ha, KV⟩
    have e3 : vs.take (0 + vs.length) = vs := List.take_of_length_le (by omega)
    rw [e3] at KV
    try dsimp only
    refine wpAny_bind (listItems_at hk rfl ?_)
    exact s_keyEnd kz hk ha hka hlen h64 KV fun out c h3 tk3 g1 g2 g3 g4 => h out c h3 tk3 g1 g2 g3 fun b o hb q => g4 b o hb (hnew b o q) (keep b o hb q)
end
end Mine

set_option maxRecDepth 100000
set_option linter.unusedVariables false
set_option autoImplicit false
set_option maxHeartbeats 4000000
namespace Mine
open PySem PyProof.Rows PySem.SeqAt PySem.W

theorem perm_map_inv {α β : Type} {f : α → β} {ys zs : List β} (p : ys.Perm zs) : ∀ {xs : List α}, zs = xs.map f → ∃ ws : List α, ws.Perm xs ∧ ys = ws.map f := by
  induction p with
  | nil => intro xs e; exact ⟨xs, .refl _, e⟩
  | cons y p ih =>
    intro xs e
    cases xs with
    | nil => cases e
    | cons x xs =>
      injection e with e1 e2
      obtain ⟨ws, h1, h2⟩ := ih e2
      exact ⟨x :: ws, .cons x h1, by rw [h2, e1]; rfl⟩
  | swap y z l =>
    intro xs e
    cases xs with
    | nil => cases e
    | cons x xs =>
      cases xs with
      | nil => cases e
      | cons x' xs =>
        injection e with e1 e2
        injection e2 with e2 e3
        exact ⟨x' :: x :: xs, .swap .., by rw [e1, e2, e3]; rfl⟩
  | trans p q ih1 ih2 =>
    intro xs e
    obtain ⟨ws, h1, h2⟩ := ih2 e
    obtain ⟨vs, h3, h4⟩ := ih1 h2
    exact ⟨vs, h3.trans h1, h4⟩

/-- sorted(a list of tuples, key=len) -/
inductive pSortLen : List AV → Post → AHeap → Prop
  | mk {α : Type} {f : α → List AV} {p : Addr} {xs : List α} {Q : Post} {σ : AHeap} (hp : listAt p (xs.map fun x => .tup (f x)) σ) (hl : xs.length < 64)
    (h : ∀ ys : List α, ys.Perm xs → ys.Pairwise (fun x y => (f x).length ≤ (f y).length) → ∀ r, σ r = none → Q (.ref r) (σ.set r (.list (ys.map fun x => .tup (f x))))) : pSortLen [.ref p] Q σ

open Classical in
theorem sortLen_call {X : Cx} {α : Type} {f : α → List AV} {d : Nat} {A : Around} {σ : AHeap} {s : Shared} {p : Addr} {xs : List α} {Q : Post} {E : Value → Shared → Prop} (L : Live d A) (a : At X σ s) (hp : listAt p (xs.map fun x => AV.tup (f x)) σ) (hmx : xs.length < 64)
    (q : ∀ ys : List α, ys.Perm xs → ys.Pairwise (fun x y => (f x).length ≤ (f y).length) → ∀ r, σ r = none → Q (.ref r) (σ.set r (.list (ys.map fun x => .tup (f x))))) :
    wpAny X.M A (call (.builtin "sorted") [.ref p] [(Str.ofString "key", .builtin "len")]) (liftQ X σ s Q) E s := by
  obtain ⟨vs, hl, rs⟩ := a.isList hp
  have hm := a.len hp
  have hlen := rs.length
  rw [List.length_map] at hm hlen
  obtain ⟨kz, hkz⟩ : ∃ kz : Value → Nat, ∀ b (us : List Value), IsTup s.heap b us.toArray → kz (.ref b) = us.length := by
    refine ⟨fun v => if h : ∃ n, ∃ b, ∃ us : List Value, v = .ref b ∧ IsTup s.heap b us.toArray ∧ us.length = n then choose h else 0, fun b us ht => ?_⟩
    have h : ∃ n, ∃ b', ∃ us' : List Value, Value.ref b = .ref b' ∧ IsTup s.heap b' us'.toArray ∧ us'.length = n := ⟨_, b, us, rfl, ht, rfl⟩
    simp only [dif_pos h]
    obtain ⟨b', us', e, h2, h3⟩ := choose_spec h
    cases e
    rw [← h3, isTup_inj h2 ht]
  have hrk : ∀ x ∈ (xs.map fun x => AV.tup (f x)), ∀ v, RepV s.heap x v → kz v = (match x with | .tup l => l.length | _ => 0) := fun x hx v rv => by
    obtain ⟨y, _, rfl⟩ := List.mem_map.mp hx
    cases rv with
    | tup h1 h2 h3 => rw [hkz _ _ h2]; exact h3.length.symm
  refine with_size (call_function_entry_kw kind_sorted plain_sorted entry_sorted (ksk_s1 _ _) ?_)
  unfold Builtin.«sorted»
  refine wpAny_bind (m := checkCount "sorted" 1 1 _) (wpAny_pure ?_)
  refine wpAny_bind (collect_list hl ?_ (by rw [sizeLine_eq]; lia))
  refine wpAny_bind (wpAny_newList ?_ (by rw [sizeLine_eq]; lia))
  have hsz : ((s.heap.push (seqObj "list" #[] 0)).update s.heap.objs.size (Obj.mapSeq (· ++ vs.toArray))).objs.size = s.heap.objs.size + 1 := by
    rw [Heap.size_update, size_push']
  obtain ⟨h1, hh1⟩ : ∃ x, x = ((s.heap.push (seqObj "list" #[] 0)).update s.heap.objs.size (Obj.mapSeq (· ++ vs.toArray))).push (seqObj "list" vs.toArray 0) := ⟨_, rfl⟩
  have hoL : h1.get? (s.heap.objs.size + 1) = some (seqObj "list" vs.toArray 0) := by
    rw [hh1, ← hsz]; exact Heap.get?_push_size _ rfl
  have keep : ∀ b o, s.heap.get? b = some o → h1.get? b = some o := fun b o q => by
    have hlt : b < s.heap.objs.size := Heap.lt_size q
    rw [hh1, Heap.get?_push_ne _ _ _ (by rw [hsz]; exact Nat.ne_of_lt (Nat.lt_succ_of_lt hlt)), Heap.get?_update_ne _ _ _ _ (Nat.ne_of_lt hlt), Heap.get?_push_ne _ _ _ (Nat.ne_of_lt hlt)]
    exact q
  show wpAny _ _ _ _ _ { s with heap := ((s.heap.push (seqObj "list" #[] 0)).update s.heap.objs.size (Obj.mapSeq (· ++ vs.toArray))).push (seqObj "list" vs.toArray 0) }
  rw [hsz, ← hh1]
  have keep' : ∀ h' : Heap, (∀ b o, b ≠ s.heap.objs.size + 1 → h1.get? b = some o → h'.get? b = some o) → ∀ b o, s.heap.get? b = some o → h'.get? b = some o := fun h' hk b o e => by
    have hlt : b < s.heap.objs.size := Heap.lt_size e
    exact hk b o (Nat.ne_of_lt (Nat.lt_succ_of_lt hlt)) (keep b o e)
  refine wpAny_bind (wpAny_holding (wpAny_call_entry_kw slot_list_sort ⟨_, hoL, rfl⟩ entry_list_sort ?body (ksk_l1 _ _)))
  case body =>
    rw [ksk_t4]
    refine s_sortKey (s := { s with heap := h1 }) kz hoL (by lia) (by rw [← hlen]; exact hmx) (fun v hv h' tk hk' Q' hq => ?_) fun out c h3 tk hperm hsrt ho3 hk3 => ?_
    · have kp := keep' h' hk'
      obtain ⟨x, hx, rx⟩ := rs.mem v hv
      have hr := hrk x hx v rx
      obtain ⟨y, _, rfl⟩ := List.mem_map.mp hx
      have rx' := rx.mono (h' := h') fun b o e _ => kp b o e
      cases rx' with
      | @tup _ b us hl' ht' rs' =>
        refine len_tuple (s := { s with heap := h', toks := tk }) ht' (by have := rs'.length; simp; lia) ?_
        have := hq (tk + 1 + 1) (tk + 1)
        rw [hr] at this
        simp only at this
        rw [rs'.length] at this
        simpa using this
    · have kp := keep' h3 hk3
      have kv : KeepV s.heap h3 := fun b o e _ => kp b o e
      obtain ⟨ys, hy1, hy2⟩ := rs.perm hperm
      have hys := hy2.pair (ρ := fun x => match x with | .tup l => l.length | _ => 0) (fun y hy v rv => hrk y (hy1.mem_iff.mp hy) v rv) hsrt
      obtain ⟨zs, hz1, rfl⟩ := perm_map_inv hy1 rfl
      rw [List.pairwise_map] at hys
      refine ⟨_, rfl, wpAny_pure ⟨_, rfl, fun hsz' => ?_⟩⟩
      exact newListAtD (t := tk) a kp (Nat.le_succ _) ho3 (hy2.mono kv) (by rw [List.length_map, hz1.length_eq]; exact hm) hsz' (q zs hz1 hys)

section
variable {X : Cx} {env : Env} {nm : List (Str × Nat)}
theorem sound_sortLen {e : Expr} {m : AE} {gp lp kp pos : Pos} (XO : X.Ok) (EO : EnvOk env) (hx : env.kindOf "sorted" = some .globalImplicit) (hn : X.mg "sorted" = none) (hv : X.mb "sorted" = some (.builtin "sorted"))
    (hxL : env.kindOf "len" = some .globalImplicit) (hnL : X.mg "len" = none) (hvL : X.mb "len" = some (.builtin "len")) (hs : notStar e = true) (h : SoundE X env nm e m) :
    SoundE X env nm (.Call (.Name "sorted" gp) [e] [⟨some "key", .Name "len" lp, kp⟩] pos) (A.prim pSortLen [m]) := fun d A l σ s Q Z L a F q => by
  show wpAny X.M A (do callWith pos (← eval (.Name "sorted" gp) env) [] (backTo pos (starEach [e] env)) (backToKw pos (keywordEach [⟨some "key", .Name "len" lp, kp⟩] env))) _ _ s
  refine wpAny_bind (wp_builtin XO EO a hx (by decide) hn hv ?_)
  have he : backTo pos (starEach [e] env) = (false, eval e env) :: backTo pos (starEach [] env) := by rw [starEach_cons hs]; rfl
  refine callWith_kw ?_ he (by rw [he]; rfl)
  rw [he]
  refine Calls.spliced_cons (seqQ (h d A l σ s _ Z L a F q) fun av v σ1 s1 rv a1 st1 q1 => ?_)
  refine Calls.spliced_nil ?_
  refine kws_cons (wp_builtin XO EO a1 hxL (by decide) hnL hvL (kws_nil ?_))
  cases q1 with
  | mk hp hl q2 =>
    cases rv
    exact backQ st1 (sortLen_call L a1 hp hl q2)
end
end Mine

set_option maxRecDepth 100000
set_option linter.unusedVariables false
set_option autoImplicit false
set_option maxHeartbeats 4000000
namespace Mine
open PySem PyProof.Rows PySem.SeqAt PySem.W

/-- tables of small sets: the places are the numbers -/
def tabP (led : Bool) (P : List Nat) : SetTable := { mask := 7, place := P.toArray, dummies := #[], finger := 0, led := led, moves := 0, plain := true }
def allP : List (List Nat) := [[], [0], [1], [2], [3], [0, 1], [0, 2], [0, 3], [1, 2], [1, 3], [2, 3], [0, 1, 2], [0, 1, 3], [0, 2, 3], [1, 2, 3], [0, 1, 2, 3]]
def slotAt (P : List Nat) (i : Nat) : Nat := if i = 0 then 0 else P.getD (i - 1) 0 + 1
/-- adding a number that is not there -/
def addOk (led : Bool) (P : List Nat) (v : Nat) : Bool :=
  P.contains v ||
    (match (tabP led P).freeSlot (v : Int) with
    | some (slot, wd) =>
      decide (wd = false ∧ ((tabP led P).put slot).1 = tabP led (P.take ((tabP led P).put slot).2 ++ v :: P.drop ((tabP led P).put slot).2)
        ∧ (P.take ((tabP led P).put slot).2 ++ v :: P.drop ((tabP led P).put slot).2) ∈ allP ∧ ((tabP led P).put slot).1.tooFull = false ∧ ((tabP led P).put slot).1.fits (P.length + 1) = true)
    | none => false)
theorem addOk_all : (allP.all fun P => [0, 1, 2, 3].all fun v => addOk true P v && addOk false P v) = true := by decide +kernel
theorem slot_all : (allP.all fun P => (List.range (P.length + 1)).all fun i => SetTable.below P.toArray (slotAt P i) == i) = true := by decide +kernel
theorem fits_all : (allP.all fun P => (tabP true P).fits P.length && (tabP false P).fits P.length) = true := by decide +kernel
theorem addOk_at {led : Bool} {P : List Nat} {v : Nat} (hP : P ∈ allP) (hv : v < 4) : addOk led P v = true := by
  have h := List.all_eq_true.mp (List.all_eq_true.mp addOk_all P hP) v (by
    have : v = 0 ∨ v = 1 ∨ v = 2 ∨ v = 3 := by omega
    rcases this with rfl | rfl | rfl | rfl <;> simp)
  rw [Bool.and_eq_true] at h
  cases led
  · exact h.2
  · exact h.1
theorem slot_at {P : List Nat} {i : Nat} (hP : P ∈ allP) (hi : i ≤ P.length) : SetTable.below P.toArray (slotAt P i) = i := by
  have h := List.all_eq_true.mp (List.all_eq_true.mp slot_all P hP) i (by simp; omega)
  simpa using h
theorem fits_at {led : Bool} {P : List Nat} (hP : P ∈ allP) : (tabP led P).fits P.length = true := by
  have h := List.all_eq_true.mp fits_all P hP
  rw [Bool.and_eq_true] at h
  cases led
  · exact h.2
  · exact h.1

/-- the entries of such a set -/
inductive SE : List Nat → List (Int × Value) → Prop
  | nil : SE [] []
  | cons {p : Nat} {t : Tok} {P : List Nat} {es : List (Int × Value)} : SE P es → SE (p :: P) (((p : Int), .int (p : Int) t) :: es)
theorem SE.length : ∀ {P es}, SE P es → es.length = P.length
  | _, _, .nil => rfl
  | _, _, .cons r => by simp [r.length]
theorem SE.append : ∀ {P es P' es'}, SE P es → SE P' es' → SE (P ++ P') (es ++ es')
  | _, _, _, _, .nil, r => r
  | _, _, _, _, .cons a, r => .cons (a.append r)
theorem SE.take : ∀ {P es}, SE P es → ∀ n, SE (P.take n) (es.take n)
  | _, _, .nil, n => by simp; exact .nil
  | _, _, .cons _, 0 => .nil
  | _, _, .cons a, n + 1 => .cons (a.take n)
theorem SE.drop : ∀ {P es}, SE P es → ∀ n, SE (P.drop n) (es.drop n)
  | _, _, .nil, n => by simp; exact .nil
  | _, _, .cons a, 0 => .cons a
  | _, _, .cons a, n + 1 => a.drop n
theorem SE.int {P es} (h : SE P es) : ∀ e ∈ es, ∃ k t, e.2 = .int k t := by
  induction h with
  | nil => intro e he; cases he
  | cons r ih =>
    intro e he
    rcases List.mem_cons.mp he with rfl | he
    · exact ⟨_, _, rfl⟩
    · exact ih e he
theorem SE.find {P es} (h : SE P es) (v : Nat) : (es.findIdx? fun e => Value.isInt (v : Int) e.2) = none → P.contains v = false := by
  induction h with
  | nil => intro _; rfl
  | @cons p t P es r ih =>
    intro hn
    rw [List.findIdx?_cons] at hn
    by_cases hp : Value.isInt (v : Int) (.int (p : Int) t) = true
    · simp [hp] at hn
    · rw [if_neg hp] at hn
      have := ih (by simpa using hn)
      have hne : ¬ v = p := fun e => hp (by subst e; simp [Value.isInt])
      rw [List.contains_cons, this, Bool.or_false]; simpa using hne
theorem hashInt_small {v : Nat} (hv : v < 4) : hashInt (v : Int) = v := by
  have : v = 0 ∨ v = 1 ∨ v = 2 ∨ v = 3 := by omega
  rcases this with rfl | rfl | rfl | rfl <;> decide +kernel
theorem allP_small : (allP.all fun P => P.all fun p => decide (p < 4) && decide (P.length ≤ 4)) = true := by decide +kernel
theorem SE.elems {prog : Program} {w : World} {P es} (h : SE P es) : (∀ p ∈ P, p < 4) → ElemsOf (intKind prog w) es := by
  induction h with
  | nil => intro _ e he; cases he
  | cons r ih =>
    intro hp e he
    rcases List.mem_cons.mp he with rfl | he
    · exact ⟨⟨_, intKind_is _ _ _ _, (hashInt_small (hp _ List.mem_cons_self)).symm⟩, rfl⟩
    · exact ih (fun p hp' => hp p (List.mem_cons_of_mem _ hp')) e he
theorem allP_lt {P : List Nat} (hP : P ∈ allP) : ∀ p ∈ P, p < 4 := fun p hp => by
  have h := List.all_eq_true.mp (List.all_eq_true.mp allP_small P hP) p hp
  rw [Bool.and_eq_true] at h
  simpa using h.1
theorem allP_len : (allP.all fun P => decide (P.length ≤ 4)) = true := by decide +kernel
theorem allP_length {P : List Nat} (hP : P ∈ allP) : P.length ≤ 4 := by
  simpa using List.all_eq_true.mp allP_len P hP

def setObj (led : Bool) (P : List Nat) (es : List (Int × Value)) (ep : Nat) : Obj := { cls := .type "set", dict := none, data := .set es.toArray ep (tabP led P) }
/-- a small set stands at a -/
def SmallSet (led : Bool) (h : Heap) (a : Addr) : Prop := ∃ P es ep, P ∈ allP ∧ SE P es ∧ h.get? a = some (setObj led P es ep)
theorem SmallSet.at {led : Bool} {h h' : Heap} {a : Addr} (x : SmallSet led h a) (e : ∀ o, h.get? a = some o → h'.get? a = some o) : SmallSet led h' a :=
  let ⟨P, es, ep, h1, h2, h3⟩ := x; ⟨P, es, ep, h1, h2, e _ h3⟩

section
variable {prog : Program} {w : World} {A : Around} {E : Value → Shared → Prop} {s : Shared}

theorem small_state {led : Bool} {P : List Nat} {es : List (Int × Value)} {ep : Nat} {a : Addr} {Q : (Array (Int × Value) × Nat × SetTable) → Shared → Prop} (hP : P ∈ allP) (hE : SE P es) (ho : s.heap.get? a = some (setObj led P es ep))
    (h : Q (es.toArray, ep, tabP led P) s) : wpAny (model prog w) A (setState a) Q E s :=
  wpAny_setState_of ho rfl (by rw [List.size_toArray, hE.length]; exact fits_at hP) h

theorem small_add {led : Bool} {a : Addr} {v : Nat} {t : Tok} {Q : Bool → Shared → Prop} (hv : v < 4) (hS : SmallSet led s.heap a) (h : ∀ b h', Heap.SameBut a s.heap h' → SmallSet led h' a → Q b { s with heap := h' }) :
    wpAny (model prog w) A (setAddHashed a (.int (v : Int) t) (hashInt (v : Int))) Q E s := by
  obtain ⟨P, es, ep, hP, hE, ho⟩ := id hS
  have hel : ElemsOf (intKind prog w) es.toArray.toList := by simpa using hE.elems (allP_lt hP)
  have hf : (tabP led P).fits es.toArray.size = true := by rw [List.size_toArray, hE.length]; exact fits_at hP
  have hlen := allP_length hP
  have hl := hE.length
  have hb : es.toArray.size < scanBound := by rw [List.size_toArray]; unfold scanBound; omega
  unfold setAddHashed setAddHashedIn
  refine wpAny_holding (wpAny_bind (small_state hP hE ho ?_))
  dsimp only
  rw [byScan_of (knd := intKind prog w) rfl hb hel]
  simp only [↓reduceIte]
  unfold setAddByScan
  refine wpAny_bind ?_
  refine wpAny_bind (wpAny_rule ?_)
  refine wpAny_bind (wpAny_setScan_of (knd := intKind prog w) (k := (v : Int)) (intKind_is _ _ _ _) ho rfl hf hel ?_)
  cases hr : List.findIdx? (fun e => (intKind prog w).is (v : Int) e.2) es.toArray.toList with
  | some j =>
    dsimp only
    refine wpAny_pure (wpAny_pure ?_)
    exact h false s.heap (Heap.SameBut.refl a s.heap) hS
  | none =>
    dsimp only
    have hc := hE.find v hr
    have hk := addOk_at (led := led) hP hv
    unfold addOk at hk
    rw [hc, Bool.false_or] at hk
    rw [hashInt_small hv]
    cases hfs : (tabP led P).freeSlot (v : Int) with
    | none => rw [hfs] at hk; cases hk
    | some r =>
      obtain ⟨slot, wd⟩ := r
      rw [hfs] at hk
      dsimp only at hk
      obtain ⟨rfl, h1, h2, h3, h4⟩ := of_decide_eq_true hk
      have hsz : (SetTable.insertAt es.toArray ((tabP led P).put slot).2 ((v : Int), Value.int (v : Int) t)).size = P.length + 1 := by
        rw [← Array.length_toList, SetTable.toList_insertAt]; simp; omega
      have hL : layNew (tabP led P) es.toArray (v : Int) (.int (v : Int) t) = (SetTable.insertAt es.toArray ((tabP led P).put slot).2 ((v : Int), .int (v : Int) t), ((tabP led P).put slot).1, false, false) := by
        unfold layNew
        rw [hfs]
        dsimp only
        unfold SetTable.orStandIn
        rw [hsz, h4]
        rfl
      rw [hL]
      dsimp only
      generalize ((tabP led P).put slot).2 = p at h1 h2 hsz
      rw [h1] at h3 ⊢
      refine wpAny_bind (wpAny_pure ?_)
      refine wpAny_bind (wpAny_of_eq (a := true) (by rw [hashByValue_scannable 8 rfl]; rfl) ?_)
      simp only [↓reduceIte]
      refine wpAny_bind (wpAny_storeSet_of ho rfl ?_ (by rw [hsz, sizeLine_eq]; omega))
      rw [h3]
      simp only [Bool.and_false, Bool.false_eq_true, ↓reduceIte]
      refine wpAny_pure (wpAny_pure ?_)
      refine h true _ (Heap.SameBut.update s.heap a _) ⟨P.take p ++ v :: P.drop p, es.take p ++ ((v : Int), .int (v : Int) t) :: es.drop p, ep + 1, h2, (hE.take p).append (.cons (hE.drop p)), ?_⟩
      rw [Heap.get?_update_self _ ho rfl]
      show some (Obj.putSet _ _ (setObj led P es ep)) = _
      congr 1
      rw [putSet_of _ _ (show (setObj led P es ep).data = .set es.toArray ep (tabP led P) from rfl)]
      unfold setObj
      congr 2
      apply Array.ext'
      rw [SetTable.toList_insertAt]
end
end Mine

set_option maxRecDepth 100000
set_option linter.unusedVariables false
set_option autoImplicit false
set_option maxHeartbeats 4000000
namespace Mine
open PySem PyProof.Rows PySem.SeqAt PySem.W

/-- numbers below four -/
def Small (v : Value) : Prop := ∃ (k : Nat) (t : Tok), k < 4 ∧ v = .int (k : Int) t

section
variable {prog : Program} {w : World} {A : Around} {R : Result → Shared → Prop} {I : Addr} {fp wr : List Addr} {G : Array GenState → Array GenState → Prop} {n : Nat} {P : Nat → Value → Prop} {St : Nat → Shared → Prop}

theorem small_loop {led : Bool} (W : WalksS prog w A.in1 I fp wr G n P St) (S : Addr) (hSf : S ∉ fp) (hval : ∀ i v, P i v → Small v) :
    ∀ (k i : Nat) (s : Shared), n - i = k → i ≤ n → St i s → SmallSet led s.heap S →
      (∀ s', Moved (S :: wr) G s s' → SmallSet led s'.heap S → R (.ok (.ret .none)) s') →
      codeAny (model prog w) A (.builtin "set.update.loop" ⟨[.ref S, .ref I], []⟩) R s := by
  have hSw : S ∉ wr := fun h => hSf (W.sub _ h)
  have hsub : ∀ b ∈ wr, b ∈ S :: wr := fun b hb => List.mem_cons_of_mem _ hb
  intro k
  induction k with
  | zero =>
    intro i s hk hi hst hS hR
    obtain rfl : i = n := by omega
    refine codeAny_builtin PyProof.Rows.F.entry_set_update_loop ?_
    rw [Around.under_plainId PyProof.Rows.F.plain_set_update_loop _]
    show wpAny _ A.in1 (pyNext (.ref I) >>= _) _ _ s
    refine wpAny_bind (W.done s _ _ hst fun s' hm => ?_)
    exact wpAny_pure (hR s' (hm.mono hsub) (hS.at fun o e => hm.heap S _ hSw e))
  | succ k ih =>
    intro i s hk hi hst hS hR
    refine codeAny_builtin PyProof.Rows.F.entry_set_update_loop ?_
    rw [Around.under_plainId PyProof.Rows.F.plain_set_update_loop _]
    show wpAny _ A.in1 (pyNext (.ref I) >>= _) _ _ s
    refine wpAny_bind (W.item i s _ _ (by omega) hst fun v s' hP hst' hm => ?_)
    obtain ⟨x, t, hx, rfl⟩ := hval i v hP
    have hS' : SmallSet led s'.heap S := hS.at fun o e => hm.heap S _ hSw e
    show wpAny _ A.in1 (holding [Value.int (x : Int) t] (setAdd S (.int (x : Int) t)) >>= _) _ _ s'
    refine wpAny_bind (wpAny_holding ?_)
    unfold setAdd
    refine wpAny_holding (wpAny_bind ((intKind prog w).pyHash (k := (x : Int)) (intKind_is _ _ _ _) ?_))
    refine small_add (s := { s' with toks := s'.toks + 1 }) hx hS' fun b h' hsb hS2 => ?_
    refine wpAny_pure ⟨plainId_quiet PyProof.Rows.F.plain_set_update_loop _, ih (i + 1) _ (by omega) (by omega) (W.frame _ s' _ _ hst' (Nat.le_succ _) fun c hc o e => ?_) hS2 fun s'' hm'' hS'' => ?_⟩
    · rw [hsb.2 c (fun h : c = S => hSf (by rw [← h]; exact hc))]; exact e
    · refine hR s'' (Moved.trans W.gtrans ((hm.mono hsub).then_heap (Nat.le_succ _) fun c o hc e => ?_) hm'') hS''
      rw [hsb.2 c (fun h : c = S => hc (by rw [h]; exact List.mem_cons_self))]; exact e
end

section
variable {prog : Program} {w : World} {A : Around} {E : Value → Shared → Prop} {s : Shared}

abbrev ledW (w : World) : Bool := !(w.params.followText "set-order")
abbrev setNew (w : World) : Obj := { cls := .type "set", dict := none, data := .set #[] 0 (.fresh 0 0 (ledW w)) }

theorem small_new (a : Value) {Q₁ : Value → Shared → Prop} (h : Q₁ (.ref s.heap.objs.size) { s with heap := s.heap.push (setNew w) }) :
    codeAny (model prog w) A (.call (.builtin "set.__new__") ⟨[.type "set", a], []⟩) (wants Q₁ E) s := by
  refine codeAny_of_tree ?_
  show wpAny _ A.in1 (do checkBuiltinCall "set.__new__" ⟨[.type "set", a], []⟩; again (.builtin "set.__new__" ⟨[.type "set", a], []⟩)) _ _ s
  refine wpAny_bind (wpAny_of_eq (PySem.F.newCall_set_1 a) (wpAny_pure ⟨plainId_quiet PySem.F.plain_set_new _, codeAny_builtin PySem.F.entry_set_new ?_⟩))
  rw [Around.under_plainId PySem.F.plain_set_new _]
  unfold Builtin.«set.__new__» Builtin.Frozenset.newClass
  have hsub := PySem.sub_set_self
  obtain ⟨hp, g, d, tk, os⟩ := s
  dsimp only
  wp_walk
  refine wpAny_askSetting (wpAny_pure ?_)
  dsimp only
  simp only [newObj]
  refine wpAny_bind (wpAny_alloc (wpAny_pure ?_))
  exact wpAny_pure h

theorem small_init {l S : Addr} {items : Array Value} {R : Result → Shared → Prop} (hh : A.handled = none) (hl : s.heap.IsList l items) (hi : ∀ (i : Nat) v, items[i]? = some v → Small v) (hS : s.heap.get? S = some (setNew w)) (hne : S ≠ l)
    (h : ∀ h' tk, SmallSet (ledW w) h' S → (∀ b o, b ≠ S → s.heap.get? b = some o → h'.get? b = some o) → R (.ok (.ret .none)) { s with heap := h', toks := tk }) :
    wpAny (model prog w) A.in1 (Builtin.«set.__init__» ⟨[.ref S, .ref l], []⟩)
      (fun fin s' => match fin with | .done f => R (.ok f) s' | .again c' => c'.quiet = true ∧ codeAny (model prog w) A c' R s') (fun e s' => R (.error e) s') s := by
  have hT : Shared.TypeIs s (.ref S) "set" := ⟨_, hS, rfl⟩
  obtain ⟨ol, hol, hcl, nl, hdl⟩ := id hl
  obtain ⟨ocls, odict, odata, oslots⟩ := ol
  simp only at hcl hdl
  subst hcl; subst hdl
  have hsls := PySem.F.sub_list_set
  have hslf := PySem.F.sub_list_frozenset
  have hnd : (Value.type "list" == Value.type "dict") = false := by decide
  unfold Builtin.«set.__init__» noKeywords Builtin.Frozenset.updateFrom
  generalize hPI : pyIter = PI
  wp_walk
  subst hPI
  refine wpAny_pyIter_list hl ?_
  refine wpAny_bind (wpAny_runValue ?_)
  have hll : l < s.heap.objs.size := Heap.lt_size hol
  have hSl : S < s.heap.objs.size := Heap.lt_size hS
  have hSf : S ∉ [s.heap.objs.size, l] := by
    simp only [List.mem_cons, List.not_mem_nil, or_false, not_or]
    exact ⟨Nat.ne_of_lt hSl, hne⟩
  refine small_loop (led := ledW w) ((Walks.list (by simpa using hh) _ l (Nat.ne_of_lt hll) items).toS) S hSf hi (items.size - 0) 0 _ (by omega) (Nat.zero_le _)
    ⟨⟨_, Heap.get?_push_size _ rfl, rfl, rfl⟩, (hl.push _)⟩ ⟨[], [], 0, by decide, .nil, Heap.get?_push_of_some _ hS⟩ fun s' hm hS' => ?_
  obtain ⟨h', g', d', tk', os'⟩ := s'
  have eg : g' = s.gens := hm.gens
  have ed : d' = s.drawn := hm.drawn
  have eo : os' = s.os := hm.os
  subst eg; subst ed; subst eo
  show wpAny _ _ _ _ _ _
  refine wpAny_pure ?_
  refine wpAny_pure (h h' tk' hS' fun b o hb e => ?_)
  refine hm.heap b o ?_ (Heap.get?_push_of_some _ e)
  simp only [List.mem_cons, List.not_mem_nil, or_false, not_or]
  exact ⟨hb, Nat.ne_of_lt (Heap.lt_size e)⟩

/-- set(a list of numbers below four) -/
theorem small_set {l : Addr} {items : Array Value} {Q : Value → Shared → Prop} (hh : A.handled = none) (hl : s.heap.IsList l items) (hi : ∀ (i : Nat) v, items[i]? = some v → Small v)
    (h : ∀ (h' : Heap) (tk : Nat), SmallSet (ledW w) h' s.heap.objs.size → (∀ b o, s.heap.get? b = some o → h'.get? b = some o) → Q (.ref s.heap.objs.size) { s with heap := h', toks := tk }) :
    wpAny (model prog w) A (call (.type "set") [.ref l]) Q E s := by
  obtain ⟨c, tl, hmro⟩ := PySem.F.called_set.mro
  have hmade := PySem.F.called_set.made
  have hsub := PySem.F.called_set.sub
  refine wpAny_call (codeAny_of_tree ?_)
  show wpAny _ _ (callAny (.type "set") _) _ _ _
  refine wpAny_pure ⟨Code.quiet_builtin _ (by decide +kernel), codeAny_builtin PySem.F.entry_type_call ?_⟩
  rw [Around.under_plain (weight_type_call_type "set" [.ref l] []) rfl]
  have h1 := PySem.F.called_set.notType
  have h2 := PySem.F.called_set.canCreate
  have hct := PySem.F.typeCall_set_1 (.ref l)
  repeat (any_goals (first | assumption | wp_step))
  refine codeAny_mono (small_new (.ref l) (E := E) (Q₁ := fun obj s₁ => obj = .ref s.heap.objs.size ∧ s₁ = { s with heap := s.heap.push (setNew w) }) ⟨rfl, rfl⟩) fun r s₁ hr => ?_
  cases r with
  | error e => exact hr
  | ok fl =>
    cases fl with
    | ret obj =>
      obtain ⟨rfl, rfl⟩ := hr
      have hS : (s.heap.push (setNew w)).get? s.heap.objs.size = some (setNew w) := Heap.get?_push_size _ rfl
      have hT : Shared.TypeIs { s with heap := s.heap.push (setNew w) } (.ref s.heap.objs.size) "set" := ⟨_, hS, rfl⟩
      have hli := PySem.F.called_set.init.lookup
      have hbi := PySem.F.called_set.init.bind (.ref s.heap.objs.size)
      repeat (any_goals (first | assumption | wp_step))
      refine codeAny_mono (codeAny_call_builtin (R := wants (fun r s₂ => r = .none ∧ ∃ h' tk, s₂ = { s with heap := h', toks := tk } ∧ SmallSet (ledW w) h' s.heap.objs.size ∧ (∀ b o, s.heap.get? b = some o → h'.get? b = some o)) E)
        PySem.F.called_set.init.plain PySem.F.entry_set_init (PySem.check_set_init_1 hT ?_)) fun r₂ s₂ hr₂ => ?_
      · have hll : l < s.heap.objs.size := let ⟨_, ho, _⟩ := hl; Heap.lt_size ho
        refine small_init (s := { s with heap := s.heap.push (setNew w) }) (by simpa using hh) (hl.push _) hi hS (Nat.ne_of_gt hll) fun h' tk hS' hk => ?_
        exact ⟨rfl, h', tk, rfl, hS', fun b o e => hk b o (Nat.ne_of_lt (Heap.lt_size e)) (Heap.get?_push_of_some _ e)⟩
      · cases r₂ with
        | error e => exact hr₂
        | ok fl₂ =>
          cases fl₂ with
          | ret r =>
            obtain ⟨rfl, h', tk, rfl, hS', hk'⟩ := hr₂
            repeat (any_goals (first | assumption | wp_step))
            exact h _ _ hS' hk'
          | _ => exact hr₂.elim
    | _ => exact hr.elim
end
end Mine

set_option maxRecDepth 100000
set_option linter.unusedVariables false
set_option autoImplicit false
set_option maxHeartbeats 4000000
namespace Mine
open PySem PyProof.Rows PySem.SeqAt PySem.W

theorem pick_go {α : Type} (next : Nat → Nat) : ∀ (fuel k : Nat) (left : List α) (out : Array α), (pickOrder.go next fuel k left out).size ≤ out.size + fuel ∧ ∀ x ∈ (pickOrder.go next fuel k left out).toList, x ∈ out.toList ∨ x ∈ left
  | 0, k, left, out => ⟨Nat.le_refl _, fun x hx => .inl hx⟩
  | fuel + 1, k, left, out => by
    unfold pickOrder.go
    cases he : left[next k % left.length]? with
    | none => exact ⟨by dsimp only; omega, fun x hx => .inl hx⟩
    | some y =>
      have ih := pick_go next fuel (k + 1) (left.eraseIdx (next k % left.length)) (out.push y)
      dsimp only
      refine ⟨by have := ih.1; rw [Array.size_push] at this; omega, fun x hx => ?_⟩
      rcases ih.2 x hx with h | h
      · rw [Array.toList_push] at h
        rcases List.mem_append.mp h with h | h
        · exact .inl h
        · rw [List.mem_singleton] at h; subst h; exact .inr (List.mem_of_getElem? he)
      · exact .inr (List.mem_of_mem_eraseIdx h)

theorem erase_perm {α : Type} : ∀ (l : List α) (i : Nat) (h : i < l.length), (l[i] :: l.eraseIdx i).Perm l
  | x :: l, 0, _ => .refl _
  | x :: l, i + 1, h => (List.Perm.swap ..).trans (.cons x (erase_perm l i (by simpa using h)))
theorem pick_perm {α : Type} (next : Nat → Nat) : ∀ (fuel k : Nat) (left : List α) (out : Array α), ∃ rest, ((pickOrder.go next fuel k left out).toList ++ rest).Perm (out.toList ++ left)
  | 0, k, left, out => ⟨left, .refl _⟩
  | fuel + 1, k, left, out => by
    unfold pickOrder.go
    cases he : left[next k % left.length]? with
    | none => exact ⟨left, .refl _⟩
    | some y =>
      obtain ⟨hlt, hy⟩ := List.getElem?_eq_some_iff.mp he
      obtain ⟨rest, h⟩ := pick_perm next fuel (k + 1) (left.eraseIdx (next k % left.length)) (out.push y)
      refine ⟨rest, h.trans ?_⟩
      rw [Array.toList_push, List.append_assoc]
      refine List.Perm.append_left _ ?_
      rw [← hy]
      exact erase_perm left _ hlt
/-- what a walk over a small set meets -/
def walkL (w : World) (a : Addr) (ep : Nat) (es : List (Int × Value)) : List (Int × Value) :=
  if w.params.followText "set-order" = true then (pickOrder (w.params.setOrder a ep) es.toArray).toList else es
theorem walkL_len (w : World) (a : Addr) (ep : Nat) (es : List (Int × Value)) : (walkL w a ep es).length ≤ es.length := by
  unfold walkL
  split
  · have := (pick_go (w.params.setOrder a ep) es.toArray.size 0 es.toArray.toList #[]).1
    unfold pickOrder
    rw [Array.length_toList]
    simpa using this
  · exact Nat.le_refl _
theorem walkL_mem (w : World) (a : Addr) (ep : Nat) (es : List (Int × Value)) : ∀ x ∈ walkL w a ep es, x ∈ es := by
  unfold walkL
  split
  · intro x hx
    unfold pickOrder at hx
    rcases (pick_go (w.params.setOrder a ep) es.toArray.size 0 es.toArray.toList #[]).2 x hx with h | h
    · simp at h
    · simpa using h
  · exact fun x hx => hx
theorem walkL_perm (w : World) (a : Addr) (ep : Nat) (es : List (Int × Value)) : ∃ rest, (walkL w a ep es ++ rest).Perm es := by
  unfold walkL
  split
  · obtain ⟨rest, h⟩ := pick_perm (w.params.setOrder a ep) es.toArray.size 0 es.toArray.toList #[]
    exact ⟨rest, by simpa [pickOrder] using h⟩
  · exact ⟨[], by simp⟩
/-- the place the walk stands at -/
def standS (w : World) (P : List Nat) (i : Nat) : Nat := if w.params.followText "set-order" = true then 0 else slotAt P i

section
variable {prog : Program} {w : World} {A : Around} {E : Value → Shared → Prop} {s : Shared}

theorem small_setNext {P : List Nat} {es : List (Int × Value)} {ep i : Nat} {a : Addr} {Q : Option (Value × Nat) → Shared → Prop} (hP : P ∈ allP) (hE : SE P es) (ho : s.heap.get? a = some (setObj (ledW w) P es ep)) (hi : i ≤ (walkL w a ep es).length)
    (h : Q (((walkL w a ep es)[i]?).map fun e => (e.2, standS w P (i + 1))) s) : wpAny (model prog w) A (setNext a (standS w P i) i ep) Q E s := by
  unfold setNext
  refine wpAny_bind (small_state hP hE ho ?_)
  dsimp only
  unfold setsByText
  refine wpAny_bind (wpAny_bind (wpAny_askSetting (wpAny_pure ?_)))
  show wpAny _ _ (if w.params.followText "set-order" = true then _ else _) _ _ _
  cases hb : w.params.followText "set-order" with
  | true =>
    rw [if_pos rfl]
    rw [if_neg (by simp)]
    refine wpAny_bind ?_
    unfold setWalk
    refine wpAny_bind (small_state hP hE ho ?_)
    dsimp only
    unfold setsByText
    refine wpAny_bind (wpAny_bind (wpAny_askSetting (wpAny_pure ?_)))
    show wpAny _ _ (if w.params.followText "set-order" = true then _ else _) _ _ _
    rw [if_pos hb]
    refine wpAny_bind (wpAny_askSetting (wpAny_pure (wpAny_pure ?_)))
    unfold walkL standS at h
    rw [if_pos hb, if_pos hb] at h
    unfold standS
    rw [if_pos hb]
    rw [Array.getElem?_toList] at h
    exact h
  | false =>
    rw [if_neg (by simp)]
    refine wpAny_ite_split (fun h => absurd h Bool.false_ne_true) fun _ => ?_
    refine wpAny_bind (wpAny_ite_split (fun h => absurd h (by unfold tabP ledW; rw [hb]; exact Bool.false_ne_true)) fun _ => wpAny_pure ?_)
    unfold walkL standS at h
    unfold walkL at hi
    rw [hb] at h hi
    simp only [Bool.false_eq_true, if_false] at h hi
    unfold standS
    rw [hb]
    simp only [Bool.false_eq_true, if_false]
    have hl := hE.length
    have hs := slot_at hP (i := i) (by omega)
    show wpAny _ _ (pure _) _ _ _
    refine wpAny_pure ?_
    show Q (match es.toArray[SetTable.below P.toArray (slotAt P i)]?, P.toArray[SetTable.below P.toArray (slotAt P i)]? with | some (_, x), some j => some (x, j + 1) | _, _ => none) s
    rw [hs]
    rw [List.getElem?_toArray, List.getElem?_toArray]
    cases h1 : es[i]? with
    | none => rw [h1] at h; exact h
    | some e =>
      have hlt : i < es.length := (List.getElem?_eq_some_iff.mp h1).1
      have h2 : P[i]? = some (P.getD i 0) := by rw [List.getD_eq_getElem?_getD]; rw [List.getElem?_eq_getElem (by omega)]; rfl
      rw [h2]
      rw [h1] at h
      simp only [Option.map_some] at h
      unfold slotAt at h
      simpa using h

/-- an iterator of a small set -/
def IsSetIt (w : World) (h : Heap) (I a : Addr) (P : List Nat) (i n ep : Nat) : Prop := ∃ o, h.get? I = some o ∧ o.cls = .type "set_iterator" ∧ o.data = .fields #[.int (standS w P i) 0, .int i 0, .ref a, .int n 0, .int ep 0]

theorem slot_setit_next : Slot "set_iterator" "__next__" "set_iterator.__next__" :=
  .of (owner := "set_iterator") (n := "__next__") (by rw [typeLookup_type, builtinLookup_eq_fast]; kernel_rfl) (by decide +kernel) (by decide +kernel) (by decide +kernel)
    (by first | exact .inl (by decide +kernel) | exact .inr (by decide +kernel)) (by rw [isSubtype_type]; kernel_rfl)
theorem entry_setit_next : entryFor table "set_iterator.__next__" = some Builtin.«set_iterator.__next__» := entryFor_of_tree (by kernel_rfl)
theorem owner_setit : Manifest.owners.lookup (String.ofList ['r', 'o', 't', 'a', 'r', 'e', 't', 'i', '_', 't', 'e', 's'].reverse) = some Manifest.sig_set_iterator := by kernel_rfl
theorem args_setit_next (a : Value) : argsOk "set_iterator.__next__" ⟨[a], []⟩ := by
  unfold argsOk; rw [signature?_of (id := "set_iterator.__next__") (n := ['_', '_', 't', 'x', 'e', 'n', '_', '_']) (o := ['r', 'o', 't', 'a', 'r', 'e', 't', 'i', '_', 't', 'e', 's']) (by kernel_rfl) owner_setit]; kernel_rfl
theorem slot_setit_iter : Slot "set_iterator" "__iter__" "set_iterator.__iter__" :=
  .of (owner := "set_iterator") (n := "__iter__") (by rw [typeLookup_type, builtinLookup_eq_fast]; kernel_rfl) (by decide +kernel) (by decide +kernel) (by decide +kernel)
    (by first | exact .inl (by decide +kernel) | exact .inr (by decide +kernel)) (by rw [isSubtype_type]; kernel_rfl)
theorem entry_setit_iter : entryFor table "set_iterator.__iter__" = some Builtin.«dict_keyiterator.__iter__» := entryFor_alias (id' := "dict_keyiterator.__iter__") (by kernel_rfl) rfl (by decide +kernel) (by kernel_rfl)
theorem args_setit_iter (a : Value) : argsOk "set_iterator.__iter__" ⟨[a], []⟩ := by
  unfold argsOk; rw [signature?_of (id := "set_iterator.__iter__") (n := ['_', '_', 'r', 'e', 't', 'i', '_', '_']) (o := ['r', 'o', 't', 'a', 'r', 'e', 't', 'i', '_', 't', 'e', 's']) (by kernel_rfl) owner_setit]; kernel_rfl
theorem entry_set_iter : entryFor table "set.__iter__" = some Builtin.«frozenset.__iter__» := entryFor_alias (id' := "frozenset.__iter__") (by kernel_rfl) rfl (by decide +kernel) (by kernel_rfl)

variable {P : List Nat} {es : List (Int × Value)} {ep i n : Nat} {a I : Addr}
theorem IsSetIt.typeIs (x : IsSetIt w s.heap I a P i n ep) : s.TypeIs (.ref I) "set_iterator" := let ⟨o, ho, hc, _⟩ := x; ⟨o, ho, hc⟩

theorem small_item {Q : Option Value → Shared → Prop} {e : Int × Value} (hP : P ∈ allP) (hE : SE P es) (ho : s.heap.get? a = some (setObj (ledW w) P es ep)) (hit : IsSetIt w s.heap I a P i es.length ep) (hx : (walkL w a ep es)[i]? = some e)
    (hQ : ∀ h', IsSetIt w h' I a P (i + 1) es.length ep → Heap.SameBut I s.heap h' → Q (some e.2) { s with heap := h' }) : wpAny (model prog w) A (pyNext (.ref I)) Q E s := by
  obtain ⟨o, hI, hc, hd⟩ := id hit
  have hlt : i < (walkL w a ep es).length := (List.getElem?_eq_some_iff.mp hx).1
  unfold pyNext
  refine wpAny_bind (wpAny_attempt (wpAny_callSpecial?_slot (name := Str.ofString "__next__") hit.typeIs slot_setit_next
    (wpAny_call_entry slot_setit_next hit.typeIs entry_setit_next ?_ (args_setit_next _))))
  unfold Builtin.«set_iterator.__next__»
  refine wpAny_bind (wpAny_pure ?_)
  refine wpAny_bind (wpAny_fieldsOf hI hd ?_)
  dsimp only
  refine wpAny_bind (m := setEntries a) ?_
  unfold setEntries
  refine wpAny_bind (small_state hP hE ho (wpAny_pure ?_))
  rw [if_neg (by simp)]
  refine wpAny_bind (m := setNext a _ _ _) ?_
  refine small_setNext (i := i) (ep := ep) hP hE ho (Nat.le_of_lt hlt) ?_
  rw [hx]
  dsimp only [Option.map_some]
  refine wpAny_bind (wpAny_setField hI hd (by simp) ?_)
  have h1 := Heap.get?_update_self (Obj.mapFields (·.setIfInBounds 0 (rawInt (standS w P (i + 1))))) hI (Obj.isFreed_of_fields (Obj.data_mapFields hd _))
  have hd1 := Obj.data_mapFields hd (fun fs : Array Value => fs.setIfInBounds 0 (rawInt (standS w P (i + 1))))
  refine wpAny_bind (wpAny_setField h1 hd1 (by simp) ?_)
  refine wpAny_pure ⟨_, rfl, wpAny_pure (hQ _ ⟨_, Heap.get?_update_self _ h1 (Obj.isFreed_of_fields (Obj.data_mapFields hd1 _)), ?_, ?_⟩ ?_)⟩
  · exact (Obj.cls_mapFields ..).trans ((Obj.cls_mapFields ..).trans hc)
  · rw [Obj.data_mapFields hd1]; simp [rawInt]
  · exact (Heap.SameBut.update ..).trans (Heap.SameBut.update ..)

theorem small_end {Q : Option Value → Shared → Prop} (hh : A.handled = none) (hP : P ∈ allP) (hE : SE P es) (ho : s.heap.get? a = some (setObj (ledW w) P es ep)) (hit : IsSetIt w s.heap I a P (walkL w a ep es).length es.length ep)
    (hQ : ∀ h', Heap.ExtBut I s.heap h' → Q none { s with heap := h' }) : wpAny (model prog w) A (pyNext (.ref I)) Q E s := by
  obtain ⟨o, hI, hc, hd⟩ := id hit
  unfold pyNext
  refine wpAny_bind (wpAny_attempt (wpAny_callSpecial?_slot (name := Str.ofString "__next__") hit.typeIs slot_setit_next
    (wpAny_call_entry slot_setit_next hit.typeIs entry_setit_next ?_ (args_setit_next _))))
  unfold Builtin.«set_iterator.__next__»
  refine wpAny_bind (wpAny_pure ?_)
  refine wpAny_bind (wpAny_fieldsOf hI hd ?_)
  dsimp only
  refine wpAny_bind (m := setEntries a) ?_
  unfold setEntries
  refine wpAny_bind (small_state hP hE ho (wpAny_pure ?_))
  rw [if_neg (by simp)]
  refine wpAny_bind (m := setNext a _ _ _) ?_
  refine small_setNext (i := (walkL w a ep es).length) (ep := ep) hP hE ho (Nat.le_refl _) ?_
  rw [List.getElem?_eq_none (Nat.le_refl _)]
  dsimp only [Option.map_none]
  refine wpAny_bind (wpAny_setField hI hd (by simp) ?_)
  show wpAny _ _ (newExc (.type "StopIteration") [] >>= _) _ _ _
  refine wpAny_bind ?_
  simp only [newExc, newTuple]
  refine wpAny_bind (wpAny_newObj_type ?_ (by size_fits))
  refine wpAny_bind (m := firstArgMember _ _) (wpAny_of_eq (a := Value.none) (by first | rfl | (simp only [firstArgMember]; rfl)) ?_)
  refine wpAny_newObj_type ?_ (by size_fits)
  simp only [raiseNew]
  refine wpAny_bind (wpAny_handled ?_)
  rw [show A.in1.handled = none from hh]
  refine wpAny_bind (wpAny_pure (wpAny_throw ?_))
  refine wpAny_bind (wpAny_isInstance (T := "StopIteration") (b := true) ⟨_, Heap.get?_push_size _ rfl, rfl⟩ isSubtype_stop ?_)
  exact wpAny_pure (hQ _ (((Heap.SameBut.update ..).extBut.push _).push _))

theorem small_iter {Q : Value → Shared → Prop} (hP : P ∈ allP) (hE : SE P es) (ho : s.heap.get? a = some (setObj (ledW w) P es ep))
    (hQ : Q (.ref s.heap.objs.size) { s with heap := s.heap.push { cls := .type "set_iterator", data := .fields #[.int 0 0, .int 0 0, .ref a, .int es.length 0, .int ep 0] } }) : wpAny (model prog w) A (pyIter (.ref a)) Q E s := by
  have hT : s.TypeIs (.ref a) "set" := ⟨_, ho, rfl⟩
  refine wpAny_pyIter_slot hT PySem.F.slot_set_iter (wpAny_call_entry PySem.F.slot_set_iter hT entry_set_iter ?_ (PySem.F.args_set_iter_1 _))
  unfold Builtin.«frozenset.__iter__»
  refine wpAny_bind (m := Builtin.Frozenset.slot0 _ _) (wpAny_of_eq (a := a) rfl ?_)
  unfold Builtin.Frozenset.sizeOf setEntries
  refine wpAny_bind (wpAny_bind (wpAny_bind (small_state hP hE ho (wpAny_pure (wpAny_pure ?_)))))
  refine wpAny_bind (m := setDrawn a) ?_
  unfold setDrawn
  refine wpAny_bind (small_state hP hE ho ?_)
  dsimp only
  unfold setsByText
  refine wpAny_bind (wpAny_bind (wpAny_askSetting (wpAny_pure (wpAny_pure ?_))))
  refine wpAny_ite_split (fun h => absurd h (by rw [Bool.and_eq_true]; rintro ⟨_, h2⟩; exact absurd h2 Bool.false_ne_true)) fun _ => ?_
  refine wpAny_bind (wpAny_pure ?_)
  unfold setEpoch
  refine wpAny_bind (wpAny_bind (small_state hP hE ho (wpAny_pure ?_)))
  refine wpAny_bind (wpAny_newObj_type (wpAny_pure ⟨_, rfl, "set_iterator", _, ⟨_, Heap.get?_push_size _ rfl, rfl⟩, slot_setit_next.lookup, ?_⟩))
  simpa [rawInt] using hQ
end
end Mine

set_option maxRecDepth 100000
set_option linter.unusedVariables false
set_option autoImplicit false
set_option maxHeartbeats 4000000
namespace Mine
open PySem PyProof.Rows PySem.SeqAt PySem.W

theorem SE.small {P es} (h : SE P es) : (∀ p ∈ P, p < 4) → ∀ e ∈ es, Small e.2 := by
  induction h with
  | nil => intro _ e he; cases he
  | cons r ih =>
    intro hp e he
    rcases List.mem_cons.mp he with rfl | he
    · exact ⟨_, _, hp _ List.mem_cons_self, rfl⟩
    · exact ih (fun p hp' => hp p (List.mem_cons_of_mem _ hp')) e he

def intV : Value → Int
  | .int k _ => k
  | _ => 0
theorem SE.keys {P es} (h : SE P es) : es.map (fun e => intV e.2) = P.map fun p : Nat => (p : Int) := by
  induction h with
  | nil => rfl
  | cons r ih => simp only [List.map_cons, ih]; rfl
theorem allP_nodup : (allP.all fun P => decide (P.map fun p : Nat => (p : Int)).Nodup) = true := by decide +kernel
theorem walk_nodup {w : World} {a : Addr} {ep : Nat} {P : List Nat} {es : List (Int × Value)} (hP : P ∈ allP) (hE : SE P es) : ((walkL w a ep es).map fun e => intV e.2).Nodup := by
  obtain ⟨rest, h⟩ := walkL_perm w a ep es
  have h1 := h.map fun e => intV e.2
  rw [hE.keys, List.map_append] at h1
  have h2 : (P.map fun p : Nat => (p : Int)).Nodup := of_decide_eq_true (List.all_eq_true.mp allP_nodup P hP)
  exact (List.nodup_append.mp (h1.nodup_iff.mpr h2)).1

section
variable {prog : Program} {w : World} {A : Around} {E : Value → Shared → Prop} {s : Shared} {P : List Nat} {es : List (Int × Value)} {ep : Nat} {a : Addr}

theorem small_hint {Q : Bool → Shared → Prop} (hT : s.TypeIs (.ref a) "set") (h : Q false s) : wpAny (model prog w) A (Builtin.List.listLengthHint (.ref a)) Q E s := by
  unfold Builtin.List.listLengthHint
  refine wpAny_bind (wpAny_specialOf hT PySem.F.slot_set_len.lookup ?_)
  generalize hid : ("set.__len__" : String) = id0
  wp_delta
  rw [show splitId id0 = some ("set", "__len__") from by subst hid; decide +kernel]
  subst hid
  refine wpAny_bind (wpAny_isInstance (T := "set") (b := true) hT (by rw [isSubtype_type]; kernel_rfl) ?_)
  refine wpAny_ite_split (fun hab => absurd hab (by decide)) (fun _ => ?_)
  refine wpAny_ite_split (fun _ => ?_) (fun hab => absurd (by decide +kernel) hab)
  refine wpAny_bind (wpAny_typeOf hT ?_)
  exact wpAny_pure h

theorem small_walks {I : Addr} (hh : A.handled = none) (hne : a ≠ I) (hP : P ∈ allP) (hE : SE P es) :
    Walks prog w A I [I, a] [I] (walkL w a ep es).length (fun i v => ((walkL w a ep es)[i]?).map (·.2) = some v) (fun i h => IsSetIt w h I a P i es.length ep ∧ h.get? a = some (setObj (ledW w) P es ep)) where
  sub := fun b hb => by simp at hb; simp [hb]
  frame := fun _ _ _ st hk => ⟨let ⟨o, ho, r⟩ := st.1; ⟨o, hk I (by simp) o ho, r⟩, hk a (by simp) _ st.2⟩
  item := fun i s Q E hi st hQ => by
    obtain ⟨e, he⟩ : ∃ e, (walkL w a ep es)[i]? = some e := ⟨(walkL w a ep es)[i], by simp [hi]⟩
    refine small_item hP hE st.2 st.1 he fun h' hit hs => ?_
    refine hQ e.2 h' s.toks (by rw [he]; rfl) ⟨hit, (hs.2 a hne).trans st.2⟩ fun b o hb q => (hs.2 b (by simpa using hb)).trans q
  done := fun s Q E st hQ => small_end hh hP hE st.2 st.1 fun h' hx => hQ h' s.toks fun b o hb q => hx b o (by simpa using hb) q
  self := fun _ s _ _ st hQ => by
    have hit := st.1
    refine wpAny_pyIter_slot hit.typeIs slot_setit_iter (wpAny_call_entry slot_setit_iter hit.typeIs entry_setit_iter ?_ (args_setit_iter _))
    show wpAny _ _ (ret (.ref I)) _ _ s
    exact wpAny_pure ⟨_, rfl, "set_iterator", _, hit.typeIs, slot_setit_next.lookup, hQ⟩

theorem small_src (hP : P ∈ allP) (hE : SE P es) : KdlSrc prog w "set" a a (walkL w a ep es).length (fun i v => ((walkL w a ep es)[i]?).map (·.2) = some v) (fun h => h.get? a = some (setObj (ledW w) P es ep)) where
  type := fun _ h => ⟨_, h, rfl⟩
  there := fun _ h => ⟨Heap.lt_size h, Heap.lt_size h⟩
  keep := fun _ _ h hk => hk a (.inl rfl) _ h
  notList := by decide
  notTuple := by decide
  hint := fun _ _ _ _ h hq => small_hint ⟨_, h, rfl⟩ hq
  iter := fun A s hh h => ⟨_, _, (fun _ _ hq => small_iter hP hE h hq), small_walks hh (Nat.ne_of_lt (Heap.lt_size h)) hP hE, ⟨⟨_, Heap.get?_push_size _ rfl, rfl, by
    have e : standS w P 0 = 0 := by unfold standS slotAt; split <;> rfl
    rw [e]; rfl⟩, Heap.get?_push_of_some _ h⟩⟩

theorem collect_src {T : String} {r d : Addr} {n : Nat} {Pz : Nat → Value → Prop} {OK : Heap → Prop} {Q : List Value → Shared → Prop} (K : KdlSrc prog w T r d n Pz OK) (hh : A.handled = none) (hok : OK s.heap) (hn : n ≤ sizeLine)
    (h : ∀ h' tk (vs : List Value), (∀ b o, s.heap.get? b = some o → h'.get? b = some o) → vs.length = n → (∀ (j : Nat) v, vs[j]? = some v → Pz j v) → Q vs { s with heap := h', toks := tk }) : wpAny (model prog w) A (collect (.ref r)) Q E s := by
  have hlt := K.there _ hok
  unfold collect
  refine wpAny_bind (wpAny_runValue (codeAny_builtin PySem.F.entry_proto_collect ?_))
  rw [Around.under_plainId PySem.F.plain_proto_collect _]
  show wpAny _ A.in1 (newList [] >>= fun l => again (.builtin "list.__iadd__" ⟨[l, .ref r], []⟩)) _ _ s
  refine wpAny_bind (wpAny_newObj_type ?_)
  refine wpAny_pure ⟨plainId_quiet PySem.F.plain_list_iadd _, codeAny_builtin PySem.F.entry_list_iadd ?_⟩
  rw [Around.under_plainId PySem.F.plain_list_iadd _]
  have hS₁ : (s.heap.push { cls := .type "list", data := .seq ([] : List Value).toArray }).get? s.heap.objs.size = some { cls := .type "list", data := .seq ([] : List Value).toArray } := Heap.get?_push_size _ rfl
  show wpAny _ A.in1 (Builtin.List.listExtendWith (.ref s.heap.objs.size) (.ref r) (.ref s.heap.objs.size)) _ _ _
  refine kdl_extend (R := fun r s' => match r with | .ok (.ret v) => wpAny (model prog w) A (match v with | .ref a => (do let o ← load a; match o.data with | .seq xs _ => pure xs.toList | _ => unsupported "internal:collect") | _ => unsupported "internal:collect") Q E s' | .ok _ => False | .error e => E e s') (s := { s with heap := s.heap.push { cls := .type "list", data := .seq ([] : List Value).toArray } }) K hh (K.keep _ _ hok fun b _ o e => Heap.get?_push_of_some _ e) s.heap.objs.size (Nat.ne_of_gt hlt.1) (Nat.ne_of_gt hlt.2) _ _ hS₁ (fun h' tk acc' c' hk hS' hacc => ?_) hn
  show wpAny _ A (load s.heap.objs.size >>= _) _ _ _
  refine wpAny_bind (wpAny_load hS' ?_)
  refine wpAny_pure (h h' tk acc'.toList (fun b o e => hk b o (Nat.ne_of_lt (Heap.lt_size e)) (Heap.get?_push_of_some _ e)) (by rw [Array.length_toList]; exact hacc.1) fun j v hj => hacc.2 j v (by rw [← Array.getElem?_toList]; exact hj))

/-- sorted(a small set) -/
theorem small_sorted {Q : Value → Shared → Prop} (hh : A.handled = none) (hS : SmallSet (ledW w) s.heap a)
    (h : ∀ h' tk D (vs : List Value) c, s.heap.objs.size ≤ D → (∀ b o, s.heap.get? b = some o → h'.get? b = some o) → vs.length ≤ 4 → (∀ v ∈ vs, Small v) → (vs.map intV).Nodup → h'.get? D = some (seqObj "list" vs.toArray c) → Q (.ref D) { s with heap := h', toks := tk }) :
    wpAny (model prog w) A (call (.builtin "sorted") [.ref a]) Q E s := by
  obtain ⟨P, es, ep, hP, hE, ho⟩ := hS
  have hl := hE.length
  have h4 := allP_length hP
  have hw := walkL_len w a ep es
  refine Calls.call_function_entry kind_sorted plain_sorted entry_sorted (args_sorted1 _) ?_
  unfold Builtin.«sorted»
  refine wpAny_bind (m := checkCount "sorted" 1 1 _) (wpAny_pure ?_)
  refine wpAny_bind (with_size (collect_src (small_src hP hE) (by simpa using hh) ho (by rw [sizeLine_eq]; omega) fun h1 tk1 vs hk1 hv1 hv2 hsz => ?_))
  have hvs : vs = (walkL w a ep es).map (·.2) := by
    apply List.ext_getElem?
    intro i
    rw [List.getElem?_map]
    cases he : vs[i]? with
    | some v => exact (hv2 i v he).symm
    | none =>
      have : vs.length ≤ i := List.getElem?_eq_none_iff.mp he
      rw [List.getElem?_eq_none (by omega)]; rfl
  have hsm : ∀ v ∈ vs, Small v := fun v hv => by
    rw [hvs] at hv
    obtain ⟨e, he, rfl⟩ := List.mem_map.mp hv
    exact hE.small (allP_lt hP) e (walkL_mem w a ep es e he)
  have hnd : (vs.map intV).Nodup := by rw [hvs, List.map_map]; exact walk_nodup hP hE
  have hvl : vs.length ≤ 4 := by omega
  refine wpAny_bind (wpAny_newList ?_ (by rw [sizeLine_eq]; omega))
  have hoL : (h1.push (seqObj "list" vs.toArray 0)).get? h1.objs.size = some (seqObj "list" vs.toArray 0) := Heap.get?_push_size _ rfl
  have hlow : ∀ b o, s.heap.get? b = some o → b ≠ h1.objs.size := fun b o e => Nat.ne_of_lt (Nat.lt_of_lt_of_le (Heap.lt_size e) hsz)
  refine wpAny_bind (wpAny_holding (wpAny_call_entry slot_list_sort ⟨_, hoL, rfl⟩ entry_list_sort ?body (args_list_sort _)))
  case body =>
    refine s_sortFew (s := { s with heap := h1.push (seqObj "list" vs.toArray 0), toks := tk1 }) hoL (by omega) (fun h' hk' h2 => ?_) fun out c h3 hperm ho3 hk3 => ?_
    · refine ⟨oneType', fun Q' hq => ?_, fun u hu v hv Q' hQ => ?_⟩
      · refine kas_kind (s := { s with heap := h', toks := tk1 }) (vs := vs) (T := .type "int") (by omega) (fun v hv => ?_) (by decide) (by decide) hq
        obtain ⟨k, t, _, rfl⟩ := hsm v hv
        exact .now
      · obtain ⟨k, t, _, rfl⟩ := hsm u hu
        obtain ⟨k', t', _, rfl⟩ := hsm v hv
        rw [keyLt'_oneType]
        exact oneLt_int (hQ _)
    · exact ⟨_, rfl, wpAny_pure ⟨_, rfl, h h3 tk1 h1.objs.size out c hsz (fun b o e => hk3 b o (hlow b o e) (Heap.get?_push_of_some _ (hk1 b o e))) (by rw [hperm.length_eq]; exact hvl) (fun v hv => hsm v (hperm.mem_iff.mp hv)) ((hperm.map intV).nodup_iff.mpr hnd) ho3⟩⟩
end

/-- sorted(set(a list of numbers below four)): some such numbers, four at most -/
inductive pSortSet : List AV → Post → AHeap → Prop
  | mk {p : Addr} {xs : List AV} {Q : Post} {σ : AHeap} (hp : listAt p xs σ) (hx : ∀ x ∈ xs, ∃ k : Nat, k < 4 ∧ x = .int k) (h : ∀ ys : List Int, ys.length ≤ 4 → (∀ y ∈ ys, 0 ≤ y ∧ y < 4) → ys.Nodup → ∀ r, σ r = none → Q (.ref r) (σ.set r (.list (ys.map .int)))) : pSortSet [.ref p] Q σ

theorem repSmall {h : Heap} : ∀ {vs : List Value}, (∀ v ∈ vs, Small v) → (∀ y ∈ vs.map intV, 0 ≤ y ∧ y < 4) ∧ RepVs h ((vs.map intV).map .int) vs
  | [], _ => ⟨fun y h => (nomatch h), .nil⟩
  | v :: vs, hv => by
    obtain ⟨h3, h2⟩ := repSmall (vs := vs) fun v hv' => hv v (List.mem_cons_of_mem _ hv')
    obtain ⟨k, t, hk, rfl⟩ := hv v List.mem_cons_self
    exact ⟨fun y hy => (List.mem_cons.mp hy).elim (fun e => by rw [e]; show (0 : Int) ≤ (k : Int) ∧ (k : Int) < 4; omega) (h3 y), .cons (.int _ _) h2⟩

section
variable {X : Cx} {env : Env} {nm : List (Str × Nat)}
theorem sound_sortSet {e : Expr} {m : AE} {gp gp2 pos2 pos : Pos} (XO : X.Ok) (EO : EnvOk env) (hx : env.kindOf "sorted" = some .globalImplicit) (hn : X.mg "sorted" = none) (hv : X.mb "sorted" = some (.builtin "sorted"))
    (hxT : env.kindOf "set" = some .globalImplicit) (hnT : X.mg "set" = none) (hvT : X.mb "set" = some (.type "set")) (h : SoundEs X env nm [e] [m]) :
    SoundE X env nm (.Call (.Name "sorted" gp) [.Call (.Name "set" gp2) [e] [] pos2] [] pos) (A.prim pSortSet [m]) := fun d A l σ s Q Z L a F q => by
  refine Call_ (wp_builtin XO EO a hx (by decide) hn hv ?_)
  refine Calls.callWith_builtin ?_ ?_
  · rw [starEach_cons rfl]; rfl
  rw [starEach_cons rfl]
  refine Calls.evalArgs_plain ?_
  refine Calls.spliced_cons (Call_ (wp_builtin XO EO a hxT (by decide) hnT hvT ?_))
  refine PyProof.Rows.callWith_type h.plain (sound_args h L a F q fun vs s1 ⟨avs, σ1, r, a1, st, q1⟩ => ?_)
  cases q1 with
  | mk hp hx' q2 =>
    obtain ⟨v, rfl, rv⟩ := repVs1 r
    cases rv
    obtain ⟨vs, hl, rs⟩ := a1.isList hp
    refine with_size (small_set L.handled hl (fun i v hi => ?_) fun h2 tk2 hS hk hsz => ?_)
    · obtain ⟨x, hx2, rx⟩ := rs.mem v (List.mem_of_getElem? (by simpa using hi))
      obtain ⟨k, hk, rfl⟩ := hx' x hx2
      cases rx; exact ⟨k, _, hk, rfl⟩
    · refine Calls.spliced_nil (with_size (small_sorted L.handled hS fun h3 tk3 D vs' c hD hk3 hl4 hsm hnd ho3 hsz3 => ?_))
      obtain ⟨hy3, hy2⟩ := repSmall (h := h3) hsm
      have kp : ∀ b o, s1.heap.get? b = some o → h3.get? b = some o := fun b o e => hk3 b o (hk b o e)
      have := newListAtD (t := tk3) a1 kp (Nat.le_trans hsz hD) ho3 hy2 (by simp; omega) (Nat.le_trans hsz hsz3) (q2 (vs'.map intV) (by rw [List.length_map]; exact hl4) hy3 hnd)
      exact this.back st
end
end Mine

set_option maxRecDepth 100000
set_option linter.unusedVariables false
set_option autoImplicit false
set_option maxHeartbeats 4000000
namespace Mine
open PySem PyProof.Rows PySem.SeqAt PySem.W

section
variable {X : Cx} {K : Frag} {env : Env} {nm : List (Str × Nat)} {names : List (Str × NameKind)}
theorem w_sortSet {e : Expr} {m : AE} {gp gp2 pos2 pos : Pos} (G : Gd X K) (E : EK env names) (hb : isBi K "sorted" (.builtin "sorted")) (hbT : isBi K "set" (.type "set")) (hg : isGlob names "sorted" = true) (hgT : isGlob names "set" = true) (h : SoundEs X env nm [e] [m]) :
    SoundE X env nm (.Call (.Name "sorted" gp) [.Call (.Name "set" gp2) [e] [] pos2] [] pos) (A.prim pSortSet [m]) := sound_sortSet G.ok E.eo (E.glob hg).1 (G.none hb) (G.some hb) (E.glob hgT).1 (G.none hbT) (G.some hbT) h
theorem w_sortLen {e : Expr} {m : AE} {gp lp kp pos : Pos} (G : Gd X K) (E : EK env names) (hb : isBi K "sorted" (.builtin "sorted")) (hbL : isBi K "len" (.builtin "len")) (hg : isGlob names "sorted" = true) (hgL : isGlob names "len" = true) (hs : notStar e = true) (h : SoundE X env nm e m) :
    SoundE X env nm (.Call (.Name "sorted" gp) [e] [⟨some "key", .Name "len" lp, kp⟩] pos) (A.prim pSortLen [m]) := sound_sortLen G.ok E.eo (E.glob hg).1 (G.none hb) (G.some hb) (E.glob hgL).1 (G.none hbL) (G.some hbL) hs h
end

section
variable {X : Cx} {σ : AHeap} {Q : Post} {p : Addr} {ms r : List Mark} {rs : List (List Mark)} {m : Mark}
theorem rd_mark (m : Mark) : Rd σ (mkAV m) (mkD m) := .tup (.cons (.str _) (.cons (.int _) .nil))
theorem rd_marks : ∀ ms : List Mark, RdL σ (ms.map mkAV) (ms.map mkD)
  | [] => .nil
  | m :: ms => .cons (rd_mark m) (rd_marks ms)
theorem rd_row (r : List Mark) : Rd σ (rowAV r) (.tuple (r.map mkD)) := .tup (rd_marks r)
theorem do_row (h : ∀ m ∈ r, mOk m) : DOk (.tuple (r.map mkD)) := ⟨by simp only [PyData.canLay0]; exact (row_lay h).1, by have := (row_lay h).2; simp only [PyData.depth]; omega⟩
theorem do_list (h : ∀ m ∈ r, mOk m) : DOk (.list (r.map mkD)) := ⟨by simp only [PyData.canLay0]; exact (row_lay h).1, by have := (row_lay h).2; simp only [PyData.depth]; omega⟩
theorem do_mark (h : mOk m) : DOk (mkD m) := by
  have := row_lay (ms := [m]) (by simpa using h)
  simp only [List.map_cons, List.map_nil, PyData.canLayAll0, PyData.depthAll, Bool.and_eq_true] at this
  exact ⟨this.1.1, by omega⟩
theorem any_marks (ms : List Mark) (m : Mark) : ((ms.map mkD).any fun y => PyData.eqv y (mkD m)) = decide (m ∈ ms) := by
  induction ms with
  | nil => rfl
  | cons x ms ih => rw [List.map_cons, List.any_cons, ih, mkD_eqv]; simp only [List.mem_cons, Bool.decide_or]; congr 1; exact decide_eq_decide.mpr eq_comm
theorem inA_marks {R : Bool → AHeap → Prop} (hp : listAt p (ms.map mkAV) σ) (hk : ∀ x ∈ ms, mOk x) (hm : mOk m) (h : R (decide (m ∈ ms)) σ) : inA X (mkAV m) (.ref p) R σ :=
  ⟨_, _, .inl (.list hp (rd_marks ms)), rd_mark m, do_list hk, do_mark hm, by rw [any_marks]; exact h⟩
theorem inA_row {R : Bool → AHeap → Prop} (hk : ∀ x ∈ ms, mOk x) (hm : mOk m) (h : R (decide (m ∈ ms)) σ) : inA X (mkAV m) (rowAV ms) R σ :=
  ⟨_, _, .inr (rd_row ms), rd_mark m, ⟨by have := (do_row hk).1; simp only [PyData.canLay0] at this ⊢; exact this, by have := (do_row hk).2; simp only [PyData.depth] at this ⊢; exact this⟩, do_mark hm, by rw [any_marks]; exact h⟩
theorem q_inMarks (hp : listAt p (ms.map mkAV) σ) (hk : ∀ x ∈ ms, mOk x) (hm : mOk m) (h : Q (.bool (decide (m ∈ ms))) σ) : cmpA X .In (mkAV m) (.ref p) Q σ := .inn (inA_marks hp hk hm h)
theorem q_notInMarks (hp : listAt p (ms.map mkAV) σ) (hk : ∀ x ∈ ms, mOk x) (hm : mOk m) (h : Q (.bool (!decide (m ∈ ms))) σ) : cmpA X .NotIn (mkAV m) (.ref p) Q σ := .notIn (inA_marks hp hk hm h)
theorem q_notInRow (hk : ∀ x ∈ ms, mOk x) (hm : mOk m) (h : Q (.bool (!decide (m ∈ ms))) σ) : cmpA X .NotIn (mkAV m) (rowAV ms) Q σ := .notIn (inA_row hk hm h)
theorem q_neRow (hr : ∀ m ∈ r, mOk m) (h : Q (.bool (!r.isEmpty)) σ) : cmpA X .NotEq (rowAV r) (.tup []) Q σ := by
  refine .ne (rd_row r) (.tup .nil) (do_row hr) ⟨by simp [PyData.canLay0, PyData.canLayAll0], by simp [PyData.depth, PyData.depthAll]⟩ ?_
  have : PyData.eqv (.tuple (r.map mkD)) (.tuple []) = r.isEmpty := by cases r <;> simp [PyData.eqv, PyData.eqvAll]
  rw [this]; exact h
end

section
variable {kvs : Tab} {k k' : List Mark} {v : AV}
theorem Tab.at_some (h : k ∈ kvs.map (·.1)) : (kvs.at k).isSome = true := by
  unfold Tab.at
  rw [Option.isSome_map, List.find?_isSome]
  obtain ⟨x, hx, rfl⟩ := List.mem_map.mp h
  exact ⟨x, hx, by simp⟩
theorem Tab.at_none (h : k ∉ kvs.map (·.1)) : kvs.at k = none := by
  unfold Tab.at
  rw [Option.map_eq_none_iff, List.find?_eq_none]
  intro x hx e
  exact h (List.mem_map.mpr ⟨x, hx, by simpa using e⟩)
theorem Tab.isSome_at : (kvs.at k).isSome = decide (k ∈ kvs.map (·.1)) := by
  by_cases h : k ∈ kvs.map (·.1)
  · rw [Tab.at_some h, decide_eq_true h]
  · rw [Tab.at_none h, decide_eq_false h]; rfl
theorem Tab.keys_new (h : k ∉ kvs.map (·.1)) : (kvs.put k v).map (·.1) = kvs.map (·.1) ++ [k] := by
  unfold Tab.put
  rw [Tab.at_none h]; simp
theorem Tab.keys_old (h : k ∈ kvs.map (·.1)) : (kvs.put k v).map (·.1) = kvs.map (·.1) := by
  unfold Tab.put
  rw [if_pos (Tab.at_some h), List.map_map]
  apply List.map_congr_left
  intro x _
  simp only [Function.comp]
  split <;> rfl
theorem Tab.at_put : (kvs.put k v).at k' = if k' = k then some v else kvs.at k' := by
  unfold Tab.put
  split
  · rename_i hs
    induction kvs with
    | nil => simp [Tab.at] at hs
    | cons x kvs ih =>
      unfold Tab.at at hs ih ⊢
      rw [List.map_cons, List.find?_cons, List.find?_cons]
      rw [List.find?_cons] at hs
      by_cases hx : x.1 = k
      · rw [if_pos hx]
        by_cases hk : k' = k
        · rw [if_pos hk]; simp [hx, hk]
        · rw [if_neg hk]
          have h1 : decide (x.1 = k') = false := decide_eq_false fun e => hk (e.symm.trans hx)
          simp only [h1]
          clear hs ih
          induction kvs with
          | nil => rfl
          | cons y kvs ih2 =>
            rw [List.map_cons, List.find?_cons, List.find?_cons]
            by_cases hy : y.1 = k
            · rw [if_pos hy]
              have h2 : decide (y.1 = k') = false := decide_eq_false fun e => hk (e.symm.trans hy)
              simp only [h2]; exact ih2
            · rw [if_neg hy]
              by_cases hy' : y.1 = k'
              · simp [hy']
              · simp only [decide_eq_false hy']; exact ih2
      · rw [if_neg hx]
        by_cases hx' : x.1 = k'
        · have hk : ¬ k' = k := fun e => hx (hx'.trans e)
          rw [if_neg hk]; simp [hx']
        · have h2 : decide (x.1 = k) = false := decide_eq_false hx
          simp only [h2] at hs
          simp only [decide_eq_false hx']
          exact ih hs
  · rename_i hs
    unfold Tab.at at hs ⊢
    rw [List.find?_append]
    by_cases hk : k' = k
    · rw [if_pos hk]
      have : (kvs.find? fun x => decide (x.1 = k')) = none := by
        rw [hk]
        cases hf : kvs.find? fun x => decide (x.1 = k) with
        | none => rfl
        | some y => rw [hf] at hs; exact absurd rfl hs
      rw [this]; simp [hk]
    · rw [if_neg hk]
      have h1 : decide (k = k') = false := decide_eq_false fun e => hk e.symm
      simp [List.find?_cons, h1]
end
end Mine

set_option maxRecDepth 1000000
set_option maxHeartbeats 8000000
set_option linter.unusedVariables false
set_option autoImplicit false
namespace Mine
open PySem PySem.W PySem.Calls PyProof.Rows

/-- the booted heap as a tree -/
noncomputable def bootT (P : Params) : BT := ((((((((((BT.nil.ins 0 (boot_o_0 P)).ins 1 (boot_o_1 P)).ins 2 (boot_o_2 P)).ins 3 (boot_o_3 P)).ins 4 (boot_o_4 P)).ins 5 (boot_o_5 P)).ins 6 (boot_o_6 P)).ins 7 (boot_o_7 P)).ins 8 (boot_o_8 P)).ins 9 (boot_o_9 P)).ins 10 (boot_o_10 P)
noncomputable def bootS (w : World) (os : OsState) : SharedT := ⟨bootT w.params, 11, (boot_heap w.params).life, Array.mk [], boot_drawn, boot_toks, os⟩
theorem boot_abs (w : World) (os : OsState) : (bootS w os).abs = ⟨boot_heap w.params, Array.mk [], boot_drawn, boot_toks, os⟩ := by kernel_rfl
theorem boot_size (P : Params) : (boot_heap P).isNs mainGlobals = true := by kernel_rfl
theorem boot_objs (P : Params) : (boot_heap P).objs.size = 11 := by kernel_rfl
theorem boot_ann (P : Params) : (boot_heap P).nsMap mainGlobals "__annotations__" = some (.ref 6) := by kernel_rfl

theorem seg0_top {tb : String → Option Builtin} {p : Program} {w : World} {n₀ : Nat} {ann : Option Value} : ∀ {n : Nat} {s s' : Shared} {t : Thread} {f : Flow} {c : Code} {q : Pos}, segRun tb p w n₀ ann 0 n s t = some (f, s', c, q) → topRun tb p w n₀ ann n s t = some s' := by
  intro n
  induction n with
  | zero => intro s s' t f c q h; cases h
  | succ n ih =>
    intro s s' t f c q h
    unfold segRun at h
    unfold topRun
    have ht : through t = (endAt 0 t).isSome := by
      obtain ⟨cur, code, pos, stack⟩ := t
      cases stack with
      | nil =>
        cases cur with
        | pure x => cases x <;> rfl
        | _ => rfl
      | cons a l => rfl
    rw [ht]
    cases he : endAt 0 t with
    | some x => rw [he] at h; cases h; rfl
    | none =>
      rw [he] at h
      dsimp only [Option.isSome_none]
      cases hk : stepOk n₀ ann t with
      | false => rw [hk] at h; cases h
      | true =>
        rw [hk] at h
        cases hs : step (denote tb) p w s t with
        | halt o s₂ => rw [hs] at h; cases h
        | go s₂ t₂ => rw [hs] at h; exact ih h

/-- what is looked at behind the top -/
noncomputable def topLook {α : Type} (p q : Program) (loose : List Str) (Xt : Shared → Bool) (Yf : Shared → α) (P : Params) (s : Shared) :=
  (staticsOk (importedModules p.main.body) (boot_heap P) s.heap && namesBound p s.heap && gensDone s && laidKept (boot_heap P) s.heap, openSeen q loose (importedModules p.main.body) Xt true s, Yf s)

theorem left_once {p q : Program} {loose : List Str} {Xt : Shared → Bool} {α : Type} {Yf : Shared → α} {Ya : World → α} {N : Nat}
    (e : opening p = plainProg p.main.scope.names) (hN : Nat.ble 600 N = true) (f : ∀ s, fenceModules? p s = some s)
    (h : ∀ (w : World) (os : OsState), (segRunT treeTable p w 11 (some (.ref 6)) 0 N (bootS w os) (topStub p)).map (fun r => topLook p q loose Xt Yf w.params r.2.1.abs) = some (true, openGood q loose, Ya w)) : LeftO p q loose Xt Yf Ya N true := by
  intro w
  obtain ⟨⟨hp, gs, d, k, os⟩, hs, hv⟩ := Option.map_eq_some_iff.mp (boot_open e hN f w)
  obtain ⟨rfl, rfl, rfl, rfl⟩ : hp = boot_heap w.params ∧ gs = Array.mk [] ∧ d = boot_drawn ∧ k = boot_toks := by simpa using hv
  obtain ⟨⟨fl, sT, c, q'⟩, hr, hl⟩ := Option.map_eq_some_iff.mp (h w os)
  obtain ⟨l1, l2, l3⟩ : _ ∧ _ ∧ _ := by simpa only [topLook, Prod.mk.injEq] using hl
  have r := seg0_top (segRun_of hr)
  rw [boot_abs] at r
  have t : topFrom treeTable p w N ⟨boot_heap w.params, Array.mk [], boot_drawn, boot_toks, os⟩ = some sT.abs := by
    unfold topFrom
    dsimp only
    rw [boot_size, boot_objs, boot_ann, r]
    show (match staticsOk (importedModules p.main.body) (boot_heap w.params) sT.abs.heap && namesBound p sT.abs.heap && gensDone sT.abs && laidKept (boot_heap w.params) sT.abs.heap with | true => some sT.abs | false => none) = _
    rw [l1]
  unfold openEnds
  rw [hs]
  show (topFrom treeTable p w N _).map _ = _
  rw [t]
  exact congrArg some (Prod.ext l2 l3)

/-- a def's object -/
def fnO (s : Stmt) (pm cd : Value) : Obj := match s with
  | .FunctionDef name args body _ _ _ scope _ _ _ => ⟨.type "function", none, .func { name := name, qualname := name, params := args, body := .stmts body, scope := scope, globals := 3, closure := [], defaults := .none, kwdefaults := .none, pyModule := pm, code := cd }, #[]⟩
  | _ => default

def en (P : Params) (x : Str) (t : Tok) (v : Value) : DictEntry := ⟨PyData.keyHash P x, .str x t, v⟩
end Mine

set_option maxRecDepth 100000
set_option linter.unusedVariables false
set_option autoImplicit false
namespace Mine
open PySem
/-! the plain law of the table -/
abbrev Mt := List Int × List Int
def marksOf (m : Mt) : List Mark := m.1.map (fun k => (("bank" : Str), k)) ++ m.2.map fun k => (("book" : Str), k)
def lessOf (r : List Mark) (m : Mt) : Option (List Mark) :=
  match r with
  | [] => none
  | x :: t => if x ∈ marksOf m ∧ ∀ y ∈ marksOf m, y ∈ x :: t then some ((x :: t).filter fun y => !decide (y ∈ marksOf m)) else none
def outs (ms : List Mt) (r : List Mark) : List (List Mark) := ms.filterMap (lessOf r)
def nexts (ms : List Mt) (r : List Mark) : List (List Mark) := match r with | [] => [] | _ :: t => t :: outs ms r
def grow (row nx : List (List Mark)) : List (List Mark) := nx.foldl (fun w b => if b ∈ w then w else w ++ [b]) row
def rowAt (ms : List Mt) (g : List Mark) : Nat → List (List Mark)
  | 0 => [g]
  | k + 1 => match (rowAt ms g k)[k]? with | some r => grow (rowAt ms g k) (nexts ms r) | none => rowAt ms g k

theorem less_sub {r b : List Mark} {m : Mt} (h : lessOf r m = some b) : b.Sublist r.tail := by
  unfold lessOf at h
  split at h
  · cases h
  · rename_i x t
    split at h
    · rename_i hc
      cases h
      rw [List.filter_cons]
      have : (!decide (x ∈ marksOf m)) = false := by simp [hc.1]
      rw [this]
      simp only [Bool.false_eq_true, if_false, List.tail_cons]
      exact List.filter_sublist
    · cases h
theorem nexts_sub {ms : List Mt} {r b : List Mark} (h : b ∈ nexts ms r) : b.Sublist r.tail := by
  unfold nexts at h
  split at h
  · cases h
  · rename_i x t
    rcases List.mem_cons.mp h with rfl | h
    · exact List.Sublist.refl _
    · obtain ⟨m, _, hm⟩ := List.mem_filterMap.mp h
      exact less_sub hm
theorem nexts_len {ms : List Mt} {r b : List Mark} (h : b ∈ nexts ms r) : b.length < r.length := by
  have h1 := (nexts_sub h).length_le
  cases r with
  | nil => cases h
  | cons x t => simp at h1 ⊢; omega
def subs : List Mark → List (List Mark)
  | [] => [[]]
  | x :: t => subs t ++ (subs t).map (x :: ·)
theorem subs_len : ∀ l : List Mark, (subs l).length = 2 ^ l.length
  | [] => rfl
  | x :: t => by simp only [subs, List.length_append, List.length_map, subs_len t, List.length_cons]; omega
theorem mem_subs : ∀ {l b : List Mark}, b.Sublist l → b ∈ subs l
  | _, _, .slnil => by simp [subs]
  | _, _, .cons a h => by rw [subs]; exact List.mem_append_left _ (mem_subs h)
  | _, _, .cons_cons a h => by rw [subs]; exact List.mem_append_right _ (List.mem_map.mpr ⟨_, mem_subs h, rfl⟩)
theorem of_subs : ∀ {l b : List Mark}, b ∈ subs l → b.Sublist l
  | [], b, h => by simp [subs] at h; subst h; exact .slnil
  | x :: t, b, h => by
    rw [subs] at h
    rcases List.mem_append.mp h with h | h
    · exact .cons _ (of_subs h)
    · obtain ⟨c, hc, rfl⟩ := List.mem_map.mp h
      exact .cons_cons _ (of_subs hc)
def ground (ms : List Mt) (g : List Mark) : List (List Mark) := g :: (nexts ms g ++ subs (g.drop 2))
theorem ground_closed {ms : List Mt} {g r b : List Mark} (hr : r ∈ ground ms g) (hb : b ∈ nexts ms r) : b ∈ ground ms g := by
  unfold ground at hr ⊢
  rcases List.mem_cons.mp hr with rfl | hr
  · exact List.mem_cons_of_mem _ (List.mem_append_left _ hb)
  · refine List.mem_cons_of_mem _ (List.mem_append_right _ (mem_subs ?_))
    have h1 := nexts_sub hb
    rcases List.mem_append.mp hr with hr | hr
    · have h2 := (nexts_sub hr).tail
      have e : g.tail.tail = g.drop 2 := by rcases g with _ | ⟨a, _ | ⟨b, g⟩⟩ <;> rfl
      rw [e] at h2
      exact h1.trans h2
    · exact h1.trans ((List.tail_sublist r).trans (of_subs hr))
theorem nodup_le {α : Type} [DecidableEq α] : ∀ {l u : List α}, l.Nodup → (∀ x ∈ l, x ∈ u) → l.length ≤ u.length
  | [], u, _, _ => Nat.zero_le _
  | a :: l, u, hn, hs => by
    have ha := hs a List.mem_cons_self
    obtain ⟨hn1, hn2⟩ := List.nodup_cons.mp hn
    have := nodup_le (l := l) (u := u.erase a) hn2 fun x hx => (List.mem_erase_of_ne fun e : x = a => hn1 (by rw [← e]; exact hx)).mpr (hs x (List.mem_cons_of_mem _ hx))
    rw [List.length_erase_of_mem ha] at this
    have h0 : 0 < u.length := List.length_pos_of_mem ha
    simp only [List.length_cons]; omega
theorem grow_ex : ∀ (nx row : List (List Mark)), ∃ ex, grow row nx = row ++ ex
  | [], row => ⟨[], by simp [grow]⟩
  | b :: nx, row => by
    unfold grow
    rw [List.foldl_cons]
    split
    · exact grow_ex nx row
    · obtain ⟨ex, h⟩ := grow_ex nx (row ++ [b])
      exact ⟨b :: ex, by unfold grow at h; rw [h]; simp⟩
theorem grow_nodup : ∀ (nx row : List (List Mark)), row.Nodup → (grow row nx).Nodup
  | [], row, h => h
  | b :: nx, row, h => by
    unfold grow
    rw [List.foldl_cons]
    split
    · exact grow_nodup nx row h
    · rename_i hb
      refine grow_nodup nx (row ++ [b]) ?_
      rw [List.nodup_append]
      exact ⟨h, by simp, fun x hx y hy e => hb (by simp at hy; rw [← hy, ← e]; exact hx)⟩
theorem grow_mem {b : List Mark} : ∀ (nx row : List (List Mark)), b ∈ grow row nx ↔ b ∈ row ∨ b ∈ nx
  | [], row => by simp [grow]
  | c :: nx, row => by
    unfold grow
    rw [List.foldl_cons]
    split
    · rename_i hc
      have := grow_mem (b := b) nx row
      unfold grow at this
      rw [this, List.mem_cons]
      exact ⟨fun h => h.elim .inl fun h => .inr (.inr h), fun h => h.elim .inl fun h => h.elim (fun e => .inl (e ▸ hc)) .inr⟩
    · have := grow_mem (b := b) nx (row ++ [c])
      unfold grow at this
      rw [this, List.mem_append, List.mem_singleton, List.mem_cons]
      exact ⟨fun h => h.elim (fun h => h.elim .inl fun h => .inr (.inl h)) fun h => .inr (.inr h), fun h => h.elim (fun h => .inl (.inl h)) fun h => h.elim (fun h => .inl (.inr h)) .inr⟩
section
variable {ms : List Mt} {g : List Mark}
theorem rowAt_succ {k : Nat} {r : List Mark} (h : (rowAt ms g k)[k]? = some r) : rowAt ms g (k + 1) = grow (rowAt ms g k) (nexts ms r) := by
  show (match (rowAt ms g k)[k]? with | some r => grow (rowAt ms g k) (nexts ms r) | none => rowAt ms g k) = _
  rw [h]
theorem rowAt_ex : ∀ (k j : Nat), ∃ ex, rowAt ms g (k + j) = rowAt ms g k ++ ex
  | k, 0 => ⟨[], by simp⟩
  | k, j + 1 => by
    obtain ⟨ex, h⟩ := rowAt_ex k j
    rw [← Nat.add_assoc]
    show ∃ ex, (match (rowAt ms g (k + j))[k + j]? with | some r => grow (rowAt ms g (k + j)) (nexts ms r) | none => rowAt ms g (k + j)) = _
    split
    · obtain ⟨ex', h'⟩ := grow_ex (nexts ms ‹_›) (rowAt ms g (k + j))
      exact ⟨ex ++ ex', by rw [h', h, List.append_assoc]⟩
    · exact ⟨ex, h⟩
theorem rowAt_le {k n : Nat} (h : k ≤ n) : ∃ ex, rowAt ms g n = rowAt ms g k ++ ex := by
  obtain ⟨j, rfl⟩ := Nat.exists_eq_add_of_le h
  exact rowAt_ex k j
theorem rowAt_nodup : ∀ k, (rowAt ms g k).Nodup
  | 0 => by simp [rowAt]
  | k + 1 => by
    show (match (rowAt ms g k)[k]? with | some r => grow (rowAt ms g k) (nexts ms r) | none => rowAt ms g k).Nodup
    split
    · exact grow_nodup _ _ (rowAt_nodup k)
    · exact rowAt_nodup k
theorem rowAt_ground : ∀ k, ∀ r ∈ rowAt ms g k, r ∈ ground ms g
  | 0, r, h => by simp [rowAt] at h; subst h; exact List.mem_cons_self
  | k + 1, r, h => by
    have h : r ∈ (match (rowAt ms g k)[k]? with | some r => grow (rowAt ms g k) (nexts ms r) | none => rowAt ms g k) := h
    split at h
    · rename_i r' hr'
      rcases (grow_mem _ _).mp h with h | h
      · exact rowAt_ground k r h
      · exact ground_closed (rowAt_ground k r' (List.mem_of_getElem? hr')) h
    · exact rowAt_ground k r h
theorem ground_sub {r : List Mark} (h : r ∈ ground ms g) : r.Sublist g := by
  unfold ground at h
  rcases List.mem_cons.mp h with rfl | h
  · exact List.Sublist.refl _
  · rcases List.mem_append.mp h with h | h
    · exact (nexts_sub h).trans (List.tail_sublist g)
    · exact (of_subs h).trans (List.drop_sublist 2 g)
theorem ground_len (hm : ms.length ≤ 8) (hg : g.length ≤ 7) : (ground ms g).length ≤ 42 := by
  unfold ground
  have h1 : (nexts ms g).length ≤ 9 := by
    unfold nexts
    split
    · simp
    · unfold outs
      simp only [List.length_cons]; rename_i x t; have := List.length_filterMap_le (lessOf (x :: t)) ms; omega
  have h2 : (subs (g.drop 2)).length ≤ 32 := by
    rw [subs_len, List.length_drop]
    exact Nat.le_trans (Nat.pow_le_pow_right (by omega) (show g.length - 2 ≤ 5 by omega)) (by decide)
  simp only [List.length_cons, List.length_append]; omega
theorem rowAt_len (hm : ms.length ≤ 8) (hg : g.length ≤ 7) (k : Nat) : (rowAt ms g k).length ≤ 42 :=
  Nat.le_trans (nodup_le (rowAt_nodup k) (rowAt_ground k)) (ground_len hm hg)
/-- k turns have been made -/
def Turns (ms : List Mt) (g : List Mark) (k : Nat) : Prop := k ≤ (rowAt ms g k).length ∧ ∀ j, j < k → j < (rowAt ms g j).length
theorem Turns.zero : Turns ms g 0 := ⟨Nat.zero_le _, fun j h => absurd h (Nat.not_lt_zero j)⟩
theorem Turns.succ {k : Nat} (h : Turns ms g k) (hk : k < (rowAt ms g k).length) : Turns ms g (k + 1) := by
  refine ⟨?_, fun j hj => ?_⟩
  · obtain ⟨ex, e⟩ := rowAt_le (ms := ms) (g := g) (Nat.le_succ k)
    rw [e, List.length_append]; omega
  · rcases Nat.lt_or_ge j k with h1 | h1
    · exact h.2 j h1
    · have : j = k := by omega
      subst this; exact hk
/-- the end of the turns -/
def End (ms : List Mt) (g : List Mark) (n : Nat) : Prop := Turns ms g n ∧ (rowAt ms g n).length ≤ n
theorem End.uniq {n n' : Nat} (h : End ms g n) (h' : End ms g n') : n = n' := by
  rcases Nat.lt_trichotomy n n' with h1 | h1 | h1
  · have := h'.1.2 n h1; have := h.2; omega
  · exact h1
  · have := h.1.2 n' h1; have := h'.2; omega
theorem End.le {n k : Nat} (h : End ms g n) (h' : Turns ms g k) : k ≤ n := by
  rcases Nat.lt_or_ge n k with h1 | h1
  · have := h'.2 n h1; have := h.2; omega
  · exact h1
theorem End.sub {n k : Nat} (h : End ms g n) (h' : Turns ms g k) : ∀ r ∈ rowAt ms g k, r ∈ rowAt ms g n := fun r hr => by
  obtain ⟨ex, e⟩ := rowAt_le (ms := ms) (g := g) (h.le h')
  rw [e]; exact List.mem_append_left _ hr
theorem End.closed {n : Nat} (h : End ms g n) {r b : List Mark} (hr : r ∈ rowAt ms g n) (hb : b ∈ nexts ms r) : b ∈ rowAt ms g n := by
  obtain ⟨j, hj⟩ := List.mem_iff_getElem?.mp hr
  have hl : j < (rowAt ms g n).length := (List.getElem?_eq_some_iff.mp hj).1
  have hjn : j < n := Nat.lt_of_lt_of_le hl h.2
  have hjj := h.1.2 j hjn
  obtain ⟨ex, e⟩ := rowAt_le (ms := ms) (g := g) (Nat.le_of_lt hjn)
  have hj' : (rowAt ms g j)[j]? = some r := by rw [e, List.getElem?_append_left hjj] at hj; exact hj
  obtain ⟨ex', e'⟩ := rowAt_le (ms := ms) (g := g) (show j + 1 ≤ n from hjn)
  rw [e']
  refine List.mem_append_left _ ?_
  rw [rowAt_succ hj']
  exact (grow_mem _ _).mpr (.inr hb)
end
/-- the least of some numbers -/
def IsMin (i : Int) (l : List Int) : Prop := i ∈ l ∧ ∀ b ∈ l, i ≤ b
theorem IsMin.uniq {i j : Int} {l : List Int} (h : IsMin i l) (h' : IsMin j l) : i = j := by
  have := h.2 j h'.1; have := h'.2 i h.1; omega
theorem isMin_fold : ∀ (l : List Int) (a : Int), IsMin (l.foldl min a) (a :: l)
  | [], a => ⟨List.mem_cons_self, fun b hb => by simp at hb; subst hb; exact Int.le_refl _⟩
  | x :: l, a => by
    have h := isMin_fold l (min a x)
    rw [List.foldl_cons]
    have h0 : l.foldl min (min a x) ≤ min a x := h.2 _ List.mem_cons_self
    have h1 : min a x ≤ a := Int.min_le_left ..
    have h2 : min a x ≤ x := Int.min_le_right ..
    refine ⟨?_, fun b hb => ?_⟩
    · rcases List.mem_cons.mp h.1 with e | hm
      · rw [e]
        rcases Int.le_total a x with q | q
        · rw [Int.min_eq_left q]; exact List.mem_cons_self
        · rw [Int.min_eq_right q]; exact List.mem_cons_of_mem _ List.mem_cons_self
      · exact List.mem_cons_of_mem _ (List.mem_cons_of_mem _ hm)
    · rcases List.mem_cons.mp hb with rfl | hb
      · omega
      · rcases List.mem_cons.mp hb with rfl | hb
        · omega
        · exact h.2 b (List.mem_cons_of_mem _ hb)
def lvF (ms : List Mt) : Nat → List Mark → Int
  | 0, _ => 0
  | n + 1, [] => 0
  | n + 1, x :: t => ((outs ms (x :: t)).map (lvF ms n)).foldl min (1 + lvF ms n t)
theorem lvF_eq (ms : List Mt) : ∀ (n m : Nat) (r : List Mark), r.length ≤ n → r.length ≤ m → lvF ms n r = lvF ms m r
  | n, m, [], _, _ => by cases n <;> cases m <;> rfl
  | 0, m, x :: t, h, _ => by simp at h
  | n + 1, 0, x :: t, _, h => by simp at h
  | n + 1, m + 1, x :: t, h1, h2 => by
    simp only [List.length_cons] at h1 h2
    simp only [lvF]
    have e : (outs ms (x :: t)).map (lvF ms n) = (outs ms (x :: t)).map (lvF ms m) := by
      refine List.map_congr_left fun b hb => lvF_eq ms n m b ?_ ?_ <;>
      · have := nexts_len (ms := ms) (r := x :: t) (b := b) (List.mem_cons_of_mem _ hb)
        simp at this; omega
    rw [e, lvF_eq ms n m t (by omega) (by omega)]
/-- what is left at least -/
structure Lv (ms : List Mt) (lv : List Mark → Int) : Prop where
  nil : lv [] = 0
  cons : ∀ x t, IsMin (lv (x :: t)) ((1 + lv t) :: (outs ms (x :: t)).map lv)
theorem lv_ex (ms : List Mt) : ∃ lv, Lv ms lv := by
  refine ⟨fun r => lvF ms r.length r, rfl, fun x t => ?_⟩
  have e : (outs ms (x :: t)).map (fun r => lvF ms r.length r) = (outs ms (x :: t)).map (lvF ms t.length) := by
    refine List.map_congr_left fun b hb => lvF_eq ms _ _ b (Nat.le_refl _) ?_
    have := nexts_len (ms := ms) (r := x :: t) (b := b) (List.mem_cons_of_mem _ hb)
    simp at this; omega
  rw [e]
  exact isMin_fold _ _
end Mine

set_option maxRecDepth 100000
set_option linter.unusedVariables false
set_option autoImplicit false
namespace Mine
open PySem
/-! the plain law of what is picked -/
abbrev szM (m : Mt) : Nat := (marksOf m).length
def remB (r : List Mark) (m : Mt) : List Mark := r.filter fun y => !decide (y ∈ marksOf m)
def mostF : List Mt → List Mark → Nat
  | [], _ => 0
  | m :: ms, r => max (if ∀ y ∈ marksOf m, y ∈ r then szM m + mostF ms (remB r m) else 0) (mostF ms r)
def tot (S : List Mt) : Nat := (S.map szM).sum
structure Pack (r : List Mark) (ms S : List Mt) : Prop where
  sub : ∀ m ∈ S, m ∈ ms
  fit : ∀ m ∈ S, ∀ y ∈ marksOf m, y ∈ r
  dis : S.Pairwise fun a b => ∀ y ∈ marksOf a, y ∉ marksOf b
theorem tot_perm {S T : List Mt} (p : S.Perm T) : tot S = tot T := by
  unfold tot
  induction p with
  | nil => rfl
  | cons x p ih => simp [ih]
  | swap x y l => simp; omega
  | trans p q h1 h2 => rw [h1, h2]
theorem dis_symm {a b : Mt} (h : ∀ y ∈ marksOf a, y ∉ marksOf b) : ∀ y ∈ marksOf b, y ∉ marksOf a := fun y hy hy' => h y hy' hy
theorem Pack.split {r : List Mark} {ms S : List Mt} {m : Mt} (P : Pack r ms S) (h : m ∈ S) : tot S = szM m + tot (S.erase m) ∧ Pack (remB r m) ms (S.erase m) := by
  have p := List.perm_cons_erase h
  have d := (p.pairwise_iff (R := fun a b : Mt => ∀ y ∈ marksOf a, y ∉ marksOf b) (fun h => dis_symm h)).mp P.dis
  obtain ⟨d1, d2⟩ := List.pairwise_cons.mp d
  refine ⟨by rw [tot_perm p]; rfl, fun a ha => P.sub a (List.mem_of_mem_erase ha), fun a ha y hy => ?_, d2⟩
  unfold remB
  rw [List.mem_filter]
  exact ⟨P.fit a (List.mem_of_mem_erase ha) y hy, by simpa using dis_symm (d1 a ha) y hy⟩
theorem most_ge : ∀ (ms : List Mt) (r : List Mark) (S : List Mt), (∀ m ∈ ms, marksOf m ≠ []) → Pack r ms S → tot S ≤ mostF ms r
  | [], r, S, _, P => by
    cases S with
    | nil => simp [tot]
    | cons a S => exact absurd (P.sub a List.mem_cons_self) (by simp)
  | m0 :: ms, r, S, hn, P => by
    have hn' : ∀ m ∈ ms, marksOf m ≠ [] := fun m hm => hn m (List.mem_cons_of_mem _ hm)
    simp only [mostF]
    by_cases h : m0 ∈ S
    · obtain ⟨h1, P'⟩ := P.split h
      have hne : ∀ a ∈ S.erase m0, a ≠ m0 := fun a ha e => by
        subst e
        have h0 := hn a List.mem_cons_self
        cases hm : marksOf a with
        | nil => exact h0 hm
        | cons y l =>
          have hy : y ∈ marksOf a := by rw [hm]; exact List.mem_cons_self
          have := P'.fit a ha y hy
          unfold remB at this
          rw [List.mem_filter] at this
          simp [hy] at this
      have := most_ge ms (remB r m0) (S.erase m0) hn' ⟨fun a ha => (List.mem_cons.mp (P'.sub a ha)).resolve_left (hne a ha), P'.fit, P'.dis⟩
      rw [if_pos (P.fit m0 h), h1]
      omega
    · have := most_ge ms r S hn' ⟨fun a ha => (List.mem_cons.mp (P.sub a ha)).resolve_left (fun e => h (e ▸ ha)), P.fit, P.dis⟩
      omega
theorem most_ex : ∀ (ms : List Mt) (r : List Mark), ∃ S, Pack r ms S ∧ tot S = mostF ms r
  | [], r => ⟨[], ⟨by simp, by simp, .nil⟩, rfl⟩
  | m0 :: ms, r => by
    obtain ⟨S1, P1, h1⟩ := most_ex ms r
    have base : Pack r (m0 :: ms) S1 := ⟨fun a ha => List.mem_cons_of_mem _ (P1.sub a ha), P1.fit, P1.dis⟩
    simp only [mostF]
    by_cases hf : ∀ y ∈ marksOf m0, y ∈ r
    · rw [if_pos hf]
      obtain ⟨S2, P2, h2⟩ := most_ex ms (remB r m0)
      rcases Nat.le_total (szM m0 + mostF ms (remB r m0)) (mostF ms r) with hle | hle
      · exact ⟨S1, base, by omega⟩
      · refine ⟨m0 :: S2, ⟨fun a ha => ?_, fun a ha y hy => ?_, List.pairwise_cons.mpr ⟨fun a ha y hy hy' => ?_, P2.dis⟩⟩, ?_⟩
        · rcases List.mem_cons.mp ha with rfl | ha
          · exact List.mem_cons_self
          · exact List.mem_cons_of_mem _ (P2.sub a ha)
        · rcases List.mem_cons.mp ha with rfl | ha
          · exact hf y hy
          · exact (List.mem_filter.mp (P2.fit a ha y hy)).1
        · have := (List.mem_filter.mp (P2.fit a ha y hy')).2
          simp [hy] at this
        · show szM m0 + tot S2 = _
          omega
    · rw [if_neg hf]
      exact ⟨S1, base, by omega⟩
theorem rem_len {r : List Mark} {m : Mt} (hr : r.Nodup) (hm : (marksOf m).Nodup) (hf : ∀ y ∈ marksOf m, y ∈ r) : (remB r m).length + szM m = r.length := by
  have h1 : (r.filter fun y => decide (y ∈ marksOf m)).length = (marksOf m).length := by
    refine Nat.le_antisymm (nodup_le (List.Nodup.sublist List.filter_sublist hr) fun x hx => by simpa using (List.mem_filter.mp hx).2) (nodup_le hm fun x hx => List.mem_filter.mpr ⟨hf x hx, by simpa using hx⟩)
  have h2 : ∀ (l : List Mark) (p : Mark → Bool), (l.filter p).length + (l.filter fun y => !p y).length = l.length := by
    intro l p
    induction l with
    | nil => rfl
    | cons x l ih => simp only [List.filter_cons]; cases p x <;> simp <;> omega
  have := h2 r fun y => decide (y ∈ marksOf m)
  show (r.filter fun y => !decide (y ∈ marksOf m)).length + (marksOf m).length = r.length
  omega
/-- good matches: marks all different, some there -/
def mtGood (m : Mt) : Prop := (marksOf m).Nodup ∧ marksOf m ≠ []
section
variable {ms : List Mt}
theorem most_mono (hn : ∀ m ∈ ms, mtGood m) {x : Mark} {t : List Mark} : mostF ms t ≤ mostF ms (x :: t) := by
  obtain ⟨S, P, h⟩ := most_ex ms t
  rw [← h]
  exact most_ge ms (x :: t) S (fun m hm => (hn m hm).2) ⟨P.sub, fun a ha y hy => List.mem_cons_of_mem _ (P.fit a ha y hy), P.dis⟩
theorem most_take (hn : ∀ m ∈ ms, mtGood m) {r : List Mark} {m : Mt} (hm : m ∈ ms) (hf : ∀ y ∈ marksOf m, y ∈ r) : szM m + mostF ms (remB r m) ≤ mostF ms r := by
  obtain ⟨S, P, h⟩ := most_ex ms (remB r m)
  rw [← h]
  refine most_ge ms r (m :: S) (fun m hm => (hn m hm).2) ⟨fun a ha => ?_, fun a ha y hy => ?_, List.pairwise_cons.mpr ⟨fun a ha y hy hy' => ?_, P.dis⟩⟩
  · rcases List.mem_cons.mp ha with rfl | ha
    · exact hm
    · exact P.sub a ha
  · rcases List.mem_cons.mp ha with rfl | ha
    · exact hf y hy
    · exact (List.mem_filter.mp (P.fit a ha y hy)).1
  · have := (List.mem_filter.mp (P.fit a ha y hy')).2
    simp [hy] at this
theorem most_first (hn : ∀ m ∈ ms, mtGood m) {x : Mark} {t : List Mark} : mostF ms (x :: t) = mostF ms t ∨ ∃ m ∈ ms, x ∈ marksOf m ∧ (∀ y ∈ marksOf m, y ∈ x :: t) ∧ mostF ms (x :: t) = szM m + mostF ms (remB (x :: t) m) := by
  obtain ⟨S, P, h⟩ := most_ex ms (x :: t)
  by_cases hx : ∃ m ∈ S, x ∈ marksOf m
  · obtain ⟨m, hm, hxm⟩ := hx
    obtain ⟨h1, P'⟩ := P.split hm
    refine .inr ⟨m, P.sub m hm, hxm, P.fit m hm, Nat.le_antisymm ?_ (most_take hn (P.sub m hm) (P.fit m hm))⟩
    have := most_ge ms _ _ (fun m hm => (hn m hm).2) P'
    omega
  · refine .inl (Nat.le_antisymm ?_ (most_mono hn))
    rw [← h]
    refine most_ge ms t S (fun m hm => (hn m hm).2) ⟨P.sub, fun a ha y hy => ?_, P.dis⟩
    rcases List.mem_cons.mp (P.fit a ha y hy) with e | hy'
    · exact absurd ⟨a, ha, e ▸ hy⟩ hx
    · exact hy'
theorem most_le (hn : ∀ m ∈ ms, mtGood m) : ∀ {r : List Mark}, r.Nodup → mostF ms r ≤ r.length := by
  intro r
  induction hl : r.length using Nat.strongRecOn generalizing r with
  | _ n ih =>
    intro hr
    cases r with
    | nil =>
      obtain ⟨S, P, h⟩ := most_ex ms []
      cases S with
      | nil => rw [← h]; simp [tot]
      | cons a S =>
        have h0 := (hn a (P.sub a List.mem_cons_self)).2
        cases hm : marksOf a with
        | nil => exact absurd hm h0
        | cons y l => exact absurd (P.fit a List.mem_cons_self y (by rw [hm]; exact List.mem_cons_self)) (by simp)
    | cons x t =>
      simp only [List.length_cons] at hl
      rcases most_first hn (x := x) (t := t) with h | ⟨m, hm, hx, hf, h⟩
      · have := ih t.length (by omega) rfl (List.nodup_cons.mp hr).2
        omega
      · have h1 := rem_len hr (hn m hm).1 hf
        have h2 : 0 < szM m := List.length_pos_of_mem hx
        simp only [List.length_cons] at h1
        have := ih (remB (x :: t) m).length (by omega) rfl (List.Nodup.sublist List.filter_sublist hr)
        omega
/-- what is left at least = how many there are, less the most that can be taken -/
theorem lv_most {lv : List Mark → Int} (L : Lv ms lv) (hn : ∀ m ∈ ms, mtGood m) : ∀ {r : List Mark}, r.Nodup → lv r = (r.length : Int) - mostF ms r := by
  intro r
  induction hl : r.length using Nat.strongRecOn generalizing r with
  | _ n ih =>
    intro hr
    cases r with
    | nil => rw [L.nil]; have := most_le hn (r := []) .nil; simp at this hl; omega
    | cons x t =>
      simp only [List.length_cons] at hl
      have ht := ih t.length (by omega) rfl (List.nodup_cons.mp hr).2
      have hM := L.cons x t
      have hout : ∀ b ∈ outs ms (x :: t), ∃ m ∈ ms, x ∈ marksOf m ∧ (∀ y ∈ marksOf m, y ∈ x :: t) ∧ b = remB (x :: t) m ∧ lv b = (b.length : Int) - mostF ms b ∧ b.length + szM m = t.length + 1 := fun b hb => by
        obtain ⟨m, hm, he⟩ := List.mem_filterMap.mp hb
        unfold lessOf at he
        dsimp only at he
        split at he
        · rename_i hc
          cases he
          have h1 := rem_len hr (hn m hm).1 hc.2
          have h2 : 0 < szM m := List.length_pos_of_mem hc.1
          simp only [List.length_cons] at h1
          exact ⟨m, hm, hc.1, hc.2, rfl, ih _ (by show (remB (x :: t) m).length < n; omega) rfl (List.Nodup.sublist List.filter_sublist hr), h1⟩
        · cases he
      have lo := hM.2
      have h1 : lv (x :: t) ≤ 1 + lv t := lo _ List.mem_cons_self
      have hml := most_mono hn (x := x) (t := t)
      apply Int.le_antisymm
      · rcases most_first hn (x := x) (t := t) with h | ⟨m, hm, hx, hf, h⟩
        · omega
        · have hb : remB (x :: t) m ∈ outs ms (x :: t) := List.mem_filterMap.mpr ⟨m, hm, by unfold lessOf; dsimp only; rw [if_pos ⟨hx, hf⟩]; rfl⟩
          have h2 := lo _ (List.mem_cons_of_mem _ (List.mem_map_of_mem hb))
          obtain ⟨m', hm', _, _, _, h3, _⟩ := hout _ hb
          have h4 := rem_len hr (hn m hm).1 hf
          simp only [List.length_cons] at h4
          omega
      · rcases List.mem_cons.mp hM.1 with e | hmem
        · omega
        · obtain ⟨b, hb, e⟩ := List.mem_map.mp hmem
          obtain ⟨m, hm, hx, hf, rfl, h3, h4⟩ := hout b hb
          have h5 := most_take hn hm hf
          omega
end
end Mine

set_option maxRecDepth 100000
set_option linter.unusedVariables false
set_option autoImplicit false
set_option maxHeartbeats 4000000
namespace Mine
open PySem

/-! probing ends: tables of eight or thirty-two places with seven at most taken -/
abbrev Pr := SetTable.Probe
def prN (t : SetTable) (p : Pr) : Nat → Pr
  | 0 => p
  | n + 1 => t.advance (prN t p n)
theorem prN_add (t : SetTable) (p : Pr) (a : Nat) : ∀ b, prN t p (a + b) = prN t (prN t p a) b
  | 0 => rfl
  | b + 1 => by show t.advance (prN t p (a + b)) = _; rw [prN_add t p a b]; rfl
def leapI (mask i pe : Nat) : Nat := (i * 5 + 1 + pe / 32) % (mask + 1)
def leapN (mask : Nat) : Nat → Nat → Nat → Nat
  | 0, i, _ => i
  | k + 1, i, pe => leapN mask k (leapI mask i pe) (pe / 32)
theorem adv_more (t : SetTable) : ∀ (n : Nat) (p : Pr), n ≤ p.more → prN t p n = { p with j := p.j + n, more := p.more - n }
  | 0, p, _ => rfl
  | n + 1, p, h => by
    show t.advance (prN t p n) = _
    rw [adv_more t n p (by omega)]
    unfold SetTable.advance
    rw [if_pos (by show p.more - n > 0; omega)]
    show ({ p with j := p.j + n + 1, more := p.more - n - 1 } : Pr) = _
    congr 1
theorem run_le (mask i : Nat) : SetTable.runEnd mask i - i ≤ 9 := by unfold SetTable.runEnd; split <;> omega
/-- at the start of a run -/
structure AtRun (p : Pr) (i pe : Nat) : Prop where
  j : p.j = i
  i : p.i = i
  pe : p.perturb = pe
  more : p.more ≤ 9
theorem leap_one (t : SetTable) {p : Pr} {i pe : Nat} (h : AtRun p i pe) : ∃ n, n ≤ 10 ∧ AtRun (prN t p n) (leapI t.mask i pe) (pe / 32) := by
  refine ⟨p.more + 1, by have := h.more; omega, ?_⟩
  show AtRun (t.advance (prN t p p.more)) _ _
  rw [adv_more t p.more p (Nat.le_refl _)]
  unfold SetTable.advance
  rw [if_neg (by show ¬ p.more - p.more > 0; omega)]
  have h1 := h.i; have h2 := h.pe
  refine ⟨?_, ?_, ?_, run_le _ _⟩
  · show (p.i * 5 + 1 + p.perturb / 32) % (t.mask + 1) = _
    rw [h1, h2]; rfl
  · show (p.i * 5 + 1 + p.perturb / 32) % (t.mask + 1) = _
    rw [h1, h2]; rfl
  · show p.perturb / 32 = _
    rw [h2]
theorem leap_many (t : SetTable) : ∀ (k : Nat) {p : Pr} {i pe : Nat}, AtRun p i pe → ∃ n, n ≤ 10 * k ∧ AtRun (prN t p n) (leapN t.mask k i pe) (pe / 32 ^ k)
  | 0, p, i, pe, h => ⟨0, Nat.le_refl _, by show AtRun p i (pe / 32 ^ 0); simpa using h⟩
  | k + 1, p, i, pe, h => by
    obtain ⟨n, hn, h1⟩ := leap_one t h
    obtain ⟨m, hm, h2⟩ := leap_many t k h1
    refine ⟨n + m, by omega, ?_⟩
    rw [prN_add]
    have e : pe / 32 ^ (k + 1) = pe / 32 / 32 ^ k := by rw [Nat.div_div_eq_div_mul, Nat.pow_succ, Nat.mul_comm]
    rw [e]; exact h2
theorem leapI_lt (mask i pe : Nat) : leapI mask i pe < mask + 1 := Nat.mod_lt _ (Nat.succ_pos _)
theorem leapN_lt (mask : Nat) : ∀ k i pe, i < mask + 1 → leapN mask k i pe < mask + 1
  | 0, i, pe, h => h
  | k + 1, i, pe, h => leapN_lt mask k _ _ (leapI_lt ..)
theorem cyc7 : ((List.range 8).all fun i => decide ((List.range 8).map fun k => leapN 7 k i 0).Nodup) = true := by decide +kernel
theorem cyc31 : ((List.range 32).all fun i => decide ((List.range 8).map fun k => leapN 31 k i 0).Nodup) = true := by decide +kernel
def maskOk (m : Nat) : Prop := m = 7 ∨ m = 31
theorem cyc {mask i : Nat} (hm : maskOk mask) (hi : i < mask + 1) : ((List.range 8).map fun k => leapN mask k i 0).Nodup := by
  rcases hm with rfl | rfl
  · simpa using List.all_eq_true.mp cyc7 i (by simpa using hi)
  · simpa using List.all_eq_true.mp cyc31 i (by simpa using hi)
/-- eight different places are met -/
theorem meets_free {mask i pe : Nat} (hm : maskOk mask) (hi : i < mask + 1) (hp : pe < 2 ^ 64) (L : List Nat) (hL : L.length ≤ 7) : ∃ k, k ≤ 20 ∧ leapN mask k i pe ∉ L := by
  have split : ∀ a b i pe, leapN mask (a + b) i pe = leapN mask b (leapN mask a i pe) (pe / 32 ^ a) := by
    intro a
    induction a with
    | zero => intro b i pe; simp [leapN]
    | succ a ih =>
      intro b i pe
      rw [show a + 1 + b = (a + b) + 1 by omega]
      show leapN mask (a + b) (leapI mask i pe) (pe / 32) = leapN mask b (leapN mask a (leapI mask i pe) (pe / 32)) _
      rw [ih, Nat.div_div_eq_div_mul, Nat.pow_succ, Nat.mul_comm (32 ^ a) 32]
  have z : pe / 32 ^ 13 = 0 := Nat.div_eq_of_lt (Nat.lt_of_lt_of_le hp (by decide))
  have hc := cyc hm (leapN_lt mask 13 i pe hi)
  apply Classical.byContradiction
  intro hno
  have : ((List.range 8).map fun k => leapN mask k (leapN mask 13 i pe) 0).length ≤ L.length := nodup_le hc fun x hx => by
    obtain ⟨k, hk, rfl⟩ := List.mem_map.mp hx
    rw [List.mem_range] at hk
    apply Classical.byContradiction
    intro hn
    exact hno ⟨13 + k, by omega, by rw [split, z]; exact hn⟩
  simp at this
  omega
/-- probing comes to an empty place -/
theorem probe_free {t : SetTable} {p : Pr} {i pe : Nat} (hm : maskOk t.mask) (hd : t.dummies = #[]) (hs : t.place.size ≤ 7) (h : AtRun p i pe) (hi : i < t.mask + 1) (hp : pe < 2 ^ 64) : ∃ n, n ≤ 200 ∧ t.slot (prN t p n).j = .empty := by
  obtain ⟨k, hk, hf⟩ := meets_free hm hi hp t.place.toList (by simpa using hs)
  obtain ⟨n, hn, h1⟩ := leap_many t k h
  refine ⟨n, by omega, ?_⟩
  rw [h1.j]
  unfold SetTable.slot
  dsimp only
  have h2 : ¬ (t.place[SetTable.below t.place (leapN t.mask k i pe)]? == some (leapN t.mask k i pe)) = true := fun e => by
    have e := eq_of_beq e
    exact hf (by rw [← Array.getElem?_toList] at e; exact List.mem_of_getElem? e)
  rw [if_neg h2]
  have h3 : SetTable.has t.dummies (leapN t.mask k i pe) = false := by rw [hd]; unfold SetTable.has; simp
  rw [h3]
  rfl
end Mine

set_option maxRecDepth 100000
set_option linter.unusedVariables false
set_option autoImplicit false
set_option maxHeartbeats 4000000
namespace Mine
open PySem PyProof.Rows PySem.SeqAt

theorem adv_dummy (t : SetTable) (p : Pr) : (t.advance p).dummy = p.dummy := by unfold SetTable.advance; split <;> rfl
theorem go_meets (t : SetTable) (hashAt : Nat → Int) (h : Int) (hd : t.dummies = #[]) : ∀ (d fuel : Nat) (p : Pr), p.dummy = none → t.slot (prN t p d).j = .empty → d < fuel →
    (∃ j, t.slot j = .empty ∧ SetTable.probe.go t hashAt h fuel p = some (.empty j none)) ∨ ∃ j i c, c < d ∧ t.slot j = .live i ∧ SetTable.probe.go t hashAt h fuel p = some (.candidate j i (prN t p (c + 1)))
  | d, 0, p, _, _, hf => by omega
  | d, fuel + 1, p, hp, he, hf => by
    unfold SetTable.probe.go
    cases hs : t.slot p.j with
    | empty => exact .inl ⟨p.j, hs, by rw [hp]⟩
    | dummy =>
      exfalso
      unfold SetTable.slot at hs
      dsimp only at hs
      have h3 : SetTable.has t.dummies p.j = false := by rw [hd]; unfold SetTable.has; simp
      rw [h3] at hs
      split at hs
      · cases hs
      · cases hs
    | live i =>
      cases d with
      | zero => exact absurd (he.symm.trans hs) (by simp)
      | succ d =>
        dsimp only
        by_cases hh : (hashAt i == h) = true
        · rw [if_pos hh]
          exact .inr ⟨p.j, i, 0, by omega, hs, rfl⟩
        · rw [if_neg hh]
          have e : prN t (t.advance p) d = prN t p (d + 1) := by rw [Nat.add_comm d 1, prN_add t p 1 d]; rfl
          rcases go_meets t hashAt h hd d fuel (t.advance p) (by rw [adv_dummy]; exact hp) (by rw [e]; exact he) (by omega) with ⟨j, h1, h2⟩ | ⟨j, i', c, h1, h2, h3⟩
          · exact .inl ⟨j, h1, h2⟩
          · refine .inr ⟨j, i', c + 1, by omega, h2, ?_⟩
            rw [h3]
            have e2 : prN t (t.advance p) (c + 1) = prN t p (c + 1 + 1) := by rw [Nat.add_comm (c + 1) 1, prN_add t p 1 (c + 1)]; rfl
            rw [e2]

/-- the parts of a set of marks -/
structure TParts (w : World) (h : Heap) (ks : List Mark) (es : Array (Int × Value)) (t : SetTable) : Prop where
  mask : maskOk t.mask
  dum : t.dummies = #[]
  place : t.place.size = es.size
  len : es.size = ks.length
  few : ks.length ≤ 7
  all : ∀ e ∈ es.toList, ∃ m ∈ ks, e.1 = mkH w m ∧ RepV h (mkAV m) e.2 ∧ mOk m
theorem TParts.fits {w : World} {h : Heap} {ks : List Mark} {es : Array (Int × Value)} {t : SetTable} (T : TParts w h ks es t) : t.fits es.size = true := by
  unfold SetTable.fits SetTable.fill
  have h1 := T.place; have h2 := T.len; have h3 := T.few; have h4 := T.mask
  rw [T.dum]
  simp only [Bool.and_eq_true, beq_iff_eq, decide_eq_true_eq]
  refine ⟨h1, ?_⟩
  show t.place.size + 0 ≤ t.mask
  rcases h4 with e | e <;> omega
theorem TParts.odd {w : World} {h : Heap} {ks : List Mark} {es : Array (Int × Value)} {t : SetTable} (T : TParts w h ks es t) : t.gaveWay = false := by
  unfold SetTable.gaveWay
  rcases T.mask with e | e <;> rw [e] <;> rfl

section
variable {prog : Program} {w : World} {A : Around} {E : Value → Shared → Prop} {s : Shared}

theorem mark_eq {k m : Mark} {u v : Value} {Q : Bool → Shared → Prop} (hu : A.units + 100 < cLine) (r : RepV s.heap (mkAV k) u) (r' : RepV s.heap (mkAV m) v) (hk : mOk k) (hm : mOk m) (hq : Q (decide (k = m)) s) : wpAny (model prog w) A (eqBool u v) Q E s := by
  have l1 := row_lay (ms := [k]) (by simpa using hk)
  have l2 := row_lay (ms := [m]) (by simpa using hm)
  simp only [List.map_cons, List.map_nil, PyData.canLayAll0, PyData.depthAll, Bool.and_eq_true] at l1 l2
  refine eqAt_reads _ _ _ _ _ _ _ _ (mark_reads r) (mark_reads r') l1.1.1 l2.1.1 ?_ _ _ _ _ ?_
  · have := l1.2; have := l2.2; lia
  · rw [mkD_eqv]; exact hq

theorem mark_notClass {k : Mark} {v : Value} {d : Nat} {Q : Bool → Shared → Prop} (r : RepV s.heap (mkAV k) v) (hq : Q false s) : wpAny (model prog w) A (ofAClassStatement (d + 1) v) Q E s := by
  obtain ⟨a, t, u, rfl, o, ho, hc, n, hd⟩ := mark_parts r
  unfold ofAClassStatement
  refine wpAny_bind (wpAny_typeOf (T := "tuple") ⟨o, ho, hc⟩ ?_)
  dsimp only
  refine wpAny_bind (wpAny_of_eq (a := true) rfl ?_)
  simp only [Bool.not_true, Bool.false_eq_true, if_false]
  refine wpAny_bind (wpAny_seqItems ho hd ?_)
  dsimp only
  refine wpAny_bind ?_
  rw [← Array.forIn_toList]
  refine wpAny_forIn_list _ (fun rest r s' => r.1 = none ∧ s' = s ∧ ∀ v ∈ rest, ofAClassStatement d v = pure false) _ ?_ ?_ _ _ ⟨rfl, rfl, fun v hv => ?_⟩
  · rintro v rest r s' ⟨hr, rfl, hall⟩
    rw [hall v List.mem_cons_self]
    refine wpAny_bind (wpAny_pure ?_)
    simp only [Bool.false_eq_true, if_false]
    exact wpAny_pure ⟨rfl, rfl, fun u hu => hall u (List.mem_cons_of_mem _ hu)⟩
  · rintro ⟨r1, r2⟩ s' ⟨hr, rfl, _⟩
    simp only at hr
    subst hr
    exact wpAny_pure hq
  · simp at hv
    rcases hv with rfl | rfl <;> cases d <;> rfl
end
end Mine

set_option maxRecDepth 100000
set_option linter.unusedVariables false
set_option autoImplicit false
set_option maxHeartbeats 4000000
namespace Mine
open PySem PyProof.Rows PySem.SeqAt
section
variable {prog : Program} {w : World} {A : Around} {E : Value → Shared → Prop} {s : Shared}
abbrev tObj (es : Array (Int × Value)) (ep : Nat) (t : SetTable) : Obj := { cls := .type "set", dict := none, data := .set es ep t }
theorem mark_quiet8 {m : Mark} {v : Value} {h : Heap} (r : RepV h (mkAV m) v) : QuietOk prog w h 8 v := by
  obtain ⟨a, t, u, rfl, ht⟩ := mark_parts r
  refine quietOk_tuple ht fun v hv => quietOk_val ?_
  simp at hv
  rcases hv with rfl | rfl <;> rfl
theorem mark_ref {m : Mark} {v : Value} {h : Heap} (r : RepV h (mkAV m) v) : ∃ a, v = .ref a := let ⟨a, _, _, e, _⟩ := mark_parts r; ⟨a, e⟩

theorem t_seen {k : Mark} {x : Value} {Q : Bool → Shared → Prop} (rx : RepV s.heap (mkAV k) x) : ∀ (ys : List Value), (∀ y ∈ ys, ∃ m, m ≠ k ∧ RepV s.heap (mkAV m) y) → Q false s → wpAny (model prog w) A (searchCouldBeSeen x ys) Q E s := by
  intro ys hy hq
  unfold searchCouldBeSeen
  refine wpAny_bind ?_
  refine wpAny_forIn_list _ (fun rest r s' => r.1 = none ∧ s' = s ∧ ∀ y ∈ rest, ∃ m, m ≠ k ∧ RepV s.heap (mkAV m) y) _ ?_ ?_ _ _ ⟨rfl, rfl, hy⟩
  · rintro y rest r s' ⟨hr, rfl, hall⟩
    obtain ⟨m, hm, ry⟩ := hall y List.mem_cons_self
    obtain ⟨a, rfl⟩ := mark_ref rx
    obtain ⟨b, rfl⟩ := mark_ref ry
    have hab : (a == b) = false := by
      cases h : a == b with
      | false => rfl
      | true =>
        have e : a = b := by simpa using h
        subst e
        exact absurd (mark_inj ry rx) hm
    dsimp only
    rw [hab]
    simp only [carriedByValue, Bool.and_self, Bool.or_self, Bool.false_eq_true, if_false]
    refine wpAny_bind (mark_quiet8 rx _ _ _ _ rfl ?_)
    simp only [Bool.not_true, Bool.false_eq_true, if_false]
    refine wpAny_bind (mark_quiet8 ry _ _ _ _ rfl ?_)
    simp only [Bool.not_true, Bool.false_eq_true, if_false]
    refine wpAny_bind (mark_notClass (d := 7) rx ?_)
    simp only [Bool.false_eq_true, if_false]
    refine wpAny_bind (mark_notClass (d := 7) ry ?_)
    simp only [Bool.false_eq_true, if_false]
    exact wpAny_pure ⟨rfl, rfl, fun u hu => hall u (List.mem_cons_of_mem _ hu)⟩
  · rintro ⟨r1, r2⟩ s' ⟨hr, rfl, _⟩
    simp only at hr
    subst hr
    exact wpAny_pure hq

theorem t_search {a : Addr} {ks : List Mark} {k : Mark} {x : Value} {es : Array (Int × Value)} {ep : Nat} {t : SetTable} {Q : SetFound → Shared → Prop} (hu : A.units + 100 < cLine) (ho : s.heap.get? a = some (tObj es ep t)) (T : TParts w s.heap ks es t) (rx : RepV s.heap (mkAV k) x) (hk : mOk k) (hnew : k ∉ ks)
    (h : ∀ slot, t.slot slot = .empty → Q (.free slot false) s) : ∀ (d fuel : Nat) (stand : Option Pr), d ≤ 200 → d < fuel → (stand.getD (t.probeStart (mkH w k))).dummy = none → t.slot (prN t (stand.getD (t.probeStart (mkH w k))) d).j = .empty →
      wpAny (model prog w) A (setSearchFrom a x (mkH w k) true fuel stand) Q E s := by
  have hmem : ∀ (i : Nat) e, es[i]? = some e → ∃ m ∈ ks, m ≠ k ∧ e.1 = mkH w m ∧ RepV s.heap (mkAV m) e.2 ∧ mOk m := fun i e he => by
    obtain ⟨m, hm, h1, h2, h3⟩ := T.all e (by rw [← Array.getElem?_toList] at he; exact List.mem_of_getElem? he)
    exact ⟨m, hm, fun q => hnew (q ▸ hm), h1, h2, h3⟩
  have hseen : ∀ y ∈ (es.filter (·.1 == mkH w k)).toList.map (·.2), ∃ m, m ≠ k ∧ RepV s.heap (mkAV m) y := fun y hy => by
    obtain ⟨e, he, rfl⟩ := List.mem_map.mp hy
    rw [Array.toList_filter] at he
    obtain ⟨m, hm, _, h2, _⟩ := T.all e (List.mem_filter.mp he).1
    exact ⟨m, fun q => hnew (q ▸ hm), h2⟩
  intro d
  induction d using Nat.strongRecOn with
  | _ d ih =>
    intro fuel stand hd hf hdm he
    obtain ⟨fuel, rfl⟩ : ∃ f, fuel = f + 1 := ⟨fuel - 1, by omega⟩
    unfold setSearchFrom
    refine wpAny_bind (wpAny_setState_of ho rfl T.fits ?_)
    dsimp only
    rw [T.odd]
    simp only [Bool.false_eq_true, if_false]
    have hturn : d < 10 * SetTable.turns t.mask := by
      unfold SetTable.turns
      rcases T.mask with e | e <;> rw [e] <;> omega
    unfold SetTable.probe
    rcases go_meets t _ (mkH w k) T.dum d _ _ hdm he hturn with ⟨j, h1, h2⟩ | ⟨j, i, c, h1, h2, h3⟩
    · rw [h2]
      dsimp only
      exact wpAny_pure (h j h1)
    · rw [h3]
      dsimp only
      have hpl : t.place[i]? = some j := by
        unfold SetTable.slot at h2
        dsimp only at h2
        split at h2
        · rename_i hb
          injection h2 with h2
          rw [← h2]
          exact eq_of_beq hb
        · split at h2 <;> cases h2
      have hi : i < es.size := by
        rw [← T.place]
        exact (Array.getElem?_eq_some_iff.mp hpl).1
      have hes : es[i]? = some es[i] := Array.getElem?_eq_getElem hi
      obtain ⟨m, hm, hmk, e1, ry, hmo⟩ := hmem i _ hes
      obtain ⟨b, hb⟩ := mark_ref ry
      have tail : wpAny (model prog w) A (do
          let some (_, y) := es[i]? | unsupported "internal:set-entry"
          let equal ← holding [y] (eqBool y x)
          let (es', _, t') ← setState a
          if true && equal then return .there none
          let some same := t'.sameMemory t.moves t.mask | unsupported "set.changed-during-lookup:is-the-new-block-at-the-old-address"
          let still ← match (if same then t'.slot j else .empty) with
            | .live i' => match es'[i']? with
              | some (_, y') => do pure (if ← isSame y' y then some i' else none)
              | none => pure none
            | _ => pure none
          match still with
          | none => rule "set.search.anew"; setSearchFrom a x (mkH w k) true fuel none
          | some i' => if equal then return .there (some i') else setSearchFrom a x (mkH w k) true fuel (some (prN t (stand.getD (t.probeStart (mkH w k))) (c + 1)))) Q E s := by
        rw [hes]
        dsimp only
        refine wpAny_bind (wpAny_holding (mark_eq hu ry rx hmo hk ?_))
        rw [decide_eq_false hmk]
        refine wpAny_bind (wpAny_setState_of ho rfl T.fits ?_)
        dsimp only
        simp only [Bool.and_false, Bool.false_eq_true, if_false]
        have hsm : t.sameMemory t.moves t.mask = some true := by unfold SetTable.sameMemory; rw [if_pos (by simp)]
        rw [hsm]
        dsimp only
        simp only [if_true]
        rw [h2]
        dsimp only
        rw [hes]
        dsimp only
        rw [hb]
        refine wpAny_bind (wpAny_isSame_ref_self (wpAny_bind (wpAny_pure ?_)))
        simp only [if_true]
        refine ih (d - (c + 1)) (by omega) fuel _ (by omega) (by omega) ?_ ?_
        · show (prN t _ (c + 1)).dummy = none
          have : ∀ n, (prN t (stand.getD (t.probeStart (mkH w k))) n).dummy = none := by
            intro n
            induction n with
            | zero => exact hdm
            | succ n ih => show (t.advance _).dummy = none; rw [adv_dummy]; exact ih
          exact this _
        · show t.slot (prN t (prN t _ (c + 1)) (d - (c + 1))).j = .empty
          rw [← prN_add, show c + 1 + (d - (c + 1)) = d by omega]
          exact he
      cases hl : t.led with
      | true =>
        simp only [Bool.not_true, Bool.false_eq_true, if_false]
        exact tail
      | false =>
        simp only [Bool.not_false, if_true]
        refine wpAny_bind (t_seen rx _ hseen ?_)
        simp only [Bool.false_eq_true, if_false]
        exact tail
end
end Mine

set_option maxRecDepth 100000
set_option linter.unusedVariables false
set_option autoImplicit false
set_option maxHeartbeats 4000000
namespace Mine
open PySem

/-! laying a few anew in thirty-two places -/
abbrev Own := Array (Option Nat)
abbrev liveF (ow : Own) (j : Nat) : Option (Nat × Nat) := (ow.getD j none).map (j, ·)
abbrev liveOf (ow : Own) : List (Nat × Nat) := (List.range 32).filterMap (liveF ow)
theorem fm_congr {α : Type} {f g : Nat → Option α} : ∀ l : List Nat, (∀ i ∈ l, g i = f i) → l.filterMap g = l.filterMap f
  | [], _ => rfl
  | a :: l, h => by simp only [List.filterMap_cons, h a List.mem_cons_self, fm_congr l fun i hi => h i (List.mem_cons_of_mem _ hi)]
theorem upd_len {α : Type} {f g : Nat → Option α} {j : Nat} {v : α} (h1 : f j = none) (h2 : g j = some v) (h3 : ∀ i, i ≠ j → g i = f i) : ∀ l : List Nat, l.Nodup → j ∈ l → (l.filterMap g).length = (l.filterMap f).length + 1
  | [], _, hj => absurd hj (by simp)
  | a :: l, hn, hj => by
    obtain ⟨ha, hn⟩ := List.nodup_cons.mp hn
    by_cases e : a = j
    · subst e
      have : l.filterMap g = l.filterMap f := fm_congr l fun i hi => h3 i fun e => ha (e ▸ hi)
      simp [List.filterMap_cons, h1, h2, this]
    · have ih := upd_len h1 h2 h3 l hn ((List.mem_cons.mp hj).resolve_left fun q => e q.symm)
      simp only [List.filterMap_cons, h3 a e]
      cases f a <;> simp [ih]
structure OwnOk (ow : Own) (k : Nat) : Prop where
  size : ow.size = 32
  len : (liveOf ow).length = k
  lt : ∀ p ∈ liveOf ow, p.2 < k
theorem free_at {ow : Own} (hs : ow.size = 32) : ∀ (fuel i pe k : Nat), k < fuel → (ow.getD (leapN 31 k i pe) (some 0)).isNone = true → ∃ j, j < 32 ∧ SetTable.layClean.free 31 ow fuel i pe = some j ∧ ow.getD j none = none
  | 0, i, pe, k, h, _ => by omega
  | fuel + 1, i, pe, k, h, hk => by
    unfold SetTable.layClean.free
    cases hf : (List.range (SetTable.runEnd 31 i + 1 - i)).find? fun k => (ow.getD (i + k) (some 0)).isNone with
    | some r =>
      dsimp only
      have h1 := List.find?_some hf
      have h2 : i + r < ow.size := by
        apply Classical.byContradiction
        intro hn
        have : ow.getD (i + r) (some 0) = some 0 := by rw [Array.getD_eq_getD_getElem?, Array.getElem?_eq_none (by omega)]; rfl
        rw [this] at h1; cases h1
      refine ⟨i + r, by omega, rfl, ?_⟩
      rw [Array.getD_eq_getD_getElem?, Array.getElem?_eq_getElem h2] at h1 ⊢
      simpa using h1
    | none =>
      dsimp only
      have hno := List.find?_eq_none.mp hf
      cases k with
      | zero =>
        exfalso
        refine hno 0 ?_ (by simpa [leapN] using hk)
        rw [List.mem_range]
        unfold SetTable.runEnd
        split <;> omega
      | succ k =>
        have e : SetTable.leap 31 i pe = (leapI 31 i pe, pe / 32) := rfl
        rw [e]
        exact free_at hs fuel _ _ k (by omega) hk
theorem own_step {ow : Own} {k : Nat} (O : OwnOk ow k) (hk : k ≤ 7) (h : Int) : ∃ j, SetTable.layClean.free 31 ow (SetTable.turns 31) (SetTable.bits h % 32) (SetTable.bits h) = some j ∧ OwnOk (ow.setIfInBounds j (some k)) (k + 1) := by
  have hb : SetTable.bits h < 2 ^ 64 := by
    unfold SetTable.bits
    have h1 := Int.emod_lt_of_pos h (show (0 : Int) < 2 ^ 64 by decide)
    have h2 := Int.emod_nonneg h (show (2 ^ 64 : Int) ≠ 0 by decide)
    omega
  obtain ⟨m, hm, hf⟩ := meets_free (mask := 31) (i := SetTable.bits h % 32) (pe := SetTable.bits h) (.inr rfl) (Nat.mod_lt _ (by omega)) hb ((liveOf ow).map (·.1)) (by rw [List.length_map, O.len]; exact hk)
  have hlt := leapN_lt 31 m (SetTable.bits h % 32) (SetTable.bits h) (Nat.mod_lt _ (by omega))
  have hnone : (ow.getD (leapN 31 m (SetTable.bits h % 32) (SetTable.bits h)) (some 0)).isNone = true := by
    generalize leapN 31 m (SetTable.bits h % 32) (SetTable.bits h) = q at hf hlt
    have hq : q < ow.size := by rw [O.size]; omega
    rw [Array.getD_eq_getD_getElem?, Array.getElem?_eq_getElem hq]
    cases he : ow[q] with
    | none => simp [he]
    | some v =>
      exfalso
      refine hf (List.mem_map.mpr ⟨(q, v), List.mem_filterMap.mpr ⟨q, by rw [List.mem_range]; omega, ?_⟩, rfl⟩)
      show (ow.getD q none).map (q, ·) = some (q, v)
      rw [Array.getD_eq_getD_getElem?, Array.getElem?_eq_getElem hq, he]; rfl
  obtain ⟨j, hj, h1, h2⟩ := free_at O.size (SetTable.turns 31) _ _ m (by unfold SetTable.turns; omega) hnone
  refine ⟨j, h1, ?_⟩
  have hjs : j < ow.size := by rw [O.size]; exact hj
  have g1 : liveF ow j = none := by show (ow.getD j none).map _ = none; rw [h2]; rfl
  have g2 : liveF (ow.setIfInBounds j (some k)) j = some (j, k) := by
    show ((ow.setIfInBounds j (some k)).getD j none).map (j, ·) = _
    rw [Array.getD_eq_getD_getElem?, Array.getElem?_setIfInBounds_self_of_lt hjs]; rfl
  have g3 : ∀ i, i ≠ j → liveF (ow.setIfInBounds j (some k)) i = liveF ow i := fun i hi => by
    show ((ow.setIfInBounds j (some k)).getD i none).map (i, ·) = (ow.getD i none).map (i, ·)
    rw [Array.getD_eq_getD_getElem?, Array.getD_eq_getD_getElem?, Array.getElem?_setIfInBounds_ne (Ne.symm hi)]
  refine ⟨by rw [Array.size_setIfInBounds]; exact O.size, ?_, fun p hp => ?_⟩
  · rw [upd_len g1 g2 g3 (List.range 32) List.nodup_range (by rw [List.mem_range]; exact hj)]
    rw [O.len]
  · obtain ⟨i, hi, he⟩ := List.mem_filterMap.mp hp
    by_cases e : i = j
    · subst e; rw [g2] at he; cases he; exact Nat.lt_succ_self _
    · rw [g3 i e] at he
      have := O.lt p (List.mem_filterMap.mpr ⟨i, hi, he⟩)
      omega
theorem own_new : OwnOk (Array.replicate 32 none) 0 := ⟨by simp, by decide +kernel, fun p hp => by
  have : (liveOf (Array.replicate 32 none)) = [] := by decide +kernel
  rw [this] at hp; cases hp⟩
theorem lay_list : ∀ (hs : List Int) (ow : Own) (k : Nat), OwnOk ow k → k + hs.length ≤ 8 → ∃ ow', (hs.foldl (fun acc h => do
      let (owner, k) ← acc
      let j ← SetTable.layClean.free 31 owner (SetTable.turns 31) (SetTable.bits h % (31 + 1)) (SetTable.bits h)
      pure (owner.setIfInBounds j (some k), k + 1)) (some (ow, k))) = some (ow', k + hs.length) ∧ OwnOk ow' (k + hs.length)
  | [], ow, k, O, _ => ⟨ow, rfl, O⟩
  | h :: hs, ow, k, O, hl => by
    simp only [List.length_cons] at hl
    obtain ⟨j, h1, O'⟩ := own_step O (by omega) h
    obtain ⟨ow', h2, h3⟩ := lay_list hs _ (k + 1) O' (by omega)
    refine ⟨ow', ?_, by rw [show k + (h :: hs).length = k + 1 + hs.length by simp; omega]; exact h3⟩
    rw [List.foldl_cons]
    have e : (do
      let (owner, k) ← (some (ow, k) : Option (Own × Nat))
      let j ← SetTable.layClean.free 31 owner (SetTable.turns 31) (SetTable.bits h % (31 + 1)) (SetTable.bits h)
      pure (owner.setIfInBounds j (some k), k + 1)) = some (ow.setIfInBounds j (some k), k + 1) := by
      show (SetTable.layClean.free 31 ow (SetTable.turns 31) (SetTable.bits h % 32) (SetTable.bits h) >>= _) = _
      rw [h1]; rfl
    rw [e, h2, show k + (h :: hs).length = k + 1 + hs.length by simp; omega]
theorem laid_few (hs : Array Int) (finger moves : Nat) (led plain : Bool) (hl : hs.size ≤ 8) : ∃ ow, OwnOk ow hs.size ∧ SetTable.laid 31 finger moves led plain hs = some ({ mask := 31, place := ((liveOf ow).map (·.1)).toArray, dummies := #[], finger := finger, led := led, moves := moves, plain := plain }, ((liveOf ow).map (·.2)).toArray) := by
  obtain ⟨ow, h1, O⟩ := lay_list hs.toList (Array.replicate 32 none) 0 own_new (by simpa using hl)
  rw [Nat.zero_add, Array.length_toList] at h1 O
  refine ⟨ow, O, ?_⟩
  unfold SetTable.laid SetTable.layClean
  rw [← Array.foldl_toList]
  rw [h1]
  rfl
end Mine

set_option maxRecDepth 100000
set_option linter.unusedVariables false
set_option autoImplicit false
set_option maxHeartbeats 4000000
namespace Mine
open PySem PyProof.Rows PySem.SeqAt
/-- a set of marks stands at a -/
def TSet (w : World) (h : Heap) (a : Addr) (ks : List Mark) : Prop := ∃ es ep t, h.get? a = some (tObj es ep t) ∧ TParts w h ks es t
theorem keep_set {h h' : Heap} {a : Addr} {es : Array (Int × Value)} {ep : Nat} {t : SetTable} (ho : h.get? a = some (tObj es ep t)) (hs : Heap.SameBut a h h') : KeepV h h' := fun b o e st => by
  by_cases hb : b = a
  · subst hb
    rw [ho] at e; cases e
    rcases st with ⟨q, _⟩ | ⟨q, _⟩ | ⟨c, vs, q, _⟩
    · injection q with q; exact absurd q (by decide)
    · injection q with q; exact absurd q (by decide)
    · cases q
  · exact (hs.2 b hb).trans e
theorem TParts.mono {w : World} {h h' : Heap} {ks : List Mark} {es : Array (Int × Value)} {t : SetTable} (T : TParts w h ks es t) (k : KeepV h h') : TParts w h' ks es t :=
  ⟨T.mask, T.dum, T.place, T.len, T.few, fun e he => let ⟨m, h1, h2, h3, h4⟩ := T.all e he; ⟨m, h1, h2, h3.mono k, h4⟩⟩
theorem TParts.plainOff {w : World} {h : Heap} {ks : List Mark} {es : Array (Int × Value)} {t : SetTable} (T : TParts w h ks es t) : TParts w h ks es { t with plain := false } := ⟨T.mask, T.dum, T.place, T.len, T.few, T.all⟩
theorem insert_size {α : Type} (xs : Array α) (p : Nat) (x : α) : (SetTable.insertAt xs p x).size = xs.size + 1 := by
  rw [← Array.length_toList, SetTable.toList_insertAt]; simp; omega
theorem TParts.put {w : World} {h : Heap} {ks : List Mark} {k : Mark} {x : Value} {es : Array (Int × Value)} {t : SetTable} (T : TParts w h ks es t) (slot : Nat) (rx : RepV h (mkAV k) x) (hk : mOk k) (hf : ks.length < 7) :
    TParts w h (ks ++ [k]) (SetTable.insertAt es (t.put slot).2 (mkH w k, x)) (t.put slot).1 := by
  refine ⟨T.mask, ?_, ?_, ?_, ?_, fun e he => ?_⟩
  · show (if SetTable.has t.dummies slot then _ else t.dummies) = #[]
    rw [T.dum]
    have : SetTable.has #[] slot = false := by unfold SetTable.has; simp
    rw [this]; rfl
  · show (SetTable.insertAt t.place _ slot).size = _
    rw [insert_size, insert_size, T.place]
  · rw [insert_size, T.len]; simp
  · simp; omega
  · rw [SetTable.toList_insertAt] at he
    rcases List.mem_append.mp he with he | he
    · obtain ⟨m, h1, r⟩ := T.all e (List.mem_of_mem_take he)
      exact ⟨m, List.mem_append_left _ h1, r⟩
    · rcases List.mem_cons.mp he with rfl | he
      · exact ⟨k, by simp, rfl, rx, hk⟩
      · obtain ⟨m, h1, r⟩ := T.all e (List.mem_of_mem_drop he)
        exact ⟨m, List.mem_append_left _ h1, r⟩
section
variable {prog : Program} {w : World} {A : Around} {E : Value → Shared → Prop} {s : Shared}
theorem t_byValue {k : Mark} {x : Value} {Q : Bool → Shared → Prop} (rx : RepV s.heap (mkAV k) x) (hq : Q false s) : wpAny (model prog w) A (hashByValue 8 x) Q E s := by
  obtain ⟨a, t, u, rfl, o, ho, hc, n, hd⟩ := mark_parts rx
  have hT : s.TypeIs (.ref a) "tuple" := ⟨o, ho, hc⟩
  unfold hashByValue
  refine wpAny_bind (wpAny_specialOf hT F.slot_tuple_hash.lookup ?_)
  dsimp only
  refine wpAny_bind (wpAny_seqItems ho hd ?_)
  dsimp only [Option.getD]
  refine wpAny_bind ?_
  rw [← Array.forIn_toList]
  show wpAny _ _ (forIn [Value.str k.1 t, .int k.2 u] _ _) _ _ s
  rw [List.forIn_cons]
  refine wpAny_bind (wpAny_bind (wpAny_of_eq (a := false) rfl ?_))
  simp only [Bool.not_false, if_true]
  exact wpAny_pure (wpAny_pure (wpAny_pure hq))
theorem t_store {a : Addr} {es es' : Array (Int × Value)} {ep : Nat} {t t' : SetTable} {Q : Unit → Shared → Prop} (ho : s.heap.get? a = some (tObj es ep t)) (hz : es'.size ≤ 100)
    (h : ∀ h', Heap.SameBut a s.heap h' → h'.get? a = some (tObj es' (ep + 1) t') → Q () { s with heap := h' }) : wpAny (model prog w) A (storeSet a es' t') Q E s := by
  refine wpAny_storeSet_of ho rfl (h _ (Heap.SameBut.update s.heap a _) ?_) (by rw [sizeLine_eq]; omega)
  rw [Heap.get?_update_self _ ho rfl]
  rfl
theorem start_run (t : SetTable) (h : Int) : AtRun (t.probeStart h) (SetTable.bits h % (t.mask + 1)) (SetTable.bits h) := ⟨rfl, rfl, rfl, run_le _ _⟩
theorem bits_lt (h : Int) : SetTable.bits h < 2 ^ 64 := by
  unfold SetTable.bits
  have h1 := Int.emod_lt_of_pos h (show (0 : Int) < 2 ^ 64 by decide)
  have h2 := Int.emod_nonneg h (show (2 ^ 64 : Int) ≠ 0 by decide)
  omega
theorem grown_32 {n : Nat} (h1 : 5 ≤ n) (h2 : n ≤ 7) : SetTable.sizeAbove (SetTable.grown n) = 32 := by
  rcases (by omega : n = 5 ∨ n = 6 ∨ n = 7) with rfl | rfl | rfl <;> decide +kernel
theorem t_relay {a : Addr} {ks : List Mark} {es : Array (Int × Value)} {ep : Nat} {t : SetTable} {Q : Unit → Shared → Prop} (ho : s.heap.get? a = some (tObj es ep t)) (T : TParts w s.heap ks es t) (h5 : 5 ≤ es.size)
    (h : ∀ h', Heap.SameBut a s.heap h' → TSet w h' a ks → Q () { s with heap := h' }) : wpAny (model prog w) A (setRelay a (SetTable.grown es.size)) Q E s := by
  have h7 : es.size ≤ 7 := by rw [T.len]; exact T.few
  have hg := grown_32 h5 h7
  unfold setRelay
  refine wpAny_bind (wpAny_setState_of ho rfl T.fits ?_)
  dsimp only
  rw [hg, if_neg (by rw [sizeLine_eq]; omega)]
  unfold SetTable.relaid
  rw [hg]
  obtain ⟨ow, O, hl⟩ := laid_few (es.map (·.1)) t.finger (t.movedTo (32 - 1)) t.led t.plain (by rw [Array.size_map]; omega)
  rw [Array.size_map] at O
  have hl' : SetTable.laid (32 - 1) t.finger (t.movedTo (32 - 1)) t.led t.plain (es.map (·.1)) = _ := hl
  rw [hl']
  have hfm : ∀ l : List (Nat × Nat), (∀ p ∈ l, p.2 < es.size) → ((l.map (·.2)).filterMap (es[·]?)).length = l.length ∧ ∀ e ∈ (l.map (·.2)).filterMap (es[·]?), e ∈ es.toList := by
    intro l
    induction l with
    | nil => intro _; exact ⟨rfl, fun e he => by simp at he⟩
    | cons p l ih =>
      intro hp
      obtain ⟨g1, g2⟩ := ih fun p hp' => hp p (List.mem_cons_of_mem _ hp')
      have hpe : es[p.2]? = some (es[p.2]'(hp p List.mem_cons_self)) := Array.getElem?_eq_getElem _
      rw [List.map_cons, List.filterMap_cons, hpe]
      refine ⟨by simp only [List.length_cons, g1], fun e he => ?_⟩
      rcases List.mem_cons.mp he with rfl | he
      · exact Array.getElem_mem_toList _
      · exact g2 e he
  obtain ⟨f1, f2⟩ := hfm (liveOf ow) O.lt
  rw [O.len] at f1
  refine wpAny_bind ?_
  show wpAny _ _ (if ((((liveOf ow).map (·.2)).toArray.filterMap (es[·]?)).size != es.size) = true then _ else _) _ _ _
  have hes : (((liveOf ow).map (·.2)).toArray.filterMap (es[·]?)).size = es.size := by
    rw [← Array.length_toList, Array.toList_filterMap]; exact f1
  rw [hes, if_neg (by simp)]
  refine wpAny_pure ?_
  refine t_store ho (by rw [hes]; omega) fun h' hs hg' => h h' hs ⟨_, _, _, hg', ?_⟩
  have kv := keep_set ho hs
  have T' := T.mono kv
  refine ⟨.inr rfl, rfl, ?_, by rw [hes]; exact T.len, T.few, fun e he => T'.all e ?_⟩
  · show (((liveOf ow).map (·.1)).toArray).size = _
    rw [List.size_toArray, List.length_map, O.len, hes]
  · rw [Array.toList_filterMap] at he
    exact f2 e he
end
end Mine

set_option maxRecDepth 100000
set_option linter.unusedVariables false
set_option autoImplicit false
set_option maxHeartbeats 4000000
namespace Mine
open PySem PyProof.Rows PySem.SeqAt
section
variable {prog : Program} {w : World} {A : Around} {E : Value → Shared → Prop} {s : Shared}
theorem t_add {a : Addr} {ks : List Mark} {k : Mark} {x : Value} {Q : Bool → Shared → Prop} (hu : A.units + 100 < cLine) (hS : TSet w s.heap a ks) (rx : RepV s.heap (mkAV k) x) (hk : mOk k) (hnew : k ∉ ks) (hf : ks.length < 7)
    (h : ∀ h', Heap.SameBut a s.heap h' → TSet w h' a (ks ++ [k]) → Q true { s with heap := h' }) : wpAny (model prog w) A (setAddHashed a x (mkH w k)) Q E s := by
  obtain ⟨es, ep, t, ho, T⟩ := hS
  have hsc : byScan x es = false := by
    obtain ⟨b, rfl⟩ := mark_ref rx
    rfl
  unfold setAddHashed setAddHashedIn
  refine wpAny_holding (wpAny_bind (wpAny_setState_of ho rfl T.fits ?_))
  dsimp only
  rw [hsc]
  simp only [Bool.false_eq_true, if_false]
  obtain ⟨d, hd, he⟩ := probe_free T.mask T.dum (by rw [T.place, T.len]; exact T.few) (start_run t (mkH w k)) (Nat.mod_lt _ (Nat.succ_pos _)) (bits_lt _)
  refine wpAny_bind ?_
  unfold setSearch
  refine t_search hu ho T rx hk hnew (fun slot _ => ?_) d 100000 none hd (by omega) rfl he
  dsimp only
  refine wpAny_bind (wpAny_setState_of ho rfl T.fits ?_)
  dsimp only
  have TP := T.put slot rx hk hf
  have hsz : (SetTable.insertAt es (t.put slot).2 (mkH w k, x)).size = es.size + 1 := insert_size _ _ _
  have hfew : es.size + 1 ≤ 7 := by have := T.len; omega
  have rest : ∀ t2 : SetTable, TParts w s.heap (ks ++ [k]) (SetTable.insertAt es (t.put slot).2 (mkH w k, x)) t2 → wpAny (model prog w) A (do
      storeSet a (SetTable.insertAt es (t.put slot).2 (mkH w k, x)) t2
      if (!false && t2.tooFull) = true then setRelay a (SetTable.grown (es.size + 1))
      return true) Q E s := fun t2 T2 => by
    refine wpAny_bind (t_store ho (by omega) fun h' hs hg => ?_)
    have T3 := T2.mono (keep_set ho hs)
    by_cases hfull : t2.tooFull = true
    · rw [hfull]
      simp only [Bool.not_false, Bool.and_self, if_true]
      have h5 : 5 ≤ es.size + 1 := by
        unfold SetTable.tooFull SetTable.fill at hfull
        rw [T2.dum, T2.place, hsz] at hfull
        have := of_decide_eq_true hfull
        have h0 : (#[] : Array Nat).size = 0 := rfl
        rcases T2.mask with e | e <;> rw [e, h0] at this <;> omega
      refine wpAny_bind ?_
      rw [← hsz]
      refine t_relay (s := { s with heap := h' }) hg T3 (by omega) fun h'' hs' hT => ?_
      exact wpAny_pure (h h'' (hs.trans hs') hT)
    · simp only [hfull, Bool.not_false, Bool.and_false, Bool.false_eq_true, if_false]
      exact wpAny_pure (h h' hs ⟨_, _, _, hg, T3⟩)
  by_cases hp : (t.put slot).1.plain = true
  · rw [hp]
    simp only [if_true]
    refine wpAny_bind (t_byValue rx ?_)
    simp only [Bool.false_eq_true, if_false]
    exact rest _ TP.plainOff
  · simp only [hp, if_false]
    refine wpAny_bind (wpAny_pure ?_)
    simp only [if_true]
    exact rest _ TP
end
end Mine

set_option maxRecDepth 100000
set_option linter.unusedVariables false
set_option autoImplicit false
set_option maxHeartbeats 4000000
namespace Mine
open PySem PyProof.Rows PySem.SeqAt
theorem TSet.keep {w : World} {h h' : Heap} {a : Addr} {ks : List Mark} (x : TSet w h a ks) (k : KeepV h h') (e : ∀ o, h.get? a = some o → h'.get? a = some o) : TSet w h' a ks :=
  let ⟨es, ep, t, ho, T⟩ := x; ⟨es, ep, t, e _ ho, T.mono k⟩
section
variable {prog : Program} {w : World} {A : Around} {R : Result → Shared → Prop}
theorem t_loop (hh : A.in1.handled = none) (hu : A.units + 200 < cLine) (I l S : Addr) (hne : l ≠ I) (hSI : S ≠ I) (hSl : S ≠ l) (items : Array Value) (ms : List Mark) (hl7 : ms.length ≤ 7) (hn : ms.Nodup) (hm : ∀ m ∈ ms, mOk m) :
    ∀ (k i : Nat) (s : Shared), items.size - i = k → i ≤ items.size → s.heap.IsListIter I l i ∧ s.heap.IsList l items → RepVs s.heap (ms.map mkAV) items.toList → TSet w s.heap S (ms.take i) →
      (∀ h' tk, (∀ b o, b ≠ S → b ≠ I → s.heap.get? b = some o → h'.get? b = some o) → TSet w h' S ms → R (.ok (.ret .none)) { s with heap := h', toks := tk }) →
      codeAny (model prog w) A (.builtin "set.update.loop" ⟨[.ref S, .ref I], []⟩) R s := by
  have W := Walks.list (prog := prog) (w := w) (A := A.in1) hh I l hne items
  have keepI : ∀ (s : Shared) (i : Nat) (h' : Heap), s.heap.IsListIter I l i → (∀ b o, b ≠ I → s.heap.get? b = some o → h'.get? b = some o) → KeepV s.heap h' := fun s i h' hit hk b o e st => by
    by_cases hb : b = I
    · subst hb
      obtain ⟨oi, hoi, hci, _⟩ := hit
      rw [hoi] at e; cases e
      rcases st with ⟨q, _⟩ | ⟨q, _⟩ | ⟨c, vs, q, _⟩ <;> rw [hci] at q
      · injection q with q; exact absurd q (by decide)
      · injection q with q; exact absurd q (by decide)
      · cases q
    · exact hk b o hb e
  intro k
  induction k with
  | zero =>
    intro i s hk hi st rs hS hR
    obtain rfl : i = items.size := by omega
    refine codeAny_builtin PyProof.Rows.F.entry_set_update_loop ?_
    rw [Around.under_plainId PyProof.Rows.F.plain_set_update_loop _]
    show wpAny _ A.in1 (pyNext (.ref I) >>= _) _ _ s
    refine wpAny_bind (W.done s _ _ st fun h' tk hm' => ?_)
    have hk' : ∀ b o, b ≠ I → s.heap.get? b = some o → h'.get? b = some o := fun b o hb e => hm' b o (by simpa using hb) e
    have hlen : ms.length = items.size := by have := rs.length; rw [List.length_map, Array.length_toList] at this; exact this
    rw [← hlen, List.take_length] at hS
    exact wpAny_pure (hR h' tk (fun b o _ hb e => hk' b o hb e) (hS.keep (keepI s _ h' st.1 hk') fun o e => hk' S o hSI e))
  | succ k ih =>
    intro i s hk hi st rs hS hR
    have hlen : ms.length = items.size := by have := rs.length; rw [List.length_map, Array.length_toList] at this; exact this
    refine codeAny_builtin PyProof.Rows.F.entry_set_update_loop ?_
    rw [Around.under_plainId PyProof.Rows.F.plain_set_update_loop _]
    show wpAny _ A.in1 (pyNext (.ref I) >>= _) _ _ s
    refine wpAny_bind (W.item i s _ _ (by omega) st fun v h1 tk1 hv st1 hm' => ?_)
    have hk' : ∀ b o, b ≠ I → s.heap.get? b = some o → h1.get? b = some o := fun b o hb e => hm' b o (by simpa using hb) e
    have kv := keepI s _ h1 st.1 hk'
    have hS1 := hS.keep kv fun o e => hk' S o hSI e
    have rs1 := rs.mono kv
    have hil : i < ms.length := by omega
    have hx : (ms.map mkAV)[i]? = some (mkAV ms[i]) := by simp [hil]
    obtain ⟨v', hv', rx⟩ := rs1.get hx
    rw [Array.getElem?_toList, hv] at hv'
    cases hv'
    have htk : ms.take (i + 1) = ms.take i ++ [ms[i]] := by rw [List.take_add_one]; simp [hil]
    have hnew : ms[i] ∉ ms.take i := fun hmem => by
      obtain ⟨j, hj⟩ := List.mem_iff_getElem?.mp hmem
      have hji : j < i := by have := (List.getElem?_eq_some_iff.mp hj).1; rw [List.length_take] at this; omega
      rw [List.getElem?_take_of_lt hji] at hj
      obtain ⟨g1, g2⟩ := List.getElem?_eq_some_iff.mp hj
      exact List.pairwise_iff_getElem.mp hn j i g1 hil hji g2
    show wpAny _ A.in1 (holding [v] (setAdd S v) >>= _) _ _ { s with heap := h1, toks := tk1 }
    refine wpAny_bind (wpAny_holding ?_)
    unfold setAdd
    have hu1 : A.in1.units = A.units + 1 := Around.in1_units ..
    refine wpAny_holding (wpAny_bind (mark_hash rx _ _ _ _ rfl (by rw [hu1]; omega) ?_))
    refine t_add (s := { s with heap := h1, toks := tk1 + 3 }) (by rw [hu1]; omega) hS1 rx (hm _ (List.getElem_mem hil)) hnew (by rw [List.length_take]; omega) fun h2 hs2 hS2 => ?_
    obtain ⟨es0, ep0, t0, ho0, _⟩ := hS1
    have kv2 : KeepV h1 h2 := keep_set ho0 hs2
    have hk2 : ∀ b o, b ≠ S → h1.get? b = some o → h2.get? b = some o := fun b o hb e => (hs2.2 b hb).trans e
    refine wpAny_pure ⟨plainId_quiet PyProof.Rows.F.plain_set_update_loop _, ih (i + 1) _ (by omega) (by omega) ⟨?_, ?_⟩ (rs1.mono kv2) (by rw [htk]; exact hS2) fun h' tk hk3 hT => ?_⟩
    · exact st1.1.at fun o e => hk2 I o hSI.symm e
    · exact st1.2.at fun o e => hk2 l o hSl.symm e
    · exact hR h' tk (fun b o hb hbI e => hk3 b o hb hbI (hk2 b o hb (hk' b o hbI e))) hT
end
end Mine

set_option maxRecDepth 100000
set_option linter.unusedVariables false
set_option autoImplicit false
set_option maxHeartbeats 4000000
namespace Mine
open PySem PyProof.Rows PySem.SeqAt
section
variable {prog : Program} {w : World} {A : Around} {E : Value → Shared → Prop} {s : Shared}
abbrev itObj (l : Addr) : Obj := { cls := .type "list_iterator", data := .fields #[.ref l, .int 0 0] }
/-- set.__init__ from a list, whatever the elements are -/
theorem set_init (Pz : Heap → Prop) {l S : Addr} {items : Array Value} {R : Result → Shared → Prop} (hl : s.heap.IsList l items) (hS : s.heap.get? S = some (setNew w))
    (loop : ∀ R' : Result → Shared → Prop, (∀ h' tk, Pz h' → (∀ b o, b ≠ S → b ≠ s.heap.objs.size → s.heap.get? b = some o → h'.get? b = some o) → R' (.ok (.ret .none)) { s with heap := h', toks := tk }) →
      codeAny (model prog w) A.in1 (.builtin "set.update.loop" ⟨[.ref S, .ref s.heap.objs.size], []⟩) R' { s with heap := s.heap.push (itObj l) })
    (h : ∀ h' tk, Pz h' → (∀ b o, b ≠ S → s.heap.get? b = some o → h'.get? b = some o) → R (.ok (.ret .none)) { s with heap := h', toks := tk }) :
    wpAny (model prog w) A.in1 (Builtin.«set.__init__» ⟨[.ref S, .ref l], []⟩)
      (fun fin s' => match fin with | .done f => R (.ok f) s' | .again c' => c'.quiet = true ∧ codeAny (model prog w) A c' R s') (fun e s' => R (.error e) s') s := by
  have hT : Shared.TypeIs s (.ref S) "set" := ⟨_, hS, rfl⟩
  obtain ⟨ol, hol, hcl, nl, hdl⟩ := id hl
  obtain ⟨ocls, odict, odata, oslots⟩ := ol
  simp only at hcl hdl
  subst hcl; subst hdl
  have hsls := PySem.F.sub_list_set
  have hslf := PySem.F.sub_list_frozenset
  have hnd : (Value.type "list" == Value.type "dict") = false := by decide
  unfold Builtin.«set.__init__» noKeywords Builtin.Frozenset.updateFrom
  generalize hPI : pyIter = PI
  wp_walk
  subst hPI
  refine wpAny_pyIter_list hl ?_
  refine wpAny_bind (wpAny_runValue (loop _ fun h' tk' hP hk => ?_))
  show wpAny _ _ _ _ _ _
  refine wpAny_pure ?_
  exact wpAny_pure (h h' tk' hP fun b o hb e => hk b o hb (Nat.ne_of_lt (Heap.lt_size e)) e)
theorem set_call (Pz : Heap → Prop) {l : Addr} {items : Array Value} {Q : Value → Shared → Prop} (hl : s.heap.IsList l items)
    (loop : ∀ R' : Result → Shared → Prop, (∀ h' tk, Pz h' → (∀ b o, b ≠ s.heap.objs.size → b ≠ s.heap.objs.size + 1 → (s.heap.push (setNew w)).get? b = some o → h'.get? b = some o) → R' (.ok (.ret .none)) { s with heap := h', toks := tk }) →
      codeAny (model prog w) A.in1.in1 (.builtin "set.update.loop" ⟨[.ref s.heap.objs.size, .ref (s.heap.objs.size + 1)], []⟩) R' { s with heap := (s.heap.push (setNew w)).push (itObj l) })
    (h : ∀ (h' : Heap) (tk : Nat), Pz h' → (∀ b o, s.heap.get? b = some o → h'.get? b = some o) → Q (.ref s.heap.objs.size) { s with heap := h', toks := tk }) :
    wpAny (model prog w) A (call (.type "set") [.ref l]) Q E s := by
  obtain ⟨c, tl, hmro⟩ := PySem.F.called_set.mro
  have hmade := PySem.F.called_set.made
  have hsub := PySem.F.called_set.sub
  refine wpAny_call (codeAny_of_tree ?_)
  show wpAny _ _ (callAny (.type "set") _) _ _ _
  refine wpAny_pure ⟨Code.quiet_builtin _ (by decide +kernel), codeAny_builtin PySem.F.entry_type_call ?_⟩
  rw [Around.under_plain (weight_type_call_type "set" [.ref l] []) rfl]
  have h1 := PySem.F.called_set.notType
  have h2 := PySem.F.called_set.canCreate
  have hct := PySem.F.typeCall_set_1 (.ref l)
  repeat (any_goals (first | assumption | wp_step))
  refine codeAny_mono (small_new (.ref l) (E := E) (Q₁ := fun obj s₁ => obj = .ref s.heap.objs.size ∧ s₁ = { s with heap := s.heap.push (setNew w) }) ⟨rfl, rfl⟩) fun r s₁ hr => ?_
  cases r with
  | error e => exact hr
  | ok fl =>
    cases fl with
    | ret obj =>
      obtain ⟨rfl, rfl⟩ := hr
      have hS : (s.heap.push (setNew w)).get? s.heap.objs.size = some (setNew w) := Heap.get?_push_size _ rfl
      have hT : Shared.TypeIs { s with heap := s.heap.push (setNew w) } (.ref s.heap.objs.size) "set" := ⟨_, hS, rfl⟩
      have hli := PySem.F.called_set.init.lookup
      have hbi := PySem.F.called_set.init.bind (.ref s.heap.objs.size)
      repeat (any_goals (first | assumption | wp_step))
      refine codeAny_mono (codeAny_call_builtin (R := wants (fun r s₂ => r = .none ∧ ∃ h' tk, s₂ = { s with heap := h', toks := tk } ∧ Pz h' ∧ (∀ b o, s.heap.get? b = some o → h'.get? b = some o)) E)
        PySem.F.called_set.init.plain PySem.F.entry_set_init (PySem.check_set_init_1 hT ?_)) fun r₂ s₂ hr₂ => ?_
      · have hsz : (s.heap.push (setNew w)).objs.size = s.heap.objs.size + 1 := Heap.size_push ..
        refine set_init (s := { s with heap := s.heap.push (setNew w) }) Pz (hl.push _) hS (fun R' hR' => ?_) fun h' tk hP hk => ?_
        · have := loop R' fun h' tk hP hk => hR' h' tk hP fun b o hb hb2 e => hk b o hb (by rw [← hsz]; exact hb2) e
          rw [← hsz] at this
          exact this
        · exact ⟨rfl, h', tk, rfl, hP, fun b o e => hk b o (Nat.ne_of_lt (Heap.lt_size e)) (Heap.get?_push_of_some _ e)⟩
      · cases r₂ with
        | error e => exact hr₂
        | ok fl₂ =>
          cases fl₂ with
          | ret r =>
            obtain ⟨rfl, h', tk, rfl, hS', hk'⟩ := hr₂
            repeat (any_goals (first | assumption | wp_step))
            exact h _ _ hS' hk'
          | _ => exact hr₂.elim
    | _ => exact hr.elim
/-- set(a list of different marks) -/
theorem t_set {l : Addr} {items : Array Value} {ms : List Mark} {Q : Value → Shared → Prop} (hh : A.handled = none) (hu : A.units + 300 < cLine) (hl : s.heap.IsList l items) (rs : RepVs s.heap (ms.map mkAV) items.toList) (hl7 : ms.length ≤ 7) (hn : ms.Nodup) (hm : ∀ m ∈ ms, mOk m)
    (h : ∀ (h' : Heap) (tk : Nat), TSet w h' s.heap.objs.size ms → (∀ b o, s.heap.get? b = some o → h'.get? b = some o) → Q (.ref s.heap.objs.size) { s with heap := h', toks := tk }) :
    wpAny (model prog w) A (call (.type "set") [.ref l]) Q E s := by
  have hll : l < s.heap.objs.size := let ⟨_, ho, _⟩ := hl; Heap.lt_size ho
  have hsz : (s.heap.push (setNew w)).objs.size = s.heap.objs.size + 1 := Heap.size_push ..
  refine set_call (fun h' => TSet w h' s.heap.objs.size ms) hl (fun R' hR' => ?_) h
  have hu2 : A.in1.in1.units = A.units + 2 := by rw [Around.in1_units, Around.in1_units]
  refine t_loop (A := A.in1.in1) (by simpa using hh) (by rw [hu2]; omega) (s.heap.objs.size + 1) l s.heap.objs.size (Nat.ne_of_lt (Nat.lt_succ_of_lt hll)) (Nat.ne_of_lt (Nat.lt_succ_self _)) (Nat.ne_of_gt hll) items ms hl7 hn hm (items.size - 0) 0 _ (by omega) (Nat.zero_le _)
    ⟨⟨_, by rw [← hsz]; exact Heap.get?_push_size _ rfl, rfl, rfl⟩, (hl.push _).push _⟩ (rs.mono fun b o e _ => Heap.get?_push_of_some _ (Heap.get?_push_of_some _ e)) ⟨#[], 0, _, Heap.get?_push_of_some _ (Heap.get?_push_size _ rfl), ⟨.inl rfl, rfl, rfl, by simp, by simp, fun e he => by simp at he⟩⟩ fun h' tk hk hT => ?_
  exact hR' h' tk hT fun b o hb1 hb2 e => hk b o hb1 hb2 (Heap.get?_push_of_some _ e)
end
end Mine

set_option maxRecDepth 100000
set_option linter.unusedVariables false
set_option autoImplicit false
set_option maxHeartbeats 4000000
namespace Mine
open PySem PyProof.Rows PySem.SeqAt PySem.W
/-- len(set(a list of different marks)) -/
inductive pLenSet : List AV → Post → AHeap → Prop
  | mk {p : Addr} {ms : List Mark} {Q : Post} {σ : AHeap} (hp : listAt p (ms.map mkAV) σ) (hl : ms.length ≤ 7) (hn : ms.Nodup) (hm : ∀ m ∈ ms, mOk m) (h : Q (.int ms.length) σ) : pLenSet [.ref p] Q σ
theorem grownAt {X : Cx} {σ : AHeap} {s : Shared} {h' : Heap} {t : Nat} {x : AV} {v : Value} {Q : Post} (a : At X σ s) (hk : ∀ b o, s.heap.get? b = some o → h'.get? b = some o) (hsz : s.heap.objs.size ≤ h'.objs.size) (r : RepV h' x v) (q : Q x σ) : liftQ X σ s Q v { s with heap := h', toks := t } := by
  have kv : KeepV s.heap h' := fun b o e _ => hk b o e
  exact ⟨x, σ, r, ⟨fun b o e => hk b o (a.keep b o e), fun b ao e => (a.rep b ao e).mono kv fun o ho => hk b o ho, a.own, a.gens, a.os⟩, ⟨fun b o e _ _ => hk b o e, fun b h1 h2 => absurd h2 h1, hsz⟩, q⟩
section
variable {X : Cx} {env : Env} {nm : List (Str × Nat)}
theorem sound_lenSet {e : Expr} {m : AE} {gp gp2 pos2 pos : Pos} (XO : X.Ok) (EO : EnvOk env) (hx : env.kindOf "len" = some .globalImplicit) (hn : X.mg "len" = none) (hv : X.mb "len" = some (.builtin "len"))
    (hxT : env.kindOf "set" = some .globalImplicit) (hnT : X.mg "set" = none) (hvT : X.mb "set" = some (.type "set")) (h : SoundEs X env nm [e] [m]) :
    SoundE X env nm (.Call (.Name "len" gp) [.Call (.Name "set" gp2) [e] [] pos2] [] pos) (A.prim pLenSet [m]) := fun d A l σ s Q Z L a F q => by
  refine Call_ (wp_builtin XO EO a hx (by decide) hn hv ?_)
  refine Calls.callWith_builtin ?_ ?_
  · rw [starEach_cons rfl]; rfl
  rw [starEach_cons rfl]
  refine Calls.evalArgs_plain ?_
  refine Calls.spliced_cons (Call_ (wp_builtin XO EO a hxT (by decide) hnT hvT ?_))
  refine PyProof.Rows.callWith_type h.plain (sound_args h L a F q fun vs s1 ⟨avs, σ1, r, a1, st, q1⟩ => ?_)
  cases q1 with
  | @mk p ms _ _ hp hl7 hnd hm q2 =>
    obtain ⟨v, rfl, rv⟩ := repVs1 r
    cases rv
    obtain ⟨vs, hl, rs⟩ := a1.isList hp
    have room := L.room
    refine with_size (t_set (ms := ms) L.handled (by lia) hl (by simpa using rs) hl7 hnd hm fun h2 tk2 hS hk hsz => ?_)
    obtain ⟨es, ep, t, ho, T⟩ := hS
    have hes : es.size = ms.length := T.len
    refine Calls.spliced_nil (call_len_set (s := { s1 with heap := h2, toks := tk2 }) ho ⟨rfl, rfl, rfl⟩ rfl T.fits (by omega) ?_)
    rw [hes]
    exact (grownAt (t := tk2 + 1 + 1) a1 hk hsz (.int _ _) q2).back st
end
section
variable {X : Cx} {K : Frag} {env : Env} {nm : List (Str × Nat)} {names : List (Str × NameKind)}
theorem w_lenSet {e : Expr} {m : AE} {gp gp2 pos2 pos : Pos} (G : Gd X K) (E : EK env names) (hb : isBi K "len" (.builtin "len")) (hbT : isBi K "set" (.type "set")) (hg : isGlob names "len" = true) (hgT : isGlob names "set" = true) (h : SoundEs X env nm [e] [m]) :
    SoundE X env nm (.Call (.Name "len" gp) [.Call (.Name "set" gp2) [e] [] pos2] [] pos) (A.prim pLenSet [m]) := sound_lenSet G.ok E.eo (E.glob hg).1 (G.none hb) (G.some hb) (E.glob hgT).1 (G.none hbT) (G.some hbT) h
theorem q_lenSet {p : Addr} {ms : List Mark} {Q : Post} {σ : AHeap} (hp : listAt p (ms.map mkAV) σ) (hl : ms.length ≤ 7) (hn : ms.Nodup) (hm : ∀ m ∈ ms, mOk m) (h : Q (.int ms.length) σ) : pLenSet [.ref p] Q σ := .mk hp hl hn hm h
end
end Mine

set_option Elab.async false
set_option maxRecDepth 1000000
set_option maxHeartbeats 8000000
set_option linter.unusedVariables false
set_option autoImplicit false
namespace Mine
open PySem PySem.W PySem.Calls PyProof.Rows
abbrev pw : Program := PySem.Challenge.pw_uf060002_06
abbrev rw_ : OpenLaw := PySem.Challenge.rw_uf060002_06
noncomputable def st (i : Nat) : Stmt := pw.main.body.getD i (.Pass ⟨0, 0, 0, 0⟩)
noncomputable def hK (P : Params) : Frag := [(3, ⟨.type "dict", none, .dict #[en P "__name__" 165 (.str "law_uf060002_06" 227), en P "__doc__" 166 (.none), en P "__package__" 167 (.none), en P "__loader__" 168 (.builtin "__main__.__loader__#opaque"), en P "__spec__" 169 (.none), en P "__annotations__" 170 (.ref 6), en P "__builtins__" 171 (.ref 4), en P "__file__" 173 (.str "/claim/cut.py" 172), en P "__cached__" 174 (.none), en P "marks_of" 194 (.ref 19), en P "without" 202 (.ref 24), en P "taken_out" 214 (.ref 31), en P "table" 220 (.ref 36), en P "picked" 226 (.ref 41), en P "_law_cell_at" 236 (.ref 48), en P "_law_group" 242 (.ref 53), en P "_law_match" 248 (.ref 58), en P "_law_matches" 254 (.ref 63), en P "_law_marks" 260 (.ref 68), en P "_law_most" 266 (.ref 73), en P "_law_first" 272 (.ref 78), en P "law" 278 (.ref 83)] 22, #[]⟩), (18, ⟨.type "code", none, .fields #[.str "marks_of" 189, .str "marks_of" 190, .str "/claim/cut.py" 191, .int 2 0, .int 1 0, .int 0 0, .int 0 0, .int 3 0, .ref 15, .bool Bool.true, .int 181 0, .ref 16, .none, .none, .none, .ref 17, .int 192 0, .int 2 0, .str "/claim/cut.py" 193], #[]⟩), (19, fnO (st 1) (.str "tickoff.matching" 187) (.ref 18)), (23, ⟨.type "code", none, .fields #[.str "without" 197, .str "without" 198, .str "/claim/cut.py" 199, .int 5 0, .int 2 0, .int 0 0, .int 0 0, .int 3 0, .ref 20, .bool Bool.true, .int 181 0, .ref 21, .none, .none, .none, .ref 22, .int 200 0, .int 5 0, .str "/claim/cut.py" 201], #[]⟩), (24, fnO (st 3) (.str "tickoff.picking" 195) (.ref 23)), (30, ⟨.type "code", none, .fields #[.str "taken_out" 203, .str "taken_out" 204, .str "/claim/cut.py" 205, .int 10 0, .int 2 0, .int 0 0, .int 0 0, .int 3 0, .ref 25, .bool Bool.true, .int 181 0, .ref 26, .none, .ref 27, .ref 28, .ref 29, .int 212 0, .int 10 0, .str "/claim/cut.py" 213], #[]⟩), (31, fnO (st 4) (.str "tickoff.picking" 195) (.ref 30)), (35, ⟨.type "code", none, .fields #[.str "table" 215, .str "table" 216, .str "/claim/cut.py" 217, .int 19 0, .int 2 0, .int 0 0, .int 0 0, .int 3 0, .ref 32, .bool Bool.true, .int 181 0, .ref 33, .none, .none, .none, .ref 34, .int 218 0, .int 19 0, .str "/claim/cut.py" 219], #[]⟩), (36, fnO (st 5) (.str "tickoff.picking" 195) (.ref 35)), (40, ⟨.type "code", none, .fields #[.str "picked" 221, .str "picked" 222, .str "/claim/cut.py" 223, .int 41 0, .int 2 0, .int 0 0, .int 0 0, .int 3 0, .ref 37, .bool Bool.true, .int 181 0, .ref 38, .none, .none, .none, .ref 39, .int 224 0, .int 41 0, .str "/claim/cut.py" 225], #[]⟩), (41, fnO (st 6) (.str "tickoff.picking" 195) (.ref 40)), (47, ⟨.type "code", none, .fields #[.str "_law_cell_at" 229, .str "_law_cell_at" 230, .str "/claim/cut.py" 231, .int 54 0, .int 2 0, .int 0 0, .int 0 0, .int 3 0, .ref 42, .bool Bool.true, .int 181 0, .ref 43, .none, .ref 44, .ref 45, .ref 46, .int 234 0, .int 54 0, .str "/claim/cut.py" 235], #[]⟩), (48, fnO (st 8) (.str "law_uf060002_06" 227) (.ref 47)), (52, ⟨.type "code", none, .fields #[.str "_law_group" 237, .str "_law_group" 238, .str "/claim/cut.py" 239, .int 58 0, .int 1 0, .int 0 0, .int 0 0, .int 3 0, .ref 49, .bool Bool.true, .int 181 0, .ref 50, .none, .none, .none, .ref 51, .int 240 0, .int 58 0, .str "/claim/cut.py" 241], #[]⟩), (53, fnO (st 9) (.str "law_uf060002_06" 227) (.ref 52)), (57, ⟨.type "code", none, .fields #[.str "_law_match" 243, .str "_law_match" 244, .str "/claim/cut.py" 245, .int 69 0, .int 2 0, .int 0 0, .int 0 0, .int 3 0, .ref 54, .bool Bool.true, .int 181 0, .ref 55, .none, .none, .none, .ref 56, .int 246 0, .int 69 0, .str "/claim/cut.py" 247], #[]⟩), (58, fnO (st 10) (.str "law_uf060002_06" 227) (.ref 57)), (62, ⟨.type "code", none, .fields #[.str "_law_matches" 249, .str "_law_matches" 250, .str "/claim/cut.py" 251, .int 81 0, .int 2 0, .int 0 0, .int 0 0, .int 3 0, .ref 59, .bool Bool.true, .int 181 0, .ref 60, .none, .none, .none, .ref 61, .int 252 0, .int 81 0, .str "/claim/cut.py" 253], #[]⟩), (63, fnO (st 11) (.str "law_uf060002_06" 227) (.ref 62)), (67, ⟨.type "code", none, .fields #[.str "_law_marks" 255, .str "_law_marks" 256, .str "/claim/cut.py" 257, .int 90 0, .int 1 0, .int 0 0, .int 0 0, .int 3 0, .ref 64, .bool Bool.true, .int 181 0, .ref 65, .none, .none, .none, .ref 66, .int 258 0, .int 90 0, .str "/claim/cut.py" 259], #[]⟩), (68, fnO (st 12) (.str "law_uf060002_06" 227) (.ref 67)), (72, ⟨.type "code", none, .fields #[.str "_law_most" 261, .str "_law_most" 262, .str "/claim/cut.py" 263, .int 92 0, .int 2 0, .int 0 0, .int 0 0, .int 3 0, .ref 69, .bool Bool.true, .int 181 0, .ref 70, .none, .none, .none, .ref 71, .int 264 0, .int 92 0, .str "/claim/cut.py" 265], #[]⟩), (73, fnO (st 13) (.str "law_uf060002_06" 227) (.ref 72)), (77, ⟨.type "code", none, .fields #[.str "_law_first" 267, .str "_law_first" 268, .str "/claim/cut.py" 269, .int 100 0, .int 2 0, .int 0 0, .int 0 0, .int 3 0, .ref 74, .bool Bool.true, .int 181 0, .ref 75, .none, .none, .none, .ref 76, .int 270 0, .int 100 0, .str "/claim/cut.py" 271], #[]⟩), (78, fnO (st 14) (.str "law_uf060002_06" 227) (.ref 77)), (82, ⟨.type "code", none, .fields #[.str "law" 273, .str "law" 274, .str "/claim/cut.py" 275, .int 109 0, .int 1 0, .int 0 0, .int 0 0, .int 3 0, .ref 79, .bool Bool.true, .int 181 0, .ref 80, .none, .none, .none, .ref 81, .int 276 0, .int 109 0, .str "/claim/cut.py" 277], #[]⟩), (83, fnO (st 15) (.str "law_uf060002_06" 227) (.ref 82))]
noncomputable def hA : List Addr := [3, 18, 19, 23, 24, 30, 31, 35, 36, 40, 41, 47, 48, 52, 53, 57, 58, 62, 63, 67, 68, 72, 73, 77, 78, 82, 83]
noncomputable def qv : Program := { pw with main := { pw.main with body := [st 15] } }
noncomputable def lsv : List Str := [("marks_of" : Str), ("without" : Str), ("taken_out" : Str), ("table" : Str), ("picked" : Str), ("_law_cell_at" : Str), ("_law_group" : Str), ("_law_match" : Str), ("_law_matches" : Str), ("_law_marks" : Str), ("_law_most" : Str), ("_law_first" : Str)]
noncomputable def hH : Hook := kHook hK hA (fun _ => by kernel_rfl)
noncomputable def hX (s : Shared) : Bool := xlAt qv [] s && recOk [] s
noncomputable def dL : DefRec × List (Str × Expr) := (defOf qv "law").get (by kernel_rfl)
theorem said : rw_.wellSaid = true := by
  rw [PySem.W.Fast.te9446332074065402090]
  kernel_rfl
theorem looks (w : World) (os : OsState) : (PySem.W.Fast.tw10110043849684766642 PySem.W.Fast.tw14364793385576792824 pw w 11 (some (.ref 6)) 0 600 (bootS w os) (topStub pw)).map (fun r => topLook pw qv lsv hX hH.obs w.params r.2.1.abs) = some (true, openGood qv lsv, hH.val w) := by kernel_rfl
theorem left : LeftO pw qv lsv hX hH.obs hH.val 600 := by
  refine left_once (by kernel_rfl) (by kernel_rfl) (fun s => by kernel_rfl) fun w os => ?_
  rw [PySem.W.Fast.te10110043849684766642, PySem.W.Fast.te14364793385576792824]
  exact looks w os
theorem hd (h : WalkO qv lsv (XL qv []) hH.says rw_.row.toRowW dL.1 dL.2 fun f vs => PySem.call f vs) : rw_.Holds := by
  refine holds_law said fun said' => ?_
  refine holds_open (q := qv) (loose := lsv) (Xt := hX) (XP := XL qv []) (Yf := hH.obs) (Ya := hH.val) (YP := hH.says) (N := 600) (d := dL.1) (kwd := dL.2) left hH.of hH.keeps (fun s e => xl_of s (Bool.and_eq_true_iff.mp e).1) XL.keeps (by kernel_rfl) (by kernel_rfl) (by kernel_rfl) (fun s e => recFacts_of (Bool.and_eq_true_iff.mp e).2) (by kernel_rfl) said' (by kernel_rfl) ⟨rfl, rfl, rfl, rfl, rfl, by decide +kernel⟩ ?hw h
  exact ⟨[.list []], by decide +kernel, by decide +kernel⟩
theorem dL_name : dL.1.name = "law" := by kernel_rfl
end Mine


set_option maxRecDepth 100000
set_option linter.unusedVariables false
set_option autoImplicit false
set_option linter.unusedSimpArgs false
set_option maxHeartbeats 8000000
set_option pp.deepTerms false
namespace Mine
open PySem PyProof.Rows PySem.SeqAt PySem.W
section
variable {X : Cx} {P : Params} {Q : Post} {Z : XP} {σ : AHeap} {d : Nat}
theorem bi_len : isBi (hK P) "len" (.builtin "len") := ⟨by kernel_rfl, by kernel_rfl, by decide⟩
theorem bi_range : isBi (hK P) "range" (.type "range") := ⟨by kernel_rfl, by kernel_rfl, by decide⟩
theorem bi_list : isBi (hK P) "list" (.type "list") := ⟨by kernel_rfl, by kernel_rfl, by decide⟩
theorem bi_tuple : isBi (hK P) "tuple" (.type "tuple") := ⟨by kernel_rfl, by kernel_rfl, by decide⟩
theorem bi_isinstance : isBi (hK P) "isinstance" (.builtin "isinstance") := ⟨by kernel_rfl, by kernel_rfl, by decide⟩
theorem bi_sorted : isBi (hK P) "sorted" (.builtin "sorted") := ⟨by kernel_rfl, by kernel_rfl, by decide⟩

theorem bi_enumerate : isBi (hK P) "enumerate" (.type "enumerate") := ⟨by kernel_rfl, by kernel_rfl, by decide⟩
theorem bi_max : isBi (hK P) "max" (.builtin "max") := ⟨by kernel_rfl, by kernel_rfl, by decide⟩
theorem bi_min : isBi (hK P) "min" (.builtin "min") := ⟨by kernel_rfl, by kernel_rfl, by decide⟩
theorem bi_set : isBi (hK P) "set" (.type "set") := ⟨by kernel_rfl, by kernel_rfl, by decide⟩

theorem cell_at_ok (G : Gd X (hK P)) (hd : d < 600) {p : Addr} {ns : List Int} {k : Int} (h0 : 0 ≤ k) (hp : listAt p (ns.map .int) σ) (q : Q (.int (ns.getD k.toNat 0)) σ) : CallOk X 48 d [.ref p, .int k] Q Z σ := by
  obtain ⟨k, rfl⟩ := Int.eq_ofNat_of_zero_le h0
  refine' callK (m := _) ["_law_script", "_law_k"] [("_law_script", 0), ("_law_k", 1)] G rfl rfl (bind2 fun a b => rfl) rfl rfl rfl rfl rfl rfl rfl rfl (fun env E => ?snd) hd rfl ?bd
  case snd =>
    repeat' first
      | ((with_reducible show SoundSs _ _ _ [] _); (with_reducible refine' sound_nil))
      | ((with_reducible show SoundSs _ _ _ (_ :: _) _); (with_reducible refine' sound_cons ?_ ?_))
      | ((with_reducible show SoundS _ _ _ (.If _ _ _ _) _); (with_reducible refine' sound_if ?_ ?_ ?_))
      | ((with_reducible show SoundS _ _ _ (.Return (some _) _) _); (with_reducible refine' sound_ret ?_))
      | ((with_reducible show SoundB _ _ _ (.Compare _ _ _ _) _); (with_reducible refine' soundB_cmp ?_ ?_))
      | ((with_reducible show SoundE _ _ _ (.Name _ _) _); (with_reducible refine' w_loc (by assumption) ?r1 ?r2 ?r3); (case r1 => exact rfl); (case r2 => exact rfl); (case r3 => exact rfl))
      | ((with_reducible show SoundE _ _ _ (.Constant (.int _) _ _) _); (with_reducible refine' sound_int))
      | ((with_reducible show SoundEs _ _ _ [] _); (with_reducible refine' w_es0))
      | ((with_reducible show SoundEs _ _ _ (_ :: _) _); (with_reducible refine' w_es1 ?r1 ?_ ?_); (case r1 => exact rfl))
      | ((with_reducible show SoundOps _ _ _ [_] _ _); (with_reducible refine' SoundOps.one ?_ ?r1); (case r1 => exact rfl))
      | ((with_reducible show SoundE _ _ _ (.Subscript _ _ _) _); (with_reducible refine' sound_idx ?_ ?_ ?r1); (case r1 => exact rfl))
      | ((with_reducible show SoundE _ _ _ (.Call (.Name "len" _) _ [] _) _); (with_reducible refine' w_len (by assumption) (by assumption) bi_len ?r1 ?_); (case r1 => exact rfl))
  repeat (first | with_reducible (first | refine q_consO fun S1 kn1 => ?_ | refine q_if ?_ | refine q_isB ?_ | refine q_cmp ?_ | refine q_chain1 ?_ | refine q_prim ?_ | refine q_ev1 ?_ | refine q_ev0 ?_) | ((with_reducible refine' q_loc ?e ?_); case e => rfl) | with_reducible (first | refine q_lt ?_ | refine q_lenLM (by assumption) ?_))
  split
  · rename_i hk
    have hk : k < ns.length := by simpa using hk
    have e : atIdx (ns.map AV.int) (k : Int) = some (.int (ns.getD k 0)) := by rw [at_nat]; simp [hk]
    repeat (first | with_reducible (first | refine q_consO fun S1 kn1 => ?_ | refine q_ret ?_ | refine q_idx ?_) | ((with_reducible refine' q_loc ?e ?_); case e => rfl) | with_reducible (first | refine q_retK (by assumption) ?_ | refine q_listIdx (by assumption) (by assumption) ?_))
    exact q
  · rename_i hk
    have hk : ns.length ≤ k := by simpa using hk
    have e : ns.getD k 0 = 0 := by simp [List.getD_eq_getElem?_getD, List.getElem?_eq_none hk]
    repeat (first | with_reducible (first | refine q_consO fun S1 kn1 => ?_ | refine q_ret ?_ | refine q_k ?_) | with_reducible (first | refine q_nil ?_ | refine q_next (by assumption) ?_ | refine q_retK (by assumption) ?_))
    rw [Int.toNat_natCast, e] at q; exact q

theorem fmod_nat (x : Int) (n : Nat) (h : 0 < n) : ∃ k : Nat, x.fmod n = k ∧ k < n := by
  have h1 := Int.fmod_nonneg_of_pos x (b := n) (by omega); have h2 := Int.fmod_lt_of_pos x (b := n) (by omega)
  exact ⟨(x.fmod n).toNat, by omega, by omega⟩
/-- a match, its marks -/
def mtAV (m : Mt) : AV := .tup [.tup (m.1.map .int), .tup (m.2.map .int)]
def mtOk (m : Mt) : Prop := m.1.length ≤ 4 ∧ m.2.length ≤ 4
theorem marksOf_ok (m : Mt) : ∀ x ∈ marksOf m, mOk x := by
  intro x hx
  unfold marksOf at hx
  rcases List.mem_append.mp hx with h | h <;> obtain ⟨k, _, rfl⟩ := List.mem_map.mp h
  · exact d_bank
  · exact d_book
theorem marksOf_map (m : Mt) : (marksOf m).map mkAV = m.1.map (fun k => mkAV ("bank", k)) ++ m.2.map fun k => mkAV ("book", k) := by
  unfold marksOf; rw [List.map_append, List.map_map, List.map_map]; rfl

theorem marks_of_ok (G : Gd X (hK P)) (hd : d < 600) {m : Mt} (hm : mtOk m) (q : ∀ σ' r, Ext σ σ' → σ r = none → listAt r ((marksOf m).map mkAV) σ' → Q (.ref r) σ') : CallOk X 19 d [mtAV m] Q Z σ := by
  obtain ⟨ms, ns⟩ := m
  obtain ⟨h1, h2⟩ := hm
  have h1 : ms.length ≤ 4 := h1
  have h2 : ns.length ≤ 4 := h2
  rw [marksOf_map] at q
  unfold mtAV
  refine' callK (m := _) ["match"] [("match", 0)] G rfl rfl (bind1 fun a => rfl) rfl rfl rfl rfl rfl rfl rfl rfl (fun env E => ?snd) (by lia) rfl ?bd
  case snd =>
    repeat' first
      | ((with_reducible show SoundSs _ _ _ [] _); (with_reducible refine' sound_nil))
      | ((with_reducible show SoundSs _ _ _ (_ :: _) _); (with_reducible refine' sound_cons ?_ ?_))
      | ((with_reducible show SoundS _ _ _ (.Return (some _) _) _); (with_reducible refine' sound_ret ?_))
      | ((with_reducible show SoundC _ _ _ [] _); (with_reducible refine' w_cNone))
      | ((with_reducible show SoundTC _ _ _ (.Name _ _) _); (with_reducible refine' w_tcOne (by assumption) ?r1 ?r2); (case r1 => exact rfl); (case r2 => exact rfl))
      | ((with_reducible show SoundI _ _ _ _ _ _); (with_reducible refine' w_it ?_))
      | ((with_reducible show SoundE _ _ _ (.Name _ _) _); (with_reducible refine' w_loc (by assumption) ?r1 ?r2 ?r3); (case r1 => exact rfl); (case r2 => exact rfl); (case r3 => exact rfl))
      | ((with_reducible show SoundE _ _ _ (.Constant (.int _) _ _) _); (with_reducible refine' sound_int))
      | ((with_reducible show SoundE _ _ _ (.Constant (.str _) _ _) _); (with_reducible refine' sound_str))
      | ((with_reducible show SoundE _ _ _ (.Tuple _ _ _) _); (with_reducible refine' sound_tup ?_))
      | ((with_reducible show SoundEs _ _ _ [] _); (with_reducible refine' w_es0))
      | ((with_reducible show SoundEs _ _ _ (_ :: _) _); (with_reducible refine' w_es1 ?r1 ?_ ?_); (case r1 => exact rfl))
      | ((with_reducible show SoundE _ _ _ (.BinOp _ _ _ _) _); (with_reducible refine' sound_bin ?_ ?_))
      | ((with_reducible show SoundE _ _ _ (.Subscript _ _ _) _); (with_reducible refine' sound_idx ?_ ?_ ?r1); (case r1 => exact rfl))
      | ((with_reducible show SoundE _ _ _ (.ListComp _ _ _ _) _); (with_reducible refine' w_comp (by assumption) ?r1 ?r2 ?r3 ?_ (fun env' E' => ?_) (fun env' E' => ?_) (fun env' E' => ?_)); (case r1 => exact rfl); (case r2 => exact rfl); (case r3 => exact rfl))
  repeat (first | with_reducible (first | refine q_consO fun S1 kn1 => ?_ | refine q_ret ?_ | refine q_k ?_ | refine q_idx ?_) | ((with_reducible refine' q_loc ?e ?_); case e => rfl) | with_reducible (first | refine q_bin ?_ | refine q_lc ?_ | refine q_itP ?_ | refine q_itemsT ?_ | refine q_tupIdx rfl ?_))
  refine compL_map ms _ (fun k => mkAV ("bank", k)) (fun p => [some (.tup [.tup (ms.map .int), .tup (ns.map .int)]), none, some (.int p)]) (fun x => rfl) (fun x y => rfl) ?_ trivial (by lia) ?_
  · intro p hp R hR
    repeat (first | with_reducible (first | refine q_k ?_ | refine q_ev1 ?_ | refine q_ev0 ?_) | ((with_reducible refine' q_loc ?e ?_); case e => rfl) | with_reducible (first | refine q_tup ?_) | ((with_reducible refine' q_tl ?e ?_); case e => rfl))
    exact hR
  refine alf fun σ1 r1 e1 hr1 l1 => ?_
  repeat (first | with_reducible (first | refine q_k ?_ | refine q_idx ?_) | ((with_reducible refine' q_loc ?e ?_); case e => rfl) | with_reducible (first | refine q_lc ?_ | refine q_itP ?_ | refine q_itemsT ?_ | refine q_tupIdx rfl ?_))
  refine compL_map ns _ (fun k => mkAV ("book", k)) (fun p => [some (.tup [.tup (ms.map .int), .tup (ns.map .int)]), none, some (.int p)]) (fun x => rfl) (fun x y => rfl) ?_ trivial (by lia) ?_
  · intro p hp R hR
    repeat (first | with_reducible (first | refine q_k ?_ | refine q_ev1 ?_ | refine q_ev0 ?_) | ((with_reducible refine' q_loc ?e ?_); case e => rfl) | with_reducible (first | refine q_tup ?_) | ((with_reducible refine' q_tl ?e ?_); case e => rfl))
    exact hR
  refine alf fun σ2 r2 e2 hr2 l2 => ?_
  refine addL_of (.inl (e2 _ _ l1)) (.inl l2) (by rw [List.length_map, List.length_map]; lia) fun σ3 r3 e3 hr3 l3 => ?_
  repeat (first | with_reducible (first | refine q_retK (by assumption) ?_))
  exact q _ _ (e1.trans (e2.trans e3)) ((e1.trans e2).none hr3) (.inl l3)

/-- a rest without some marks -/
def takeB (r ms : List Mark) : List Mark := r.filter fun y => !decide (y ∈ ms)
theorem without_ok (G : Gd X (hK P)) (hd : d < 600) {r ms : List Mark} {p : Addr} (hr : ∀ x ∈ r, mOk x) (hl : r.length ≤ 1000) (hm : ∀ x ∈ ms, mOk x) (hp : listAt p (ms.map mkAV) σ) (q : ∀ σ', Ext σ σ' → Q (if ∀ y ∈ ms, y ∈ r then rowAV (takeB r ms) else .none) σ') :
    CallOk X 24 d [rowAV r, .ref p] Q Z σ := by
  refine' callK (m := _) ["rest", "marks"] [("rest", 0), ("marks", 1), ("mark", 2)] G rfl rfl (bind2 fun a b => rfl) rfl rfl rfl rfl rfl rfl rfl rfl (fun env E => ?snd) hd rfl ?bd
  case snd =>
    repeat' first
      | ((with_reducible show SoundSs _ _ _ [] _); (with_reducible refine' sound_nil))
      | ((with_reducible show SoundSs _ _ _ (_ :: _) _); (with_reducible refine' sound_cons ?_ ?_))
      | ((with_reducible show SoundS _ _ _ (.If _ _ _ _) _); (with_reducible refine' sound_if ?_ ?_ ?_))
      | ((with_reducible show SoundS _ _ _ (.Return (some _) _) _); (with_reducible refine' sound_ret ?_))
      | ((with_reducible show SoundS _ _ _ (.For _ _ _ _ _) _); (with_reducible refine' w_for ?r1 ?_ ?_ ?_); (case r1 => exact rfl))
      | ((with_reducible show SoundC _ _ _ (_ :: _) _); (with_reducible refine' w_cSome ?_))
      | ((with_reducible show SoundT _ _ _ (.Name _ _) _); (with_reducible refine' w_tOne (by assumption) ?r1 ?r2); (case r1 => exact rfl); (case r2 => exact rfl))
      | ((with_reducible show SoundTC _ _ _ (.Name _ _) _); (with_reducible refine' w_tcOne (by assumption) ?r1 ?r2); (case r1 => exact rfl); (case r2 => exact rfl))
      | ((with_reducible show SoundI _ _ _ _ _ _); (with_reducible refine' w_it ?_))
      | ((with_reducible show SoundB _ _ _ (.Compare _ _ _ _) _); (with_reducible refine' soundB_cmp ?_ ?_))
      | ((with_reducible show SoundE _ _ _ (.Name _ _) _); (with_reducible refine' w_loc (by assumption) ?r1 ?r2 ?r3); (case r1 => exact rfl); (case r2 => exact rfl); (case r3 => exact rfl))
      | ((with_reducible show SoundE _ _ _ (.Constant .none _ _) _); (with_reducible refine' sound_none))
      | ((with_reducible show SoundEs _ _ _ [] _); (with_reducible refine' w_es0))
      | ((with_reducible show SoundEs _ _ _ (_ :: _) _); (with_reducible refine' w_es1 ?r1 ?_ ?_); (case r1 => exact rfl))
      | ((with_reducible show SoundOps _ _ _ [_] _ _); (with_reducible refine' SoundOps.one ?_ ?r1); (case r1 => exact rfl))
      | ((with_reducible show SoundE _ _ _ (.ListComp _ _ _ _) _); (with_reducible refine' w_comp (by assumption) ?r1 ?r2 ?r3 ?_ (fun env' E' => ?_) (fun env' E' => ?_) (fun env' E' => ?_)); (case r1 => exact rfl); (case r2 => exact rfl); (case r3 => exact rfl))
      | ((with_reducible show SoundE _ _ _ (.Call (.Name "tuple" _) _ [] _) _); (with_reducible refine' w_prim (by assumption) (by assumption) bi_tuple ?r1 sound_tuple ?r2 ?_); (case r1 => exact (.inr ⟨_, rfl⟩)); (case r2 => exact rfl))
  repeat (first | with_reducible (first | refine q_consO fun S1 kn1 => ?_) | ((with_reducible refine' q_loc ?e ?_); case e => rfl) | with_reducible (first | refine q_fr ?_ | refine q_itP ?_ | refine q_itemsL (by assumption) ?_))
  refine forL_at _ (fun k l' σ' => σ' = σ ∧ (∀ y ∈ ms.take k, y ∈ r) ∧ ∃ o, l' = [some (rowAV r), some (.ref p), o]) ?_ ?_ ⟨rfl, by simp, _, rfl⟩
  · rintro k x l' σ' K hx ⟨rfl, hk, o, rfl⟩ hK
    rw [List.getElem?_map] at hx
    obtain ⟨m, hm', rfl⟩ := Option.map_eq_some_iff.mp hx
    have hmm := hm m (List.mem_of_getElem? hm')
    refine ⟨_, rfl, ?_⟩
    repeat (first | with_reducible (first | refine q_consO fun S1 kn1 => ?_ | refine q_if ?_ | refine q_isB ?_ | refine q_cmp ?_ | refine q_chain1 ?_) | ((with_reducible refine' q_loc ?e ?_); case e => rfl) | with_reducible (first | refine q_notInRow (by assumption) (by assumption) ?_))
    split
    · rename_i hc
      repeat (first | with_reducible (first | refine q_consO fun S1 kn1 => ?_ | refine q_ret ?_ | refine q_k ?_) | with_reducible (first | refine q_retK (by assumption) ?_))
      have : ¬ ∀ y ∈ ms, y ∈ r := fun h => by have := h m (List.mem_of_getElem? hm'); simp [this] at hc
      have q' := q _ (.refl _)
      rw [if_neg this] at q'
      exact q'
    · rename_i hc
      repeat (first | with_reducible (first | refine q_nil ?_ | refine q_next (by assumption) ?_))
      refine ⟨hp, hK _ _ ⟨rfl, fun y hy => ?_, _, rfl⟩⟩
      rw [List.take_add_one, hm'] at hy
      rcases List.mem_append.mp hy with h | h
      · exact hk y h
      · simp at h; subst h; simpa using hc
  · rintro l' σ' ⟨rfl, hk, o, rfl⟩
    rw [List.length_map, List.take_length] at hk
    repeat (first | with_reducible (first | refine q_consO fun S1 kn1 => ?_ | refine q_ret ?_ | refine q_prim ?_ | refine q_ev1 ?_) | ((with_reducible refine' q_loc ?e ?_); case e => rfl) | with_reducible (first | refine q_next (by assumption) ?_ | refine q_lc ?_ | refine q_itP ?_ | refine q_itemsT ?_))
    refine compLf_as r (fun y => !decide (y ∈ ms)) mkAV mkAV (fun y => [some (rowAV r), some (.ref p), o, none, some (mkAV y)]) (fun x _ => rfl) (fun x _ y _ => rfl) ?_ ?_ trivial (by lia) ?_
    · intro y hy R hR
      have hyy := hr y hy
      repeat (first | with_reducible (first | refine q_isB ?_ | refine q_cmp ?_ | refine q_chain1 ?_) | ((with_reducible refine' q_loc ?e ?_); case e => rfl) | with_reducible (first | refine q_notInMarks (by assumption) (by assumption) (by assumption) ?_))
      exact hR
    · intro y hy hpy R hR
      repeat (first | ((with_reducible refine' q_loc ?e ?_); case e => rfl))
      exact hR
    refine alf fun σ1 r1 e1 hr1 l1 => ?_
    have l1 : listAt r1 (((r.filter fun y => !decide (y ∈ ms))).map mkAV) σ1 := .inl l1
    repeat (first | with_reducible (first | refine q_ev0 ?_) | with_reducible (first | refine q_retK (by assumption) ?_ | refine q_tupL (by assumption) ?_))
    have q' := q _ e1
    rw [if_pos hk] at q'
    exact q'
end
end Mine

set_option maxRecDepth 100000
set_option linter.unusedVariables false
set_option autoImplicit false
set_option linter.unusedSimpArgs false
set_option maxHeartbeats 8000000
set_option pp.deepTerms false
namespace Mine
open PySem PyProof.Rows PySem.SeqAt PySem.W
section
variable {X : Cx} {P : Params} {Q : Post} {Z : XP} {σ : AHeap} {d : Nat}
theorem Ext.put {σ σ' : AHeap} {p : Addr} {o : AO} (e : Ext σ σ') (h : σ p = Option.none) : Ext σ (σ'.set p o) := fun a b q => by
  rw [AHeap.set_ne _ _ (by rintro rfl; rw [h] at q; cases q)]; exact e a b q
/-- the matches that can be taken out, with what is left -/
def tk (ms : List Mt) (r : List Mark) : List (Mt × List Mark) := ms.filterMap fun m => (lessOf r m).map fun b => (m, b)
def tkAV (x : Mt × List Mark) : AV := .tup [mtAV x.1, rowAV x.2]
theorem tk_outs (ms : List Mt) (r : List Mark) : (tk ms r).map (·.2) = outs ms r := by
  unfold tk outs
  rw [List.map_filterMap]
  congr 1; funext m
  cases lessOf r m <;> rfl
theorem tk_snoc {ms : List Mt} {r : List Mark} {k : Nat} {m : Mt} (h : ms[k]? = some m) : tk (ms.take (k + 1)) r = tk (ms.take k) r ++ (match lessOf r m with | none => [] | some b => [(m, b)]) := by
  unfold tk
  rw [List.take_add_one, h, List.filterMap_append]
  cases hl : lessOf r m <;> simp [List.filterMap_cons, hl]
theorem less_cons (x : Mark) (t : List Mark) (m : Mt) : lessOf (x :: t) m = if x ∈ marksOf m ∧ ∀ y ∈ marksOf m, y ∈ x :: t then some ((x :: t).filter fun y => !decide (y ∈ marksOf m)) else none := rfl
theorem tk_len {ms : List Mt} {r : List Mark} : (tk ms r).length ≤ ms.length := List.length_filterMap_le _ _
theorem taken_out_ok (G : Gd X (hK P)) (hd : d < 599) {x : Mark} {t : List Mark} {ms : List Mt} {p : Addr} (hr : ∀ y ∈ x :: t, mOk y) (hl : (x :: t).length ≤ 1000) (hm : ∀ m ∈ ms, mtOk m) (hml : ms.length ≤ 1000) (hp : listAt p (ms.map mtAV) σ)
    (q : ∀ σ' r, Ext σ σ' → σ r = none → listAt r ((tk ms (x :: t)).map tkAV) σ' → Q (.ref r) σ') : CallOk X 31 d [rowAV (x :: t), .ref p] Q Z σ := by
  refine' callK (m := _) ["rest", "matches"] [("rest", 0), ("matches", 1), ("found", 2), ("match", 3), ("marks", 4), ("behind", 5)] G rfl rfl (bind2 fun a b => rfl) rfl rfl rfl rfl rfl rfl rfl rfl (fun env E => ?snd) (by lia) rfl ?bd
  case snd =>
    repeat' first
      | ((with_reducible show SoundSs _ _ _ [] _); (with_reducible refine' sound_nil))
      | ((with_reducible show SoundSs _ _ _ (_ :: _) _); (with_reducible refine' sound_cons ?_ ?_))
      | ((with_reducible show SoundS _ _ _ (.If _ _ _ _) _); (with_reducible refine' sound_if ?_ ?_ ?_))
      | ((with_reducible show SoundS _ _ _ (.Return (some _) _) _); (with_reducible refine' sound_ret ?_))
      | ((with_reducible show SoundS _ _ _ (.Assign [.Name _ _] _ _) _); (with_reducible refine' w_set (by assumption) ?r1 ?r2 ?_ ?r3); (case r1 => exact rfl); (case r2 => exact rfl); (case r3 => exact rfl))
      | ((with_reducible show SoundS _ _ _ (.For _ _ _ _ _) _); (with_reducible refine' w_for ?r1 ?_ ?_ ?_); (case r1 => exact rfl))
      | ((with_reducible show SoundS _ _ _ (.Expr _ _) _); (with_reducible refine' w_ex (by assumption) ?_ ?r1); (case r1 => exact rfl))
      | ((with_reducible show SoundT _ _ _ (.Name _ _) _); (with_reducible refine' w_tOne (by assumption) ?r1 ?r2); (case r1 => exact rfl); (case r2 => exact rfl))
      | ((with_reducible show SoundI _ _ _ _ _ _); (with_reducible refine' w_it ?_))
      | ((with_reducible show SoundB _ _ _ (.Compare _ _ _ _) _); (with_reducible refine' soundB_cmp ?_ ?_))
      | ((with_reducible show SoundE _ _ _ (.Name _ _) _); (with_reducible refine' w_loc (by assumption) ?r1 ?r2 ?r3); (case r1 => exact rfl); (case r2 => exact rfl); (case r3 => exact rfl))
      | ((with_reducible show SoundE _ _ _ (.Constant (.int _) _ _) _); (with_reducible refine' sound_int))
      | ((with_reducible show SoundE _ _ _ (.Constant .none _ _) _); (with_reducible refine' sound_none))
      | ((with_reducible show SoundE _ _ _ (.Tuple _ _ _) _); (with_reducible refine' sound_tup ?_))
      | ((with_reducible show SoundE _ _ _ (.List _ _) _); (with_reducible refine' sound_lst ?_))
      | ((with_reducible show SoundEs _ _ _ [] _); (with_reducible refine' w_es0))
      | ((with_reducible show SoundEs _ _ _ (_ :: _) _); (with_reducible refine' w_es1 ?r1 ?_ ?_); (case r1 => exact rfl))
      | ((with_reducible show SoundOps _ _ _ [_] _ _); (with_reducible refine' SoundOps.one ?_ ?r1); (case r1 => exact rfl))
      | ((with_reducible show SoundE _ _ _ (.Subscript _ _ _) _); (with_reducible refine' sound_idx ?_ ?_ ?r1); (case r1 => exact rfl))
      | ((with_reducible show SoundE _ _ _ (.Call (.Attribute _ "append" _) _ [] _) _); (with_reducible refine' w_append ?r1 ?r2 ?r3 ?_ ?_); (case r1 => exact (fun _ => rfl)); (case r2 => exact rfl); (case r3 => exact rfl))
      | ((with_reducible show SoundE _ _ _ (.Call (.Name _ _) _ [] _) _); (with_reducible refine' w_call (by assumption) (by assumption) ?r1 ?r2 ?r3 ?_); (case r1 => exact rfl); (case r2 => exact ⟨_, _, rfl, rfl⟩); (case r3 => exact rfl))
  have hx := hr x List.mem_cons_self
  repeat (first | with_reducible (first | refine q_consO fun S1 kn1 => ?_ | refine q_set ?_ | refine q_ev0 ?_) | with_reducible (first | refine q_lst ?_) | ((with_reducible refine' q_tl ?e ?_); case e => rfl))
  refine alf fun σ1 rf e1 hrf l1 => ?_
  have kp := e1.list hp
  repeat (first | with_reducible (first | refine q_consO fun S1 kn1 => ?_) | ((with_reducible refine' q_loc ?e ?_); case e => rfl) | with_reducible (first | refine q_next (by assumption) ?_ | refine q_fr ?_ | refine q_itP ?_ | refine q_itemsL (by assumption) ?_))
  refine forL_at _ (fun k l' σ' => Ext σ σ' ∧ σ' rf = some (.list ((tk (ms.take k) (x :: t)).map tkAV)) ∧ ∃ a b c, l' = [some (rowAV (x :: t)), some (.ref p), some (.ref rf), a, b, c]) ?_ ?_ ⟨e1, l1, _, _, _, rfl⟩
  · rintro k y l' σ' K hy ⟨e, lf, a, b, c, rfl⟩ hK
    rw [List.getElem?_map] at hy
    obtain ⟨m, hm', rfl⟩ := Option.map_eq_some_iff.mp hy
    have hmm := hm m (List.mem_of_getElem? hm')
    have hso := tk_snoc (r := x :: t) hm'
    refine ⟨_, rfl, ?_⟩
    repeat (first | with_reducible (first | refine q_consO fun S1 kn1 => ?_ | refine q_set ?_ | refine q_ev1 ?_ | refine q_ev0 ?_ | refine q_callF ?_) | ((with_reducible refine' q_loc ?e ?_); case e => rfl))
    refine marks_of_ok G (by lia) hmm fun σ2 r2 e2 hr2 l2 => ?_
    have hmk := marksOf_ok m
    have lf2 := e2 _ _ lf
    repeat (first | with_reducible (first | refine q_consO fun S1 kn1 => ?_ | refine q_if ?_ | refine q_isB ?_ | refine q_k ?_ | refine q_idx ?_ | refine q_cmp ?_ | refine q_chain1 ?_) | ((with_reducible refine' q_loc ?e ?_); case e => rfl) | with_reducible (first | refine q_next (by assumption) ?_ | refine q_tupIdx rfl ?_ | refine q_inMarks (by assumption) (by assumption) (by assumption) ?_))
    split
    · rename_i hc
      have hc : x ∈ marksOf m := by simpa using hc
      repeat (first | with_reducible (first | refine q_consO fun S1 kn1 => ?_ | refine q_set ?_ | refine q_ev1 ?_ | refine q_ev0 ?_ | refine q_callF ?_) | ((with_reducible refine' q_loc ?e ?_); case e => rfl))
      refine without_ok G (by lia) hr hl hmk l2 fun σ3 e3 => ?_
      have lf3 := e3 _ _ lf2
      by_cases ha : ∀ y ∈ marksOf m, y ∈ x :: t
      · rw [if_pos ha]
        have hlo : lessOf (x :: t) m = some (takeB (x :: t) (marksOf m)) := by rw [less_cons, if_pos ⟨hc, ha⟩]; rfl
        rw [hlo] at hso
        repeat (first | with_reducible (first | refine q_consO fun S1 kn1 => ?_ | refine q_if ?_ | refine q_isB ?_ | refine q_k ?_ | refine q_cmp ?_ | refine q_chain1 ?_ | refine q_ev1 ?_ | refine q_ev0 ?_) | ((with_reducible refine' q_loc ?e ?_); case e => rfl) | with_reducible (first | refine q_next (by assumption) ?_ | refine q_tup ?_ | refine q_isNotNone ?_ | refine q_ex ?_ | refine q_meth ?_ | refine q_exM (by assumption) ?_) | ((with_reducible refine' q_ifTc ?e ?_); case e => rfl) | ((with_reducible refine' q_tl ?e ?_); case e => rfl))
        refine q_app lf3 (by rw [List.length_map]; have := tk_len (ms := ms.take k) (r := x :: t); rw [List.length_take] at this; lia) ?_
        repeat (first | with_reducible (first | refine q_nil ?_ | refine q_next (by assumption) ?_ | refine q_nr ?_))
        refine ⟨?_, hK _ _ ⟨((e.trans e2).trans e3).put hrf, ?_, _, _, _, rfl⟩⟩
        · exact (((e.trans e2).trans e3).put hrf).list hp
        · rw [AHeap.set_self, hso, List.map_append]; rfl
      · rw [if_neg ha]
        have hlo : lessOf (x :: t) m = none := by rw [less_cons, if_neg fun h => ha h.2]
        rw [hlo] at hso
        repeat (first | with_reducible (first | refine q_consO fun S1 kn1 => ?_ | refine q_if ?_ | refine q_isB ?_ | refine q_k ?_ | refine q_cmp ?_ | refine q_chain1 ?_) | ((with_reducible refine' q_loc ?e ?_); case e => rfl) | with_reducible (first | refine q_nil ?_ | refine q_next (by assumption) ?_ | refine q_isNotNone ?_) | ((with_reducible refine' q_ifFc ?e ?_); case e => rfl))
        refine ⟨((e.trans e2).trans e3).list hp, hK _ _ ⟨(e.trans e2).trans e3, ?_, _, _, _, rfl⟩⟩
        rw [hso, List.append_nil]; exact lf3
    · rename_i hc
      have hc : ¬ x ∈ marksOf m := by simpa using hc
      have hlo : lessOf (x :: t) m = none := by rw [less_cons, if_neg fun h => hc h.1]
      rw [hlo] at hso
      repeat (first | with_reducible (first | refine q_nil ?_ | refine q_next (by assumption) ?_))
      refine ⟨(e.trans e2).list hp, hK _ _ ⟨e.trans e2, ?_, _, _, _, rfl⟩⟩
      rw [hso, List.append_nil]; exact lf2
  · rintro l' σ' ⟨e, lf, a, b, c, rfl⟩
    rw [List.length_map, List.take_length] at lf
    repeat (first | with_reducible (first | refine q_consO fun S1 kn1 => ?_ | refine q_ret ?_) | ((with_reducible refine' q_loc ?e ?_); case e => rfl) | with_reducible (first | refine q_next (by assumption) ?_ | refine q_retK (by assumption) ?_))
    exact q _ _ e hrf (.inl lf)

end
end Mine

set_option maxRecDepth 100000
set_option linter.unusedVariables false
set_option autoImplicit false
set_option linter.unusedSimpArgs false
set_option maxHeartbeats 8000000
set_option pp.deepTerms false
namespace Mine
open PySem PyProof.Rows PySem.SeqAt PySem.W
section
variable {X : Cx} {P : Params} {Q : Post} {Z : XP} {σ : AHeap} {d : Nat}
theorem listAt_setD {p r : Addr} {xs : List AV} {kvs : Tab} {o : AO} (h : listAt p xs σ) (hr : σ r = some (.tdict kvs)) : listAt p xs (σ.set r o) := by
  have hne : p ≠ r := by rintro rfl; rcases h with h | h <;> rw [h] at hr <;> cases hr
  unfold listAt at *
  rw [AHeap.set_ne _ _ hne]; exact h
theorem listAt_setN {p r : Addr} {xs : List AV} {o : AO} (h : listAt p xs σ) (hne : p ≠ r) : listAt p xs (σ.set r o) := by
  unfold listAt at *
  rw [AHeap.set_ne _ _ hne]; exact h
theorem dNil_of {l : Loc} (h : ∀ σ' r, Ext σ σ' → σ r = none → σ' r = some (.tdict []) → Q (.ref r) σ') : A.dNil d l Q Z σ := fun r hr => h _ r (Ext.set hr) hr (AHeap.set_self ..)
theorem sortLen_of {p : Addr} {xs : List (List Mark)} (hp : listAt p (xs.map rowAV) σ) (hl : xs.length < 64) (h : ∀ ys : List (List Mark), ys.Perm xs → ys.Pairwise (fun x y => x.length ≤ y.length) → ∀ σ' r, Ext σ σ' → σ r = none → σ' r = some (.list (ys.map rowAV)) → Q (.ref r) σ') : pSortLen [.ref p] Q σ :=
  .mk (f := fun r : List Mark => r.map mkAV) hp hl fun ys h1 h2 => al (h ys h1 (h2.imp fun h => by simpa using h))
abbrev metT (w : List (List Mark)) : Tab := w.map fun r => (r, .bool true)
theorem met_keys (w : List (List Mark)) : (metT w).map (·.1) = w := by rw [List.map_map]; simp [Function.comp_def]
theorem met_put {w : List (List Mark)} {b : List Mark} (h : b ∉ w) : (metT w).put b (.bool true) = metT (w ++ [b]) := by
  unfold Tab.put
  rw [Tab.at_none (by rw [met_keys]; exact h)]
  simp [metT]
theorem grow_take {row nx : List (List Mark)} {j : Nat} {b : List Mark} (h : nx[j]? = some b) : grow row (nx.take (j + 1)) = if b ∈ grow row (nx.take j) then grow row (nx.take j) else grow row (nx.take j) ++ [b] := by
  unfold grow
  rw [List.take_add_one, h, List.foldl_append]; rfl
theorem row_ok {ms : List Mt} {g r : List Mark} {k : Nat} (hg : ∀ y ∈ g, mOk y) (h : r ∈ rowAt ms g k) : ∀ y ∈ r, mOk y := fun y hy => hg y ((ground_sub (rowAt_ground k r h)).subset hy)
theorem row_len {ms : List Mt} {g r : List Mark} {k : Nat} (hg : g.length ≤ 7) (h : r ∈ rowAt ms g k) : r.length ≤ 7 := Nat.le_trans (ground_sub (rowAt_ground k r h)).length_le hg
theorem nexts_ok {ms : List Mt} {r b : List Mark} (hr : ∀ y ∈ r, mOk y) (h : b ∈ nexts ms r) : ∀ y ∈ b, mOk y := fun y hy => hr y ((List.tail_sublist r).subset ((nexts_sub h).subset hy))
/-- a row sorted by length: the nexts stand ahead -/
theorem ahead {ms : List Mt} {ys : List (List Mark)} {j : Nat} {r b : List Mark} (hs : ys.Pairwise fun x y => x.length ≤ y.length) (hj : ys[j]? = some r) (hb : b ∈ ys) (hn : b ∈ nexts ms r) : b ∈ ys.take j := by
  obtain ⟨i, hi⟩ := List.mem_iff_getElem?.mp hb
  have hlt := nexts_len hn
  obtain ⟨hi1, hi2⟩ := List.getElem?_eq_some_iff.mp hi
  obtain ⟨hj1, hj2⟩ := List.getElem?_eq_some_iff.mp hj
  rcases Nat.lt_or_ge i j with h | h
  · refine List.mem_iff_getElem?.mpr ⟨i, ?_⟩
    rw [List.getElem?_take_of_lt h]; exact hi
  · exfalso
    rcases Nat.eq_or_lt_of_le h with h | h
    · subst h; rw [hi] at hj; cases hj; exact absurd hlt (Nat.lt_irrefl _)
    · have := List.pairwise_iff_getElem.mp hs j i hj1 hi1 h
      rw [hi2, hj2] at this
      exact absurd hlt (Nat.not_lt.mpr this)

theorem table_ok (G : Gd X (hK P)) (hd : d < 598) {g : List Mark} {ms : List Mt} {pg pm : Addr} {lv : List Mark → Int} (hlv : Lv ms lv) (hg : ∀ y ∈ g, mOk y) (hgl : g.length ≤ 7) (hm : ∀ m ∈ ms, mtOk m) (hml : ms.length ≤ 8) (hpg : listAt pg (g.map mkAV) σ) (hpm : listAt pm (ms.map mtAV) σ)
    (q : ∀ σ' r N (kvs : Tab), Ext σ σ' → σ r = none → End ms g N → σ' r = some (.tdict kvs) → (kvs.map (·.1)).Perm (rowAt ms g N) → (∀ k ∈ rowAt ms g N, kvs.at k = some (.int (lv k))) → Q (.ref r) σ') : CallOk X 36 d [.ref pg, .ref pm] Q Z σ := by
  refine' callK (m := _) ["group", "matches"] [("group", 0), ("matches", 1), ("begin", 2), ("met", 3), ("row", 4), ("at", 5), ("rest", 6), ("nexts", 7), ("behind", 8), ("least", 9), ("some", 10)] G rfl rfl (bind2 fun a b => rfl) rfl rfl rfl rfl rfl rfl rfl rfl (fun env E => ?snd) (by lia) rfl ?bd
  case snd =>
    repeat' first
      | ((with_reducible show SoundSs _ _ _ [] _); (with_reducible refine' sound_nil))
      | ((with_reducible show SoundSs _ _ _ (_ :: _) _); (with_reducible refine' sound_cons ?_ ?_))
      | ((with_reducible show SoundS _ _ _ (.If _ _ _ _) _); (with_reducible refine' sound_if ?_ ?_ ?_))
      | ((with_reducible show SoundS _ _ _ (.Return (some _) _) _); (with_reducible refine' sound_ret ?_))
      | ((with_reducible show SoundS _ _ _ (.Assign [.Name _ _] (.ListComp _ _ _ _) _) _); (with_reducible refine' w_setComp (by assumption) ?r1 ?r2 ?r3 ?r4 ?r5 ?_ (fun env' E' => ?_) (fun env' E' => ?_) (fun env' E' => ?_)); (case r1 => exact rfl); (case r2 => exact rfl); (case r3 => exact rfl); (case r4 => exact rfl); (case r5 => exact rfl))
      | ((with_reducible show SoundS _ _ _ (.Assign [.Subscript _ _ _] _ _) _); (with_reducible refine' sound_dSet ?_ ?_ ?_ ?r1); (case r1 => exact rfl))
      | ((with_reducible show SoundS _ _ _ (.Assign [.Name _ _] _ _) _); (with_reducible refine' w_set (by assumption) ?r1 ?r2 ?_ ?r3); (case r1 => exact rfl); (case r2 => exact rfl); (case r3 => exact rfl))
      | ((with_reducible show SoundS _ _ _ (.For _ _ _ _ _) _); (with_reducible refine' w_for ?r1 ?_ ?_ ?_); (case r1 => exact rfl))
      | ((with_reducible show SoundS _ _ _ (.Expr _ _) _); (with_reducible refine' w_ex (by assumption) ?_ ?r1); (case r1 => exact rfl))
      | ((with_reducible show SoundS _ _ _ (.While _ _ _ _) _); (with_reducible refine' sound_while ?_ ?_))
      | ((with_reducible show SoundC _ _ _ [] _); (with_reducible refine' w_cNone))
      | ((with_reducible show SoundT _ _ _ (.Name _ _) _); (with_reducible refine' w_tOne (by assumption) ?r1 ?r2); (case r1 => exact rfl); (case r2 => exact rfl))
      | ((with_reducible show SoundTC _ _ _ (.Tuple _ _ _) _); (with_reducible refine' w_tcMany (by assumption) ?_))
      | ((with_reducible show NamesL _ _ [] _); (with_reducible refine' w_nlNil))
      | ((with_reducible show NamesL _ _ (_ :: _) _); (with_reducible refine' w_nlCons (by assumption) ?r1 ?r2 ?_); (case r1 => exact rfl); (case r2 => exact rfl))
      | ((with_reducible show SoundI _ _ _ _ _ _); (with_reducible refine' w_it ?_))
      | ((with_reducible show SoundB _ _ _ (.Compare _ _ _ _) _); (with_reducible refine' soundB_cmp ?_ ?_))
      | ((with_reducible show SoundE _ _ _ (.Name _ _) _); (with_reducible refine' w_loc (by assumption) ?r1 ?r2 ?r3); (case r1 => exact rfl); (case r2 => exact rfl); (case r3 => exact rfl))
      | ((with_reducible show SoundE _ _ _ (.Constant (.int _) _ _) _); (with_reducible refine' sound_int))
      | ((with_reducible show SoundE _ _ _ (.Constant (.bool _) _ _) _); (with_reducible refine' sound_bool))
      | ((with_reducible show SoundE _ _ _ (.Dict [] [] _) _); (with_reducible refine' w_dNil (by assumption)))
      | ((with_reducible show SoundE _ _ _ (.Dict [some _] [_] _) _); (with_reducible refine' w_dOne (by assumption) ?_ ?_))
      | ((with_reducible show SoundE _ _ _ (.Tuple _ _ _) _); (with_reducible refine' sound_tup ?_))
      | ((with_reducible show SoundE _ _ _ (.List _ _) _); (with_reducible refine' sound_lst ?_))
      | ((with_reducible show SoundEs _ _ _ [] _); (with_reducible refine' w_es0))
      | ((with_reducible show SoundEs _ _ _ (_ :: _) _); (with_reducible refine' w_es1 ?r1 ?_ ?_); (case r1 => exact rfl))
      | ((with_reducible show SoundOps _ _ _ [_] _ _); (with_reducible refine' SoundOps.one ?_ ?r1); (case r1 => exact rfl))
      | ((with_reducible show SoundE _ _ _ (.BinOp _ _ _ _) _); (with_reducible refine' sound_bin ?_ ?_))
      | ((with_reducible show SoundE _ _ _ (.Subscript _ (.Slice _ _ _ _) _) _); (with_reducible refine' sound_slice ?_ ?_ ?_))
      | ((with_reducible show SoundE _ _ _ (.Subscript _ _ _) _); (with_reducible refine' sound_idx ?_ ?_ ?r1); (case r1 => exact rfl))
      | ((with_reducible show SoundO _ _ _ none _); (with_reducible refine' w_oNone))
      | ((with_reducible show SoundO _ _ _ (some _) _); (with_reducible refine' w_oSome ?_))
      | ((with_reducible show SoundE _ _ _ (.ListComp _ _ _ _) _); (with_reducible refine' w_comp (by assumption) ?r1 ?r2 ?r3 ?_ (fun env' E' => ?_) (fun env' E' => ?_) (fun env' E' => ?_)); (case r1 => exact rfl); (case r2 => exact rfl); (case r3 => exact rfl))
      | ((with_reducible show SoundE _ _ _ (.Call (.Attribute _ "append" _) _ [] _) _); (with_reducible refine' w_append ?r1 ?r2 ?r3 ?_ ?_); (case r1 => exact (fun _ => rfl)); (case r2 => exact rfl); (case r3 => exact rfl))
      | ((with_reducible show SoundE _ _ _ (.Call (.Name "len" _) _ [] _) _); (with_reducible refine' w_len (by assumption) (by assumption) bi_len ?r1 ?_); (case r1 => exact rfl))
      | ((with_reducible show SoundE _ _ _ (.Call (.Name "sorted" _) [_] [⟨some "key", .Name "len" _, _⟩] _) _); (with_reducible refine' w_sortLen (by assumption) (by assumption) bi_sorted bi_len ?r1 ?r2 ?r3 ?_); (case r1 => exact rfl); (case r2 => exact rfl); (case r3 => exact rfl))
      | ((with_reducible show SoundE _ _ _ (.Call (.Name "min" _) _ [] _) _); (with_reducible refine' w_prim (by assumption) (by assumption) bi_min ?r1 sound_min ?r2 ?_); (case r1 => exact (.inl ⟨_, rfl⟩)); (case r2 => exact rfl))
      | ((with_reducible show SoundE _ _ _ (.Call (.Name "tuple" _) _ [] _) _); (with_reducible refine' w_prim (by assumption) (by assumption) bi_tuple ?r1 sound_tuple ?r2 ?_); (case r1 => exact (.inr ⟨_, rfl⟩)); (case r2 => exact rfl))
      | ((with_reducible show SoundE _ _ _ (.Call (.Name _ _) _ [] _) _); (with_reducible refine' w_call (by assumption) (by assumption) ?r1 ?r2 ?r3 ?_); (case r1 => exact rfl); (case r2 => exact ⟨_, _, rfl, rfl⟩); (case r3 => exact rfl))
  repeat (first | with_reducible (first | refine q_consO fun S1 kn1 => ?_ | refine q_set ?_ | refine q_prim ?_ | refine q_ev1 ?_ | refine q_ev0 ?_) | ((with_reducible refine' q_loc ?e ?_); case e => rfl) | with_reducible (first | refine q_next (by assumption) ?_ | refine q_tupL (by assumption) ?_))
  intro rm hrm
  repeat (first | with_reducible (first | refine q_k ?_) | ((with_reducible refine' q_loc ?e ?_); case e => rfl))
  refine q_dPut (kvs := []) (AHeap.set_self ..) hg (by simp) ?_
  have hem : Ext σ ((σ.set rm (.tdict [])).set rm (.tdict (Tab.put [] g (.bool true)))) := (Ext.set hrm).put hrm
  have hmm : ((σ.set rm (.tdict [])).set rm (.tdict (Tab.put [] g (.bool true)))) rm = some (.tdict (metT [g])) := by rw [AHeap.set_self]; rfl
  generalize ((σ.set rm (.tdict [])).set rm (.tdict (Tab.put [] g (.bool true)))) = σ1 at hem hmm
  repeat (first | with_reducible (first | refine q_consO fun S1 kn1 => ?_ | refine q_set ?_ | refine q_ev1 ?_ | refine q_ev0 ?_) | ((with_reducible refine' q_loc ?e ?_); case e => rfl) | with_reducible (first | refine q_next (by assumption) ?_ | refine q_lst ?_) | ((with_reducible refine' q_tl ?e ?_); case e => rfl))
  refine alf fun σ2 rr e2 hrr l2 => ?_
  have hmm := e2 _ _ hmm
  have e02 := hem.trans e2
  have hrr0 : σ rr = none := hem.none hrr
  have hnr : rr ≠ rm := by rintro rfl; rw [l2] at hmm; cases hmm
  clear hem e2 hrr
  repeat (first | with_reducible (first | refine q_consO fun S1 kn1 => ?_ | refine q_set ?_ | refine q_k ?_) | with_reducible (first | refine q_next (by assumption) ?_))
  refine ⟨fun n l' σ' => ∃ k a b c, n = 43 - k ∧ Turns ms g k ∧ Ext σ σ' ∧ σ' rr = some (.list ((rowAt ms g k).map rowAV)) ∧ σ' rm = some (.tdict (metT (rowAt ms g k))) ∧ l' = [some (.ref pg), some (.ref pm), some (rowAV g), some (.ref rm), some (.ref rr), some (.int (k : Nat)), a, b, c, none, none],
    43, ⟨0, _, _, _, rfl, .zero, e02, l2, hmm, rfl⟩, ?_⟩
  clear e02 hmm l2
  rintro n l' σ' ⟨k, a, b, c, rfl, ht, e, lr, lm, rfl⟩
  have klr : listAt rr ((rowAt ms g k).map rowAV) σ' := .inl lr
  have hlen := rowAt_len (g := g) hml hgl k
  repeat (first | with_reducible (first | refine q_isB ?_ | refine q_cmp ?_ | refine q_chain1 ?_ | refine q_prim ?_ | refine q_ev1 ?_ | refine q_ev0 ?_) | ((with_reducible refine' q_loc ?e ?_); case e => rfl) | with_reducible (first | refine q_lt ?_ | refine q_lenLM (by assumption) ?_))
  split
  · rename_i hc
    have hc : k < (rowAt ms g k).length := by simpa using hc
    obtain ⟨r, hr⟩ : ∃ r, (rowAt ms g k)[k]? = some r := ⟨_, List.getElem?_eq_getElem hc⟩
    have hrm' : r ∈ rowAt ms g k := List.mem_of_getElem? hr
    have hro := row_ok hg hrm'
    have hrl := row_len hgl hrm'
    have ea : atIdx ((rowAt ms g k).map rowAV) ((k : Nat) : Int) = some (rowAV r) := by rw [at_nat, List.getElem?_map, hr]; rfl
    repeat (first | with_reducible (first | refine q_consO fun S1 kn1 => ?_ | refine q_set ?_ | refine q_k ?_ | refine q_idx ?_ | refine q_ev0 ?_) | ((with_reducible refine' q_loc ?e ?_); case e => rfl) | with_reducible (first | refine q_next (by assumption) ?_ | refine q_bin ?_ | refine q_add ?_ | refine q_lst ?_ | refine q_listIdx (by assumption) (by assumption) ?_) | ((with_reducible refine' q_tl ?e ?_); case e => rfl))
    refine alf fun σ3 r3 e3 hr3 l3 => ?_
    have e03 := e.trans e3
    repeat (first | with_reducible (first | refine q_consO fun S1 kn1 => ?_) | with_reducible (first | refine q_next (by assumption) ?_))
    refine q_ifJ (fun l' σ'' => Ext σ' σ'' ∧ ∃ r7, r7 ≠ rr ∧ listAt r7 ((nexts ms r).map rowAV) σ'' ∧ l' = [some (.ref pg), some (.ref pm), some (rowAV g), some (.ref rm), some (.ref rr), some (.int (k + 1 : Nat)), some (rowAV r), some (.ref r7), c, none, none]) (fun S' kr kn => ?_) ?_
    ·
      repeat (first | with_reducible (first | refine q_isB ?_ | refine q_cmp ?_ | refine q_chain1 ?_ | refine q_ev0 ?_) | ((with_reducible refine' q_loc ?e ?_); case e => rfl) | with_reducible (first | refine q_tup ?_ | refine q_neRow (by assumption) ?_) | ((with_reducible refine' q_tl ?e ?_); case e => rfl))
      cases r with
      | nil =>
        repeat (first | with_reducible (first | refine q_nil ?_) | ((with_reducible refine' q_ifFc ?e ?_); case e => rfl))
        refine kn _ _ ⟨e3, r3, ?_, .inl l3, rfl⟩
        rintro rfl; rw [lr] at hr3; cases hr3
      | cons x t =>
        repeat (first | with_reducible (first | refine q_consO fun S1 kn1 => ?_ | refine q_set ?_ | refine q_k ?_ | refine q_ev1 ?_) | ((with_reducible refine' q_loc ?e ?_); case e => rfl) | with_reducible (first | refine q_bin ?_ | refine q_exI ?_ | refine q_lst ?_ | refine q_slice ?_ | refine q_optN ?_ | refine q_optS ?_) | ((with_reducible refine' q_ifTc ?e ?_); case e => rfl))
        refine q_slT (k := 1) (by omega) (by simp) ?_
        repeat (first | with_reducible (first | refine q_ev0 ?_) | ((with_reducible refine' q_tl ?e ?_); case e => rfl))
        refine alf fun σ4 r4 e4 hr4 l4 => ?_
        repeat (first | with_reducible (first | refine q_ev1 ?_ | refine q_ev0 ?_ | refine q_callF ?_) | ((with_reducible refine' q_loc ?e ?_); case e => rfl) | with_reducible (first | refine q_lc ?_ | refine q_itP ?_))
        refine taken_out_ok G (by lia) hro (by lia) hm (by lia) ((e03.trans e4).list hpm) fun σ5 r5 e5 hr5 l5 => ?_
        repeat (first | with_reducible (first | refine q_itemsL (by assumption) ?_))
        refine compL_as (tk ms (x :: t)) tkAV (fun z => rowAV z.2) (fun z => [some (.ref pg), some (.ref pm), some (rowAV g), some (.ref rm), some (.ref rr), some (.int (k + 1 : Nat)), some (rowAV (x :: t)), some (.ref r3), c, none, none, none, some (mtAV z.1), some (rowAV z.2)]) (fun z _ => rfl) (fun z _ y _ => rfl) ?_ l5 (by have := tk_len (ms := ms) (r := x :: t); lia) ?_
        · intro z hz R hR
          repeat (first | ((with_reducible refine' q_loc ?e ?_); case e => rfl))
          exact hR
        refine alf fun σ6 r6 e6 hr6 l6 => ?_
        refine addL_of (.inl ((e5.trans e6) _ _ l4)) (.inl l6) (by simp; have := tk_len (ms := ms) (r := x :: t); lia) fun σ7 r7 e7 hr7 l7 => ?_
        repeat (first | with_reducible (first | refine q_nil ?_ | refine q_next (by assumption) ?_))
        have e37 := ((e4.trans e5).trans e6).trans e7
        refine kn _ _ ⟨e3.trans e37, r7, ?_, ?_, rfl⟩
        · rintro rfl
          have := ((((e3.trans e4).trans e5).trans e6)) _ _ lr
          rw [this] at hr7; cases hr7
        · refine .inl ?_
          rw [l7]
          have h8 : (tk ms (x :: t)).map (fun z => rowAV z.2) = (outs ms (x :: t)).map rowAV := by rw [← tk_outs, List.map_map]; rfl
          rw [h8]; rfl
    clear hr3 l3 e03 e3
    rintro l' σ3 ⟨e3, r7, hne, l7, rfl⟩
    have lr3 := e3 _ _ lr
    have lm3 := e3 _ _ lm
    have e03 := e.trans e3
    repeat (first | with_reducible (first | refine q_consO fun S1 kn1 => ?_) | ((with_reducible refine' q_loc ?e ?_); case e => rfl) | with_reducible (first | refine q_next (by assumption) ?_ | refine q_fr ?_ | refine q_itP ?_ | refine q_itemsL (by assumption) ?_))
    refine forL_at _ (fun j l' σ'' => Ext σ σ'' ∧ listAt r7 ((nexts ms r).map rowAV) σ'' ∧ σ'' rr = some (.list ((grow (rowAt ms g k) ((nexts ms r).take j)).map rowAV)) ∧ σ'' rm = some (.tdict (metT (grow (rowAt ms g k) ((nexts ms r).take j)))) ∧ ∃ c, l' = [some (.ref pg), some (.ref pm), some (rowAV g), some (.ref rm), some (.ref rr), some (.int (k + 1 : Nat)), some (rowAV r), some (.ref r7), c, none, none]) ?_ ?_ ⟨e03, l7, lr3, lm3, _, rfl⟩
    · rintro j y l' σ4 K hy ⟨e4, l74, lr4, lm4, c', rfl⟩ hK
      rw [List.getElem?_map] at hy
      obtain ⟨bh, hbh, rfl⟩ := Option.map_eq_some_iff.mp hy
      have hbn : bh ∈ nexts ms r := List.mem_of_getElem? hbh
      have hbo := nexts_ok hro hbn
      have hgt := grow_take (row := rowAt ms g k) hbh
      have hgl' : (grow (rowAt ms g k) ((nexts ms r).take j)).length ≤ 42 := by
        refine Nat.le_trans (nodup_le (grow_nodup _ _ (rowAt_nodup k)) fun z hz => ?_) (ground_len (g := g) hml hgl)
        rcases (grow_mem _ _).mp hz with h | h
        · exact rowAt_ground k z h
        · exact ground_closed (rowAt_ground k r hrm') (List.mem_of_mem_take h)
      generalize grow (rowAt ms g k) ((nexts ms r).take j) = w at lr4 lm4 hgt hgl'
      refine ⟨_, rfl, ?_⟩
      repeat (first | with_reducible (first | refine q_consO fun S1 kn1 => ?_ | refine q_if ?_ | refine q_isB ?_ | refine q_cmp ?_ | refine q_chain1 ?_) | ((with_reducible refine' q_loc ?e ?_); case e => rfl) | with_reducible (first | refine q_notInD (by assumption) (by assumption) ?_))
      rw [Tab.isSome_at, met_keys]
      by_cases hw : bh ∈ w
      · rw [if_pos hw] at hgt
        rw [decide_eq_true hw]
        repeat (first | with_reducible (first | refine q_nil ?_ | refine q_next (by assumption) ?_) | ((with_reducible refine' q_ifFc ?e ?_); case e => rfl))
        rw [hgt] at hK
        exact ⟨l74, hK _ _ ⟨e4, l74, lr4, lm4, _, rfl⟩⟩
      · rw [if_neg hw] at hgt
        rw [decide_eq_false hw]
        repeat (first | with_reducible (first | refine q_consO fun S1 kn1 => ?_ | refine q_k ?_) | ((with_reducible refine' q_loc ?e ?_); case e => rfl) | with_reducible (first | refine q_dSet ?_) | ((with_reducible refine' q_ifTc ?e ?_); case e => rfl))
        refine q_dPut lm4 hbo (by simp; lia) ?_
        rw [met_put hw]
        repeat (first | with_reducible (first | refine q_consO fun S1 kn1 => ?_) | ((with_reducible refine' q_loc ?e ?_); case e => rfl) | with_reducible (first | refine q_next (by assumption) ?_ | refine q_ex ?_ | refine q_meth ?_))
        refine q_exM (p := rr) (xs := w.map rowAV) (by rw [AHeap.set_ne _ _ hnr]; exact lr4) ?_
        repeat (first | with_reducible (first | refine q_ev1 ?_ | refine q_ev0 ?_) | ((with_reducible refine' q_loc ?e ?_); case e => rfl))
        refine q_app (p := rr) (xs := w.map rowAV) (by rw [AHeap.set_ne _ _ hnr]; exact lr4) (by simp; lia) ?_
        repeat (first | with_reducible (first | refine q_nil ?_ | refine q_next (by assumption) ?_ | refine q_nr ?_))
        have l7' : listAt r7 ((nexts ms r).map rowAV) ((σ4.set rm (.tdict (metT (w ++ [bh])))).set rr (.list (w.map rowAV ++ [rowAV bh]))) := listAt_setN (listAt_setD l74 lm4) hne
        refine ⟨l7', hK _ _ ⟨(e4.put hrm).put hrr0, l7', ?_, ?_, _, rfl⟩⟩
        · rw [AHeap.set_self, hgt, List.map_append]; rfl
        · rw [AHeap.set_ne _ _ hnr.symm, AHeap.set_self, hgt]
    · rintro l' σ4 ⟨e4, l74, lr4, lm4, c', rfl⟩
      rw [List.length_map, List.take_length, ← rowAt_succ hr] at lr4 lm4
      repeat (first | with_reducible (first | refine q_nil ?_ | refine q_next (by assumption) ?_))
      exact ⟨43 - (k + 1), by lia, k + 1, _, _, _, rfl, ht.succ hc, e4, lr4, lm4, rfl⟩
  · rename_i hc
    have hc : (rowAt ms g k).length ≤ k := by simpa using hc
    have hE : End ms g k := ⟨ht, hc⟩
    repeat (first | with_reducible (first | refine q_consO fun S1 kn1 => ?_ | refine q_set ?_) | with_reducible (first | refine q_next (by assumption) ?_))
    refine dNil_of fun σ3 rl e3 hrl l3 => ?_
    have hrl0 : σ rl = none := e.none hrl
    have e03 := e.trans e3
    have lr3 := e3 _ _ lr
    repeat (first | with_reducible (first | refine q_consO fun S1 kn1 => ?_ | refine q_prim ?_ | refine q_ev1 ?_ | refine q_ev0 ?_) | ((with_reducible refine' q_loc ?e ?_); case e => rfl) | with_reducible (first | refine q_next (by assumption) ?_ | refine q_fr ?_ | refine q_itP ?_))
    refine sortLen_of (xs := rowAt ms g k) (.inl lr3) (by lia) fun ys hp hs σ4 r4 e4 hr4 l4 => ?_
    have k4 : listAt r4 (ys.map rowAV) σ4 := .inl l4
    have e04 := e03.trans e4
    have l34 := e4 _ _ l3
    clear e3 l3 e03 lr3 hr4 l4 e4
    have hyn : ys.Nodup := hp.nodup_iff.mpr (rowAt_nodup k)
    have hyl : ys.length ≤ 42 := by rw [hp.length_eq]; exact hlen
    repeat (first | with_reducible (first | refine q_itemsL (by assumption) ?_))
    refine forL_at _ (fun j l' σ'' => Ext σ σ'' ∧ listAt r4 (ys.map rowAV) σ'' ∧ ∃ kvs : Tab, σ'' rl = some (.tdict kvs) ∧ kvs.map (·.1) = ys.take j ∧ (∀ k ∈ ys.take j, kvs.at k = some (.int (lv k))) ∧ ∃ a b c c', l' = [some (.ref pg), some (.ref pm), some (rowAV g), some (.ref rm), some (.ref rr), some (.int (k : Nat)), a, b, c, some (.ref rl), c']) ?_ ?_ ⟨e04, k4, [], l34, by simp, by simp, _, _, _, _, rfl⟩
    · rintro j y l' σ5 K hy ⟨e5, l45, kvs, ll, hk, hv, a', b', c', c'', rfl⟩ hK
      rw [List.getElem?_map] at hy
      obtain ⟨r, hr, rfl⟩ := Option.map_eq_some_iff.mp hy
      have hry : r ∈ ys := List.mem_of_getElem? hr
      have hrr' : r ∈ rowAt ms g k := hp.mem_iff.mp hry
      have hro := row_ok hg hrr'
      have hrl' := row_len hgl hrr'
      have hjl : j < ys.length := (List.getElem?_eq_some_iff.mp hr).1
      have hkl : kvs.length = j := by have := congrArg List.length hk; rw [List.length_map, List.length_take] at this; lia
      have hnew : r ∉ kvs.map (·.1) := by
        rw [hk]
        intro hmem
        obtain ⟨i, hi⟩ := List.mem_iff_getElem?.mp hmem
        have hil : i < j := by
          have := (List.getElem?_eq_some_iff.mp hi).1
          rw [List.length_take] at this; lia
        rw [List.getElem?_take_of_lt hil] at hi
        obtain ⟨h1, h2⟩ := List.getElem?_eq_some_iff.mp hi
        obtain ⟨h3, h4⟩ := List.getElem?_eq_some_iff.mp hr
        exact List.pairwise_iff_getElem.mp hyn i j h1 h3 hil (h2.trans h4.symm)
      have htk : ys.take (j + 1) = ys.take j ++ [r] := by rw [List.take_add_one, hr]; rfl
      have hav : ∀ b ∈ nexts ms r, (kvs.put r (.int 0)).at b = some (.int (lv b)) := fun b hb => by
        have hbm := ahead hs hr (hp.mem_iff.mpr (hE.closed hrr' hb)) hb
        rw [Tab.at_put, if_neg (by rintro rfl; rw [hk] at hnew; exact hnew hbm)]
        exact hv b hbm
      have fin : ∀ σ'' (kvs' : Tab) a b c c', Ext σ σ'' → listAt r4 (ys.map rowAV) σ'' → σ'' rl = some (.tdict kvs') → kvs'.map (·.1) = (kvs.put r (.int 0)).map (·.1) → kvs'.at r = some (.int (lv r)) → (∀ b, b ≠ r → kvs'.at b = kvs.at b) → listAt r4 (ys.map rowAV) σ'' ∧ K [some (.ref pg), some (.ref pm), some (rowAV g), some (.ref rm), some (.ref rr), some (.int (k : Nat)), a, b, c, some (.ref rl), c'] σ'' := fun σ'' kvs' a b c c' g1 g2 g3 g4 g5 g6 => by
        refine ⟨g2, hK _ _ ⟨g1, g2, kvs', g3, ?_, fun z hz => ?_, _, _, _, _, rfl⟩⟩
        · rw [g4, Tab.keys_new hnew, hk, htk]
        · rw [htk] at hz
          rcases List.mem_append.mp hz with h | h
          · rw [g6 z (by rintro rfl; rw [hk] at hnew; exact hnew h)]; exact hv z h
          · simp at h; subst h; exact g5
      have hl1 : (kvs.put r (.int 0)).length ≤ 100 := by have := Tab.put_length kvs r (.int 0); lia
      have hk1 : r ∈ (kvs.put r (.int 0)).map (·.1) := by rw [Tab.keys_new hnew]; simp
      have hat : ∀ b, b ≠ r → (kvs.put r (.int 0)).at b = kvs.at b := fun b hb => by rw [Tab.at_put, if_neg hb]
      have hat0 : (kvs.put r (.int 0)).at r = some (.int 0) := by rw [Tab.at_put, if_pos rfl]
      refine ⟨_, rfl, ?_⟩
      repeat (first | with_reducible (first | refine q_consO fun S1 kn1 => ?_ | refine q_k ?_) | ((with_reducible refine' q_loc ?e ?_); case e => rfl) | with_reducible (first | refine q_dSet ?_))
      refine q_dPut ll hro (by lia) ?_
      have e6 : Ext σ (σ5.set rl (.tdict (kvs.put r (.int 0)))) := e5.put hrl0
      have l46 : listAt r4 (ys.map rowAV) (σ5.set rl (.tdict (kvs.put r (.int 0)))) := listAt_setD l45 ll
      have l6 : (σ5.set rl (.tdict (kvs.put r (.int 0)))) rl = some (.tdict (kvs.put r (.int 0))) := AHeap.set_self ..
      generalize σ5.set rl (.tdict (kvs.put r (.int 0))) = σ6 at e6 l46 l6
      generalize kvs.put r (.int 0) = kv1 at hav fin hl1 hk1 hat hat0 l6
      repeat (first | with_reducible (first | refine q_consO fun S1 kn1 => ?_ | refine q_if ?_ | refine q_isB ?_ | refine q_cmp ?_ | refine q_chain1 ?_ | refine q_ev0 ?_) | ((with_reducible refine' q_loc ?e ?_); case e => rfl) | with_reducible (first | refine q_next (by assumption) ?_ | refine q_tup ?_ | refine q_neRow (by assumption) ?_) | ((with_reducible refine' q_tl ?e ?_); case e => rfl))
      cases r with
      | nil =>
        repeat (first | with_reducible (first | refine q_nil ?_ | refine q_next (by assumption) ?_) | ((with_reducible refine' q_ifFc ?e ?_); case e => rfl))
        refine fin _ _ _ _ _ _ e6 l46 l6 rfl ?_ hat
        rw [hat0, hlv.nil]
      | cons x t =>
        repeat (first | with_reducible (first | refine q_consO fun S1 kn1 => ?_ | refine q_set ?_ | refine q_ev1 ?_ | refine q_ev0 ?_ | refine q_callF ?_) | ((with_reducible refine' q_loc ?e ?_); case e => rfl) | with_reducible (first | refine q_lc ?_ | refine q_itP ?_) | ((with_reducible refine' q_ifTc ?e ?_); case e => rfl))
        refine taken_out_ok G (by lia) hro (by lia) hm (by lia) (e6.list hpm) fun σ7 r7 e7 hr7 l7 => ?_
        have l67 := e7 _ _ l6
        repeat (first | with_reducible (first | refine q_itemsL (by assumption) ?_))
        refine compL_as (tk ms (x :: t)) tkAV (fun z => .int (lv z.2)) (fun z => [some (.ref pg), some (.ref pm), some (rowAV g), some (.ref rm), some (.ref rr), some (.int (k : Nat)), some (rowAV (x :: t)), b', c', some (.ref rl), c'', none, some (mtAV z.1), some (rowAV z.2)]) (fun z _ => rfl) (fun z _ y _ => rfl) ?_ l7 (by have := tk_len (ms := ms) (r := x :: t); lia) ?_
        · intro z hz R hR
          have hzn : z.2 ∈ nexts ms (x :: t) := List.mem_cons_of_mem _ (by rw [← tk_outs]; exact List.mem_map_of_mem hz)
          have hzo := nexts_ok hro hzn
          have hza := hav _ hzn
          repeat (first | with_reducible (first | refine q_idx ?_) | ((with_reducible refine' q_loc ?e ?_); case e => rfl) | with_reducible (first | refine q_idxD (by assumption) (by assumption) (by assumption) ?_))
          exact hR
        refine alf fun σ8 r8 e8 hr8 l8 => ?_
        have l68 := e8 _ _ l67
        have hta := hav t List.mem_cons_self
        have hto : ∀ y ∈ t, mOk y := fun y hy => hro y (List.mem_cons_of_mem _ hy)
        repeat (first | with_reducible (first | refine q_consO fun S1 kn1 => ?_ | refine q_k ?_ | refine q_idx ?_ | refine q_prim ?_ | refine q_ev1 ?_) | ((with_reducible refine' q_loc ?e ?_); case e => rfl) | with_reducible (first | refine q_next (by assumption) ?_ | refine q_bin ?_ | refine q_exI ?_ | refine q_lst ?_ | refine q_slice ?_ | refine q_optN ?_ | refine q_optS ?_ | refine q_dSet ?_))
        refine q_slT (k := 1) (by omega) (by simp) ?_
        refine q_idxD (ks := t) l68 hto hta ?_
        repeat (first | with_reducible (first | refine q_ev0 ?_) | with_reducible (first | refine q_add ?_) | ((with_reducible refine' q_tl ?e ?_); case e => rfl))
        refine alf fun σ9 r9 e9 hr9 l9 => ?_
        repeat (first | ((with_reducible refine' q_loc ?e ?_); case e => rfl))
        refine addL_of (.inl l9) (.inl (e9 _ _ l8)) (by simp; have := tk_len (ms := ms) (r := x :: t); lia) fun σa ra ea hra la => ?_
        have la : listAt ra (((1 + lv t) :: (outs ms (x :: t)).map lv).map .int) σa := by
          refine .inl ?_
          rw [la, ← tk_outs, List.map_map, List.map_cons, List.map_map]; rfl
        refine q_minL la (by simp) fun M hM hM' => ?_
        have hMl : M = lv (x :: t) := IsMin.uniq ⟨hM, hM'⟩ (hlv.cons x t)
        subst hMl
        have eca := ((e7.trans e8).trans e9).trans ea
        repeat (first | ((with_reducible refine' q_loc ?e ?_); case e => rfl))
        refine q_dPut (eca _ _ l6) hro (by lia) ?_
        repeat (first | with_reducible (first | refine q_nil ?_ | refine q_next (by assumption) ?_))
        refine fin _ _ _ _ _ _ ((e6.trans eca).put hrl0) (listAt_setD (eca.list l46) (eca _ _ l6)) (AHeap.set_self ..) (Tab.keys_old hk1) (by rw [Tab.at_put, if_pos rfl]) fun b hb => by rw [Tab.at_put, if_neg hb]; exact hat b hb
    · rintro l' σ5 ⟨e5, l45, kvs, ll, hk, hv, a', b', c', c'', rfl⟩
      rw [List.length_map, List.take_length] at hk hv
      repeat (first | with_reducible (first | refine q_consO fun S1 kn1 => ?_ | refine q_ret ?_) | ((with_reducible refine' q_loc ?e ?_); case e => rfl) | with_reducible (first | refine q_next (by assumption) ?_ | refine q_retK (by assumption) ?_))
      exact q _ _ k kvs e5 hrl0 hE ll (by rw [hk]; exact hp) fun z hz => hv z (hp.mem_iff.mpr hz)
end
end Mine

set_option maxRecDepth 100000
set_option linter.unusedVariables false
set_option autoImplicit false
set_option linter.unusedSimpArgs false
set_option maxHeartbeats 8000000
set_option pp.deepTerms false
namespace Mine
open PySem PyProof.Rows PySem.SeqAt PySem.W
section
variable {X : Cx} {P : Params} {Q : Post} {Z : XP} {σ : AHeap} {d : Nat}
/-- a mark of the law's group -/
def mSm (m : Mark) : Prop := (m.1 = "bank" ∨ m.1 = "book") ∧ 0 ≤ m.2 ∧ m.2 < 4
theorem mSm.ok {m : Mark} (h : mSm m) : mOk m := by
  unfold mOk
  rcases h.1 with e | e <;> rw [e]
  · exact d_bank
  · exact d_book
theorem cut_take (xs : List AV) (k : Nat) (h : k ≤ xs.length) : cut xs none (some (k : Int)) = xs.take k := by
  have : clipAt xs.length (k : Int) = k := by unfold clipAt; rw [if_neg (by omega)]; omega
  unfold cut
  simp only [Option.elim_none, Option.elim_some, this, List.drop_zero, Nat.sub_zero]
theorem cut_drop (xs : List AV) (k : Nat) (h : k ≤ xs.length) : cut xs (some (k : Int)) none = xs.drop k := by
  have : clipAt xs.length (k : Int) = k := by unfold clipAt; rw [if_neg (by omega)]; omega
  unfold cut
  simp only [Option.elim_none, Option.elim_some, this]
  rw [List.take_of_length_le (by rw [List.length_drop]; omega)]

theorem listAt_setN2 {p r : Addr} {xs : List AV} {o : AO} (h : listAt p xs σ) (hne : p ≠ r) : listAt p xs (σ.set r o) := by
  unfold listAt at *
  rw [AHeap.set_ne _ _ hne]; exact h
theorem nodup_map {α β : Type} {f : α → β} (hf : ∀ a b, f a = f b → a = b) : ∀ {l : List α}, l.Nodup → (l.map f).Nodup
  | [], _ => .nil
  | a :: l, h => by
    obtain ⟨h1, h2⟩ := List.nodup_cons.mp h
    exact List.nodup_cons.mpr ⟨fun hm => by obtain ⟨b, hb, e⟩ := List.mem_map.mp hm; exact h1 (hf _ _ e ▸ hb), nodup_map hf h2⟩
theorem group_ok (G : Gd X (hK P)) (hd : d < 599) {p : Addr} {ns : List Int} (hp : listAt p (ns.map .int) σ) (q : ∀ σ' r (ms : List Mark), Ext σ σ' → σ r = none → (∀ m ∈ ms, mSm m) → ms.length ≤ 7 → ms.Nodup → listAt r (ms.map mkAV) σ' → Q (.ref r) σ') : CallOk X 53 d [.ref p] Q Z σ := by
  refine' callK (m := _) ["_law_script"] [("_law_script", 0), ("_law_left", 1), ("_law_cell", 2), ("_law_found", 3), ("_law_at", 4)] G rfl rfl (bind1 fun a => rfl) rfl rfl rfl rfl rfl rfl rfl rfl (fun env E => ?snd) (by lia) rfl ?bd
  case snd =>
    repeat' first
      | ((with_reducible show SoundSs _ _ _ [] _); (with_reducible refine' sound_nil))
      | ((with_reducible show SoundSs _ _ _ (_ :: _) _); (with_reducible refine' sound_cons ?_ ?_))
      | ((with_reducible show SoundS _ _ _ (.Return (some _) _) _); (with_reducible refine' sound_ret ?_))
      | ((with_reducible show SoundS _ _ _ (.Assign [.Name _ _] (.ListComp _ _ _ _) _) _); (with_reducible refine' w_setComp (by assumption) ?r1 ?r2 ?r3 ?r4 ?r5 ?_ (fun env' E' => ?_) (fun env' E' => ?_) (fun env' E' => ?_)); (case r1 => exact rfl); (case r2 => exact rfl); (case r3 => exact rfl); (case r4 => exact rfl); (case r5 => exact rfl))
      | ((with_reducible show SoundS _ _ _ (.Assign [.Name _ _] _ _) _); (with_reducible refine' w_set (by assumption) ?r1 ?r2 ?_ ?r3); (case r1 => exact rfl); (case r2 => exact rfl); (case r3 => exact rfl))
      | ((with_reducible show SoundS _ _ _ (.Expr _ _) _); (with_reducible refine' w_ex (by assumption) ?_ ?r1); (case r1 => exact rfl))
      | ((with_reducible show SoundS _ _ _ (.While _ _ _ _) _); (with_reducible refine' sound_while ?_ ?_))
      | ((with_reducible show SoundC _ _ _ [] _); (with_reducible refine' w_cNone))
      | ((with_reducible show SoundTC _ _ _ (.Name _ _) _); (with_reducible refine' w_tcOne (by assumption) ?r1 ?r2); (case r1 => exact rfl); (case r2 => exact rfl))
      | ((with_reducible show SoundI _ _ _ _ _ _); (with_reducible refine' w_it ?_))
      | ((with_reducible show SoundB _ _ _ (.Compare _ _ _ _) _); (with_reducible refine' soundB_cmp ?_ ?_))
      | ((with_reducible show SoundE _ _ _ (.Name _ _) _); (with_reducible refine' w_loc (by assumption) ?r1 ?r2 ?r3); (case r1 => exact rfl); (case r2 => exact rfl); (case r3 => exact rfl))
      | ((with_reducible show SoundE _ _ _ (.Constant (.int _) _ _) _); (with_reducible refine' sound_int))
      | ((with_reducible show SoundE _ _ _ (.Constant (.str _) _ _) _); (with_reducible refine' sound_str))
      | ((with_reducible show SoundE _ _ _ (.Tuple _ _ _) _); (with_reducible refine' sound_tup ?_))
      | ((with_reducible show SoundE _ _ _ (.List _ _) _); (with_reducible refine' sound_lst ?_))
      | ((with_reducible show SoundEs _ _ _ [] _); (with_reducible refine' w_es0))
      | ((with_reducible show SoundEs _ _ _ (_ :: _) _); (with_reducible refine' w_es1 ?r1 ?_ ?_); (case r1 => exact rfl))
      | ((with_reducible show SoundOps _ _ _ [_] _ _); (with_reducible refine' SoundOps.one ?_ ?r1); (case r1 => exact rfl))
      | ((with_reducible show SoundE _ _ _ (.BinOp _ _ _ _) _); (with_reducible refine' sound_bin ?_ ?_))
      | ((with_reducible show SoundE _ _ _ (.Subscript _ (.Slice _ _ _ _) _) _); (with_reducible refine' sound_slice ?_ ?_ ?_))
      | ((with_reducible show SoundE _ _ _ (.Subscript _ _ _) _); (with_reducible refine' sound_idx ?_ ?_ ?r1); (case r1 => exact rfl))
      | ((with_reducible show SoundO _ _ _ none _); (with_reducible refine' w_oNone))
      | ((with_reducible show SoundO _ _ _ (some _) _); (with_reducible refine' w_oSome ?_))
      | ((with_reducible show SoundE _ _ _ (.ListComp _ _ _ _) _); (with_reducible refine' w_comp (by assumption) ?r1 ?r2 ?r3 ?_ (fun env' E' => ?_) (fun env' E' => ?_) (fun env' E' => ?_)); (case r1 => exact rfl); (case r2 => exact rfl); (case r3 => exact rfl))
      | ((with_reducible show SoundE _ _ _ (.Call (.Attribute _ "append" _) _ [] _) _); (with_reducible refine' w_append ?r1 ?r2 ?r3 ?_ ?_); (case r1 => exact (fun _ => rfl)); (case r2 => exact rfl); (case r3 => exact rfl))
      | ((with_reducible show SoundE _ _ _ (.Call (.Name "len" _) _ [] _) _); (with_reducible refine' w_len (by assumption) (by assumption) bi_len ?r1 ?_); (case r1 => exact rfl))
      | ((with_reducible show SoundE _ _ _ (.Call (.Name "range" _) _ [] _) _); (with_reducible refine' w_range (by assumption) (by assumption) bi_range ?r1 ?_); (case r1 => exact rfl))
      | ((with_reducible show SoundE _ _ _ (.Call (.Name _ _) _ [] _) _); (with_reducible refine' w_call (by assumption) (by assumption) ?r1 ?r2 ?r3 ?_); (case r1 => exact rfl); (case r2 => exact ⟨_, _, rfl, rfl⟩); (case r3 => exact rfl))
  have cell : ∀ {k : Int} {σ' : AHeap} {Q' : Post} {Z' : XP}, 0 ≤ k → Ext σ σ' → Q' (.int (ns.getD k.toNat 0)) σ' → CallOk X 48 (d + 1) [.ref p, .int k] Q' Z' σ' := fun h0 e q => cell_at_ok G (by lia) h0 (e.list hp) q
  have z := Ext.refl σ
  obtain ⟨a, ha, ha'⟩ := fmod_nat (ns.getD (Int.toNat 0) 0) 5 (by lia)
  obtain ⟨b, hb, hb'⟩ := fmod_nat ((ns.getD (Int.toNat 0) 0).fdiv 5) 4 (by lia)
  have ha : (ns.getD (Int.toNat 0) 0).fmod 5 = (a : Int) := ha
  have hb : ((ns.getD (Int.toNat 0) 0).fdiv 5).fmod 4 = (b : Int) := hb
  repeat (first | with_reducible (first | refine q_consO fun S1 kn1 => ?_ | refine q_set ?_ | refine q_k ?_ | refine q_prim ?_ | refine q_ev1 ?_ | refine q_ev0 ?_ | refine q_callF ?_) | ((with_reducible refine' q_loc ?e ?_); case e => rfl) | with_reducible (first | refine q_bin ?_ | refine q_lc ?_ | refine q_itP ?_))
  refine cell (by lia) z ?_
  repeat (first | with_reducible (first | refine q_k ?_ | refine q_ev0 ?_) | with_reducible (first | refine q_rng1 ?_ | refine q_mod (by decide) ?_))
  rw [ha]
  repeat (first | with_reducible (first | refine q_itemsR (by omega) ?_))
  refine compL_map (List.range a) (fun i : Nat => .int i) (fun k => mkAV ("bank", (k : Nat))) (fun i : Nat => [some (.ref p), none, none, none, none, none, some (.int i)]) (fun x => rfl) (fun x y => rfl) ?_ trivial (by simp; lia) ?_
  · intro i hi R hR
    repeat (first | with_reducible (first | refine q_k ?_ | refine q_ev1 ?_ | refine q_ev0 ?_) | ((with_reducible refine' q_loc ?e ?_); case e => rfl) | with_reducible (first | refine q_tup ?_) | ((with_reducible refine' q_tl ?e ?_); case e => rfl))
    exact hR
  refine alf fun σ1 r1 e1 hr1 l1 => ?_
  repeat (first | with_reducible (first | refine q_consO fun S1 kn1 => ?_ | refine q_set ?_ | refine q_k ?_ | refine q_prim ?_ | refine q_ev1 ?_ | refine q_ev0 ?_ | refine q_callF ?_) | ((with_reducible refine' q_loc ?e ?_); case e => rfl) | with_reducible (first | refine q_next (by assumption) ?_ | refine q_bin ?_ | refine q_lc ?_ | refine q_itP ?_))
  refine cell (by lia) e1 ?_
  repeat (first | with_reducible (first | refine q_k ?_ | refine q_ev0 ?_) | with_reducible (first | refine q_rng1 ?_ | refine q_div (by decide) (by decide) ?_ | refine q_mod (by decide) ?_))
  rw [hb]
  repeat (first | with_reducible (first | refine q_itemsR (by omega) ?_))
  refine compL_map (List.range b) (fun i : Nat => .int i) (fun k => mkAV ("book", (k : Nat))) (fun i : Nat => [some (.ref p), some (.ref r1), none, none, none, none, some (.int i)]) (fun x => rfl) (fun x y => rfl) ?_ trivial (by simp; lia) ?_
  · intro i hi R hR
    repeat (first | with_reducible (first | refine q_k ?_ | refine q_ev1 ?_ | refine q_ev0 ?_) | ((with_reducible refine' q_loc ?e ?_); case e => rfl) | with_reducible (first | refine q_tup ?_) | ((with_reducible refine' q_tl ?e ?_); case e => rfl))
    exact hR
  refine alf fun σ2 r2 e2 hr2 l2 => ?_
  refine addL_of (.inl (e2 _ _ l1)) (.inl l2) (by simp; lia) fun σ3 r3 e3 hr3 l3 => ?_
  have e03 := (e1.trans e2).trans e3
  have hl3 : ∃ ls : List Mark, σ3 r3 = some (.list (ls.map mkAV)) ∧ (∀ m ∈ ls, mSm m) ∧ ls.length ≤ 7 ∧ ls.Nodup := by
    refine ⟨(List.range a).map (fun k : Nat => (("bank" : Str), (k : Int))) ++ (List.range b).map (fun k : Nat => (("book" : Str), (k : Int))), ?_, ?_, by simp; lia, ?_⟩
    · rw [l3, List.map_append, List.map_map, List.map_map]; rfl
    · intro m hm
      rcases List.mem_append.mp hm with h | h <;> obtain ⟨i, hi, rfl⟩ := List.mem_map.mp h <;> rw [List.mem_range] at hi
      · exact ⟨.inl rfl, by show (0 : Int) ≤ i; lia, by show (i : Int) < 4; lia⟩
      · exact ⟨.inr rfl, by show (0 : Int) ≤ i; lia, by show (i : Int) < 4; lia⟩
    · refine List.nodup_append.mpr ⟨nodup_map (fun a b e => Int.ofNat.inj (Prod.ext_iff.mp e).2) List.nodup_range, nodup_map (fun a b e => Int.ofNat.inj (Prod.ext_iff.mp e).2) List.nodup_range, fun x hx y hy e => ?_⟩
      obtain ⟨i, _, rfl⟩ := List.mem_map.mp hx
      obtain ⟨j, _, rfl⟩ := List.mem_map.mp hy
      have q : ("bank" : Str) = "book" := (Prod.ext_iff.mp e).1
      exact absurd q (by decide +kernel)
  obtain ⟨ls, l3, hls, hll, hnd⟩ := hl3
  clear e1 e2 e3 l1 l2 hr1 hr2 hr3 ha hb
  repeat (first | with_reducible (first | refine q_consO fun S1 kn1 => ?_ | refine q_set ?_ | refine q_k ?_ | refine q_ev1 ?_ | refine q_ev0 ?_ | refine q_callF ?_) | ((with_reducible refine' q_loc ?e ?_); case e => rfl) | with_reducible (first | refine q_next (by assumption) ?_))
  refine cell (by lia) e03 ?_
  repeat (first | with_reducible (first | refine q_consO fun S1 kn1 => ?_ | refine q_set ?_ | refine q_ev0 ?_) | with_reducible (first | refine q_next (by assumption) ?_ | refine q_lst ?_) | ((with_reducible refine' q_tl ?e ?_); case e => rfl))
  generalize ns.getD (Int.toNat 1) 0 = c
  refine alf fun σ4 rf e4 hrf l4 => ?_
  have hrf0 := e03.none hrf
  have l34 := e4 _ _ l3
  have hne : r3 ≠ rf := by rintro rfl; rw [l3] at hrf; cases hrf
  have e04 := e03.trans e4
  repeat (first | with_reducible (first | refine q_consO fun S1 kn1 => ?_) | with_reducible (first | refine q_next (by assumption) ?_))
  refine ⟨fun n l' σ' => ∃ (ls fs : List Mark) (c : Int) (rl : Addr) (o : Option AV), n = ls.length ∧ Ext σ σ' ∧ listAt rl (ls.map mkAV) σ' ∧ σ' rf = some (.list (fs.map mkAV)) ∧ rl ≠ rf ∧ (∀ m ∈ ls, mSm m) ∧ (∀ m ∈ fs, mSm m) ∧ ls.length + fs.length ≤ 7 ∧ (ls ++ fs).Nodup ∧ l' = [some (.ref p), some (.ref rl), some (.int c), some (.ref rf), o],
    ls.length, ⟨ls, [], c, r3, none, rfl, e04, .inl l34, l4, hne, hls, by simp, by simpa using hll, by simpa using hnd, rfl⟩, ?_⟩
  clear l34 hne e04 l4 l3 hls hll hnd ls e4 hrf e03
  rintro n l' σ' ⟨ls, fs, c, rl, o, rfl, e, ll, lf, hne, hls, hfs, hlen, hnd, rfl⟩
  repeat (first | with_reducible (first | refine q_cmp ?_ | refine q_chain1 ?_ | refine q_ev0 ?_) | ((with_reducible refine' q_loc ?e ?_); case e => rfl) | with_reducible (first | refine q_lst ?_) | ((with_reducible refine' q_tl ?e ?_); case e => rfl))
  refine alf fun σ5 r5 e5 hr5 l5 => ?_
  have ll := e5.list ll
  have lf := e5 _ _ lf
  have e := e.trans e5
  refine q_neD (.list ll (rd_marks _)) (.list (.inl l5) .nil) (do_list fun m hm => (hls m hm).ok) ⟨by simp [PyData.canLay0, PyData.canLayAll0], by simp [PyData.depth, PyData.depthAll]⟩ ?_
  rw [eqv_nilL, List.isEmpty_map]
  clear e5 hr5 l5
  cases hls0 : ls.isEmpty with
  | true =>
    repeat (first | with_reducible (first | refine q_consO fun S1 kn1 => ?_ | refine q_ret ?_ | refine q_isB ?_) | ((with_reducible refine' q_loc ?e ?_); case e => rfl) | with_reducible (first | refine q_next (by assumption) ?_ | refine q_retK (by assumption) ?_) | ((with_reducible refine' q_ifFc ?e ?_); case e => rfl))
    refine q _ _ fs e hrf0 hfs (by lia) (List.nodup_append.mp hnd).2.1 (.inl lf)
  | false =>
    have hpos : 0 < ls.length := by
      cases ls with
      | nil => cases hls0
      | cons => simp
    obtain ⟨m, em, hm⟩ : ∃ m : Nat, c.fmod (ls.length : Int) = m ∧ m < ls.length := by
      have g1 := Int.fmod_nonneg_of_pos c (b := ls.length) (by lia); have g2 := Int.fmod_lt_of_pos c (b := ls.length) (by lia)
      exact ⟨(c.fmod ls.length).toNat, by lia, by lia⟩
    have hx : atIdx (ls.map mkAV) (m : Int) = some (mkAV ls[m]) := by rw [at_nat]; simp [hm]
    repeat (first | with_reducible (first | refine q_consO fun S1 kn1 => ?_ | refine q_set ?_ | refine q_isB ?_ | refine q_prim ?_ | refine q_ev1 ?_ | refine q_ev0 ?_) | ((with_reducible refine' q_loc ?e ?_); case e => rfl) | with_reducible (first | refine q_bin ?_ | refine q_lenLM (by assumption) ?_) | ((with_reducible refine' q_ifTc ?e ?_); case e => rfl))
    refine q_mod (by lia) ?_
    rw [em]
    repeat (first | with_reducible (first | refine q_consO fun S1 kn1 => ?_ | refine q_idx ?_ | refine q_ev1 ?_ | refine q_ev0 ?_) | ((with_reducible refine' q_loc ?e ?_); case e => rfl) | with_reducible (first | refine q_next (by assumption) ?_ | refine q_ex ?_ | refine q_meth ?_ | refine q_exM (by assumption) ?_ | refine q_listIdx (by assumption) (by assumption) ?_))
    refine q_app lf (by simp; lia) ?_
    have ll2 := listAt_setN2 (o := .list (fs.map mkAV ++ [mkAV ls[m]])) ll hne
    repeat (first | with_reducible (first | refine q_consO fun S1 kn1 => ?_ | refine q_set ?_) | ((with_reducible refine' q_loc ?e ?_); case e => rfl) | with_reducible (first | refine q_next (by assumption) ?_ | refine q_bin ?_ | refine q_exI ?_ | refine q_nr ?_ | refine q_slice ?_ | refine q_optN ?_ | refine q_optS ?_ | refine q_slL (by assumption) ?_))
    refine alf fun σ6 r6 e6 hr6 l6 => ?_
    have ll6 := e6.list ll2
    repeat (first | with_reducible (first | refine q_k ?_) | ((with_reducible refine' q_loc ?e ?_); case e => rfl) | with_reducible (first | refine q_bin ?_ | refine q_exI ?_ | refine q_add ?_ | refine q_slice ?_ | refine q_optN ?_ | refine q_optS ?_ | refine q_slL (by assumption) ?_))
    refine alf fun σ7 r7 e7 hr7 l7 => ?_
    refine addL_of (.inl (e7 _ _ l6)) (.inl l7) ?_ fun σ8 r8 e8 hr8 l8 => ?_
    · rw [cut_take _ _ (by simp; lia)]
      rw [show ((m : Int) + 1) = ((m + 1 : Nat) : Int) from rfl, cut_drop _ _ (by simp; lia)]
      simp; lia
    rw [cut_take _ _ (by simp; lia), show ((m : Int) + 1) = ((m + 1 : Nat) : Int) from rfl, cut_drop _ _ (by simp; lia)] at l8
    have e68 := (e6.trans e7).trans e8
    have lf8 := e68 _ _ (AHeap.set_self σ5 rf (.list (fs.map mkAV ++ [mkAV ls[m]])))
    repeat (first | with_reducible (first | refine q_consO fun S1 kn1 => ?_ | refine q_set ?_ | refine q_k ?_) | ((with_reducible refine' q_loc ?e ?_); case e => rfl) | with_reducible (first | refine q_nil ?_ | refine q_next (by assumption) ?_ | refine q_bin ?_ | refine q_div (by decide) (by decide) ?_))
    refine ⟨ls.length - 1, by lia, ls.take m ++ ls.drop (m + 1), fs ++ [ls[m]], _, r8, _, by simp; lia, (e.put hrf0).trans e68, .inl (by rw [l8, List.map_append, List.map_take, List.map_drop]), by rw [lf8, List.map_append]; rfl, ?_, fun x hx => ?_, fun x hx => ?_, by simp; lia, ?_, rfl⟩
    · rintro rfl
      have := (e6.trans e7) _ _ (AHeap.set_self σ5 r8 (.list (fs.map mkAV ++ [mkAV ls[m]])))
      rw [this] at hr8; cases hr8
    · rcases List.mem_append.mp hx with h | h
      · exact hls x (List.mem_of_mem_take h)
      · exact hls x (List.mem_of_mem_drop h)
    · rcases List.mem_append.mp hx with h | h
      · exact hfs x h
      · simp at h; rw [h]; exact hls _ (List.getElem_mem hm)
    · have e1 : ls.take m ++ ls.drop (m + 1) = ls.eraseIdx m := (List.eraseIdx_eq_take_drop_succ ..).symm
      rw [e1]
      have p1 : (ls.eraseIdx m ++ (fs ++ [ls[m]])).Perm (ls ++ fs) := by
        rw [← List.append_assoc]
        refine (List.perm_append_comm).trans ?_
        exact ((erase_perm ls m hm).append_right fs)
      exact p1.nodup_iff.mpr hnd
end
end Mine

set_option maxRecDepth 100000
set_option linter.unusedVariables false
set_option autoImplicit false
set_option linter.unusedSimpArgs false
set_option maxHeartbeats 8000000
set_option pp.deepTerms false
namespace Mine
open PySem PyProof.Rows PySem.SeqAt PySem.W
section
variable {X : Cx} {P : Params} {Q : Post} {Z : XP} {σ : AHeap} {d : Nat}
def smL (l : List Int) : Prop := ∀ y ∈ l, 0 ≤ y ∧ y < 4
def mtS (m : Mt) : Prop := mtOk m ∧ mtGood m
theorem sortP_of {α : Type} {f : α → AV} {p : Addr} {xs : List α} (hp : listAt p (xs.map f) σ) (h64 : xs.length < 64) (hk : KindP (xs.map f)) (hlt : ∀ x ∈ xs, ∀ y ∈ xs, ∃ t, LtAV σ (f x) (f y) t)
    (h : ∀ (ys : List α) σ' r, ys.Perm xs → Ext σ σ' → σ r = none → listAt r (ys.map f) σ' → Q (.ref r) σ') : pSortP [.ref p] Q σ := by
  refine .mk hp (by simpa using h64) hk (fun x hx y hy => ?_) fun ys h1 => ?_
  · obtain ⟨a, ha, rfl⟩ := List.mem_map.mp hx
    obtain ⟨b, hb, rfl⟩ := List.mem_map.mp hy
    exact hlt a ha b hb
  · obtain ⟨zs, h3, rfl⟩ := perm_map_inv h1 rfl
    exact al fun σ' r e hr l => h zs σ' r h3 e hr (.inl l)
theorem sortP {p : Addr} {ns : List Int} (hp : listAt p (ns.map .int) σ) (hl : ns.length ≤ 50) (h0 : smL ns) (h : ∀ (ms : List Int) σ' r, ms.length = ns.length → smL ms → Ext σ σ' → σ r = none → listAt r (ms.map .int) σ' → Q (.ref r) σ') : pSortP [.ref p] Q σ := by
  refine sortP_of hp (by lia) (.inr fun x hx' => by obtain ⟨i, _, rfl⟩ := List.mem_map.mp hx'; exact ⟨i, rfl⟩) (fun x hx y hy => ⟨_, .int x, .int y, .int _, .int _, d_int.mpr trivial, d_int.mpr trivial, rfl⟩) fun ys σ' r h1 e hr l => ?_
  exact h ys σ' r h1.length_eq (fun y hy => h0 y (h1.mem_iff.mp hy)) e hr l
theorem sortSet_of {p : Addr} {xs : List AV} (hp : listAt p xs σ) (hx : ∀ x ∈ xs, ∃ k : Nat, k < 4 ∧ x = .int k) (h : ∀ (ys : List Int) σ' r, ys.length ≤ 4 → ys.Nodup → Ext σ σ' → σ r = none → listAt r (ys.map .int) σ' → Q (.ref r) σ') : pSortSet [.ref p] Q σ :=
  .mk hp hx fun ys h1 _ h2 => al fun σ' r e hr l => h ys σ' r h1 h2 e hr (.inl l)
theorem q_eqNil {p r : Addr} {ns : List Int} (hp : listAt p (ns.map .int) σ) (hr : σ r = some (.list [])) (h : Q (.bool ns.isEmpty) σ) : cmpA X .Eq (.ref p) (.ref r) Q σ := by
  refine q_eqD (rd_ints hp) (.list (.inl hr) .nil) (dok_ints ns) ⟨by simp [PyData.canLay0, PyData.canLayAll0], by simp [PyData.depth, PyData.depthAll]⟩ ?_
  rw [eqv_nilL, List.isEmpty_map]; exact h
theorem at_mod {ns : List Int} (c : Int) (h : 0 < ns.length) (hs : smL ns) : ∃ v : Nat, v < 4 ∧ atIdx (ns.map AV.int) (c.fmod (ns.length : Int)) = some (AV.int (v : Int)) := by
  have g1 := Int.fmod_nonneg_of_pos c (b := ns.length) (by lia); have g2 := Int.fmod_lt_of_pos c (b := ns.length) (by lia)
  obtain ⟨m, em⟩ := Int.eq_ofNat_of_zero_le g1
  have hm : m < ns.length := by lia
  have hx := hs _ (List.getElem_mem hm)
  refine ⟨(ns[m]).toNat, by lia, ?_⟩
  rw [em, at_nat, List.getElem?_map, List.getElem?_eq_getElem hm]
  show some (AV.int ns[m]) = _
  rw [Int.toNat_of_nonneg hx.1]
theorem four (k : Nat) (h : k < 4) : ∃ c : Nat, c ≤ 3 ∧ atIdx ([.int 1, .int 1, .int 2, .int 3] : List AV) (k : Int) = some (.int (c : Int)) := by
  rcases (by lia : k = 0 ∨ k = 1 ∨ k = 2 ∨ k = 3) with rfl | rfl | rfl | rfl
  · exact ⟨1, by lia, rfl⟩
  · exact ⟨1, by lia, rfl⟩
  · exact ⟨2, by lia, rfl⟩
  · exact ⟨3, by lia, rfl⟩

theorem good_of {m : Mt} (h1 : m.1.Nodup) (h2 : m.2.Nodup) (h3 : m.1 ≠ [] ∨ m.2 ≠ []) : mtGood m := by
  refine ⟨?_, fun e => ?_⟩
  · unfold marksOf
    rw [List.nodup_append]
    refine ⟨nodup_map (fun a b e => (Prod.ext_iff.mp e).2) h1, nodup_map (fun a b e => (Prod.ext_iff.mp e).2) h2, fun x hx y hy e => ?_⟩
    obtain ⟨a, _, rfl⟩ := List.mem_map.mp hx
    obtain ⟨b, _, rfl⟩ := List.mem_map.mp hy
    have q : ("bank" : Str) = "book" := (Prod.ext_iff.mp e).1
    exact absurd q (by decide +kernel)
  · unfold marksOf at e
    obtain ⟨e1, e2⟩ := List.append_eq_nil_iff.mp e
    rcases h3 with h | h
    · exact h (List.map_eq_nil_iff.mp e1)
    · exact h (List.map_eq_nil_iff.mp e2)
theorem match_ok (G : Gd X (hK P)) (hd : d < 600) {p : Addr} {gs : List Mark} {c : Int} (hp : listAt p (gs.map mkAV) σ) (hg : ∀ m ∈ gs, mSm m) (hgl : gs.length ≤ 7) (q : ∀ σ' v, Ext σ σ' → (v = .none ∨ ∃ m, v = mtAV m ∧ mtS m) → Q v σ') : CallOk X 58 d [.int c, .ref p] Q Z σ := by
  refine' callK (m := _) ["_law_cell", "_law_group_here"] [("_law_cell", 0), ("_law_group_here", 1), ("_law_ones", 2), ("_law_others", 3), ("_law_count", 4), ("_law_many", 5)] G rfl rfl (bind2 fun a b => rfl) rfl rfl rfl rfl rfl rfl rfl rfl (fun env E => ?snd) hd rfl ?bd
  case snd =>
    repeat' first
      | ((with_reducible show SoundSs _ _ _ [] _); (with_reducible refine' sound_nil))
      | ((with_reducible show SoundSs _ _ _ (_ :: _) _); (with_reducible refine' sound_cons ?_ ?_))
      | ((with_reducible show SoundS _ _ _ (.If _ _ _ _) _); (with_reducible refine' sound_if ?_ ?_ ?_))
      | ((with_reducible show SoundS _ _ _ (.Return (some _) _) _); (with_reducible refine' sound_ret ?_))
      | ((with_reducible show SoundS _ _ _ (.Assign [.Name _ _] _ _) _); (with_reducible refine' w_set (by assumption) ?r1 ?r2 ?_ ?r3); (case r1 => exact rfl); (case r2 => exact rfl); (case r3 => exact rfl))
      | ((with_reducible show SoundC _ _ _ [] _); (with_reducible refine' w_cNone))
      | ((with_reducible show SoundC _ _ _ (_ :: _) _); (with_reducible refine' w_cSome ?_))
      | ((with_reducible show SoundTC _ _ _ (.Name _ _) _); (with_reducible refine' w_tcOne (by assumption) ?r1 ?r2); (case r1 => exact rfl); (case r2 => exact rfl))
      | ((with_reducible show SoundI _ _ _ _ _ _); (with_reducible refine' w_it ?_))
      | ((with_reducible show SoundB _ _ _ (.Compare _ _ _ _) _); (with_reducible refine' soundB_cmp ?_ ?_))
      | ((with_reducible show SoundB _ _ _ (.BoolOp .Or _ _) _); (with_reducible refine' soundB_or ?_))
      | ((with_reducible show SoundE _ _ _ (.Name _ _) _); (with_reducible refine' w_loc (by assumption) ?r1 ?r2 ?r3); (case r1 => exact rfl); (case r2 => exact rfl); (case r3 => exact rfl))
      | ((with_reducible show SoundE _ _ _ (.Constant (.int _) _ _) _); (with_reducible refine' sound_int))
      | ((with_reducible show SoundE _ _ _ (.Constant (.str _) _ _) _); (with_reducible refine' sound_str))
      | ((with_reducible show SoundE _ _ _ (.Constant .none _ _) _); (with_reducible refine' sound_none))
      | ((with_reducible show SoundE _ _ _ (.Tuple _ _ _) _); (with_reducible refine' sound_tup ?_))
      | ((with_reducible show SoundE _ _ _ (.List _ _) _); (with_reducible refine' sound_lst ?_))
      | ((with_reducible show SoundEs _ _ _ [] _); (with_reducible refine' w_es0))
      | ((with_reducible show SoundEs _ _ _ (_ :: _) _); (with_reducible refine' w_es1 ?r1 ?_ ?_); (case r1 => exact rfl))
      | ((with_reducible show SoundE _ _ _ (.Compare _ _ _ _) _); (with_reducible refine' sound_cmp ?_ ?_))
      | ((with_reducible show SoundOps _ _ _ [_] _ _); (with_reducible refine' SoundOps.one ?_ ?r1); (case r1 => exact rfl))
      | ((with_reducible show SoundE _ _ _ (.BinOp _ _ _ _) _); (with_reducible refine' sound_bin ?_ ?_))
      | ((with_reducible show SoundEBs _ _ _ [] _); (with_reducible refine' SoundEBs.nil))
      | ((with_reducible show SoundEBs _ _ _ (_ :: _) _); (with_reducible refine' SoundEBs.cons ?_ ?_ ?_))
      | ((with_reducible show SoundE _ _ _ (.Subscript _ _ _) _); (with_reducible refine' sound_idx ?_ ?_ ?r1); (case r1 => exact rfl))
      | ((with_reducible show SoundE _ _ _ (.ListComp _ _ _ _) _); (with_reducible refine' w_comp (by assumption) ?r1 ?r2 ?r3 ?_ (fun env' E' => ?_) (fun env' E' => ?_) (fun env' E' => ?_)); (case r1 => exact rfl); (case r2 => exact rfl); (case r3 => exact rfl))
      | ((with_reducible show SoundE _ _ _ (.Call (.Name "len" _) _ [] _) _); (with_reducible refine' w_len (by assumption) (by assumption) bi_len ?r1 ?_); (case r1 => exact rfl))
      | ((with_reducible show SoundE _ _ _ (.Call (.Name "range" _) _ [] _) _); (with_reducible refine' w_range (by assumption) (by assumption) bi_range ?r1 ?_); (case r1 => exact rfl))
      | ((with_reducible show SoundE _ _ _ (.Call (.Name "sorted" _) [.Call (.Name "set" _) [_] [] _] [] _) _); (with_reducible refine' w_sortSet (by assumption) (by assumption) bi_sorted bi_set ?r1 ?r2 ?_); (case r1 => exact rfl); (case r2 => exact rfl))
      | ((with_reducible show SoundE _ _ _ (.Call (.Name "sorted" _) _ [] _) _); (with_reducible refine' w_prim (by assumption) (by assumption) bi_sorted ?r1 sound_sortP ?r2 ?_); (case r1 => exact (.inl ⟨_, rfl⟩)); (case r2 => exact rfl))
      | ((with_reducible show SoundE _ _ _ (.Call (.Name "tuple" _) _ [] _) _); (with_reducible refine' w_prim (by assumption) (by assumption) bi_tuple ?r1 sound_tuple ?r2 ?_); (case r1 => exact (.inr ⟨_, rfl⟩)); (case r2 => exact rfl))
  have side : ∀ s : Str, smL ((gs.filter fun m : Mark => m.1 == s).map (·.2)) ∧ ((gs.filter fun m : Mark => m.1 == s).map (·.2)).length ≤ 7 := fun s => by
    refine ⟨fun y hy => ?_, ?_⟩
    · obtain ⟨m, hm, rfl⟩ := List.mem_map.mp hy
      exact (hg m (List.mem_filter.mp hm).1).2
    · rw [List.length_map]; exact Nat.le_trans (List.length_filter_le _ _) hgl
  repeat (first | with_reducible (first | refine q_consO fun S1 kn1 => ?_ | refine q_set ?_ | refine q_prim ?_ | refine q_ev1 ?_) | ((with_reducible refine' q_loc ?e ?_); case e => rfl) | with_reducible (first | refine q_lc ?_ | refine q_itP ?_ | refine q_itemsL (by assumption) ?_))
  refine compLf_as gs (fun m : Mark => m.1 == ("bank" : Str)) mkAV (fun m => .int m.2) (fun m => [some (.int c), some (.ref p), none, none, none, none, none, some (.tup [.str m.1, .int m.2])]) (fun x _ => rfl) (fun x _ y _ => rfl) ?_ ?_ hp (by lia) ?_
  · intro m hm R hR
    have hmo : PyData.strOk m.1 = true := (hg m hm).ok
    repeat (first | with_reducible (first | refine q_isB ?_ | refine q_k ?_ | refine q_idx ?_ | refine q_cmp ?_ | refine q_chain1 ?_) | ((with_reducible refine' q_loc ?e ?_); case e => rfl) | with_reducible (first | refine q_tupIdx rfl ?_) | ((with_reducible refine' q_eqS ?e1 ?e2 ?_); (case e1 => first | assumption | decide +kernel); (case e2 => first | assumption | decide +kernel)))
    exact hR
  · intro m hm _ R hR
    repeat (first | with_reducible (first | refine q_k ?_ | refine q_idx ?_) | ((with_reducible refine' q_loc ?e ?_); case e => rfl) | with_reducible (first | refine q_tupIdx rfl ?_))
    exact hR
  refine alf fun σ1 r1 e1 hr1 l1 => ?_
  have l1 : listAt r1 (((gs.filter fun m : Mark => m.1 == ("bank" : Str)).map (·.2)).map .int) σ1 := .inl (by rw [l1, List.map_map]; rfl)
  repeat (first | with_reducible (first | refine q_ev0 ?_))
  refine sortP l1 (by have := (side "bank").2; lia) (side "bank").1 fun os σ2 r2 hol hos e2 hr2 l2 => ?_
  have hol : os.length ≤ 7 := by have := (side "bank").2; lia
  have e02 := e1.trans e2
  have hp2 := e02.list hp
  clear e1 e2 hr1 hr2 l1
  repeat (first | with_reducible (first | refine q_consO fun S1 kn1 => ?_ | refine q_set ?_ | refine q_prim ?_ | refine q_ev1 ?_) | ((with_reducible refine' q_loc ?e ?_); case e => rfl) | with_reducible (first | refine q_next (by assumption) ?_ | refine q_lc ?_ | refine q_itP ?_ | refine q_itemsL (by assumption) ?_))
  refine compLf_as gs (fun m : Mark => m.1 == ("book" : Str)) mkAV (fun m => .int m.2) (fun m => [some (.int c), some (.ref p), some (.ref r2), none, none, none, none, some (.tup [.str m.1, .int m.2])]) (fun x _ => rfl) (fun x _ y _ => rfl) ?_ ?_ hp2 (by lia) ?_
  · intro m hm R hR
    have hmo : PyData.strOk m.1 = true := (hg m hm).ok
    repeat (first | with_reducible (first | refine q_isB ?_ | refine q_k ?_ | refine q_idx ?_ | refine q_cmp ?_ | refine q_chain1 ?_) | ((with_reducible refine' q_loc ?e ?_); case e => rfl) | with_reducible (first | refine q_tupIdx rfl ?_) | ((with_reducible refine' q_eqS ?e1 ?e2 ?_); (case e1 => first | assumption | decide +kernel); (case e2 => first | assumption | decide +kernel)))
    exact hR
  · intro m hm _ R hR
    repeat (first | with_reducible (first | refine q_k ?_ | refine q_idx ?_) | ((with_reducible refine' q_loc ?e ?_); case e => rfl) | with_reducible (first | refine q_tupIdx rfl ?_))
    exact hR
  refine alf fun σ3 r3 e3 hr3 l3 => ?_
  have l3 : listAt r3 (((gs.filter fun m : Mark => m.1 == ("book" : Str)).map (·.2)).map .int) σ3 := .inl (by rw [l3, List.map_map]; rfl)
  repeat (first | with_reducible (first | refine q_ev0 ?_))
  refine sortP l3 (by have := (side "book").2; lia) (side "book").1 fun ts σ4 r4 htl hts e4 hr4 l4 => ?_
  have htl : ts.length ≤ 7 := by have := (side "book").2; lia
  have e04 := e02.trans (e3.trans e4)
  have l24 := (e3.trans e4).list l2
  clear e3 e4 hr3 hr4 l3 l2 e02 hp2
  repeat (first | with_reducible (first | refine q_consO fun S1 kn1 => ?_ | refine q_if ?_ | refine q_cmp ?_ | refine q_chain1 ?_ | refine q_ev0 ?_) | ((with_reducible refine' q_loc ?e ?_); case e => rfl) | with_reducible (first | refine q_next (by assumption) ?_ | refine q_or ?_ | refine q_lst ?_) | ((with_reducible refine' q_tl ?e ?_); case e => rfl))
  refine alf fun σ5 r5 e5 hr5 l5 => ?_
  have e05 := e04.trans e5
  have l2 := e5.list l24
  have l4 := e5.list l4
  clear e04 l24 e5
  refine q_eqNil l2 l5 ?_
  cases ho : os.isEmpty with
  | true =>
    repeat (first | with_reducible (first | refine q_consO fun S1 kn1 => ?_ | refine q_ret ?_ | refine q_isB ?_ | refine q_k ?_ | refine q_exB ?_) | with_reducible (first | refine q_retK (by assumption) ?_) | ((with_reducible refine' q_ifTc ?e ?_); case e => rfl))
    exact q _ _ e05 (.inl rfl)
  | false =>
  have hop : 0 < os.length := by
    cases os with
    | nil => cases ho
    | cons => simp
  repeat (first | with_reducible (first | refine q_cmp ?_ | refine q_chain1 ?_ | refine q_ev0 ?_ | refine q_exB ?_) | ((with_reducible refine' q_loc ?e ?_); case e => rfl) | with_reducible (first | refine q_or1 ?_ | refine q_lst ?_) | ((with_reducible refine' q_ifFc ?e ?_); case e => rfl) | ((with_reducible refine' q_tl ?e ?_); case e => rfl))
  refine alf fun σ6 r6 e6 hr6 l6 => ?_
  have e06 := e05.trans e6
  have l2 := e6.list l2
  have l4 := e6.list l4
  clear e05 e6 l5 hr5
  refine q_eqNil l4 l6 ?_
  cases ht : ts.isEmpty with
  | true =>
    repeat (first | with_reducible (first | refine q_consO fun S1 kn1 => ?_ | refine q_ret ?_ | refine q_isB ?_ | refine q_k ?_) | with_reducible (first | refine q_retK (by assumption) ?_) | ((with_reducible refine' q_ifTc ?e ?_); case e => rfl))
    exact q _ _ e06 (.inl rfl)
  | false =>
  have htp : 0 < ts.length := by
    cases ts with
    | nil => cases ht
    | cons => simp
  repeat (first | with_reducible (first | refine q_consO fun S1 kn1 => ?_ | refine q_set ?_ | refine q_isB ?_ | refine q_k ?_ | refine q_idx ?_ | refine q_ev1 ?_ | refine q_ev0 ?_) | with_reducible (first | refine q_nil ?_ | refine q_next (by assumption) ?_ | refine q_lst ?_) | ((with_reducible refine' q_ifFc ?e ?_); case e => rfl) | ((with_reducible refine' q_tl ?e ?_); case e => rfl))
  refine alf fun σ7 r7 e7 hr7 l7 => ?_
  have e07 := e06.trans e7
  have l2 := e7.list l2
  have l4 := e7.list l4
  clear e06 e7 l6 hr6
  obtain ⟨k, hk, hk'⟩ := fmod_nat (c.fdiv 2) 4 (by lia)
  have hk : (c.fdiv 2).fmod 4 = (k : Int) := hk
  obtain ⟨n, hn, hn'⟩ := four k hk'
  repeat (first | with_reducible (first | refine q_k ?_) | ((with_reducible refine' q_loc ?e ?_); case e => rfl) | with_reducible (first | refine q_bin ?_ | refine q_div (by decide) (by decide) ?_ | refine q_mod (by decide) ?_))
  rw [hk]
  refine q_listIdx (.inl l7) hn' ?_
  repeat (first | with_reducible (first | refine q_consO fun S1 kn1 => ?_ | refine q_set ?_ | refine q_if ?_ | refine q_isB ?_ | refine q_k ?_ | refine q_cmp ?_ | refine q_chain1 ?_) | ((with_reducible refine' q_loc ?e ?_); case e => rfl) | with_reducible (first | refine q_next (by assumption) ?_ | refine q_bin ?_ | refine q_eqI ?_ | refine q_div (by decide) (by decide) ?_ | refine q_mod (by decide) ?_))
  generalize c.fdiv 8 = c8
  split
  ·
    repeat (first | with_reducible (first | refine q_consO fun S1 kn1 => ?_ | refine q_set ?_ | refine q_prim ?_ | refine q_ev1 ?_ | refine q_ev0 ?_) | ((with_reducible refine' q_loc ?e ?_); case e => rfl) | with_reducible (first | refine q_rng1 ?_ | refine q_lc ?_ | refine q_itP ?_ | refine q_itemsR (by omega) ?_))
    have idx : ∀ i : Nat, ∃ v : Nat, v < 4 ∧ atIdx (ts.map AV.int) ((c8.fdiv 2 + (i : Int) * (1 + (c8.fdiv 12).fmod 3)).fmod (ts.length : Int)) = some (AV.int (v : Int)) := fun i => at_mod _ htp hts
    refine compL_map (List.range n) (fun i : Nat => .int i) (fun i => .int (Classical.choose (idx i) : Nat)) (fun i : Nat => [some (.int c8), some (.ref p), some (.ref r2), some (.ref r4), some (.int n), none, none, some (.int i)]) (fun x => rfl) (fun x y => rfl) ?_ trivial (by simp; lia) ?_
    · intro i hi R hR
      rw [List.mem_range] at hi
      repeat (first | with_reducible (first | refine q_k ?_ | refine q_idx ?_) | ((with_reducible refine' q_loc ?e ?_); case e => rfl) | with_reducible (first | refine q_bin ?_ | refine q_add ?_ | refine q_div (by decide) (by decide) ?_ | refine q_mod (by decide) ?_))
      refine q_mulL (by lia) ?_
      repeat (first | with_reducible (first | refine q_prim ?_ | refine q_ev1 ?_ | refine q_ev0 ?_) | ((with_reducible refine' q_loc ?e ?_); case e => rfl) | with_reducible (first | refine q_add ?_ | refine q_lenLM (by assumption) ?_))
      refine q_mod (by lia) ?_
      refine q_listIdx l4 (Classical.choose_spec (idx i)).2 ?_
      exact hR
    refine alf fun σ8 r8 e8 hr8 l8 => ?_
    repeat (first | with_reducible (first | refine q_ev0 ?_))
    refine sortSet_of (.inl l8) (fun x hx => ?_) fun ys σ9 r9 hy1 hy2 e9 hr9 l9 => ?_
    · obtain ⟨i, _, rfl⟩ := List.mem_map.mp hx
      exact ⟨_, (Classical.choose_spec (idx i)).1, rfl⟩
    have e09 := (e07.trans e8).trans e9
    have l2 := (e8.trans e9).list l2
    obtain ⟨v, hv, hv'⟩ := at_mod (c8.fdiv 36) hop hos
    repeat (first | with_reducible (first | refine q_consO fun S1 kn1 => ?_ | refine q_ret ?_ | refine q_k ?_ | refine q_idx ?_ | refine q_prim ?_ | refine q_ev1 ?_ | refine q_ev0 ?_) | ((with_reducible refine' q_loc ?e ?_); case e => rfl) | with_reducible (first | refine q_next (by assumption) ?_ | refine q_tup ?_ | refine q_bin ?_ | refine q_lenLM (by assumption) ?_ | refine q_div (by decide) (by decide) ?_))
    refine q_mod (by lia) ?_
    refine q_listIdx l2 hv' ?_
    repeat (first | with_reducible (first | refine q_prim ?_ | refine q_ev1 ?_ | refine q_ev0 ?_) | ((with_reducible refine' q_loc ?e ?_); case e => rfl) | with_reducible (first | refine q_retK (by assumption) ?_ | refine q_tupL (by assumption) ?_) | ((with_reducible refine' q_tl ?e ?_); case e => rfl))
    exact q _ _ e09 (.inr ⟨([(v : Int)], ys), rfl, ⟨by simp, hy1⟩, good_of (by simp) hy2 (.inl (by simp))⟩)
  ·
    repeat (first | with_reducible (first | refine q_consO fun S1 kn1 => ?_ | refine q_set ?_ | refine q_prim ?_ | refine q_ev1 ?_ | refine q_ev0 ?_) | ((with_reducible refine' q_loc ?e ?_); case e => rfl) | with_reducible (first | refine q_nil ?_ | refine q_next (by assumption) ?_ | refine q_rng1 ?_ | refine q_lc ?_ | refine q_itP ?_ | refine q_itemsR (by omega) ?_))
    have idx : ∀ i : Nat, ∃ v : Nat, v < 4 ∧ atIdx (os.map AV.int) ((c8.fdiv 2 + (i : Int) * (1 + (c8.fdiv 12).fmod 3)).fmod (os.length : Int)) = some (AV.int (v : Int)) := fun i => at_mod _ hop hos
    refine compL_map (List.range n) (fun i : Nat => .int i) (fun i => .int (Classical.choose (idx i) : Nat)) (fun i : Nat => [some (.int c8), some (.ref p), some (.ref r2), some (.ref r4), some (.int n), none, none, some (.int i)]) (fun x => rfl) (fun x y => rfl) ?_ trivial (by simp; lia) ?_
    · intro i hi R hR
      rw [List.mem_range] at hi
      repeat (first | with_reducible (first | refine q_k ?_ | refine q_idx ?_) | ((with_reducible refine' q_loc ?e ?_); case e => rfl) | with_reducible (first | refine q_bin ?_ | refine q_add ?_ | refine q_div (by decide) (by decide) ?_ | refine q_mod (by decide) ?_))
      refine q_mulL (by lia) ?_
      repeat (first | with_reducible (first | refine q_prim ?_ | refine q_ev1 ?_ | refine q_ev0 ?_) | ((with_reducible refine' q_loc ?e ?_); case e => rfl) | with_reducible (first | refine q_add ?_ | refine q_lenLM (by assumption) ?_))
      refine q_mod (by lia) ?_
      refine q_listIdx l2 (Classical.choose_spec (idx i)).2 ?_
      exact hR
    refine alf fun σ8 r8 e8 hr8 l8 => ?_
    repeat (first | with_reducible (first | refine q_ev0 ?_))
    refine sortSet_of (.inl l8) (fun x hx => ?_) fun ys σ9 r9 hy1 hy2 e9 hr9 l9 => ?_
    · obtain ⟨i, _, rfl⟩ := List.mem_map.mp hx
      exact ⟨_, (Classical.choose_spec (idx i)).1, rfl⟩
    have e09 := (e07.trans e8).trans e9
    have l4 := (e8.trans e9).list l4
    obtain ⟨v, hv, hv'⟩ := at_mod (c8.fdiv 36) htp hts
    repeat (first | with_reducible (first | refine q_consO fun S1 kn1 => ?_ | refine q_ret ?_ | refine q_k ?_ | refine q_idx ?_ | refine q_prim ?_ | refine q_ev1 ?_ | refine q_ev0 ?_) | ((with_reducible refine' q_loc ?e ?_); case e => rfl) | with_reducible (first | refine q_next (by assumption) ?_ | refine q_tup ?_ | refine q_bin ?_ | refine q_lenLM (by assumption) ?_ | refine q_div (by decide) (by decide) ?_ | refine q_tupL (by assumption) ?_))
    refine q_mod (by lia) ?_
    refine q_listIdx l4 hv' ?_
    repeat (first | with_reducible (first | refine q_ev0 ?_) | with_reducible (first | refine q_retK (by assumption) ?_) | ((with_reducible refine' q_tl ?e ?_); case e => rfl))
    exact q _ _ e09 (.inr ⟨(ys, [(v : Int)]), rfl, ⟨hy1, by simp⟩, good_of hy2 (by simp) (.inr (by simp))⟩)
end
end Mine

set_option maxRecDepth 100000
set_option linter.unusedVariables false
set_option autoImplicit false
set_option linter.unusedSimpArgs false
set_option maxHeartbeats 8000000
set_option pp.deepTerms false
namespace Mine
open PySem PyProof.Rows PySem.SeqAt PySem.W
section
variable {X : Cx} {P : Params} {Q : Post} {Z : XP} {σ : AHeap} {d : Nat}
theorem lt_some : ∀ l l' : List Int, ∃ b, ltDL (l.map .int) (l'.map .int) = some b
  | [], [] => ⟨_, rfl⟩
  | [], _ :: _ => ⟨_, rfl⟩
  | _ :: _, [] => ⟨_, rfl⟩
  | x :: l, y :: l' => by
    obtain ⟨b, h⟩ := lt_some l l'
    simp only [List.map_cons, ltDL, h, ltD]
    split
    · exact ⟨_, rfl⟩
    · exact ⟨_, rfl⟩
def mtD (m : Mt) : PyData := .tuple [.tuple (m.1.map .int), .tuple (m.2.map .int)]
def rowM (m : Mt) : AV := .tup [.int (m.1.length + m.2.length), mtAV m]
def rowMD (m : Mt) : PyData := .tuple [.int (m.1.length + m.2.length), mtD m]
theorem rd_intsL (l : List Int) : RdL σ (l.map .int) (l.map .int) := rdL_map (fun i => .int i) _
theorem rd_mt (m : Mt) : Rd σ (mtAV m) (mtD m) := .tup (.cons (.tup (rd_intsL _)) (.cons (.tup (rd_intsL _)) .nil))
theorem rd_rowM (m : Mt) : Rd σ (rowM m) (rowMD m) := .tup (.cons (.int _) (.cons (rd_mt m) .nil))
theorem lay_ints : ∀ l : List Int, PyData.canLayAll0 (l.map .int) = true ∧ PyData.depthAll (l.map .int) ≤ 2
  | [] => ⟨rfl, by simp [PyData.depthAll]⟩
  | x :: l => by
    obtain ⟨h1, h2⟩ := lay_ints l
    refine ⟨by simp [PyData.canLayAll0, PyData.canLay0, h1], ?_⟩
    simp only [List.map_cons, PyData.depthAll, PyData.depth]; lia
theorem lay_mt (m : Mt) : (mtD m).canLay0 = true ∧ (mtD m).depth ≤ 20 := by
  obtain ⟨h1, h2⟩ := lay_ints m.1
  obtain ⟨h3, h4⟩ := lay_ints m.2
  refine ⟨by simp [mtD, PyData.canLay0, PyData.canLayAll0, h1, h3], ?_⟩
  simp only [mtD, PyData.depth, PyData.depthAll]; lia
theorem lay_rowM (m : Mt) : (rowMD m).canLay0 = true ∧ (rowMD m).depth ≤ 40 := by
  obtain ⟨h1, h2⟩ := lay_mt m
  refine ⟨by simp [rowMD, PyData.canLay0, PyData.canLayAll0, h1], ?_⟩
  simp only [rowMD, PyData.depth, PyData.depthAll]; lia
theorem do_rowM (m : Mt) : DOk (rowMD m) := ⟨(lay_rowM m).1, by have := (lay_rowM m).2; lia⟩
theorem lt_rows (m m' : Mt) : ∃ t, LtAV σ (rowM m) (rowM m') t := by
  obtain ⟨b1, h1⟩ := lt_some m.1 m'.1
  obtain ⟨b2, h2⟩ := lt_some m.2 m'.2
  have : ∃ t, ltD (rowMD m) (rowMD m') = some t := by
    simp only [rowMD, mtD, ltD, ltDL, h1, h2]
    split
    · split
      · exact ⟨_, rfl⟩
      · split
        · split
          · exact ⟨_, rfl⟩
          · exact ⟨_, rfl⟩
        · exact ⟨_, rfl⟩
    · exact ⟨_, rfl⟩
  obtain ⟨t, ht⟩ := this
  exact ⟨t, rowMD m, rowMD m', rd_rowM m, rd_rowM m', do_rowM m, do_rowM m', ht⟩
theorem matches_ok (G : Gd X (hK P)) (hd : d < 599) {p pg : Addr} {ns : List Int} {gs : List Mark} (hp : listAt p (ns.map .int) σ) (hpg : listAt pg (gs.map mkAV) σ) (hg : ∀ m ∈ gs, mSm m) (hgl : gs.length ≤ 7)
    (q : ∀ σ' r (ms : List Mt), Ext σ σ' → σ r = none → (∀ m ∈ ms, mtS m) → ms.length ≤ 8 → listAt r (ms.map mtAV) σ' → Q (.ref r) σ') : CallOk X 63 d [.ref p, .ref pg] Q Z σ := by
  refine' callK (m := _) ["_law_script", "_law_group_here"] [("_law_script", 0), ("_law_group_here", 1), ("_law_found", 2), ("_law_k", 3), ("_law_match_here", 4), ("_law_row", 5)] G rfl rfl (bind2 fun a b => rfl) rfl rfl rfl rfl rfl rfl rfl rfl (fun env E => ?snd) (by lia) rfl ?bd
  case snd =>
    repeat' first
      | ((with_reducible show SoundSs _ _ _ [] _); (with_reducible refine' sound_nil))
      | ((with_reducible show SoundSs _ _ _ (_ :: _) _); (with_reducible refine' sound_cons ?_ ?_))
      | ((with_reducible show SoundS _ _ _ (.If _ _ _ _) _); (with_reducible refine' sound_if ?_ ?_ ?_))
      | ((with_reducible show SoundS _ _ _ (.Return (some _) _) _); (with_reducible refine' sound_ret ?_))
      | ((with_reducible show SoundS _ _ _ (.Assign [.Name _ _] _ _) _); (with_reducible refine' w_set (by assumption) ?r1 ?r2 ?_ ?r3); (case r1 => exact rfl); (case r2 => exact rfl); (case r3 => exact rfl))
      | ((with_reducible show SoundS _ _ _ (.For _ _ _ _ _) _); (with_reducible refine' w_for ?r1 ?_ ?_ ?_); (case r1 => exact rfl))
      | ((with_reducible show SoundS _ _ _ (.Expr _ _) _); (with_reducible refine' w_ex (by assumption) ?_ ?r1); (case r1 => exact rfl))
      | ((with_reducible show SoundC _ _ _ [] _); (with_reducible refine' w_cNone))
      | ((with_reducible show SoundT _ _ _ (.Name _ _) _); (with_reducible refine' w_tOne (by assumption) ?r1 ?r2); (case r1 => exact rfl); (case r2 => exact rfl))
      | ((with_reducible show SoundTC _ _ _ (.Name _ _) _); (with_reducible refine' w_tcOne (by assumption) ?r1 ?r2); (case r1 => exact rfl); (case r2 => exact rfl))
      | ((with_reducible show SoundI _ _ _ _ _ _); (with_reducible refine' w_it ?_))
      | ((with_reducible show SoundB _ _ _ (.Compare _ _ _ _) _); (with_reducible refine' soundB_cmp ?_ ?_))
      | ((with_reducible show SoundE _ _ _ (.Name _ _) _); (with_reducible refine' w_loc (by assumption) ?r1 ?r2 ?r3); (case r1 => exact rfl); (case r2 => exact rfl); (case r3 => exact rfl))
      | ((with_reducible show SoundE _ _ _ (.Constant (.int _) _ _) _); (with_reducible refine' sound_int))
      | ((with_reducible show SoundE _ _ _ (.Constant .none _ _) _); (with_reducible refine' sound_none))
      | ((with_reducible show SoundE _ _ _ (.Tuple _ _ _) _); (with_reducible refine' sound_tup ?_))
      | ((with_reducible show SoundE _ _ _ (.List _ _) _); (with_reducible refine' sound_lst ?_))
      | ((with_reducible show SoundEs _ _ _ [] _); (with_reducible refine' w_es0))
      | ((with_reducible show SoundEs _ _ _ (_ :: _) _); (with_reducible refine' w_es1 ?r1 ?_ ?_); (case r1 => exact rfl))
      | ((with_reducible show SoundOps _ _ _ [_] _ _); (with_reducible refine' SoundOps.one ?_ ?r1); (case r1 => exact rfl))
      | ((with_reducible show SoundE _ _ _ (.BinOp _ _ _ _) _); (with_reducible refine' sound_bin ?_ ?_))
      | ((with_reducible show SoundE _ _ _ (.Subscript _ _ _) _); (with_reducible refine' sound_idx ?_ ?_ ?r1); (case r1 => exact rfl))
      | ((with_reducible show SoundE _ _ _ (.ListComp _ _ _ _) _); (with_reducible refine' w_comp (by assumption) ?r1 ?r2 ?r3 ?_ (fun env' E' => ?_) (fun env' E' => ?_) (fun env' E' => ?_)); (case r1 => exact rfl); (case r2 => exact rfl); (case r3 => exact rfl))
      | ((with_reducible show SoundE _ _ _ (.Call (.Attribute _ "append" _) _ [] _) _); (with_reducible refine' w_append ?r1 ?r2 ?r3 ?_ ?_); (case r1 => exact (fun _ => rfl)); (case r2 => exact rfl); (case r3 => exact rfl))
      | ((with_reducible show SoundE _ _ _ (.Call (.Name "len" _) _ [] _) _); (with_reducible refine' w_len (by assumption) (by assumption) bi_len ?r1 ?_); (case r1 => exact rfl))
      | ((with_reducible show SoundE _ _ _ (.Call (.Name "range" _) _ [] _) _); (with_reducible refine' w_range (by assumption) (by assumption) bi_range ?r1 ?_); (case r1 => exact rfl))
      | ((with_reducible show SoundE _ _ _ (.Call (.Name "sorted" _) _ [] _) _); (with_reducible refine' w_prim (by assumption) (by assumption) bi_sorted ?r1 sound_sortP ?r2 ?_); (case r1 => exact (.inl ⟨_, rfl⟩)); (case r2 => exact rfl))
      | ((with_reducible show SoundE _ _ _ (.Call (.Name _ _) _ [] _) _); (with_reducible refine' w_call (by assumption) (by assumption) ?r1 ?r2 ?r3 ?_); (case r1 => exact rfl); (case r2 => exact ⟨_, _, rfl, rfl⟩); (case r3 => exact rfl))
  have cell : ∀ {k : Int} {σ' : AHeap} {Q' : Post} {Z' : XP}, 0 ≤ k → Ext σ σ' → Q' (.int (ns.getD k.toNat 0)) σ' → CallOk X 48 (d + 1) [.ref p, .int k] Q' Z' σ' := fun h0 e q => cell_at_ok G (by lia) h0 (e.list hp) q
  obtain ⟨n, hn, hn'⟩ := fmod_nat (ns.getD (Int.toNat 2) 0) 9 (by lia)
  have hn : (ns.getD (Int.toNat 2) 0).fmod 9 = (n : Int) := hn
  repeat (first | with_reducible (first | refine q_consO fun S1 kn1 => ?_ | refine q_set ?_ | refine q_ev0 ?_) | with_reducible (first | refine q_lst ?_) | ((with_reducible refine' q_tl ?e ?_); case e => rfl))
  refine alf fun σ1 rf e1 hrf l1 => ?_
  repeat (first | with_reducible (first | refine q_consO fun S1 kn1 => ?_ | refine q_k ?_ | refine q_prim ?_ | refine q_ev1 ?_ | refine q_ev0 ?_ | refine q_callF ?_) | ((with_reducible refine' q_loc ?e ?_); case e => rfl) | with_reducible (first | refine q_next (by assumption) ?_ | refine q_bin ?_ | refine q_fr ?_ | refine q_itP ?_))
  refine cell (by lia) e1 ?_
  repeat (first | with_reducible (first | refine q_k ?_ | refine q_ev0 ?_) | with_reducible (first | refine q_rng1 ?_ | refine q_mod (by decide) ?_))
  rw [hn]
  repeat (first | with_reducible (first | refine q_itemsR (by omega) ?_))
  refine forL_range (fun k l' σ' => ∃ (fs : List Mt) (a b c : Option AV), Ext σ σ' ∧ σ' rf = some (.list (fs.map rowM)) ∧ fs.length ≤ k ∧ (∀ m ∈ fs, mtS m) ∧ l' = [some (.ref p), some (.ref pg), some (.ref rf), a, b, c]) ?_ ?_ ⟨[], _, _, _, e1, l1, by simp, by simp, rfl⟩
  · rintro k l' σ' K hk ⟨fs, a, b, c, e, lf, hfl, hfs, rfl⟩ hK
    refine ⟨_, rfl, ?_⟩
    repeat (first | with_reducible (first | refine q_consO fun S1 kn1 => ?_ | refine q_set ?_ | refine q_k ?_ | refine q_ev1 ?_ | refine q_ev0 ?_ | refine q_callF ?_) | ((with_reducible refine' q_loc ?e ?_); case e => rfl) | with_reducible (first | refine q_bin ?_ | refine q_add ?_))
    refine cell (by lia) e ?_
    repeat (first | with_reducible (first | refine q_k ?_ | refine q_ev1 ?_ | refine q_ev0 ?_) | ((with_reducible refine' q_loc ?e ?_); case e => rfl) | with_reducible (first | refine q_bin ?_ | refine q_add ?_ | refine q_mulL (by decide) ?_))
    refine match_ok G (by lia) (e.list hpg) hg hgl fun σ2 v e2 hv => ?_
    have lf2 := e2 _ _ lf
    rcases hv with rfl | ⟨m, rfl, hm⟩
    ·
      repeat (first | with_reducible (first | refine q_consO fun S1 kn1 => ?_ | refine q_if ?_ | refine q_isB ?_ | refine q_k ?_ | refine q_cmp ?_ | refine q_chain1 ?_) | ((with_reducible refine' q_loc ?e ?_); case e => rfl) | with_reducible (first | refine q_nil ?_ | refine q_next (by assumption) ?_ | refine q_isNotNone ?_) | ((with_reducible refine' q_ifFc ?e ?_); case e => rfl))
      exact ⟨trivial, hK _ _ ⟨fs, _, _, _, e.trans e2, lf2, by lia, hfs, rfl⟩⟩
    · have hrow : rowM m = .tup [.int ((m.1.length : Int) + m.2.length), .tup [.tup (m.1.map .int), .tup (m.2.map .int)]] := rfl
      unfold mtAV
      repeat (first | with_reducible (first | refine q_consO fun S1 kn1 => ?_ | refine q_set ?_ | refine q_if ?_ | refine q_isB ?_ | refine q_k ?_ | refine q_idx ?_ | refine q_cmp ?_ | refine q_chain1 ?_ | refine q_prim ?_ | refine q_ev1 ?_ | refine q_ev0 ?_) | ((with_reducible refine' q_loc ?e ?_); case e => rfl) | with_reducible (first | refine q_next (by assumption) ?_ | refine q_tup ?_ | refine q_bin ?_ | refine q_lenTM ?_ | refine q_add ?_ | refine q_isNotNone ?_ | refine q_tupIdx rfl ?_) | ((with_reducible refine' q_ifTc ?e ?_); case e => rfl) | ((with_reducible refine' q_tl ?e ?_); case e => rfl))
      refine .notIn ⟨fs.map rowMD, rowMD m, .inl (.list (.inl lf2) (rdL_map rd_rowM _)), rd_rowM m, dok_list fun d hd => ?_, do_rowM m, ?_⟩
      · obtain ⟨m', _, rfl⟩ := List.mem_map.mp hd
        exact ⟨(lay_rowM m').1, by have := (lay_rowM m').2; lia⟩
      generalize ((fs.map rowMD).any fun y => PyData.eqv y (rowMD m)) = bb
      cases bb
      ·
        repeat (first | with_reducible (first | refine q_consO fun S1 kn1 => ?_ | refine q_isB ?_ | refine q_ev1 ?_ | refine q_ev0 ?_) | ((with_reducible refine' q_loc ?e ?_); case e => rfl) | with_reducible (first | refine q_ex ?_ | refine q_meth ?_ | refine q_exM (by assumption) ?_) | ((with_reducible refine' q_ifTc ?e ?_); case e => rfl))
        refine q_app lf2 (by simp; lia) ?_
        repeat (first | with_reducible (first | refine q_nil ?_ | refine q_next (by assumption) ?_ | refine q_nr ?_))
        refine ⟨trivial, hK _ _ ⟨fs ++ [m], _, _, _, (e.trans e2).put hrf, by rw [AHeap.set_self, List.map_append]; rfl, by simp; lia, fun m' hm' => ?_, rfl⟩⟩
        rcases List.mem_append.mp hm' with h | h
        · exact hfs m' h
        · simp at h; subst h; exact hm
      ·
        repeat (first | with_reducible (first | refine q_isB ?_) | with_reducible (first | refine q_nil ?_ | refine q_next (by assumption) ?_) | ((with_reducible refine' q_ifFc ?e ?_); case e => rfl))
        exact ⟨trivial, hK _ _ ⟨fs, _, _, _, e.trans e2, lf2, by lia, hfs, rfl⟩⟩
  · rintro l' σ' ⟨fs, a, b, c, e, lf, hfl, hfs, rfl⟩
    repeat (first | with_reducible (first | refine q_consO fun S1 kn1 => ?_ | refine q_ret ?_ | refine q_prim ?_ | refine q_ev1 ?_ | refine q_ev0 ?_) | ((with_reducible refine' q_loc ?e ?_); case e => rfl) | with_reducible (first | refine q_next (by assumption) ?_ | refine q_lc ?_ | refine q_itP ?_))
    refine sortP_of (.inl lf) (by lia) (.inl fun x hx => ?_) (fun x _ y _ => lt_rows x y) fun zs σ2 r2 hz e2 hr2 l2 => ?_
    · obtain ⟨m, _, rfl⟩ := List.mem_map.mp hx
      exact ⟨_, _, rfl⟩
    repeat (first | with_reducible (first | refine q_itemsL (by assumption) ?_))
    have hzl := hz.length_eq
    refine compL_map zs rowM mtAV (fun m => [some (.ref p), some (.ref pg), some (.ref rf), a, b, c, none, some (.tup [.int ((m.1.length : Int) + m.2.length), mtAV m])]) (fun x => rfl) (fun x y => rfl) ?_ l2 (by lia) ?_
    · intro m hm R hR
      repeat (first | with_reducible (first | refine q_k ?_ | refine q_idx ?_) | ((with_reducible refine' q_loc ?e ?_); case e => rfl) | with_reducible (first | refine q_tupIdx rfl ?_))
      exact hR
    refine alf fun σ3 r3 e3 hr3 l3 => ?_
    repeat (first | with_reducible (first | refine q_retK (by assumption) ?_))
    exact q _ _ zs (e.trans (e2.trans e3)) ((e.trans e2).none hr3) (fun m hm => hfs m (hz.mem_iff.mp hm)) (by lia) (.inl l3)
end
end Mine

set_option maxRecDepth 100000
set_option linter.unusedVariables false
set_option autoImplicit false
set_option linter.unusedSimpArgs false
set_option maxHeartbeats 8000000
set_option pp.deepTerms false
namespace Mine
open PySem PyProof.Rows PySem.SeqAt PySem.W
section
variable {X : Cx} {P : Params} {Q : Post} {Z : XP} {σ : AHeap} {d : Nat}
theorem law_marks_ok (G : Gd X (hK P)) (hd : d < 600) {m : Mt} (hm : mtOk m) (q : ∀ σ' r, Ext σ σ' → σ r = none → listAt r ((marksOf m).map mkAV) σ' → Q (.ref r) σ') : CallOk X 68 d [mtAV m] Q Z σ := by
  obtain ⟨ms, ns⟩ := m
  obtain ⟨h1, h2⟩ := hm
  have h1 : ms.length ≤ 4 := h1
  have h2 : ns.length ≤ 4 := h2
  rw [marksOf_map] at q
  unfold mtAV
  refine' callK (m := _) ["_law_match_here"] [("_law_match_here", 0)] G rfl rfl (bind1 fun a => rfl) rfl rfl rfl rfl rfl rfl rfl rfl (fun env E => ?snd) (by lia) rfl ?bd
  case snd =>
    repeat' first
      | ((with_reducible show SoundSs _ _ _ [] _); (with_reducible refine' sound_nil))
      | ((with_reducible show SoundSs _ _ _ (_ :: _) _); (with_reducible refine' sound_cons ?_ ?_))
      | ((with_reducible show SoundS _ _ _ (.Return (some _) _) _); (with_reducible refine' sound_ret ?_))
      | ((with_reducible show SoundC _ _ _ [] _); (with_reducible refine' w_cNone))
      | ((with_reducible show SoundTC _ _ _ (.Name _ _) _); (with_reducible refine' w_tcOne (by assumption) ?r1 ?r2); (case r1 => exact rfl); (case r2 => exact rfl))
      | ((with_reducible show SoundI _ _ _ _ _ _); (with_reducible refine' w_it ?_))
      | ((with_reducible show SoundE _ _ _ (.Name _ _) _); (with_reducible refine' w_loc (by assumption) ?r1 ?r2 ?r3); (case r1 => exact rfl); (case r2 => exact rfl); (case r3 => exact rfl))
      | ((with_reducible show SoundE _ _ _ (.Constant (.int _) _ _) _); (with_reducible refine' sound_int))
      | ((with_reducible show SoundE _ _ _ (.Constant (.str _) _ _) _); (with_reducible refine' sound_str))
      | ((with_reducible show SoundE _ _ _ (.Tuple _ _ _) _); (with_reducible refine' sound_tup ?_))
      | ((with_reducible show SoundEs _ _ _ [] _); (with_reducible refine' w_es0))
      | ((with_reducible show SoundEs _ _ _ (_ :: _) _); (with_reducible refine' w_es1 ?r1 ?_ ?_); (case r1 => exact rfl))
      | ((with_reducible show SoundE _ _ _ (.BinOp _ _ _ _) _); (with_reducible refine' sound_bin ?_ ?_))
      | ((with_reducible show SoundE _ _ _ (.Subscript _ _ _) _); (with_reducible refine' sound_idx ?_ ?_ ?r1); (case r1 => exact rfl))
      | ((with_reducible show SoundE _ _ _ (.ListComp _ _ _ _) _); (with_reducible refine' w_comp (by assumption) ?r1 ?r2 ?r3 ?_ (fun env' E' => ?_) (fun env' E' => ?_) (fun env' E' => ?_)); (case r1 => exact rfl); (case r2 => exact rfl); (case r3 => exact rfl))
  repeat (first | with_reducible (first | refine q_consO fun S1 kn1 => ?_ | refine q_ret ?_ | refine q_k ?_ | refine q_idx ?_) | ((with_reducible refine' q_loc ?e ?_); case e => rfl) | with_reducible (first | refine q_bin ?_ | refine q_lc ?_ | refine q_itP ?_ | refine q_itemsT ?_ | refine q_tupIdx rfl ?_))
  refine compL_map ms _ (fun k => mkAV ("bank", k)) (fun p => [some (.tup [.tup (ms.map .int), .tup (ns.map .int)]), none, some (.int p)]) (fun x => rfl) (fun x y => rfl) ?_ trivial (by lia) ?_
  · intro p hp R hR
    repeat (first | with_reducible (first | refine q_k ?_ | refine q_ev1 ?_ | refine q_ev0 ?_) | ((with_reducible refine' q_loc ?e ?_); case e => rfl) | with_reducible (first | refine q_tup ?_) | ((with_reducible refine' q_tl ?e ?_); case e => rfl))
    exact hR
  refine alf fun σ1 r1 e1 hr1 l1 => ?_
  repeat (first | with_reducible (first | refine q_k ?_ | refine q_idx ?_) | ((with_reducible refine' q_loc ?e ?_); case e => rfl) | with_reducible (first | refine q_lc ?_ | refine q_itP ?_ | refine q_itemsT ?_ | refine q_tupIdx rfl ?_))
  refine compL_map ns _ (fun k => mkAV ("book", k)) (fun p => [some (.tup [.tup (ms.map .int), .tup (ns.map .int)]), none, some (.int p)]) (fun x => rfl) (fun x y => rfl) ?_ trivial (by lia) ?_
  · intro p hp R hR
    repeat (first | with_reducible (first | refine q_k ?_ | refine q_ev1 ?_ | refine q_ev0 ?_) | ((with_reducible refine' q_loc ?e ?_); case e => rfl) | with_reducible (first | refine q_tup ?_) | ((with_reducible refine' q_tl ?e ?_); case e => rfl))
    exact hR
  refine alf fun σ2 r2 e2 hr2 l2 => ?_
  refine addL_of (.inl (e2 _ _ l1)) (.inl l2) (by rw [List.length_map, List.length_map]; lia) fun σ3 r3 e3 hr3 l3 => ?_
  repeat (first | with_reducible (first | refine q_retK (by assumption) ?_))
  exact q _ _ (e1.trans (e2.trans e3)) ((e1.trans e2).none hr3) (.inl l3)

/-- whole numbers that two lists of marks are empty by -/
theorem q_eqNilM {p r : Addr} {ns : List Mark} (hk : ∀ m ∈ ns, mOk m) (hp : listAt p (ns.map mkAV) σ) (hr : σ r = some (.list [])) (h : Q (.bool ns.isEmpty) σ) : cmpA X .Eq (.ref p) (.ref r) Q σ := by
  refine q_eqD (.list hp (rd_marks _)) (.list (.inl hr) .nil) (do_list hk) ⟨by simp [PyData.canLay0, PyData.canLayAll0], by simp [PyData.depth, PyData.depthAll]⟩ ?_
  rw [eqv_nilL, List.isEmpty_map]; exact h

/-- the most marks that matches can take: the def calls itself -/
theorem law_most_ok (G : Gd X (hK P)) : ∀ (n : Nat) {d : Nat} {σ : AHeap} {Q : Post} {Z : XP} {r : List Mark} {ms : List Mt} {pr pm : Addr}, ms.length = n → d + 2 * n < 590 → (∀ y ∈ r, mOk y) → r.length ≤ 7 → (∀ m ∈ ms, mtOk m) → ms.length ≤ 8 → listAt pr (r.map mkAV) σ → listAt pm (ms.map mtAV) σ →
    (∀ σ', Ext σ σ' → Q (.int (mostF ms r)) σ') → CallOk X 73 d [.ref pr, .ref pm] Q Z σ := by
  intro n
  induction n using Nat.strongRecOn with
  | _ n ih =>
  intro d σ Q Z r ms pr pm hn hd hr hl hm hml lr lm q
  refine' callK (m := _) ["_law_rest", "_law_matches_here"] [("_law_rest", 0), ("_law_matches_here", 1), ("_law_best", 2), ("_law_k", 3), ("_law_match_here", 4), ("_law_marks_here", 5), ("_law_less", 6)] G rfl rfl (bind2 fun a b => rfl) rfl rfl rfl rfl rfl rfl rfl rfl (fun env E => ?snd) (by lia) rfl ?bd
  case snd =>
    repeat' first
      | ((with_reducible show SoundSs _ _ _ [] _); (with_reducible refine' sound_nil))
      | ((with_reducible show SoundSs _ _ _ (_ :: _) _); (with_reducible refine' sound_cons ?_ ?_))
      | ((with_reducible show SoundS _ _ _ (.If _ _ _ _) _); (with_reducible refine' sound_if ?_ ?_ ?_))
      | ((with_reducible show SoundS _ _ _ (.Return (some _) _) _); (with_reducible refine' sound_ret ?_))
      | ((with_reducible show SoundS _ _ _ (.Assign [.Name _ _] (.ListComp _ _ _ _) _) _); (with_reducible refine' w_setComp (by assumption) ?r1 ?r2 ?r3 ?r4 ?r5 ?_ (fun env' E' => ?_) (fun env' E' => ?_) (fun env' E' => ?_)); (case r1 => exact rfl); (case r2 => exact rfl); (case r3 => exact rfl); (case r4 => exact rfl); (case r5 => exact rfl))
      | ((with_reducible show SoundS _ _ _ (.Assign [.Name _ _] _ _) _); (with_reducible refine' w_set (by assumption) ?r1 ?r2 ?_ ?r3); (case r1 => exact rfl); (case r2 => exact rfl); (case r3 => exact rfl))
      | ((with_reducible show SoundS _ _ _ (.For _ _ _ _ _) _); (with_reducible refine' w_for ?r1 ?_ ?_ ?_); (case r1 => exact rfl))
      | ((with_reducible show SoundC _ _ _ (_ :: _) _); (with_reducible refine' w_cSome ?_))
      | ((with_reducible show SoundT _ _ _ (.Tuple _ _ _) _); (with_reducible refine' w_tMany (by assumption) ?_))
      | ((with_reducible show Names _ _ [] _); (with_reducible refine' w_nNil))
      | ((with_reducible show Names _ _ (_ :: _) _); (with_reducible refine' w_nCons (by assumption) ?r1 ?r2 ?_); (case r1 => exact rfl); (case r2 => exact rfl))
      | ((with_reducible show SoundTC _ _ _ (.Name _ _) _); (with_reducible refine' w_tcOne (by assumption) ?r1 ?r2); (case r1 => exact rfl); (case r2 => exact rfl))
      | ((with_reducible show SoundI _ _ _ _ (.Call (.Name "enumerate" _) _ _ _) _); (with_reducible refine' w_enum (by assumption) (by assumption) bi_enumerate ?r1 ?r2 ?_); (case r1 => exact rfl); (case r2 => exact rfl))
      | ((with_reducible show SoundI _ _ _ _ _ _); (with_reducible refine' w_it ?_))
      | ((with_reducible show SoundB _ _ _ (.Compare _ _ _ _) _); (with_reducible refine' soundB_cmp ?_ ?_))
      | ((with_reducible show SoundE _ _ _ (.Name _ _) _); (with_reducible refine' w_loc (by assumption) ?r1 ?r2 ?r3); (case r1 => exact rfl); (case r2 => exact rfl); (case r3 => exact rfl))
      | ((with_reducible show SoundE _ _ _ (.Constant (.int _) _ _) _); (with_reducible refine' sound_int))
      | ((with_reducible show SoundE _ _ _ (.List _ _) _); (with_reducible refine' sound_lst ?_))
      | ((with_reducible show SoundEs _ _ _ [] _); (with_reducible refine' w_es0))
      | ((with_reducible show SoundEs _ _ _ (_ :: _) _); (with_reducible refine' w_es1 ?r1 ?_ ?_); (case r1 => exact rfl))
      | ((with_reducible show SoundOps _ _ _ [_] _ _); (with_reducible refine' SoundOps.one ?_ ?r1); (case r1 => exact rfl))
      | ((with_reducible show SoundE _ _ _ (.BinOp _ _ _ _) _); (with_reducible refine' sound_bin ?_ ?_))
      | ((with_reducible show SoundE _ _ _ (.Subscript _ (.Slice _ _ _ _) _) _); (with_reducible refine' sound_slice ?_ ?_ ?_))
      | ((with_reducible show SoundO _ _ _ none _); (with_reducible refine' w_oNone))
      | ((with_reducible show SoundO _ _ _ (some _) _); (with_reducible refine' w_oSome ?_))
      | ((with_reducible show SoundE _ _ _ (.ListComp _ _ _ _) _); (with_reducible refine' w_comp (by assumption) ?r1 ?r2 ?r3 ?_ (fun env' E' => ?_) (fun env' E' => ?_) (fun env' E' => ?_)); (case r1 => exact rfl); (case r2 => exact rfl); (case r3 => exact rfl))
      | ((with_reducible show SoundE _ _ _ (.Call (.Name "len" _) _ [] _) _); (with_reducible refine' w_len (by assumption) (by assumption) bi_len ?r1 ?_); (case r1 => exact rfl))
      | ((with_reducible show SoundE _ _ _ (.Call (.Name "max" _) _ [] _) _); (with_reducible refine' w_prim (by assumption) (by assumption) bi_max ?r1 sound_max ?r2 ?_); (case r1 => exact (.inl ⟨_, rfl⟩)); (case r2 => exact rfl))
      | ((with_reducible show SoundE _ _ _ (.Call (.Name _ _) _ [] _) _); (with_reducible refine' w_call (by assumption) (by assumption) ?r1 ?r2 ?r3 ?_); (case r1 => exact rfl); (case r2 => exact ⟨_, _, rfl, rfl⟩); (case r3 => exact rfl))
  repeat (first | with_reducible (first | refine q_consO fun S1 kn1 => ?_ | refine q_set ?_ | refine q_k ?_) | ((with_reducible refine' q_loc ?e ?_); case e => rfl) | with_reducible (first | refine q_next (by assumption) ?_ | refine q_fr ?_ | refine q_itE ?_ | refine q_exE (by assumption) ?_))
  refine forL_at _ (fun k l' σ' => Ext σ σ' ∧ ∃ (b : Nat) (a3 a4 a5 a6 : Option AV), max b (mostF (ms.drop k) r) = mostF ms r ∧ l' = [some (.ref pr), some (.ref pm), some (.int b), a3, a4, a5, a6]) ?_ ?_ ⟨.refl _, 0, _, _, _, _, by simp, rfl⟩
  · rintro k x l' σ' K hx ⟨e, b, a3, a4, a5, a6, hb, rfl⟩ hK
    rw [enumL_get, List.getElem?_map] at hx
    obtain ⟨y, hy, rfl⟩ := Option.map_eq_some_iff.mp hx
    obtain ⟨m, hm', rfl⟩ := Option.map_eq_some_iff.mp hy
    rw [Nat.zero_add]
    have hmm := hm m (List.mem_of_getElem? hm')
    have hmk := marksOf_ok m
    have hkl : k < ms.length := (List.getElem?_eq_some_iff.mp hm').1
    have hdr : ms.drop k = m :: ms.drop (k + 1) := by rw [List.drop_eq_getElem_cons hkl, (List.getElem?_eq_some_iff.mp hm').2]
    rw [hdr] at hb
    simp only [mostF] at hb
    have hmkl : (marksOf m).length ≤ 8 := by unfold marksOf; rw [List.length_append, List.length_map, List.length_map]; have := hmm.1; have := hmm.2; lia
    refine ⟨_, rfl, ?_⟩
    repeat (first | with_reducible (first | refine q_consO fun S1 kn1 => ?_ | refine q_set ?_ | refine q_ev1 ?_ | refine q_ev0 ?_ | refine q_callF ?_) | ((with_reducible refine' q_loc ?e ?_); case e => rfl))
    refine law_marks_ok G (by lia) hmm fun σ1 r1 e1 hr1 l1 => ?_
    have e01 := e.trans e1
    have lr1 := e01.list lr
    repeat (first | with_reducible (first | refine q_consO fun S1 kn1 => ?_ | refine q_if ?_ | refine q_cmp ?_) | ((with_reducible refine' q_loc ?e ?_); case e => rfl) | with_reducible (first | refine q_next (by assumption) ?_ | refine q_lc ?_ | refine q_itP ?_ | refine q_itemsL (by assumption) ?_))
    refine compLf_as (marksOf m) (fun y => !decide (y ∈ r)) mkAV mkAV (fun y => [some (.ref pr), some (.ref pm), some (.int b), some (.int (k : Nat)), some (mtAV m), some (.ref r1), a6, none, some (mkAV y)]) (fun x _ => rfl) (fun x _ y _ => rfl) ?_ ?_ l1 (by lia) ?_
    · intro y hy R hR
      have hyy := hmk y hy
      repeat (first | with_reducible (first | refine q_isB ?_ | refine q_cmp ?_ | refine q_chain1 ?_) | ((with_reducible refine' q_loc ?e ?_); case e => rfl) | with_reducible (first | refine q_notInMarks (by assumption) (by assumption) (by assumption) ?_))
      exact hR
    · intro y hy hpy R hR
      repeat (first | ((with_reducible refine' q_loc ?e ?_); case e => rfl))
      exact hR
    refine alf fun σ2 r2 e2 hr2 l2 => ?_
    repeat (first | with_reducible (first | refine q_chain1 ?_ | refine q_ev0 ?_) | with_reducible (first | refine q_lst ?_) | ((with_reducible refine' q_tl ?e ?_); case e => rfl))
    refine alf fun σ3 r3 e3 hr3 l3 => ?_
    have l2 : listAt r2 (((marksOf m).filter fun y => !decide (y ∈ r)).map mkAV) σ3 := .inl (e3 _ _ l2)
    refine q_eqNilM (fun y hy => hmk y (List.mem_filter.mp hy).1) l2 l3 ?_
    have e03 := e01.trans (e2.trans e3)
    have l1 := (e2.trans e3).list l1
    have lr3 := e03.list lr
    have lm3 := e03.list lm
    clear e1 e2 e3 hr1 hr2 hr3 l2 l3 lr1 e01
    by_cases ha : ∀ y ∈ marksOf m, y ∈ r
    · have he : ((marksOf m).filter fun y => !decide (y ∈ r)) = [] := List.filter_eq_nil_iff.mpr fun y hy => by rw [decide_eq_true (ha y hy)]; exact Bool.false_ne_true
      rw [he]
      rw [if_pos ha] at hb
      repeat (first | with_reducible (first | refine q_consO fun S1 kn1 => ?_ | refine q_set ?_ | refine q_isB ?_) | ((with_reducible refine' q_loc ?e ?_); case e => rfl) | with_reducible (first | refine q_lc ?_ | refine q_itP ?_ | refine q_itemsL (by assumption) ?_) | ((with_reducible refine' q_ifTc ?e ?_); case e => rfl))
      refine compLf_as r (fun y => !decide (y ∈ marksOf m)) mkAV mkAV (fun y => [some (.ref pr), some (.ref pm), some (.int b), some (.int (k : Nat)), some (mtAV m), some (.ref r1), a6, none, some (mkAV y)]) (fun x _ => rfl) (fun x _ y _ => rfl) ?_ ?_ lr3 (by lia) ?_
      · intro y hy R hR
        have hyy := hr y hy
        repeat (first | with_reducible (first | refine q_isB ?_ | refine q_cmp ?_ | refine q_chain1 ?_) | ((with_reducible refine' q_loc ?e ?_); case e => rfl) | with_reducible (first | refine q_notInMarks (by assumption) (by assumption) (by assumption) ?_))
        exact hR
      · intro y hy hpy R hR
        repeat (first | ((with_reducible refine' q_loc ?e ?_); case e => rfl))
        exact hR
      refine alf fun σ4 r4 e4 hr4 l4 => ?_
      have l4 : listAt r4 ((remB r m).map mkAV) σ4 := .inl l4
      have l14 := e4.list l1
      have lm4 := e4.list lm3
      repeat (first | with_reducible (first | refine q_consO fun S1 kn1 => ?_ | refine q_set ?_ | refine q_k ?_ | refine q_prim ?_ | refine q_ev1 ?_ | refine q_ev0 ?_ | refine q_callF ?_) | ((with_reducible refine' q_loc ?e ?_); case e => rfl) | with_reducible (first | refine q_next (by assumption) ?_ | refine q_bin ?_ | refine q_exI ?_ | refine q_add ?_ | refine q_slice ?_ | refine q_optN ?_ | refine q_optS ?_ | refine q_lenLM (by assumption) ?_ | refine q_slL (by assumption) ?_))
      refine alf fun σ5 r5 e5 hr5 l5 => ?_
      have l5 : listAt r5 ((ms.drop (k + 1)).map mtAV) σ5 := by
        refine .inl ?_
        rw [l5, show ((k : Int) + 1) = ((k + 1 : Nat) : Int) from rfl, cut_drop _ _ (by simp; lia), List.map_drop]
      repeat (first | with_reducible (first | refine q_ev0 ?_))
      refine ih (ms.drop (k + 1)).length (by rw [List.length_drop]; lia) (r := remB r m) (ms := ms.drop (k + 1)) rfl (by rw [List.length_drop]; lia) (fun y hy => hr y (List.mem_filter.mp hy).1) (Nat.le_trans (List.length_filter_le _ _) hl) (fun m hm'' => hm m (List.mem_of_mem_drop hm'')) (by rw [List.length_drop]; lia) (e5.list l4) l5 fun σ6 e6 => ?_
      repeat (first | with_reducible (first | refine q_ev0 ?_) | with_reducible (first | refine q_nil ?_ | refine q_next (by assumption) ?_ | refine q_add ?_ | refine q_max2 ?_))
      have hmx : max (b : Int) ((marksOf m).length + (mostF (ms.drop (k + 1)) (remB r m) : Int)) = ((max b (szM m + mostF (ms.drop (k + 1)) (remB r m)) : Nat) : Int) := by
        show max (b : Int) ((marksOf m).length + _) = _
        rcases Nat.le_total b (szM m + mostF (ms.drop (k + 1)) (remB r m)) with h | h
        · rw [Nat.max_eq_right h, Int.max_eq_right (by show (b : Int) ≤ ((marksOf m).length : Int) + _; have : b ≤ (marksOf m).length + mostF (ms.drop (k + 1)) (remB r m) := h; omega)]; rfl
        · rw [Nat.max_eq_left h, Int.max_eq_left (by show ((marksOf m).length : Int) + _ ≤ (b : Int); have : (marksOf m).length + mostF (ms.drop (k + 1)) (remB r m) ≤ b := h; omega)]
      rw [hmx]
      have e06 := e03.trans (e4.trans (e5.trans e6))
      exact ⟨e06.list lm, hK _ _ ⟨e06, _, _, _, _, _, by rw [← hb]; omega, rfl⟩⟩
    · have he : ((marksOf m).filter fun y => !decide (y ∈ r)).isEmpty = false := by
        cases h : ((marksOf m).filter fun y => !decide (y ∈ r)) with
        | nil => exact absurd (fun y hy => Decidable.byContradiction fun hn => List.filter_eq_nil_iff.mp h y hy (by rw [decide_eq_false hn]; rfl)) ha
        | cons a b => rfl
      rw [he]
      rw [if_neg ha] at hb
      repeat (first | with_reducible (first | refine q_isB ?_) | with_reducible (first | refine q_nil ?_ | refine q_next (by assumption) ?_) | ((with_reducible refine' q_ifFc ?e ?_); case e => rfl))
      exact ⟨lm3, hK _ _ ⟨e03, b, _, _, _, _, by rw [← hb]; omega, rfl⟩⟩
  · rintro l' σ' ⟨e, b, a3, a4, a5, a6, hb, rfl⟩
    rw [enumL_length, List.length_map, List.drop_length] at hb
    repeat (first | with_reducible (first | refine q_consO fun S1 kn1 => ?_ | refine q_ret ?_) | ((with_reducible refine' q_loc ?e ?_); case e => rfl) | with_reducible (first | refine q_next (by assumption) ?_ | refine q_retK (by assumption) ?_))
    have : b = mostF ms r := by simp [mostF] at hb; omega
    subst this
    exact q _ e
end
end Mine

set_option maxRecDepth 100000
set_option linter.unusedVariables false
set_option autoImplicit false
set_option linter.unusedSimpArgs false
set_option maxHeartbeats 8000000
set_option pp.deepTerms false
namespace Mine
open PySem PyProof.Rows PySem.SeqAt PySem.W
section
variable {X : Cx} {P : Params} {Q : Post} {Z : XP} {σ : AHeap} {d : Nat}
/-- a match that _law_first takes -/
def goodM (ms : List Mt) (x : Mark) (t : List Mark) (m : Mt) : Prop := (x ∈ marksOf m ∧ (remB (x :: t) m).length + szM m = (x :: t).length) ∧ ((remB (x :: t) m).length : Int) - mostF ms (remB (x :: t) m) = ((x :: t).length : Int) - mostF ms (x :: t)
theorem law_first_ok (G : Gd X (hK P)) (hd : d < 500) {x : Mark} {t : List Mark} {ms : List Mt} {pr pm : Addr} (hr : ∀ y ∈ x :: t, mOk y) (hl : (x :: t).length ≤ 7) (hm : ∀ m ∈ ms, mtOk m) (hml : ms.length ≤ 8) (lr : listAt pr ((x :: t).map mkAV) σ) (lm : listAt pm (ms.map mtAV) σ)
    (q : ∀ σ' v, Ext σ σ' → (v = .none ∧ (∀ m ∈ ms, ¬ goodM ms x t m)) ∨ (∃ k m, ms[k]? = some m ∧ goodM ms x t m ∧ (∀ m' ∈ ms.take k, ¬ goodM ms x t m') ∧ v = mtAV m) → Q v σ') : CallOk X 78 d [.ref pr, .ref pm] Q Z σ := by
  refine' callK (m := _) ["_law_rest", "_law_matches_here"] [("_law_rest", 0), ("_law_matches_here", 1), ("_law_least", 2), ("_law_match_here", 3), ("_law_marks_here", 4), ("_law_less", 5)] G rfl rfl (bind2 fun a b => rfl) rfl rfl rfl rfl rfl rfl rfl rfl (fun env E => ?snd) (by lia) rfl ?bd
  case snd =>
    repeat' first
      | ((with_reducible show SoundSs _ _ _ [] _); (with_reducible refine' sound_nil))
      | ((with_reducible show SoundSs _ _ _ (_ :: _) _); (with_reducible refine' sound_cons ?_ ?_))
      | ((with_reducible show SoundS _ _ _ (.If _ _ _ _) _); (with_reducible refine' sound_if ?_ ?_ ?_))
      | ((with_reducible show SoundS _ _ _ (.Return (some _) _) _); (with_reducible refine' sound_ret ?_))
      | ((with_reducible show SoundS _ _ _ (.Assign [.Name _ _] (.ListComp _ _ _ _) _) _); (with_reducible refine' w_setComp (by assumption) ?r1 ?r2 ?r3 ?r4 ?r5 ?_ (fun env' E' => ?_) (fun env' E' => ?_) (fun env' E' => ?_)); (case r1 => exact rfl); (case r2 => exact rfl); (case r3 => exact rfl); (case r4 => exact rfl); (case r5 => exact rfl))
      | ((with_reducible show SoundS _ _ _ (.Assign [.Name _ _] _ _) _); (with_reducible refine' w_set (by assumption) ?r1 ?r2 ?_ ?r3); (case r1 => exact rfl); (case r2 => exact rfl); (case r3 => exact rfl))
      | ((with_reducible show SoundS _ _ _ (.For _ _ _ _ _) _); (with_reducible refine' w_for ?r1 ?_ ?_ ?_); (case r1 => exact rfl))
      | ((with_reducible show SoundC _ _ _ (_ :: _) _); (with_reducible refine' w_cSome ?_))
      | ((with_reducible show SoundT _ _ _ (.Name _ _) _); (with_reducible refine' w_tOne (by assumption) ?r1 ?r2); (case r1 => exact rfl); (case r2 => exact rfl))
      | ((with_reducible show SoundTC _ _ _ (.Name _ _) _); (with_reducible refine' w_tcOne (by assumption) ?r1 ?r2); (case r1 => exact rfl); (case r2 => exact rfl))
      | ((with_reducible show SoundI _ _ _ _ _ _); (with_reducible refine' w_it ?_))
      | ((with_reducible show SoundB _ _ _ (.Compare _ _ _ _) _); (with_reducible refine' soundB_cmp ?_ ?_))
      | ((with_reducible show SoundB _ _ _ (.BoolOp .And _ _) _); (with_reducible refine' soundB_and ?_))
      | ((with_reducible show SoundE _ _ _ (.Name _ _) _); (with_reducible refine' w_loc (by assumption) ?r1 ?r2 ?r3); (case r1 => exact rfl); (case r2 => exact rfl); (case r3 => exact rfl))
      | ((with_reducible show SoundE _ _ _ (.Constant (.int _) _ _) _); (with_reducible refine' sound_int))
      | ((with_reducible show SoundE _ _ _ (.Constant .none _ _) _); (with_reducible refine' sound_none))
      | ((with_reducible show SoundEs _ _ _ [] _); (with_reducible refine' w_es0))
      | ((with_reducible show SoundEs _ _ _ (_ :: _) _); (with_reducible refine' w_es1 ?r1 ?_ ?_); (case r1 => exact rfl))
      | ((with_reducible show SoundE _ _ _ (.Compare _ _ _ _) _); (with_reducible refine' sound_cmp ?_ ?_))
      | ((with_reducible show SoundOps _ _ _ [_] _ _); (with_reducible refine' SoundOps.one ?_ ?r1); (case r1 => exact rfl))
      | ((with_reducible show SoundE _ _ _ (.BinOp _ _ _ _) _); (with_reducible refine' sound_bin ?_ ?_))
      | ((with_reducible show SoundEBs _ _ _ [] _); (with_reducible refine' SoundEBs.nil))
      | ((with_reducible show SoundEBs _ _ _ (_ :: _) _); (with_reducible refine' SoundEBs.cons ?_ ?_ ?_))
      | ((with_reducible show SoundE _ _ _ (.Subscript _ _ _) _); (with_reducible refine' sound_idx ?_ ?_ ?r1); (case r1 => exact rfl))
      | ((with_reducible show SoundE _ _ _ (.Call (.Name "len" _) _ [] _) _); (with_reducible refine' w_len (by assumption) (by assumption) bi_len ?r1 ?_); (case r1 => exact rfl))
      | ((with_reducible show SoundE _ _ _ (.Call (.Name _ _) _ [] _) _); (with_reducible refine' w_call (by assumption) (by assumption) ?r1 ?r2 ?r3 ?_); (case r1 => exact rfl); (case r2 => exact ⟨_, _, rfl, rfl⟩); (case r3 => exact rfl))
  have hx := hr x List.mem_cons_self
  repeat (first | with_reducible (first | refine q_consO fun S1 kn1 => ?_ | refine q_set ?_ | refine q_prim ?_ | refine q_ev1 ?_ | refine q_ev0 ?_ | refine q_callF ?_) | ((with_reducible refine' q_loc ?e ?_); case e => rfl) | with_reducible (first | refine q_bin ?_ | refine q_lenLM (by assumption) ?_))
  refine law_most_ok G ms.length (r := x :: t) (ms := ms) rfl (by lia) hr hl hm hml lr lm fun σ1 e1 => ?_
  have lm1 := e1.list lm
  repeat (first | with_reducible (first | refine q_consO fun S1 kn1 => ?_) | ((with_reducible refine' q_loc ?e ?_); case e => rfl) | with_reducible (first | refine q_next (by assumption) ?_ | refine q_sub ?_ | refine q_fr ?_ | refine q_itP ?_ | refine q_itemsL (by assumption) ?_))
  generalize hL : ((x :: t).length : Int) - (mostF ms (x :: t) : Int) = L
  refine forL_at _ (fun k l' σ' => Ext σ σ' ∧ (∀ m ∈ ms.take k, ¬ goodM ms x t m) ∧ ∃ a3 a4 a5 : Option AV, l' = [some (.ref pr), some (.ref pm), some (.int L), a3, a4, a5]) ?_ ?_ ⟨e1, by simp, _, _, _, rfl⟩
  · rintro k y l' σ' K hy ⟨e, hno, a3, a4, a5, rfl⟩ hK
    rw [List.getElem?_map] at hy
    obtain ⟨m, hm', rfl⟩ := Option.map_eq_some_iff.mp hy
    have hmm := hm m (List.mem_of_getElem? hm')
    have hmk := marksOf_ok m
    have htk : ms.take (k + 1) = ms.take k ++ [m] := by rw [List.take_add_one, hm']; rfl
    have go : ∀ σ'' a3 a4 a5, Ext σ σ'' → ¬ goodM ms x t m → listAt pm (ms.map mtAV) σ'' ∧ K [some (.ref pr), some (.ref pm), some (.int L), a3, a4, a5] σ'' := fun σ'' a3 a4 a5 e' hg => ⟨e'.list lm, hK _ _ ⟨e', fun m' hm'' => by
      rw [htk] at hm''
      rcases List.mem_append.mp hm'' with h | h
      · exact hno m' h
      · simp at h; subst h; exact hg, _, _, _, rfl⟩⟩
    refine ⟨_, rfl, ?_⟩
    repeat (first | with_reducible (first | refine q_consO fun S1 kn1 => ?_ | refine q_set ?_ | refine q_ev1 ?_ | refine q_ev0 ?_ | refine q_callF ?_) | ((with_reducible refine' q_loc ?e ?_); case e => rfl))
    refine law_marks_ok G (by lia) hmm fun σ2 r2 e2 hr2 l2 => ?_
    have e02 := e.trans e2
    have lr2 := e02.list lr
    repeat (first | with_reducible (first | refine q_consO fun S1 kn1 => ?_ | refine q_set ?_) | ((with_reducible refine' q_loc ?e ?_); case e => rfl) | with_reducible (first | refine q_next (by assumption) ?_ | refine q_lc ?_ | refine q_itP ?_ | refine q_itemsL (by assumption) ?_))
    refine compLf_as (x :: t) (fun y => !decide (y ∈ marksOf m)) mkAV mkAV (fun y => [some (.ref pr), some (.ref pm), some (.int L), some (mtAV m), some (.ref r2), a5, none, some (mkAV y)]) (fun x _ => rfl) (fun x _ y _ => rfl) ?_ ?_ lr2 (by lia) ?_
    · intro y hy R hR
      have hyy := hr y hy
      repeat (first | with_reducible (first | refine q_isB ?_ | refine q_cmp ?_ | refine q_chain1 ?_) | ((with_reducible refine' q_loc ?e ?_); case e => rfl) | with_reducible (first | refine q_notInMarks (by assumption) (by assumption) (by assumption) ?_))
      exact hR
    · intro y hy hpy R hR
      repeat (first | ((with_reducible refine' q_loc ?e ?_); case e => rfl))
      exact hR
    refine alf fun σ3 r3 e3 hr3 l3 => ?_
    have l3 : listAt r3 ((remB (x :: t) m).map mkAV) σ3 := .inl l3
    have e03 := e02.trans e3
    have l2 := e3.list l2
    have lr3 := e03.list lr
    have lm3 := e03.list lm
    have ex : atIdx ((x :: t).map mkAV) 0 = some (mkAV x) := rfl
    repeat (first | with_reducible (first | refine q_consO fun S1 kn1 => ?_ | refine q_if ?_ | refine q_k ?_ | refine q_idx ?_ | refine q_cmp ?_ | refine q_chain1 ?_ | refine q_exB ?_) | ((with_reducible refine' q_loc ?e ?_); case e => rfl) | with_reducible (first | refine q_next (by assumption) ?_ | refine q_and ?_ | refine q_inMarks (by assumption) (by assumption) (by assumption) ?_ | refine q_listIdx (by assumption) (by assumption) ?_))
    by_cases hc : x ∈ marksOf m
    case neg =>
      rw [decide_eq_false hc]
      repeat (first | with_reducible (first | refine q_isB ?_) | with_reducible (first | refine q_nil ?_ | refine q_next (by assumption) ?_) | ((with_reducible refine' q_ifFc ?e ?_); case e => rfl))
      exact go _ _ _ _ e03 fun h => hc h.1.1
    rw [decide_eq_true hc]
    repeat (first | with_reducible (first | refine q_isB ?_ | refine q_cmp ?_ | refine q_chain1 ?_ | refine q_prim ?_ | refine q_ev1 ?_ | refine q_ev0 ?_) | ((with_reducible refine' q_loc ?e ?_); case e => rfl) | with_reducible (first | refine q_bin ?_ | refine q_and1 ?_ | refine q_eqI ?_ | refine q_add ?_ | refine q_lenLM (by assumption) ?_) | ((with_reducible refine' q_ifTc ?e ?_); case e => rfl))
    by_cases h2 : (remB (x :: t) m).length + szM m = (x :: t).length
    case neg =>
      have hb : (((remB (x :: t) m).length : Int) + ((marksOf m).length : Int) == ((x :: t).length : Int)) = false := by
        rw [beq_eq_false_iff_ne]
        intro h
        refine h2 ?_
        show (remB (x :: t) m).length + (marksOf m).length = (x :: t).length
        omega
      rw [hb]
      repeat (first | with_reducible (first | refine q_nil ?_ | refine q_next (by assumption) ?_) | ((with_reducible refine' q_ifFc ?e ?_); case e => rfl))
      exact go _ _ _ _ e03 fun h => h2 h.1.2
    have hb : (((remB (x :: t) m).length : Int) + ((marksOf m).length : Int) == ((x :: t).length : Int)) = true := by
      rw [beq_iff_eq]
      have : (remB (x :: t) m).length + (marksOf m).length = (x :: t).length := h2
      omega
    rw [hb]
    repeat (first | with_reducible (first | refine q_consO fun S1 kn1 => ?_ | refine q_if ?_ | refine q_cmp ?_ | refine q_prim ?_ | refine q_ev1 ?_ | refine q_ev0 ?_ | refine q_callF ?_) | ((with_reducible refine' q_loc ?e ?_); case e => rfl) | with_reducible (first | refine q_bin ?_ | refine q_lenLM (by assumption) ?_) | ((with_reducible refine' q_ifTc ?e ?_); case e => rfl))
    refine law_most_ok G ms.length (r := remB (x :: t) m) (ms := ms) rfl (by lia) (fun y hy => hr y (List.mem_filter.mp hy).1) (Nat.le_trans (List.length_filter_le _ _) hl) hm hml l3 lm3 fun σ4 e4 => ?_
    repeat (first | with_reducible (first | refine q_isB ?_ | refine q_chain1 ?_) | ((with_reducible refine' q_loc ?e ?_); case e => rfl) | with_reducible (first | refine q_eqI ?_ | refine q_sub ?_))
    by_cases h3 : ((remB (x :: t) m).length : Int) - (mostF ms (remB (x :: t) m) : Int) = L
    · rw [beq_iff_eq.mpr h3]
      repeat (first | with_reducible (first | refine q_consO fun S1 kn1 => ?_ | refine q_ret ?_) | ((with_reducible refine' q_loc ?e ?_); case e => rfl) | with_reducible (first | refine q_retK (by assumption) ?_) | ((with_reducible refine' q_ifTc ?e ?_); case e => rfl))
      exact q _ _ (e03.trans e4) (.inr ⟨k, m, hm', ⟨⟨hc, h2⟩, by rw [h3, hL]⟩, hno, rfl⟩)
    · rw [beq_eq_false_iff_ne.mpr h3]
      repeat (first | with_reducible (first | refine q_nil ?_ | refine q_next (by assumption) ?_) | ((with_reducible refine' q_ifFc ?e ?_); case e => rfl))
      exact go _ _ _ _ (e03.trans e4) fun h => h3 (by rw [h.2, hL])
  · rintro l' σ' ⟨e, hno, a3, a4, a5, rfl⟩
    rw [List.length_map, List.take_length] at hno
    repeat (first | with_reducible (first | refine q_consO fun S1 kn1 => ?_ | refine q_ret ?_ | refine q_k ?_) | with_reducible (first | refine q_next (by assumption) ?_ | refine q_retK (by assumption) ?_))
    exact q _ _ e (.inl ⟨rfl, hno⟩)
end
end Mine

set_option maxRecDepth 100000
set_option linter.unusedVariables false
set_option autoImplicit false
set_option linter.unusedSimpArgs false
set_option maxHeartbeats 8000000
set_option pp.deepTerms false
namespace Mine
open PySem PyProof.Rows PySem.SeqAt PySem.W
/-- what is picked from a rest on -/
inductive Pick (ms : List Mt) (lv : List Mark → Int) : List Mark → List Mt → Prop
  | nil : Pick ms lv [] []
  | skip {x : Mark} {t : List Mark} {fs : List Mt} : (∀ m ∈ ms, ∀ b, lessOf (x :: t) m = some b → lv b ≠ lv (x :: t)) → Pick ms lv t fs → Pick ms lv (x :: t) fs
  | take {x : Mark} {t b : List Mark} {m : Mt} {k : Nat} {fs : List Mt} : ms[k]? = some m → lessOf (x :: t) m = some b → lv b = lv (x :: t) → (∀ m' ∈ ms.take k, ∀ b', lessOf (x :: t) m' = some b' → lv b' ≠ lv (x :: t)) → Pick ms lv b fs → Pick ms lv (x :: t) (m :: fs)
/-- the goods of a rest -/
def goods (ms : List Mt) (lv : List Mark → Int) (r : List Mark) : List (Mt × List Mark) := (tk ms r).filter fun z => decide (lv z.2 = lv r)
theorem goods_nil {ms : List Mt} {lv : List Mark → Int} {r : List Mark} (h : goods ms lv r = []) : ∀ m ∈ ms, ∀ b, lessOf r m = some b → lv b ≠ lv r := fun m hm b hb e => by
  have := List.filter_eq_nil_iff.mp h (m, b) (List.mem_filterMap.mpr ⟨m, hm, by rw [hb]; rfl⟩)
  exact this (decide_eq_true e)
theorem goods_cons {lv : List Mark → Int} {r : List Mark} {z : Mt × List Mark} {zs : List (Mt × List Mark)} : ∀ {ms : List Mt}, goods ms lv r = z :: zs → ∃ k, ms[k]? = some z.1 ∧ lessOf r z.1 = some z.2 ∧ lv z.2 = lv r ∧ ∀ m' ∈ ms.take k, ∀ b', lessOf r m' = some b' → lv b' ≠ lv r
  | [], h => by simp [goods, tk] at h
  | m :: ms, h => by
    unfold goods tk at h
    rw [List.filterMap_cons] at h
    cases hl : lessOf r m with
    | none =>
      rw [hl] at h
      obtain ⟨k, h1, h2, h3, h4⟩ := goods_cons (ms := ms) h
      refine ⟨k + 1, h1, h2, h3, fun m' hm' b' hb' => ?_⟩
      rw [List.take_succ_cons] at hm'
      rcases List.mem_cons.mp hm' with rfl | hm'
      · rw [hl] at hb'; cases hb'
      · exact h4 m' hm' b' hb'
    | some b =>
      rw [hl] at h
      simp only [Option.map_some, List.filter_cons] at h
      by_cases hb : lv b = lv r
      · rw [if_pos (decide_eq_true hb)] at h
        injection h with h1 h2
        subst h1
        exact ⟨0, rfl, hl, hb, by simp⟩
      · rw [if_neg (by simpa using hb)] at h
        obtain ⟨k, h1, h2, h3, h4⟩ := goods_cons (ms := ms) h
        refine ⟨k + 1, h1, h2, h3, fun m' hm' b' hb' => ?_⟩
        rw [List.take_succ_cons] at hm'
        rcases List.mem_cons.mp hm' with rfl | hm'
        · rw [hl] at hb'; cases hb'; exact hb
        · exact h4 m' hm' b' hb'
end Mine

set_option maxRecDepth 100000
set_option linter.unusedVariables false
set_option autoImplicit false
set_option linter.unusedSimpArgs false
set_option maxHeartbeats 8000000
set_option pp.deepTerms false
namespace Mine
open PySem PyProof.Rows PySem.SeqAt PySem.W
section
variable {X : Cx} {P : Params} {Q : Post} {Z : XP} {σ : AHeap} {d : Nat}
def tkD (z : Mt × List Mark) : PyData := .tuple [mtD z.1, .tuple (z.2.map mkD)]
theorem rd_tk (z : Mt × List Mark) : Rd σ (tkAV z) (tkD z) := .tup (.cons (rd_mt z.1) (.cons (rd_row z.2) .nil))
theorem do_tks {zs : List (Mt × List Mark)} (h : ∀ z ∈ zs, ∀ m ∈ z.2, mOk m) : DOk (.list (zs.map tkD)) := dok_list fun d hd => by
  obtain ⟨z, hz, rfl⟩ := List.mem_map.mp hd
  obtain ⟨h1, h2⟩ := lay_mt z.1
  obtain ⟨h3, h4⟩ := row_lay (h z hz)
  refine ⟨by simp [tkD, PyData.canLay0, PyData.canLayAll0, h1, h3], ?_⟩
  simp only [tkD, PyData.depth, PyData.depthAll]; lia
theorem picked_ok (G : Gd X (hK P)) (hd : d < 590) {g : List Mark} {ms : List Mt} {pg pm : Addr} {lv : List Mark → Int} (hlv : Lv ms lv) (hg : ∀ y ∈ g, mOk y) (hgl : g.length ≤ 7) (hm : ∀ m ∈ ms, mtOk m) (hml : ms.length ≤ 8) (hpg : listAt pg (g.map mkAV) σ) (hpm : listAt pm (ms.map mtAV) σ)
    (q : ∀ σ' r fs, Ext σ σ' → σ r = none → Pick ms lv g fs → listAt r (fs.map mtAV) σ' → Q (.ref r) σ') : CallOk X 41 d [.ref pg, .ref pm] Q Z σ := by
  refine' callK (m := _) ["group", "matches"] [("group", 0), ("matches", 1), ("least", 2), ("rest", 3), ("found", 4), ("good", 5)] G rfl rfl (bind2 fun a b => rfl) rfl rfl rfl rfl rfl rfl rfl rfl (fun env E => ?snd) (by lia) rfl ?bd
  case snd =>
    repeat' first
      | ((with_reducible show SoundSs _ _ _ [] _); (with_reducible refine' sound_nil))
      | ((with_reducible show SoundSs _ _ _ (_ :: _) _); (with_reducible refine' sound_cons ?_ ?_))
      | ((with_reducible show SoundS _ _ _ (.If _ _ _ _) _); (with_reducible refine' sound_if ?_ ?_ ?_))
      | ((with_reducible show SoundS _ _ _ (.Return (some _) _) _); (with_reducible refine' sound_ret ?_))
      | ((with_reducible show SoundS _ _ _ (.Assign [.Name _ _] (.ListComp _ _ _ _) _) _); (with_reducible refine' w_setComp (by assumption) ?r1 ?r2 ?r3 ?r4 ?r5 ?_ (fun env' E' => ?_) (fun env' E' => ?_) (fun env' E' => ?_)); (case r1 => exact rfl); (case r2 => exact rfl); (case r3 => exact rfl); (case r4 => exact rfl); (case r5 => exact rfl))
      | ((with_reducible show SoundS _ _ _ (.Assign [.Name _ _] _ _) _); (with_reducible refine' w_set (by assumption) ?r1 ?r2 ?_ ?r3); (case r1 => exact rfl); (case r2 => exact rfl); (case r3 => exact rfl))
      | ((with_reducible show SoundS _ _ _ (.Expr _ _) _); (with_reducible refine' w_ex (by assumption) ?_ ?r1); (case r1 => exact rfl))
      | ((with_reducible show SoundS _ _ _ (.While _ _ _ _) _); (with_reducible refine' sound_while ?_ ?_))
      | ((with_reducible show SoundC _ _ _ (_ :: _) _); (with_reducible refine' w_cSome ?_))
      | ((with_reducible show SoundTC _ _ _ (.Tuple _ _ _) _); (with_reducible refine' w_tcMany (by assumption) ?_))
      | ((with_reducible show NamesL _ _ [] _); (with_reducible refine' w_nlNil))
      | ((with_reducible show NamesL _ _ (_ :: _) _); (with_reducible refine' w_nlCons (by assumption) ?r1 ?r2 ?_); (case r1 => exact rfl); (case r2 => exact rfl))
      | ((with_reducible show SoundI _ _ _ _ _ _); (with_reducible refine' w_it ?_))
      | ((with_reducible show SoundB _ _ _ (.Compare _ _ _ _) _); (with_reducible refine' soundB_cmp ?_ ?_))
      | ((with_reducible show SoundE _ _ _ (.Name _ _) _); (with_reducible refine' w_loc (by assumption) ?r1 ?r2 ?r3); (case r1 => exact rfl); (case r2 => exact rfl); (case r3 => exact rfl))
      | ((with_reducible show SoundE _ _ _ (.Constant (.int _) _ _) _); (with_reducible refine' sound_int))
      | ((with_reducible show SoundE _ _ _ (.Tuple _ _ _) _); (with_reducible refine' sound_tup ?_))
      | ((with_reducible show SoundE _ _ _ (.List _ _) _); (with_reducible refine' sound_lst ?_))
      | ((with_reducible show SoundEs _ _ _ [] _); (with_reducible refine' w_es0))
      | ((with_reducible show SoundEs _ _ _ (_ :: _) _); (with_reducible refine' w_es1 ?r1 ?_ ?_); (case r1 => exact rfl))
      | ((with_reducible show SoundOps _ _ _ [_] _ _); (with_reducible refine' SoundOps.one ?_ ?r1); (case r1 => exact rfl))
      | ((with_reducible show SoundE _ _ _ (.Subscript _ (.Slice _ _ _ _) _) _); (with_reducible refine' sound_slice ?_ ?_ ?_))
      | ((with_reducible show SoundE _ _ _ (.Subscript _ _ _) _); (with_reducible refine' sound_idx ?_ ?_ ?r1); (case r1 => exact rfl))
      | ((with_reducible show SoundO _ _ _ none _); (with_reducible refine' w_oNone))
      | ((with_reducible show SoundO _ _ _ (some _) _); (with_reducible refine' w_oSome ?_))
      | ((with_reducible show SoundE _ _ _ (.Call (.Attribute _ "append" _) _ [] _) _); (with_reducible refine' w_append ?r1 ?r2 ?r3 ?_ ?_); (case r1 => exact (fun _ => rfl)); (case r2 => exact rfl); (case r3 => exact rfl))
      | ((with_reducible show SoundE _ _ _ (.Call (.Name "tuple" _) _ [] _) _); (with_reducible refine' w_prim (by assumption) (by assumption) bi_tuple ?r1 sound_tuple ?r2 ?_); (case r1 => exact (.inr ⟨_, rfl⟩)); (case r2 => exact rfl))
      | ((with_reducible show SoundE _ _ _ (.Call (.Name _ _) _ [] _) _); (with_reducible refine' w_call (by assumption) (by assumption) ?r1 ?r2 ?r3 ?_); (case r1 => exact rfl); (case r2 => exact ⟨_, _, rfl, rfl⟩); (case r3 => exact rfl))
  repeat (first | with_reducible (first | refine q_consO fun S1 kn1 => ?_ | refine q_set ?_ | refine q_ev1 ?_ | refine q_ev0 ?_ | refine q_callF ?_) | ((with_reducible refine' q_loc ?e ?_); case e => rfl))
  refine table_ok G (by lia) hlv hg hgl hm hml hpg hpm fun σ1 rt N kvs e1 hrt hE lt hkp hkv => ?_
  have hpg1 := e1.list hpg
  repeat (first | with_reducible (first | refine q_consO fun S1 kn1 => ?_ | refine q_set ?_ | refine q_prim ?_ | refine q_ev1 ?_ | refine q_ev0 ?_) | ((with_reducible refine' q_loc ?e ?_); case e => rfl) | with_reducible (first | refine q_next (by assumption) ?_ | refine q_lst ?_ | refine q_tupL (by assumption) ?_) | ((with_reducible refine' q_tl ?e ?_); case e => rfl))
  refine alf fun σ2 rf e2 hrf l2 => ?_
  have hrf0 := e1.none hrf
  have lt2 := e2 _ _ lt
  have hne : rt ≠ rf := by rintro rfl; rw [lt] at hrf; cases hrf
  have hgN : g ∈ rowAt ms g N := by obtain ⟨ex, e⟩ := rowAt_le (ms := ms) (g := g) (Nat.zero_le N); rw [e]; simp [rowAt]
  repeat (first | with_reducible (first | refine q_consO fun S1 kn1 => ?_) | with_reducible (first | refine q_next (by assumption) ?_))
  refine ⟨fun n l' σ' => ∃ (r : List Mark) (fs : List Mt) (a5 : Option AV), n = r.length ∧ Ext σ σ' ∧ σ' rf = some (.list (fs.map mtAV)) ∧ σ' rt = some (.tdict kvs) ∧ r ∈ rowAt ms g N ∧ (∀ fs', Pick ms lv r fs' → Pick ms lv g (fs ++ fs')) ∧ fs.length + r.length ≤ 7 ∧ l' = [some (.ref pg), some (.ref pm), some (.ref rt), some (rowAV r), some (.ref rf), a5],
    g.length, ⟨g, [], _, rfl, e1.trans e2, l2, lt2, hgN, fun fs' h => h, by simpa using hgl, rfl⟩, ?_⟩
  clear l2 lt2 e2 hpg1
  rintro n l' σ' ⟨r, fs, a5, rfl, e, lf, lt', hrN, hpk, hlen, rfl⟩
  have hro := row_ok hg hrN
  have hrl := row_len hgl hrN
  have hat := hkv r hrN
  repeat (first | with_reducible (first | refine q_isB ?_ | refine q_cmp ?_ | refine q_chain1 ?_ | refine q_ev0 ?_) | ((with_reducible refine' q_loc ?e ?_); case e => rfl) | with_reducible (first | refine q_tup ?_ | refine q_neRow (by assumption) ?_) | ((with_reducible refine' q_tl ?e ?_); case e => rfl))
  cases r with
  | nil =>
    repeat (first | with_reducible (first | refine q_consO fun S1 kn1 => ?_ | refine q_ret ?_) | ((with_reducible refine' q_loc ?e ?_); case e => rfl) | with_reducible (first | refine q_next (by assumption) ?_ | refine q_retK (by assumption) ?_) | ((with_reducible refine' q_ifFc ?e ?_); case e => rfl))
    have := hpk [] .nil
    rw [List.append_nil] at this
    exact q _ _ fs e hrf0 this (.inl lf)
  | cons x t =>
    repeat (first | with_reducible (first | refine q_consO fun S1 kn1 => ?_ | refine q_set ?_ | refine q_ev1 ?_ | refine q_ev0 ?_ | refine q_callF ?_) | ((with_reducible refine' q_loc ?e ?_); case e => rfl) | with_reducible (first | refine q_lc ?_ | refine q_itP ?_) | ((with_reducible refine' q_ifTc ?e ?_); case e => rfl))
    refine taken_out_ok G (by lia) hro (by lia) hm (by lia) (e.list hpm) fun σ3 r3 e3 hr3 l3 => ?_
    have lt3 := e3 _ _ lt'
    have hnx : ∀ z ∈ tk ms (x :: t), z.2 ∈ nexts ms (x :: t) := fun z hz => List.mem_cons_of_mem _ (by rw [← tk_outs]; exact List.mem_map_of_mem hz)
    repeat (first | with_reducible (first | refine q_itemsL (by assumption) ?_))
    refine compLf_as (tk ms (x :: t)) (fun z => decide (lv z.2 = lv (x :: t))) tkAV tkAV (fun z => [some (.ref pg), some (.ref pm), some (.ref rt), some (rowAV (x :: t)), some (.ref rf), a5, none, some (mtAV z.1), some (rowAV z.2)]) (fun z _ => rfl) (fun z _ y _ => rfl) ?_ ?_ l3 (by have := tk_len (ms := ms) (r := x :: t); lia) ?_
    · intro z hz R hR
      have hzo := nexts_ok hro (hnx z hz)
      have hza := hkv _ (hE.closed hrN (hnx z hz))
      repeat (first | with_reducible (first | refine q_isB ?_ | refine q_idx ?_ | refine q_cmp ?_ | refine q_chain1 ?_) | ((with_reducible refine' q_loc ?e ?_); case e => rfl) | with_reducible (first | refine q_eqI ?_ | refine q_idxD (by assumption) (by assumption) (by assumption) ?_))
      exact hR
    · intro z hz _ R hR
      repeat (first | with_reducible (first | refine q_ev1 ?_ | refine q_ev0 ?_) | ((with_reducible refine' q_loc ?e ?_); case e => rfl) | with_reducible (first | refine q_tup ?_) | ((with_reducible refine' q_tl ?e ?_); case e => rfl))
      exact hR
    refine alf fun σ4 r4 e4 hr4 l4 => ?_
    repeat (first | with_reducible (first | refine q_consO fun S1 kn1 => ?_ | refine q_if ?_ | refine q_cmp ?_ | refine q_chain1 ?_ | refine q_ev0 ?_) | ((with_reducible refine' q_loc ?e ?_); case e => rfl) | with_reducible (first | refine q_next (by assumption) ?_ | refine q_lst ?_) | ((with_reducible refine' q_tl ?e ?_); case e => rfl))
    refine alf fun σ5 r5 e5 hr5 l5 => ?_
    have l4 : listAt r4 ((goods ms lv (x :: t)).map tkAV) σ5 := .inl (e5 _ _ l4)
    have hne4 : r4 ≠ rf := by rintro rfl; rw [e3 _ _ lf] at hr4; cases hr4
    have e35 := (e3.trans e4).trans e5
    have e05 := e.trans e35
    have lf5 := e35 _ _ lf
    have lt5 := e35 _ _ lt'
    have hgo : ∀ z ∈ goods ms lv (x :: t), ∀ m ∈ z.2, mOk m := fun z hz => nexts_ok hro (hnx z (List.mem_filter.mp hz).1)
    refine q_eqD (.list l4 (rdL_map rd_tk _)) (.list (.inl l5) .nil) (do_tks hgo) ⟨by simp [PyData.canLay0, PyData.canLayAll0], by simp [PyData.depth, PyData.depthAll]⟩ ?_
    rw [eqv_nilL, List.isEmpty_map]
    simp only [List.length_cons] at hlen
    clear e3 e4 e5 hr3 hr4 hr5 l5 lt3 l3
    cases hgd : goods ms lv (x :: t) with
    | nil =>
      repeat (first | with_reducible (first | refine q_consO fun S1 kn1 => ?_ | refine q_set ?_ | refine q_isB ?_ | refine q_k ?_) | ((with_reducible refine' q_loc ?e ?_); case e => rfl) | with_reducible (first | refine q_exI ?_ | refine q_slice ?_ | refine q_optN ?_ | refine q_optS ?_) | ((with_reducible refine' q_ifTc ?e ?_); case e => rfl))
      refine q_slT (k := 1) (by omega) (by simp) ?_
      repeat (first | with_reducible (first | refine q_nil ?_ | refine q_next (by assumption) ?_))
      exact ⟨t.length, by simp, t, fs, _, rfl, e05, lf5, lt5, hE.closed hrN List.mem_cons_self, fun fs' h => hpk fs' (.skip (goods_nil hgd) h), by omega, rfl⟩
    | cons z zs =>
      obtain ⟨k, h1, h2, h3, h4⟩ := goods_cons hgd
      rw [hgd] at l4
      have ez : atIdx ((z :: zs).map tkAV) 0 = some (.tup [mtAV z.1, rowAV z.2]) := rfl
      have hlt : z.2.length < (x :: t).length := nexts_len (ms := ms) (r := x :: t) (List.mem_cons_of_mem _ (List.mem_filterMap.mpr ⟨z.1, List.mem_of_getElem? h1, h2⟩))
      simp only [List.length_cons] at hlt
      repeat (first | with_reducible (first | refine q_consO fun S1 kn1 => ?_ | refine q_isB ?_ | refine q_k ?_ | refine q_idx ?_ | refine q_ev1 ?_ | refine q_ev0 ?_) | ((with_reducible refine' q_loc ?e ?_); case e => rfl) | with_reducible (first | refine q_ex ?_ | refine q_meth ?_ | refine q_tupIdx rfl ?_ | refine q_exM (by assumption) ?_ | refine q_listIdx (by assumption) (by assumption) ?_) | ((with_reducible refine' q_ifFc ?e ?_); case e => rfl))
      refine q_app lf5 (by simp; lia) ?_
      have l4' := listAt_setN (o := .list (fs.map mtAV ++ [mtAV z.1])) l4 hne4
      repeat (first | with_reducible (first | refine q_consO fun S1 kn1 => ?_ | refine q_set ?_ | refine q_k ?_ | refine q_idx ?_) | ((with_reducible refine' q_loc ?e ?_); case e => rfl) | with_reducible (first | refine q_nil ?_ | refine q_next (by assumption) ?_ | refine q_nr ?_ | refine q_tupIdx rfl ?_ | refine q_listIdx (by assumption) (by assumption) ?_))
      refine ⟨z.2.length, hlt, z.2, fs ++ [z.1], _, rfl, e05.put hrf0, by rw [AHeap.set_self, List.map_append]; rfl, by rw [AHeap.set_ne _ _ hne]; exact lt5, hE.closed hrN (List.mem_cons_of_mem _ (List.mem_filterMap.mpr ⟨z.1, List.mem_of_getElem? h1, h2⟩)), fun fs' h => ?_, by simp; omega, rfl⟩
      rw [List.append_assoc]
      exact hpk _ (.take h1 h2 h3 h4 h)
end
end Mine

set_option maxRecDepth 100000
set_option linter.unusedVariables false
set_option autoImplicit false
namespace Mine
open PySem
section
variable {ms : List Mt} {lv : List Mark → Int}
theorem less_some {x : Mark} {t b : List Mark} {m : Mt} (h : lessOf (x :: t) m = some b) : x ∈ marksOf m ∧ (∀ y ∈ marksOf m, y ∈ x :: t) ∧ b = remB (x :: t) m := by
  unfold lessOf at h
  dsimp only at h
  split at h
  · rename_i hc
    cases h
    exact ⟨hc.1, hc.2, rfl⟩
  · cases h
theorem Pick.tot (L : Lv ms lv) (hn : ∀ m ∈ ms, mtGood m) {r : List Mark} {fs : List Mt} (P : Pick ms lv r fs) : r.Nodup → Mine.tot fs = mostF ms r := by
  induction P with
  | nil => intro _; have := most_le hn (r := []) .nil; simp at this; rw [this]; rfl
  | @skip x t fs hs P ih =>
    intro hr
    have hr' := (List.nodup_cons.mp hr).2
    have h1 := lv_most L hn hr
    have h2 := lv_most L hn hr'
    have hM := (L.cons x t).1
    rw [ih hr']
    rcases List.mem_cons.mp hM with e | hmem
    · simp only [List.length_cons] at h1; omega
    · obtain ⟨b, hb, e⟩ := List.mem_map.mp hmem
      obtain ⟨m, hm, he⟩ := List.mem_filterMap.mp hb
      exact absurd e (hs m hm b he)
  | @take x t b m k fs hk hl he hno P ih =>
    intro hr
    obtain ⟨hx, hf, rfl⟩ := less_some hl
    have hmm := hn m (List.mem_of_getElem? hk)
    have hrb : (remB (x :: t) m).Nodup := List.Nodup.sublist List.filter_sublist hr
    have h1 := lv_most L hn hr
    have h2 := lv_most L hn hrb
    have h3 := rem_len hr hmm.1 hf
    have h4 := ih hrb
    show szM m + Mine.tot fs = _
    rw [h4]
    omega
theorem Pick.marks (hn : ∀ m ∈ ms, mtGood m) {r : List Mark} {fs : List Mt} (P : Pick ms lv r fs) : (fs.flatMap marksOf).Nodup ∧ ∀ y ∈ fs.flatMap marksOf, y ∈ r := by
  induction P with
  | nil => exact ⟨.nil, fun y hy => by simp at hy⟩
  | @skip x t fs hs P ih => exact ⟨ih.1, fun y hy => List.mem_cons_of_mem _ (ih.2 y hy)⟩
  | @take x t b m k fs hk hl he hno P ih =>
    obtain ⟨hx, hf, rfl⟩ := less_some hl
    have hmm := hn m (List.mem_of_getElem? hk)
    rw [List.flatMap_cons]
    refine ⟨List.nodup_append.mpr ⟨hmm.1, ih.1, fun y hy z hz e => ?_⟩, fun y hy => ?_⟩
    · subst e
      have := (List.mem_filter.mp (ih.2 y hz)).2
      simp [hy] at this
    · rcases List.mem_append.mp hy with h | h
      · exact hf y h
      · exact (List.mem_filter.mp (ih.2 y h)).1
theorem Pick.mem {r : List Mark} {fs : List Mt} (P : Pick ms lv r fs) : ∀ m ∈ fs, m ∈ ms := by
  induction P with
  | nil => intro m hm; cases hm
  | skip _ _ ih => exact ih
  | take hk _ _ _ _ ih =>
    intro m hm
    rcases List.mem_cons.mp hm with rfl | hm
    · exact List.mem_of_getElem? hk
    · exact ih m hm
end
end Mine

set_option maxRecDepth 100000
set_option linter.unusedVariables false
set_option autoImplicit false
namespace Mine
open PySem
theorem nodup_full {α : Type} [DecidableEq α] {l u : List α} (hn : l.Nodup) (hs : ∀ x ∈ l, x ∈ u) (hl : u.length ≤ l.length) : ∀ a ∈ u, a ∈ l := fun a ha => Decidable.byContradiction fun hno => by
  have := nodup_le (l := a :: l) (u := u) (List.nodup_cons.mpr ⟨hno, hn⟩) fun x hx => (List.mem_cons.mp hx).elim (fun e => e ▸ ha) (hs x)
  simp only [List.length_cons] at this
  omega
section
variable {ms : List Mt} {lv : List Mark → Int}
theorem good_iff (L : Lv ms lv) (hn : ∀ m ∈ ms, mtGood m) {x : Mark} {t : List Mark} {m : Mt} (hr : (x :: t).Nodup) (hm : m ∈ ms) : goodM ms x t m ↔ ∃ b, lessOf (x :: t) m = some b ∧ lv b = lv (x :: t) := by
  have hrb : (remB (x :: t) m).Nodup := List.Nodup.sublist List.filter_sublist hr
  have h1 := lv_most L hn hr
  have h2 := lv_most L hn hrb
  constructor
  · rintro ⟨⟨hx, hl⟩, he⟩
    have hf : ∀ y ∈ marksOf m, y ∈ x :: t := by
      have h3 : ∀ (l : List Mark) (p : Mark → Bool), (l.filter p).length + (l.filter fun y => !p y).length = l.length := by
        intro l p
        induction l with
        | nil => rfl
        | cons a l ih => simp only [List.filter_cons]; cases p a <;> simp <;> omega
      have h4 := h3 (x :: t) fun y => decide (y ∈ marksOf m)
      have h5 : (remB (x :: t) m).length + (marksOf m).length = (x :: t).length := hl
      unfold remB at h5
      have h6 := nodup_full (l := (x :: t).filter fun y => decide (y ∈ marksOf m)) (u := marksOf m) (List.Nodup.sublist List.filter_sublist hr) (fun y hy => by simpa using (List.mem_filter.mp hy).2) (by omega)
      exact fun y hy => (List.mem_filter.mp (h6 y hy)).1
    refine ⟨remB (x :: t) m, by unfold lessOf; dsimp only; rw [if_pos ⟨hx, hf⟩]; rfl, by rw [h2, h1]; exact he⟩
  · rintro ⟨b, hb, he⟩
    obtain ⟨hx, hf, rfl⟩ := less_some hb
    exact ⟨⟨hx, rem_len hr (hn m hm).1 hf⟩, by rw [← h2, ← h1]; exact he⟩
end
end Mine

set_option maxRecDepth 100000
set_option linter.unusedVariables false
set_option autoImplicit false
set_option linter.unusedSimpArgs false
set_option maxHeartbeats 8000000
set_option pp.deepTerms false
namespace Mine
open PySem PyProof.Rows PySem.SeqAt PySem.W
/-- a comprehension whose test may make new things on the way -/
theorem compLf_ext {α : Type} {I : AHeap → Prop} {t : Tgt} {c elt : AE} {d : Nat} {Q : List AV → AHeap → Prop} (p : α → Bool) (g f : α → AV) (lx : α → Loc) (h1 : ∀ x y, bindT t (g x) (lx y) = some (lx x)) : ∀ (xs : List α) (acc : List AV) {l : Loc} {σ : AHeap}, (∀ x, bindT t (g x) l = some (lx x)) →
    (∀ x ∈ xs, ∀ σ', Ext σ σ' → ∀ R : Bool → AHeap → Prop, (∀ σ'', Ext σ' σ'' → R (p x) σ'') → c d (lx x) (isB R) (fun _ _ => False) σ') →
    (∀ x ∈ xs, ∀ σ', Ext σ σ' → ∀ R : Post, R (f x) σ' → elt d (lx x) R (fun _ _ => False) σ') → (∀ σ', Ext σ σ' → I σ') → acc.length + xs.length ≤ 1000000 →
    (∀ σ', Ext σ σ' → Q (acc ++ (xs.filter p).map f) σ') → compL I t (some c) elt d Q (xs.map g) acc l σ
  | [], acc, l, σ, h0, hc, he, hI, hl, q => by simpa [compL] using q σ (.refl _)
  | x :: xs, acc, l, σ, h0, hc, he, hI, hl, q => by
    simp only [List.length_cons] at hl
    refine ⟨lx x, h0 x, ?_⟩
    show c d (lx x) (isB _) (fun _ _ => False) σ
    refine hc x (by simp) σ (.refl _) _ fun σ1 e1 => ?_
    have go := fun acc' => compLf_ext (I := I) (t := t) (c := c) (elt := elt) (d := d) (Q := Q) p g f lx h1 xs acc' (l := lx x) (σ := σ1) (fun y => h1 y x) (fun y hy σ' e' => hc y (by simp [hy]) σ' (e1.trans e')) (fun y hy σ' e' => he y (by simp [hy]) σ' (e1.trans e')) (fun σ' e' => hI σ' (e1.trans e'))
    cases hp : p x with
    | true =>
      rw [if_pos rfl]
      refine he x (by simp) σ1 e1 _ ⟨hI σ1 e1, by lia, go _ (by simp; lia) fun σ' e' => ?_⟩
      have := q σ' (e1.trans e')
      simpa [List.filter_cons, hp] using this
    | false =>
      rw [if_neg (by simp)]
      refine ⟨hI σ1 e1, go _ (by lia) fun σ' e' => ?_⟩
      have := q σ' (e1.trans e')
      simpa [List.filter_cons, hp] using this
end Mine

set_option maxRecDepth 100000
set_option linter.unusedVariables false
set_option autoImplicit false
set_option linter.unusedSimpArgs false
set_option maxHeartbeats 8000000
set_option pp.deepTerms false
namespace Mine
open PySem PyProof.Rows PySem.SeqAt PySem.W
section
variable {X : Cx} {P : Params} {Q : Post} {Z : XP} {σ : AHeap} {d : Nat}
theorem rd_mts {p : Addr} {ms : List Mt} (hp : listAt p (ms.map mtAV) σ) : Rd σ (.ref p) (.list (ms.map mtD)) := .list hp (rdL_map rd_mt _)
theorem do_mts (ms : List Mt) : DOk (.list (ms.map mtD)) := dok_list fun d hd => by
  obtain ⟨m, _, rfl⟩ := List.mem_map.mp hd
  exact ⟨(lay_mt m).1, by have := (lay_mt m).2; lia⟩
theorem do_mt (m : Mt) : DOk (mtD m) := ⟨(lay_mt m).1, by have := (lay_mt m).2; lia⟩
theorem q_notInMts {p : Addr} {ms : List Mt} {m : Mt} (hp : listAt p (ms.map mtAV) σ) (hm : m ∈ ms) (h : Q (.bool false) σ) : cmpA X .NotIn (mtAV m) (.ref p) Q σ := by
  refine .notIn ⟨ms.map mtD, mtD m, .inl (rd_mts hp), rd_mt m, do_mts ms, do_mt m, ?_⟩
  have : ((ms.map mtD).any fun y => PyData.eqv y (mtD m)) = true := List.any_eq_true.mpr ⟨mtD m, List.mem_map_of_mem hm, PySem.SeqAt.eqv_refl _ (lay_mt m).1⟩
  rw [this]; exact h
theorem law_ok (G : Gd X (hK P)) (hd : d < 400) {p : Addr} {ns : List Int} (hp : listAt p (ns.map .int) σ) (q : ∀ σ', Q (.bool true) σ') : CallOk X 83 d [.ref p] Q Z σ := by
  refine' callK (m := _) ["_law_script"] [("_law_script", 0), ("_law_group_here", 1), ("_law_matches_here", 2), ("_law_one", 3), ("_law_other", 4), ("_law_found", 5), ("_law_taken", 6), ("_law_match_here", 7), ("_law_rest", 8), ("_law_at", 9)] G rfl rfl (bind1 fun a => rfl) rfl rfl rfl rfl rfl rfl rfl rfl (fun env E => ?snd) (by lia) rfl ?bd
  case snd =>
    repeat' first
      | ((with_reducible show SoundSs _ _ _ [] _); (with_reducible refine' sound_nil))
      | ((with_reducible show SoundSs _ _ _ (_ :: _) _); (with_reducible refine' sound_cons ?_ ?_))
      | ((with_reducible show SoundS _ _ _ (.If _ _ _ _) _); (with_reducible refine' sound_if ?_ ?_ ?_))
      | ((with_reducible show SoundS _ _ _ (.Return (some _) _) _); (with_reducible refine' sound_ret ?_))
      | ((with_reducible show SoundS _ _ _ (.Assign [.Name _ _] (.ListComp _ _ _ _) _) _); (with_reducible refine' w_setComp (by assumption) ?r1 ?r2 ?r3 ?r4 ?r5 ?_ (fun env' E' => ?_) (fun env' E' => ?_) (fun env' E' => ?_)); (case r1 => exact rfl); (case r2 => exact rfl); (case r3 => exact rfl); (case r4 => exact rfl); (case r5 => exact rfl))
      | ((with_reducible show SoundS _ _ _ (.Assign [.Name _ _] _ _) _); (with_reducible refine' w_set (by assumption) ?r1 ?r2 ?_ ?r3); (case r1 => exact rfl); (case r2 => exact rfl); (case r3 => exact rfl))
      | ((with_reducible show SoundS _ _ _ (.For _ _ _ _ _) _); (with_reducible refine' w_for ?r1 ?_ ?_ ?_); (case r1 => exact rfl))
      | ((with_reducible show SoundS _ _ _ (.While _ _ _ _) _); (with_reducible refine' sound_while ?_ ?_))
      | ((with_reducible show SoundC _ _ _ (_ :: _) _); (with_reducible refine' w_cSome ?_))
      | ((with_reducible show SoundT _ _ _ (.Name _ _) _); (with_reducible refine' w_tOne (by assumption) ?r1 ?r2); (case r1 => exact rfl); (case r2 => exact rfl))
      | ((with_reducible show SoundTC _ _ _ (.Name _ _) _); (with_reducible refine' w_tcOne (by assumption) ?r1 ?r2); (case r1 => exact rfl); (case r2 => exact rfl))
      | ((with_reducible show SoundI _ _ _ _ _ _); (with_reducible refine' w_it ?_))
      | ((with_reducible show SoundB _ _ _ (.Compare _ _ _ _) _); (with_reducible refine' soundB_cmp ?_ ?_))
      | ((with_reducible show SoundB _ _ _ (.UnaryOp .Not _ _) _); (with_reducible refine' soundB_not ?_))
      | ((with_reducible show SoundB _ _ _ (.BoolOp .Or _ _) _); (with_reducible refine' soundB_or ?_))
      | ((with_reducible show SoundB _ _ _ (_) _); (with_reducible refine' soundB_of ?_ ?r1); (case r1 => exact (fun _ => rfl)))
      | ((with_reducible show SoundE _ _ _ (.Name _ _) _); (with_reducible refine' w_loc (by assumption) ?r1 ?r2 ?r3); (case r1 => exact rfl); (case r2 => exact rfl); (case r3 => exact rfl))
      | ((with_reducible show SoundE _ _ _ (.Constant (.int _) _ _) _); (with_reducible refine' sound_int))
      | ((with_reducible show SoundE _ _ _ (.Constant .none _ _) _); (with_reducible refine' sound_none))
      | ((with_reducible show SoundE _ _ _ (.Constant (.bool _) _ _) _); (with_reducible refine' sound_bool))
      | ((with_reducible show SoundE _ _ _ (.List _ _) _); (with_reducible refine' sound_lst ?_))
      | ((with_reducible show SoundEs _ _ _ [] _); (with_reducible refine' w_es0))
      | ((with_reducible show SoundEs _ _ _ (_ :: _) _); (with_reducible refine' w_es1 ?r1 ?_ ?_); (case r1 => exact rfl))
      | ((with_reducible show SoundE _ _ _ (.Compare _ _ _ _) _); (with_reducible refine' sound_cmp ?_ ?_))
      | ((with_reducible show SoundOps _ _ _ [_] _ _); (with_reducible refine' SoundOps.one ?_ ?r1); (case r1 => exact rfl))
      | ((with_reducible show SoundE _ _ _ (.BinOp _ _ _ _) _); (with_reducible refine' sound_bin ?_ ?_))
      | ((with_reducible show SoundE _ _ _ (.UnaryOp .Not _ _) _); (with_reducible refine' sound_not ?_))
      | ((with_reducible show SoundEBs _ _ _ [] _); (with_reducible refine' SoundEBs.nil))
      | ((with_reducible show SoundEBs _ _ _ (_ :: _) _); (with_reducible refine' SoundEBs.cons ?_ ?_ ?_))
      | ((with_reducible show SoundE _ _ _ (.Subscript _ (.Slice _ _ _ _) _) _); (with_reducible refine' sound_slice ?_ ?_ ?_))
      | ((with_reducible show SoundE _ _ _ (.Subscript _ _ _) _); (with_reducible refine' sound_idx ?_ ?_ ?r1); (case r1 => exact rfl))
      | ((with_reducible show SoundO _ _ _ none _); (with_reducible refine' w_oNone))
      | ((with_reducible show SoundO _ _ _ (some _) _); (with_reducible refine' w_oSome ?_))
      | ((with_reducible show SoundE _ _ _ (.Call (.Name "len" _) [.Call (.Name "set" _) [_] [] _] [] _) _); (with_reducible refine' w_lenSet (by assumption) (by assumption) bi_len bi_set ?r1 ?r2 ?_); (case r1 => exact rfl); (case r2 => exact rfl))
      | ((with_reducible show SoundE _ _ _ (.Call (.Name "len" _) _ [] _) _); (with_reducible refine' w_len (by assumption) (by assumption) bi_len ?r1 ?_); (case r1 => exact rfl))
      | ((with_reducible show SoundE _ _ _ (.Call (.Name "list" _) _ [] _) _); (with_reducible refine' w_list (by assumption) (by assumption) bi_list ?r1 ?_); (case r1 => exact rfl))
      | ((with_reducible show SoundE _ _ _ (.Call (.Name "isinstance" _) [_, .Name "tuple" _] [] _) _); (with_reducible refine' w_isa .tuple (by assumption) (by assumption) bi_isinstance ?r1 bi_tuple ?r2 ?r3 ?_); (case r1 => exact rfl); (case r2 => exact rfl); (case r3 => exact rfl))
      | ((with_reducible show SoundE _ _ _ (.Call (.Name "isinstance" _) [_, .Name "list" _] [] _) _); (with_reducible refine' w_isa .list (by assumption) (by assumption) bi_isinstance ?r1 bi_list ?r2 ?r3 ?_); (case r1 => exact rfl); (case r2 => exact rfl); (case r3 => exact rfl))
      | ((with_reducible show SoundE _ _ _ (.Call (.Name _ _) _ [] _) _); (with_reducible refine' w_call (by assumption) (by assumption) ?r1 ?r2 ?r3 ?_); (case r1 => exact rfl); (case r2 => exact ⟨_, _, rfl, rfl⟩); (case r3 => exact rfl))
  repeat (first | with_reducible (first | refine q_consO fun S1 kn1 => ?_ | refine q_set ?_ | refine q_ev1 ?_ | refine q_ev0 ?_ | refine q_callF ?_) | ((with_reducible refine' q_loc ?e ?_); case e => rfl))
  refine group_ok G (by lia) hp fun σ1 r1 g e1 hr1 hg hgl hgn l1 => ?_
  have hgo : ∀ y ∈ g, mOk y := fun y hy => (hg y hy).ok
  repeat (first | with_reducible (first | refine q_consO fun S1 kn1 => ?_ | refine q_set ?_ | refine q_ev1 ?_ | refine q_ev0 ?_ | refine q_callF ?_) | ((with_reducible refine' q_loc ?e ?_); case e => rfl) | with_reducible (first | refine q_next (by assumption) ?_))
  refine matches_ok G (by lia) (e1.list hp) l1 hg hgl fun σ2 r2 ms e2 hr2 hms hml l2 => ?_
  have hm : ∀ m ∈ ms, mtOk m := fun m h => (hms m h).1
  have hn : ∀ m ∈ ms, mtGood m := fun m h => (hms m h).2
  have l1 := e2.list l1
  repeat (first | with_reducible (first | refine q_consO fun S1 kn1 => ?_ | refine q_set ?_ | refine q_prim ?_ | refine q_ev1 ?_ | refine q_ev0 ?_) | ((with_reducible refine' q_loc ?e ?_); case e => rfl) | with_reducible (first | refine q_next (by assumption) ?_))
  refine list_of l1 fun σ3 r3 e3 hr3 l3 => ?_
  have l1 := e3.list l1
  have l2 := e3.list l2
  repeat (first | with_reducible (first | refine q_consO fun S1 kn1 => ?_ | refine q_set ?_ | refine q_prim ?_ | refine q_ev1 ?_ | refine q_ev0 ?_) | ((with_reducible refine' q_loc ?e ?_); case e => rfl) | with_reducible (first | refine q_next (by assumption) ?_))
  refine list_of l2 fun σ4 r4 e4 hr4 l4 => ?_
  have l1 := e4.list l1
  have l2 := e4.list l2
  have l3 : listAt r3 (g.map mkAV) σ4 := .inl (e4 _ _ l3)
  have l4 : listAt r4 (ms.map mtAV) σ4 := .inl l4
  obtain ⟨lv, hlv⟩ := lv_ex ms
  clear e1 e2 e3 e4 hr1 hr2 hr3 hr4
  repeat (first | with_reducible (first | refine q_consO fun S1 kn1 => ?_ | refine q_set ?_ | refine q_ev1 ?_ | refine q_ev0 ?_ | refine q_callF ?_) | ((with_reducible refine' q_loc ?e ?_); case e => rfl) | with_reducible (first | refine q_next (by assumption) ?_))
  refine picked_ok G (by lia) hlv hgo hgl hm hml l3 l4 fun σ5 r5 fs e5 hr5 hpk l5 => ?_
  have l1 := e5.list l1
  have l2 := e5.list l2
  have l3 := e5.list l3
  have l4 := e5.list l4
  clear e5 hr5
  have hfm := hpk.mem
  have htot := hpk.tot hlv hn hgn
  obtain ⟨hnd, hsub⟩ := hpk.marks hn
  have hlen7 : (fs.flatMap marksOf).length ≤ 7 := Nat.le_trans (nodup_le hnd hsub) hgl
  have htl : (fs.flatMap marksOf).length = mostF ms g := by rw [← htot, List.length_flatMap]; rfl
  repeat (first | with_reducible (first | refine q_consO fun S1 kn1 => ?_ | refine q_if ?_ | refine q_cmp ?_ | refine q_chain1 ?_ | refine q_exB ?_) | ((with_reducible refine' q_loc ?e ?_); case e => rfl) | with_reducible (first | refine q_next (by assumption) ?_ | refine q_not ?_ | refine q_or ?_ | refine q_isa ?_ | refine q_isaL (by assumption) ?_) | ((with_reducible refine' q_ifFc ?e ?_); case e => rfl))
  refine q_neSame (.list l3 (rd_marks _)) (.list l1 (rd_marks _)) (do_list hgo) ?_
  repeat (first | with_reducible (first | refine q_cmp ?_ | refine q_chain1 ?_ | refine q_exB ?_) | ((with_reducible refine' q_loc ?e ?_); case e => rfl) | with_reducible (first | refine q_or1 ?_) | ((with_reducible refine' q_ifFc ?e ?_); case e => rfl))
  refine q_neSame (rd_mts l4) (rd_mts l2) (do_mts ms) ?_
  repeat (first | with_reducible (first | refine q_consO fun S1 kn1 => ?_ | refine q_set ?_ | refine q_isB ?_ | refine q_ev0 ?_) | with_reducible (first | refine q_nil ?_ | refine q_next (by assumption) ?_ | refine q_lst ?_) | ((with_reducible refine' q_ifFc ?e ?_); case e => rfl) | ((with_reducible refine' q_tl ?e ?_); case e => rfl))
  refine alf fun σ6 r6 e6 hr6 l6 => ?_
  have l5' := e6.list l5
  repeat (first | with_reducible (first | refine q_consO fun S1 kn1 => ?_) | ((with_reducible refine' q_loc ?e ?_); case e => rfl) | with_reducible (first | refine q_next (by assumption) ?_ | refine q_fr ?_ | refine q_itP ?_ | refine q_itemsL (by assumption) ?_))
  refine forL_at _ (fun k l' σ' => Ext σ5 σ' ∧ ∃ (rk : Addr) (a7 : Option AV), listAt rk (((fs.take k).flatMap marksOf).map mkAV) σ' ∧ l' = [some (.ref p), some (.ref r1), some (.ref r2), some (.ref r3), some (.ref r4), some (.ref r5), some (.ref rk), a7, none, none]) ?_ ?_ ⟨e6, r6, _, .inl l6, rfl⟩
  · rintro k y l' σ' K hy ⟨e, rk, a7, lk, rfl⟩ hK
    rw [List.getElem?_map] at hy
    obtain ⟨m, hm', rfl⟩ := Option.map_eq_some_iff.mp hy
    have hmf := List.mem_of_getElem? hm'
    have hmm := hm m (hfm m hmf)
    have htk : (fs.take (k + 1)).flatMap marksOf = (fs.take k).flatMap marksOf ++ marksOf m := by rw [List.take_add_one, hm', List.flatMap_append]; simp
    have hml8 : (marksOf m).length ≤ 8 := by unfold marksOf; rw [List.length_append, List.length_map, List.length_map]; have := hmm.1; have := hmm.2; lia
    have htl7 : ((fs.take k).flatMap marksOf).length ≤ 7 := by
      have h1 : ((fs.take k).flatMap marksOf).Nodup := by
        have : fs.flatMap marksOf = (fs.take k).flatMap marksOf ++ (fs.drop k).flatMap marksOf := by rw [← List.flatMap_append, List.take_append_drop]
        rw [this] at hnd
        exact (List.nodup_append.mp hnd).1
      exact Nat.le_trans (nodup_le h1 fun y hy => hsub y (by
        obtain ⟨a, ha, hy⟩ := List.mem_flatMap.mp hy
        exact List.mem_flatMap.mpr ⟨a, List.mem_of_mem_take ha, hy⟩)) hgl
    refine ⟨_, rfl, ?_⟩
    repeat (first | with_reducible (first | refine q_consO fun S1 kn1 => ?_ | refine q_if ?_ | refine q_cmp ?_ | refine q_chain1 ?_) | ((with_reducible refine' q_loc ?e ?_); case e => rfl) | with_reducible (first | refine q_or ?_))
    refine q_notInMts (e.list l2) (hfm m hmf) ?_
    repeat (first | with_reducible (first | refine q_consO fun S1 kn1 => ?_ | refine q_set ?_ | refine q_isB ?_ | refine q_ev1 ?_ | refine q_ev0 ?_ | refine q_callF ?_ | refine q_exB ?_) | ((with_reducible refine' q_loc ?e ?_); case e => rfl) | with_reducible (first | refine q_nil ?_ | refine q_next (by assumption) ?_ | refine q_bin ?_ | refine q_not ?_ | refine q_or1 ?_ | refine q_isa ?_) | ((with_reducible refine' q_pisa ?e ?_); case e => rfl) | ((with_reducible refine' q_ifFc ?e ?_); case e => rfl))
    refine law_marks_ok G (by lia) hmm fun σ7 r7 e7 hr7 l7 => ?_
    refine addL_of (e7.list lk) l7 (by rw [List.length_map, List.length_map]; lia) fun σ8 r8 e8 hr8 l8 => ?_
    repeat (first | with_reducible (first | refine q_nil ?_ | refine q_next (by assumption) ?_))
    have e58 := e.trans (e7.trans e8)
    refine ⟨e58.list l5, hK _ _ ⟨e58, r8, _, .inl ?_, rfl⟩⟩
    rw [l8, htk, List.map_append]
  rintro l' σ7 ⟨e7, rk, a7, lk, rfl⟩
  rw [List.length_map, List.take_length] at lk
  have l1 := e7.list l1
  have l2 := e7.list l2
  have l5 := e7.list l5
  have hto : ∀ m ∈ fs.flatMap marksOf, mOk m := fun m h => hgo m (hsub m h)
  clear e6 hr6 l6 l5' l3 l4
  repeat (first | with_reducible (first | refine q_consO fun S1 kn1 => ?_ | refine q_if ?_ | refine q_cmp ?_ | refine q_prim ?_ | refine q_ev1 ?_ | refine q_ev0 ?_) | ((with_reducible refine' q_loc ?e ?_); case e => rfl) | with_reducible (first | refine q_next (by assumption) ?_ | refine q_or ?_))
  refine q_lenSet lk hlen7 hnd hto ?_
  repeat (first | with_reducible (first | refine q_chain1 ?_ | refine q_prim ?_ | refine q_ev1 ?_ | refine q_ev0 ?_ | refine q_exB ?_) | ((with_reducible refine' q_loc ?e ?_); case e => rfl) | with_reducible (first | refine q_neI ?_ | refine q_lenLM (by assumption) ?_))
  rw [beq_self_eq_true]
  repeat (first | with_reducible (first | refine q_cmp ?_ | refine q_chain1 ?_ | refine q_prim ?_ | refine q_ev1 ?_ | refine q_ev0 ?_ | refine q_callF ?_) | ((with_reducible refine' q_loc ?e ?_); case e => rfl) | with_reducible (first | refine q_or1 ?_ | refine q_lenLM (by assumption) ?_) | ((with_reducible refine' q_ifFc ?e ?_); case e => rfl))
  refine law_most_ok G ms.length (r := g) (ms := ms) rfl (by lia) hgo hgl hm hml l1 l2 fun σ8 e8 => ?_
  repeat (first | with_reducible (first | refine q_isB ?_) | with_reducible (first | refine q_neI ?_))
  rw [htl, beq_self_eq_true]
  repeat (first | with_reducible (first | refine q_consO fun S1 kn1 => ?_ | refine q_set ?_ | refine q_prim ?_ | refine q_ev1 ?_ | refine q_ev0 ?_) | ((with_reducible refine' q_loc ?e ?_); case e => rfl) | with_reducible (first | refine q_nil ?_ | refine q_next (by assumption) ?_) | ((with_reducible refine' q_ifFc ?e ?_); case e => rfl))
  refine list_of (e8.list l1) fun σ9 r9 e9 hr9 l9 => ?_
  have e89 := e8.trans e9
  have l2 := e89.list l2
  have l5 := e89.list l5
  have l9 : listAt r9 (g.map mkAV) σ9 := .inl l9
  repeat (first | with_reducible (first | refine q_consO fun S1 kn1 => ?_ | refine q_set ?_ | refine q_k ?_) | with_reducible (first | refine q_next (by assumption) ?_))
  refine ⟨fun n l' σ' => ∃ (r : List Mark) (k : Nat) (rr : Addr) (a7 : Option AV), n = r.length ∧ Ext σ9 σ' ∧ listAt rr (r.map mkAV) σ' ∧ k ≤ fs.length ∧ Pick ms lv r (fs.drop k) ∧ r.Nodup ∧ (∀ y ∈ r, y ∈ g) ∧ l' = [some (.ref p), some (.ref r1), some (.ref r2), some (.ref r3), some (.ref r4), some (.ref r5), some (.ref rk), a7, some (.ref rr), some (.int (k : Nat))],
    g.length, ⟨g, 0, r9, _, rfl, .refl _, l9, Nat.zero_le _, hpk, hgn, fun y h => h, rfl⟩, ?_⟩
  clear l9 hr9 e9 e89 e8
  rintro n l' σ' ⟨r, k, rr, a7', rfl, e, lr, hk, hP, hrn, hrg, rfl⟩
  have hro : ∀ y ∈ r, mOk y := fun y hy => hgo y (hrg y hy)
  have hrl : r.length ≤ 7 := Nat.le_trans (nodup_le hrn hrg) hgl
  have l2' := e.list l2
  have l5' := e.list l5
  repeat (first | with_reducible (first | refine q_cmp ?_ | refine q_chain1 ?_ | refine q_ev0 ?_) | ((with_reducible refine' q_loc ?e ?_); case e => rfl) | with_reducible (first | refine q_lst ?_) | ((with_reducible refine' q_tl ?e ?_); case e => rfl))
  refine alf fun σa ra ea hra la => ?_
  refine q_neD (.list (ea.list lr) (rd_marks _)) (.list (.inl la) .nil) (do_list hro) ⟨by simp [PyData.canLay0, PyData.canLayAll0], by simp [PyData.depth, PyData.depthAll]⟩ ?_
  rw [eqv_nilL, List.isEmpty_map]
  have e := e.trans ea
  have lr := ea.list lr
  have l2' := ea.list l2'
  have l5' := ea.list l5'
  cases r with
  | nil =>
    repeat (first | with_reducible (first | refine q_consO fun S1 kn1 => ?_ | refine q_ret ?_ | refine q_isB ?_ | refine q_cmp ?_ | refine q_chain1 ?_ | refine q_prim ?_ | refine q_ev1 ?_ | refine q_ev0 ?_) | ((with_reducible refine' q_loc ?e ?_); case e => rfl) | with_reducible (first | refine q_next (by assumption) ?_ | refine q_retK (by assumption) ?_ | refine q_eqI ?_ | refine q_lenLM (by assumption) ?_) | ((with_reducible refine' q_ifFc ?e ?_); case e => rfl))
    have hnil : fs.drop k = [] := by generalize fs.drop k = fd at hP ⊢; cases hP; rfl
    have hke : k = fs.length := by have := congrArg List.length hnil; rw [List.length_drop] at this; simp at this; omega
    subst hke
    rw [beq_self_eq_true]
    exact q _
  | cons x t =>
    repeat (first | with_reducible (first | refine q_consO fun S1 kn1 => ?_ | refine q_set ?_ | refine q_isB ?_ | refine q_ev1 ?_ | refine q_ev0 ?_ | refine q_callF ?_) | ((with_reducible refine' q_loc ?e ?_); case e => rfl) | ((with_reducible refine' q_ifTc ?e ?_); case e => rfl))
    refine law_first_ok G (by lia) hro hrl hm hml lr l2' fun σb v eb hv => ?_
    have lrb := eb.list lr
    have l2b := eb.list l2'
    have l5b := eb.list l5'
    have eb0 := e.trans eb
    rcases hv with ⟨rfl, hno⟩ | ⟨j, m, hj, hgm, hno, rfl⟩
    · have hP' : Pick ms lv t (fs.drop k) := by
        generalize fs.drop k = fd at hP ⊢
        cases hP with
        | skip _ h => exact h
        | take hk' hl he _ _ =>
          have hmem := List.mem_of_getElem? hk'
          exact absurd ((good_iff hlv hn hrn hmem).mpr ⟨_, hl, he⟩) (hno _ hmem)
      repeat (first | with_reducible (first | refine q_consO fun S1 kn1 => ?_ | refine q_set ?_ | refine q_if ?_ | refine q_isB ?_ | refine q_k ?_ | refine q_cmp ?_ | refine q_chain1 ?_) | ((with_reducible refine' q_loc ?e ?_); case e => rfl) | with_reducible (first | refine q_next (by assumption) ?_ | refine q_exI ?_ | refine q_isNone ?_ | refine q_slice ?_ | refine q_optN ?_ | refine q_optS ?_ | refine q_slL (by assumption) ?_) | ((with_reducible refine' q_ifTc ?e ?_); case e => rfl))
      refine alf fun σc rc ec hrc lc => ?_
      have lc : listAt rc (t.map mkAV) σc := .inl (by rw [lc, show (1 : Int) = ((1 : Nat) : Int) from rfl, cut_drop _ _ (by simp)]; rfl)
      repeat (first | with_reducible (first | refine q_nil ?_ | refine q_next (by assumption) ?_))
      exact ⟨t.length, by simp, t, k, rc, _, rfl, eb0.trans ec, lc, hk, hP', (List.nodup_cons.mp hrn).2, fun y hy => hrg y (List.mem_cons_of_mem _ hy), rfl⟩
    · have hjm := List.mem_of_getElem? hj
      obtain ⟨b, hlb, heb⟩ := (good_iff hlv hn hrn hjm).mp hgm
      obtain ⟨hxm, hfm', rfl⟩ := less_some hlb
      have hmm := hm m hjm
      have hP' : ∃ fs', fs.drop k = m :: fs' ∧ Pick ms lv (remB (x :: t) m) fs' := by
        generalize hfd : fs.drop k = fd at hP
        cases hP with
        | skip hs _ => exact absurd heb (hs m hjm _ hlb)
        | @take _ _ b' m' k' fs' hk' hl' he' hno' hp' =>
          have : k' = j := by
            rcases Nat.lt_trichotomy k' j with h | h | h
            · have hmem : m' ∈ ms.take j := List.mem_iff_getElem?.mpr ⟨k', by rw [List.getElem?_take_of_lt h]; exact hk'⟩
              exact absurd ((good_iff hlv hn hrn (List.mem_of_getElem? hk')).mpr ⟨_, hl', he'⟩) (hno m' hmem)
            · exact h
            · have hmem : m ∈ ms.take k' := List.mem_iff_getElem?.mpr ⟨j, by rw [List.getElem?_take_of_lt h]; exact hj⟩
              exact absurd heb (hno' m hmem _ hlb)
          subst this
          rw [hj] at hk'
          cases hk'
          obtain ⟨_, _, rfl⟩ := less_some hl'
          exact ⟨fs', rfl, hp'⟩
      obtain ⟨fs', hfd, hpk'⟩ := hP'
      have hkl : k < fs.length := by
        have := congrArg List.length hfd
        rw [List.length_drop, List.length_cons] at this
        omega
      have hfk : fs[k]? = some m := by
        have := congrArg List.head? hfd
        rw [List.head?_drop] at this
        exact this
      have hfd' : fs.drop (k + 1) = fs' := by
        have := congrArg List.tail hfd
        rw [List.tail_drop] at this
        exact this
      have ea' : atIdx (fs.map mtAV) ((k : Nat) : Int) = some (mtAV m) := by rw [at_nat, List.getElem?_map, hfk]; rfl
      have hbk : (((k : Nat) : Int) == ((fs.length : Nat) : Int)) = false := by rw [beq_eq_false_iff_ne]; omega
      repeat (first | with_reducible (first | refine q_consO fun S1 kn1 => ?_ | refine q_if ?_ | refine q_isB ?_ | refine q_k ?_ | refine q_cmp ?_ | refine q_chain1 ?_ | refine q_prim ?_ | refine q_ev1 ?_ | refine q_ev0 ?_ | refine q_exB ?_) | ((with_reducible refine' q_loc ?e ?_); case e => rfl) | with_reducible (first | refine q_next (by assumption) ?_ | refine q_or ?_ | refine q_eqI ?_ | refine q_isNone ?_ | refine q_lenLM (by assumption) ?_) | ((with_reducible refine' q_ifFc ?e ?_); case e => rfl))
      rw [hbk]
      repeat (first | with_reducible (first | refine q_idx ?_ | refine q_cmp ?_ | refine q_chain1 ?_) | ((with_reducible refine' q_loc ?e ?_); case e => rfl) | with_reducible (first | refine q_or1 ?_ | refine q_listIdx (by assumption) (by assumption) ?_) | ((with_reducible refine' q_ifFc ?e ?_); case e => rfl))
      refine q_neSame (rd_mt m) (rd_mt m) (do_mt m) ?_
      repeat (first | with_reducible (first | refine q_consO fun S1 kn1 => ?_ | refine q_set ?_ | refine q_isB ?_) | ((with_reducible refine' q_loc ?e ?_); case e => rfl) | with_reducible (first | refine q_nil ?_ | refine q_next (by assumption) ?_ | refine q_lc ?_ | refine q_itP ?_ | refine q_itemsL (by assumption) ?_) | ((with_reducible refine' q_ifFc ?e ?_); case e => rfl))
      refine compLf_ext (fun y => !decide (y ∈ marksOf m)) mkAV mkAV (fun y => [some (.ref p), some (.ref r1), some (.ref r2), some (.ref r3), some (.ref r4), some (.ref r5), some (.ref rk), some (mtAV m), some (.ref rr), some (.int (k : Nat)), none, some (mkAV y)]) (fun x y => rfl) (x :: t) [] (fun y => rfl) ?_ ?_ ?_ ?_ ?_
      · intro y hy σ' e' R hR
        have hyy := hro y hy
        repeat (first | with_reducible (first | refine q_cmp ?_ | refine q_chain1 ?_ | refine q_ev1 ?_ | refine q_ev0 ?_ | refine q_callF ?_) | ((with_reducible refine' q_loc ?e ?_); case e => rfl))
        refine law_marks_ok G (by lia) hmm fun σc rc ec hrc lc => ?_
        refine q_notInMarks lc (fun z hz => hro z (hfm' z hz)) hyy ?_
        repeat (first | with_reducible (first | refine q_isB ?_))
        exact hR _ ec
      · intro y hy σ' e' R hR
        repeat (first | ((with_reducible refine' q_loc ?e ?_); case e => rfl))
        exact hR
      · intro σ' e'
        exact e'.list lrb
      · simp only [List.length_nil, List.length_cons] at hrl ⊢
        omega
      · intro σc ec
        refine alf fun σd rd ed hrd ld => ?_
        have ld : listAt rd ((remB (x :: t) m).map mkAV) σd := .inl (by rw [ld]; rfl)
        repeat (first | with_reducible (first | refine q_consO fun S1 kn1 => ?_ | refine q_set ?_ | refine q_k ?_) | ((with_reducible refine' q_loc ?e ?_); case e => rfl) | with_reducible (first | refine q_nil ?_ | refine q_next (by assumption) ?_ | refine q_bin ?_ | refine q_add ?_))
        refine ⟨(remB (x :: t) m).length, ?_, remB (x :: t) m, k + 1, rd, _, rfl, eb0.trans (ec.trans ed), ld, hkl, by rw [hfd']; exact hpk', List.Nodup.sublist List.filter_sublist hrn, fun y hy => hrg y ((List.mem_filter.mp hy).1), rfl⟩
        exact List.length_filter_lt_length_iff_exists.mpr ⟨x, List.mem_cons_self, by simp [hxm]⟩
end
end Mine

open PySem PySem.W PyProof.Rows
set_option Elab.async false
set_option maxRecDepth 100000
set_option maxHeartbeats 8000000
set_option pp.deepTerms false
theorem PySem.Challenge.cw_uf060002_06_holds : PySem.Challenge.rw_uf060002_06.Holds := by
  refine Mine.hd ?_
  intro w s₀ s₁ mg mb G Y fa o pm cd doc dV kV ho hd hcd hD hmg hg args vals as hpre hlay hrd hwl hlo
  have KX := kIn_of Y
  refine Ground.open G ?_
  intro T B D TE TW
  have hfa := mg_of KX T.g (n := "law") (v := .ref 83) (by kernel_rfl)
  rw [Mine.dL_name, hfa] at hmg
  cases hmg
  wrow_args hpre hlay hrd hwl hlo
  refine enter_call ?_
  refine codeAny_mono ?_ (fun _ _ g => GoodW.toG g)
  refine Mine.head_of (K := Mine.hK w.params) ⟨⟨T.g, T.b, T.nolimit⟩, KX, T.builtins⟩ (by assumption) (by assumption) (by omega) hg (fun _ => rfl) ?post ?_
  case post => exact postW_of rfl (w_eq_bool rfl rfl) rfl
  intro Q Z σ hl q
  exact Mine.law_ok ⟨⟨T.g, T.b, T.nolimit⟩, KX, T.builtins⟩ (by omega) hl q

