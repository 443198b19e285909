import PyProof.Rows.All
import Wide.All
import OpenK.AllK
import Wide.FinOn
import PyProof.Seq
import PyProof.Methods
import PyProof.TupleIter
import PyProof.SliceList
import PyProof.MeetsStr2
import PyProof.Cells
import PyProof.StrWalks
import PyProof.CompFree
import PyProof.PureInt
import PyProof.ListOps
import PyProof.IsRules
import PyProof.RaisesMany
import PyProof.StrLaws
import PyProof.SliceStr2
import PyProof.StrOps
import PyProof.StrOps2
import PyProof.StrBlock
import PyProof.StrBlockI
import PyProof.StrBlockL
import PyProof.StrLawsChain
import PyProof.WalksMore
import PyProof.RangeFor
import PyProof.IsInstance
import PyProof.IsInstanceH
import PyProof.IsiNone
import PyProof.ListIndexNeg
import PyProof.ListMulRoad
import PyProof.WalkInts
import PyProof.PvWalk
import PyProof.Rows.TupSub
import PyProof.ZipIter
import PyProof.Truth
import PyProof.StrCalls2
import PyProof.StrLawsOccR
import PyProof.Rows.Chain
import PyProof.Rows.Nodes
import PyProof.Rows.RuleB_floordiv
import PyProof.Rows.RuleB_mod
import PyProof.StrCalls3
import PyProof.Rows.StrTemp
import PyProof.Rows.ListMul
import PyProof.Rows.ListMulCarried
import PyProof.Rows.ListMulR
import PyProof.Rows.RuleC_bool
import PyProof.TupleOps
import PyProof.SeqI3
import PyProof.StrLawsTight
import PyProof.Rows.TupAdd
import PyProof.Rows.Range3
import Wide.BridgeG
import OpenK.TopRead
import OpenK.KWalk
import PySem.Challenge.RW_uf030034_02
open PySem PySem.W PyProof.Rows
set_option Elab.async false
set_option linter.unusedVariables false
/- part F1 -/
set_option Elab.async false
set_option linter.unusedVariables false
namespace Mine
open PySem

/-! the heap never shrinks -/
theorem size_runs {M : Model} {Γ : Ctx} {p : Pos} {t : Sem Fin} {fs : List Frame} {s s' : Shared} {e : End} (h : Runs M Γ p t fs s e s') : s.heap.objs.size ≤ s'.heap.objs.size := by
  induction h <;> (try simp only [Shared.setGen, Heap.size_push, Heap.size_after_update] at *) <;> omega
theorem size_wakes {M : Model} {Γ : Ctx} {p : Pos} {g : Nat} {r : Resume} {s s' : Shared} {res : GenResult} (h : Wakes M Γ p g r s res s') : s.heap.objs.size ≤ s'.heap.objs.size := by
  unfold Wakes at h
  split at h
  · exact h.elim
  · split at h
    · obtain ⟨e₁, s₁, hr, _, _, rfl⟩ := h; exact (size_runs hr : (s.setGen g .running).heap.objs.size ≤ s₁.heap.objs.size)
    · rw [h.2]; exact Nat.le_refl _
    · rw [h.2]; exact Nat.le_refl _
  · obtain ⟨e₁, s₁, hr, _, _, rfl⟩ := h; exact (size_runs hr : (s.setGen g .running).heap.objs.size ≤ s₁.heap.objs.size)
  · rw [h.2]; exact Nat.le_refl _
  · rw [h.2]; exact Nat.le_refl _
theorem wp_size {α : Type} (M : Model) (Γ : Ctx) (n : Nat) (t : Sem α) : ∀ (Q : α → Pos → Shared → Prop) (E : Value → Pos → Shared → Prop) (p : Pos) (s : Shared), n ≤ s.heap.objs.size → Sem.wp M Γ t Q E p s →
    Sem.wp M Γ t (fun a p' s' => n ≤ s'.heap.objs.size ∧ Q a p' s') (fun e p' s' => n ≤ s'.heap.objs.size ∧ E e p' s') p s := by
  induction t with
  | pure a => intro Q E p s hn h; exact ⟨hn, h⟩
  | raise e => intro Q E p s hn h; exact ⟨hn, h⟩
  | unsupported _ => intro Q E p s _ h; exact h
  | finish _ => intro Q E p s _ h; exact h
  | rule _ k ih => intro Q E p s hn h; exact ih () Q E p s hn h
  | «at» p' k ih => intro Q E p s hn h; exact ih () Q E p' s hn h
  | load a _ k ih => intro Q E p s hn h; obtain ⟨o, ho, h⟩ := h; exact ⟨o, ho, ih o Q E p s hn h⟩
  | update a _ f k ih => intro Q E p s hn h; exact ⟨h.1, ih () Q E p _ (by rw [Heap.size_after_update]; exact hn) h.2⟩
  | loadIfAlive a k ih => intro Q E p s hn h; exact ih _ Q E p s hn h
  | point _ k ih => intro Q E p s hn h; exact ih () Q E p s hn h
  | register _ _ => intro Q E p s _ h; exact h
  | alloc o k ih => intro Q E p s hn h; exact ih _ Q E p _ (by rw [Heap.size_push]; omega) h
  | fresh k ih => intro Q E p s hn h; exact ih _ Q E p _ hn h
  | ask k ih => intro Q E p s hn h; exact ih _ Q E p s hn h
  | choose src m k ih => intro Q E p s hn h; exact ⟨h.1, ih _ Q E p _ hn h.2⟩
  | os q _ k ih => intro Q E p s hn h; exact ih _ Q E p _ hn h
  | call c hd _ _ k ih => intro Q E p s hn h; obtain ⟨r, s', hr, h⟩ := h; exact ⟨r, s', hr, ih r Q E p s' (Nat.le_trans hn (size_runs hr)) h⟩
  | handled own k ih => intro Q E p s hn h; exact ih _ Q E p s hn h
  | genState g k ih => intro Q E p s hn h; obtain ⟨st, hs, h⟩ := h; exact ⟨st, hs, ih _ Q E p s hn h⟩
  | newGen c k ih => intro Q E p s hn h; exact ih _ Q E p _ hn h
  | resume g r _ k ih => intro Q E p s hn h; obtain ⟨res, s', hw, h⟩ := h; exact ⟨res, s', hw, ih res Q E p s' (Nat.le_trans hn (size_wakes hw)) h⟩
  | yield _ _ _ _ => intro Q E p s _ h; exact h
  | stack k ih => intro Q E p s hn h; exact ih _ Q E p s hn h
  | fork _ _ => intro Q E p s _ h; exact h
  | thread k ih => intro Q E p s hn h; exact ih _ Q E p s hn h
  | await _ _ _ _ _ => intro Q E p s _ h; exact h
theorem wpAny_size {α : Type} {M : Model} {A : Around} {s : Shared} {t : Sem α} {Q : α → Shared → Prop} {E : Value → Shared → Prop} (h : wpAny M A t Q E s) :
    wpAny M A t (fun a s' => s.heap.objs.size ≤ s'.heap.objs.size ∧ Q a s') (fun e s' => s.heap.objs.size ≤ s'.heap.objs.size ∧ E e s') s :=
  fun Γ p hΓ => wp_size M Γ _ t _ _ p s (Nat.le_refl _) (h Γ p hΓ)

/-- pure values: lists and dicts are references into the pure store -/
inductive D where
  | none
  | bool (b : Bool)
  | int (i : Int)
  | str (s : Str)
  | tup (ds : List D)
  | ref (k : Nat)
  | scr (ns : List Int)
  | exc (c : Addr)

/-- objects of the pure store -/
inductive PO where
  | list (ds : List D)
  | dict (kvs : List (D × D))
  /-- a tuple that the interpreter itself writes (zip's) -/
  | priv

abbrev Sto := List PO
abbrev Loc := Nat → Option D
structure St where
  loc : Loc
  sto : Sto

inductive Out (α : Type) where
  | ok (a : α) (st : St)
  | exc (c : Addr) (st : St)
  | bot

abbrev Mn (α : Type) := St → Out α

def ret1 {α : Type} (a : α) : Mn α := fun st => .ok a st
def bnd {α β : Type} (m : Mn α) (f : α → Mn β) : Mn β := fun st => match m st with
  | .ok a st' => f a st'
  | .exc c st' => .exc c st'
  | .bot => .bot
def botM {α : Type} : Mn α := fun _ => .bot

inductive Fl where
  | next | brk | cont
  | ret (d : D)

/-! relations -/
inductive All2 {α β : Type} (R : α → β → Prop) : List α → List β → Prop
  | nil : All2 R [] []
  | cons {a b l l'} : R a b → All2 R l l' → All2 R (a :: l) (b :: l')

theorem All2.length {α β : Type} {R : α → β → Prop} {l : List α} {l' : List β} (h : All2 R l l') : l.length = l'.length := by
  induction h with
  | nil => rfl
  | cons _ _ ih => simp [ih]
theorem All2.mono {α β : Type} {R R' : α → β → Prop} (hm : ∀ a b, R a b → R' a b) {l : List α} {l' : List β} (h : All2 R l l') : All2 R' l l' := by
  induction h with
  | nil => exact .nil
  | cons x _ ih => exact .cons (hm _ _ x) ih
theorem All2.append {α β : Type} {R : α → β → Prop} {l₁ l₂ : List α} {l₁' l₂' : List β} (h : All2 R l₁ l₁') (g : All2 R l₂ l₂') : All2 R (l₁ ++ l₂) (l₁' ++ l₂') := by
  induction h with
  | nil => exact g
  | cons x _ ih => exact .cons x ih
theorem All2.get {α β : Type} {R : α → β → Prop} {l : List α} {l' : List β} (h : All2 R l l') : ∀ (i : Nat) (b : β), l'[i]? = some b → ∃ a, l[i]? = some a ∧ R a b := by
  induction h with
  | nil => intro i b e; simp at e
  | cons x _ ih =>
    intro i b e
    cases i with
    | zero => simp at e; subst e; exact ⟨_, by simp, x⟩
    | succ i => simp at e; obtain ⟨a, ha, r⟩ := ih i b e; exact ⟨a, by simpa using ha, r⟩
theorem All2.take {α β : Type} {R : α → β → Prop} {l : List α} {l' : List β} (h : All2 R l l') : ∀ n, All2 R (l.take n) (l'.take n) := by
  induction h with
  | nil => intro n; simp; exact .nil
  | cons x _ ih => intro n; cases n with
    | zero => simp; exact .nil
    | succ n => simp; exact .cons x (ih n)
theorem All2.drop {α β : Type} {R : α → β → Prop} {l : List α} {l' : List β} (h : All2 R l l') : ∀ n, All2 R (l.drop n) (l'.drop n) := by
  induction h with
  | nil => intro n; simp; exact .nil
  | cons x h ih => intro n; cases n with
    | zero => simp; exact .cons x h
    | succ n => simpa using ih n
theorem All2.reverse {α β : Type} {R : α → β → Prop} {l : List α} {l' : List β} (h : All2 R l l') : All2 R l.reverse l'.reverse := by
  induction h with
  | nil => exact .nil
  | cons x _ ih => simp only [List.reverse_cons]; exact ih.append (.cons x .nil)
theorem All2.set {α β : Type} {R : α → β → Prop} {l : List α} {l' : List β} (h : All2 R l l') {a : α} {b : β} (r : R a b) : ∀ i, All2 R (l.set i a) (l'.set i b) := by
  induction h with
  | nil => intro i; simp; exact .nil
  | cons x h ih => intro i; cases i with
    | zero => simp; exact .cons r h
    | succ i => simp; exact .cons x (ih i)

/-- the ground of one law's call: program, world, the heap before the call -/
structure Gd where
  prog : Program
  w : World
  h0 : Heap
  os0 : OsState
  gens0 : Array GenState


abbrev lstO (vs : Array Value) (n : Nat) : Obj := { cls := .type "list", dict := none, data := .seq vs n, slots := #[] }
abbrev tupO (vs : Array Value) (n : Nat) : Obj := { cls := .type "tuple", dict := none, data := .seq vs n, slots := #[] }
def IsTupl (h : Heap) (a : Addr) (items : Array Value) : Prop := ∃ n, h.get? a = some (tupO items n)
def IsLst (h : Heap) (a : Addr) (items : Array Value) : Prop := ∃ n, h.get? a = some (lstO items n)
theorem tup_ne_lst {vs vs' : Array Value} {n n' : Nat} : tupO vs n ≠ lstO vs' n' := fun h => by
  have := congrArg Obj.cls h
  simp at this
theorem IsLst.list {h : Heap} {a : Addr} {vs : Array Value} (x : IsLst h a vs) : h.IsList a vs := let ⟨n, e⟩ := x; ⟨_, e, rfl, n, rfl⟩
def IsExc (h : Heap) (a : Addr) (c : Addr) : Prop := ∃ o, h.get? a = some o ∧ o.cls = .ref c ∧ ∃ vs, o.data = .fields vs
def IsInts (vs : List Value) (ns : List Int) : Prop := All2 (fun v n => ∃ t, v = Value.int n t) vs ns

mutual
/-- v in heap h stands for d; ρ: where the store's objects lie -/
def Rel (G : Gd) (h : Heap) (ρ : List Addr) : D → Value → Prop
  | .none, v => v = .none
  | .bool b, v => v = .bool b
  | .int i, v => ∃ t, v = .int i t
  | .str s, v => ∃ t, v = .str s t
  | .tup ds, v => ∃ a vs, v = .ref a ∧ a ∉ ρ ∧ IsTupl h a vs ∧ RelL G h ρ ds vs.toList
  | .ref k, v => ∃ a, v = .ref a ∧ ρ[k]? = some a
  | .scr ns, v => ∃ a vs, v = .ref a ∧ G.h0.IsList a vs ∧ IsInts vs.toList ns
  | .exc c, v => ∃ a, v = .ref a ∧ a ∉ ρ ∧ IsExc h a c
def RelL (G : Gd) (h : Heap) (ρ : List Addr) : List D → List Value → Prop
  | [], vs => vs = []
  | d :: ds, vs => ∃ v r, vs = v :: r ∧ Rel G h ρ d v ∧ RelL G h ρ ds r
end

theorem RelL.all2 {G : Gd} {h : Heap} {ρ : List Addr} : ∀ {ds : List D} {vs : List Value}, RelL G h ρ ds vs → All2 (fun v d => Rel G h ρ d v) vs ds
  | [], vs, e => by simp only [RelL] at e; subst e; exact .nil
  | d :: ds, vs, e => by
    simp only [RelL] at e
    obtain ⟨v, r, rfl, h1, h2⟩ := e
    exact .cons h1 (RelL.all2 h2)
theorem RelL.of_all2 {G : Gd} {h : Heap} {ρ : List Addr} {ds : List D} {vs : List Value} (x : All2 (fun v d => Rel G h ρ d v) vs ds) : RelL G h ρ ds vs := by
  induction x with
  | nil => simp [RelL]
  | cons a _ ih => simp only [RelL]; exact ⟨_, _, rfl, a, ih⟩

/-- what keeps the meaning of values -/
structure Stb (h : Heap) (ρ : List Addr) (h' : Heap) (ρ' : List Addr) : Prop where
  pre : ∀ (k : Nat) (a : Addr), ρ[k]? = some a → ρ'[k]? = some a
  tup : ∀ a items, a ∉ ρ → IsTupl h a items → a ∉ ρ' ∧ IsTupl h' a items
  exc : ∀ a c, a ∉ ρ → IsExc h a c → a ∉ ρ' ∧ IsExc h' a c

mutual
theorem Rel.mono {G : Gd} {h h' : Heap} {ρ ρ' : List Addr} (S : Stb h ρ h' ρ') : ∀ (d : D) (v : Value), Rel G h ρ d v → Rel G h' ρ' d v
  | .none, _, e => e
  | .bool _, _, e => e
  | .int _, _, e => e
  | .str _, _, e => e
  | .tup ds, v, e => by
    simp only [Rel] at e ⊢
    obtain ⟨a, vs, e1, n, e2, e3⟩ := e
    obtain ⟨n', e2'⟩ := S.tup _ _ n e2
    exact ⟨a, vs, e1, n', e2', RelL.mono S ds _ e3⟩
  | .ref k, v, e => by
    simp only [Rel] at e ⊢
    obtain ⟨a, e1, e2⟩ := e
    exact ⟨a, e1, S.pre _ _ e2⟩
  | .scr _, _, e => by simp only [Rel] at e ⊢; exact e
  | .exc c, v, e => by
    simp only [Rel] at e ⊢
    obtain ⟨a, e1, n, e2⟩ := e
    exact ⟨a, e1, S.exc _ _ n e2⟩
theorem RelL.mono {G : Gd} {h h' : Heap} {ρ ρ' : List Addr} (S : Stb h ρ h' ρ') : ∀ (ds : List D) (vs : List Value), RelL G h ρ ds vs → RelL G h' ρ' ds vs
  | [], _, e => by simp only [RelL] at e ⊢; exact e
  | d :: ds, vs, e => by
    simp only [RelL] at e ⊢
    obtain ⟨v, r, e1, e2, e3⟩ := e
    exact ⟨v, r, e1, Rel.mono S d v e2, RelL.mono S ds r e3⟩
end

/-- the hash that a key of a dict bears (tuples of ints, ints) : said apart -/
def EntRel (G : Gd) (h : Heap) (ρ : List Addr) (e : DictEntry) (kv : D × D) : Prop := Rel G h ρ kv.1 e.key ∧ Rel G h ρ kv.2 e.val

/-- a pair that an iterator keeps for itself -/
def Prv (h : Heap) (a : Addr) : Prop := ∃ x y, h.get? a = some (tupO #[x, y] 0)
def ObjRel (G : Gd) (h : Heap) (ρ : List Addr) (a : Addr) : PO → Prop
  | .list ds => ∃ vs, IsLst h a vs ∧ RelL G h ρ ds vs.toList
  | .dict kvs => ∃ o es n, h.get? a = some o ∧ o.cls = .type "dict" ∧ o.data = .dict es n ∧ All2 (EntRel G h ρ) es.toList kvs
  | .priv => Prv h a

structure Inv (G : Gd) (s : Shared) (ρ : List Addr) (σ : Sto) : Prop where
  base : ∀ b o, G.h0.get? b = some o → s.heap.get? b = some o
  new : ∀ a, a ∈ ρ → G.h0.get? a = none
  nodup : ρ.Nodup
  len : ρ.length = σ.length
  sto : ∀ (k : Nat) (a : Addr) (o : PO), ρ[k]? = some a → σ[k]? = some o → ObjRel G s.heap ρ a o
  os : s.os = G.os0
  gens : s.gens = G.gens0

/-- the same object, but a frame's slots -/
def SameObj (o o' : Obj) : Prop := o'.cls = o.cls ∧ o'.data = o.data ∧ o'.dict = o.dict ∧ ((∃ es n, o.data = .dict es n) ∨ o'.slots = o.slots)
theorem SameObj.refl (o : Obj) : SameObj o o := ⟨rfl, rfl, rfl, .inr rfl⟩
theorem SameObj.trans {a b c : Obj} (x : SameObj a b) (y : SameObj b c) : SameObj a c :=
  ⟨y.1.trans x.1, y.2.1.trans x.2.1, y.2.2.1.trans x.2.2.1, x.2.2.2.elim .inl fun e => y.2.2.2.elim (fun ⟨es, n, z⟩ => .inl ⟨es, n, x.2.1 ▸ z⟩) fun e' => .inr (e'.trans e)⟩
theorem SameObj.eq {o o' : Obj} (x : SameObj o o') (h : ∀ es n, o.data ≠ .dict es n) : o' = o := by
  obtain ⟨c, d, dt, sl⟩ := o
  obtain ⟨c', d', dt', sl'⟩ := o'
  obtain ⟨h1, h2, h3, h4⟩ := x
  simp only at h1 h2 h3 h4
  rcases h4 with ⟨es, n, z⟩ | h4
  · exact absurd z (h es n)
  · subst h1 h2 h3 h4; rfl

/-- from (h, ρ) to (h', ρ'): all but the store's objects and P stands, but for frames' slots -/
structure Ev (P : List Addr) (h : Heap) (ρ : List Addr) (h' : Heap) (ρ' : List Addr) : Prop where
  pre : ∀ (k : Nat) (a : Addr), ρ[k]? = some a → ρ'[k]? = some a
  keep : ∀ b o, h.get? b = some o → b ∉ ρ → b ∉ P → ∃ o', h'.get? b = some o' ∧ SameObj o o'
  newp : ∀ a, a ∈ ρ' → a ∈ ρ ∨ h.objs.size ≤ a
  size : h.objs.size ≤ h'.objs.size

theorem Ev.refl {P : List Addr} {h : Heap} {ρ : List Addr} : Ev P h ρ h ρ := ⟨fun _ _ e => e, fun _ o e _ _ => ⟨o, e, .refl o⟩, fun _ e => .inl e, Nat.le_refl _⟩
theorem Ev.notin' {P : List Addr} {h h' : Heap} {ρ ρ' : List Addr} (x : Ev P h ρ h' ρ') {b : Addr} (e : b < h.objs.size) (n : b ∉ ρ) : b ∉ ρ' :=
  fun m => (x.newp b m).elim n fun z => Nat.lt_irrefl _ (Nat.lt_of_lt_of_le e z)
theorem Ev.notin {P : List Addr} {h h' : Heap} {ρ ρ' : List Addr} (x : Ev P h ρ h' ρ') {b : Addr} {o : Obj} (e : h.get? b = some o) (n : b ∉ ρ) : b ∉ ρ' := x.notin' (Heap.lt_size e) n
theorem Ev.trans {P : List Addr} {h h₁ h₂ : Heap} {ρ ρ₁ ρ₂ : List Addr} (x : Ev P h ρ h₁ ρ₁) (y : Ev P h₁ ρ₁ h₂ ρ₂) : Ev P h ρ h₂ ρ₂ where
  pre k a e := y.pre k a (x.pre k a e)
  keep b o e n1 n2 := by
    obtain ⟨o', e', q⟩ := x.keep b o e n1 n2
    obtain ⟨o'', e'', q'⟩ := y.keep b o' e' (x.notin e n1) n2
    exact ⟨o'', e'', q.trans q'⟩
  newp a m := (y.newp a m).elim (fun m' => x.newp a m') fun z => .inr (Nat.le_trans x.size z)
  size := Nat.le_trans x.size y.size
theorem Ev.more {P P' : List Addr} {h h' : Heap} {ρ ρ' : List Addr} (x : Ev P h ρ h' ρ') (hs : ∀ p, p ∈ P → p ∈ P') : Ev P' h ρ h' ρ' :=
  ⟨x.pre, fun b o e n1 n2 => x.keep b o e n1 fun m => n2 (hs b m), x.newp, x.size⟩
theorem Ev.nil {P : List Addr} {h h' : Heap} {ρ ρ' : List Addr} (x : Ev [] h ρ h' ρ') : Ev P h ρ h' ρ' := x.more fun _ m => nomatch m
/-- what is not there yet at the start may be written -/
theorem Ev.less {P P' : List Addr} {h h' : Heap} {ρ ρ' : List Addr} (x : Ev P' h ρ h' ρ') (hs : ∀ p, p ∈ P' → p ∈ P ∨ h.objs.size ≤ p) : Ev P h ρ h' ρ' :=
  ⟨x.pre, fun b o e n1 n2 => x.keep b o e n1 fun m => (hs b m).elim n2 fun z => Nat.lt_irrefl _ (Nat.lt_of_lt_of_le (Heap.lt_size e) z), x.newp, x.size⟩

theorem get_none_size {h : Heap} {a : Addr} (e : h.objs.size ≤ a) : h.get? a = none := by
  cases q : h.get? a with
  | none => rfl
  | some o => exact absurd (Heap.lt_size q) (Nat.not_lt.mpr e)

/-- P's objects are frames' dicts and cells -/
def NT (h : Heap) (P : List Addr) : Prop := ∀ p, p ∈ P → ∃ o, h.get? p = some o ∧ ((∃ es n, o.data = .dict es n) ∨ (∃ v, o.data = .cell v) ∨ ∃ vs n, o = lstO vs n)
theorem NT.nil {h : Heap} : NT h [] := fun _ m => nomatch m

theorem nodup_getElem_inj {α : Type} {l : List α} (hn : l.Nodup) {i j : Nat} {a : α} (h1 : l[i]? = some a) (h2 : l[j]? = some a) : i = j := by
  obtain ⟨hi, e1⟩ := List.getElem?_eq_some_iff.mp h1
  obtain ⟨hj, e2⟩ := List.getElem?_eq_some_iff.mp h2
  rcases Nat.lt_trichotomy i j with q | q | q
  · exact absurd (e1.trans e2.symm) ((List.pairwise_iff_getElem.mp hn) i j hi hj q)
  · exact q
  · exact absurd (e2.trans e1.symm) ((List.pairwise_iff_getElem.mp hn) j i hj hi q)

theorem Inv.mem_lt {G : Gd} {s : Shared} {ρ : List Addr} {σ : Sto} (I : Inv G s ρ σ) {a : Addr} (m : a ∈ ρ) : a < s.heap.objs.size := by
  obtain ⟨k, hk, e⟩ := List.getElem_of_mem m
  have hk' : k < σ.length := by rw [← I.len]; exact hk
  have e1 : ρ[k]? = some a := by rw [List.getElem?_eq_getElem hk, e]
  have r := I.sto k a σ[k] e1 (List.getElem?_eq_getElem hk')
  cases q : σ[k] with
  | list ds =>
    rw [q] at r
    obtain ⟨vs, ⟨n, ho⟩, _⟩ := r
    exact Heap.lt_size ho
  | dict kvs =>
    rw [q] at r
    obtain ⟨o, es, n, ho, hc, hd, _⟩ := r
    exact Heap.lt_size ho
  | priv =>
    rw [q] at r
    obtain ⟨x, y, ho⟩ := r
    exact Heap.lt_size ho

theorem Ev.stb {G : Gd} {s : Shared} {P : List Addr} {ρ : List Addr} {σ : Sto} {h' : Heap} {ρ' : List Addr} (x : Ev P s.heap ρ h' ρ') (_I : Inv G s ρ σ) (N : NT s.heap P) : Stb s.heap ρ h' ρ' where
  pre := x.pre
  tup a items n1 t := by
    obtain ⟨n, ho⟩ := t
    have n2 : a ∉ P := fun m => by
      obtain ⟨o', ho', z⟩ := N a m
      rw [ho] at ho'; cases ho'
      rcases z with ⟨_, _, z⟩ | ⟨_, z⟩ | ⟨_, _, z⟩
      · cases z
      · cases z
      · exact tup_ne_lst z
    obtain ⟨o', ho', q⟩ := x.keep a _ ho n1 n2
    rw [q.eq (fun _ _ z => by cases z)] at ho'
    exact ⟨x.notin ho n1, n, ho'⟩
  exc a c n1 t := by
    obtain ⟨o, ho, hc, vs, hd⟩ := t
    have n2 : a ∉ P := fun m => by
      obtain ⟨o', ho', z⟩ := N a m
      rw [ho] at ho'; cases ho'
      rcases z with ⟨_, _, z⟩ | ⟨_, z⟩ | ⟨_, _, z⟩
      · rw [hd] at z; cases z
      · rw [hd] at z; cases z
      · rw [z] at hd; cases hd
    obtain ⟨o', ho', q⟩ := x.keep a o ho n1 n2
    exact ⟨x.notin ho n1, o', ho', q.1.trans hc, vs, q.2.1.trans hd⟩

structure Frm (G : Gd) (tbl : List Str) (P : List Addr) (env : Env) (h : Heap) (ρ : List Addr) (loc : Loc) : Prop where
  kind : env.scope.kind = .function
  glob : env.globals = mainGlobals
  bi : env.builtins = builtinsNs
  ns : ∃ m, h.Ns env.locals m ∧ ∀ (i : Nat) (x : Str), tbl[i]? = some x → env.kindOf x = some .local → ∀ d, loc i = some d → ∃ v, m x = some v ∧ Rel G h ρ d v
  cell : ∀ (i : Nat) (x : Str), tbl[i]? = some x → (env.kindOf x = some .cell ∨ env.kindOf x = some .free) → ∃ c, env.cells.lookup x = some c ∧ ∃ ov, h.IsCell c ov ∧ ∀ d, loc i = some d → ∃ v, ov = some v ∧ Rel G h ρ d v
  cok : ∀ x c, env.cells.lookup x = some c → c ∉ ρ ∧ ∃ ov, h.IsCell c ov
  cinj : ∀ x y c, env.cells.lookup x = some c → env.cells.lookup y = some c → x = y
  lrho : env.locals ∉ ρ
  lP : env.locals ∈ P
  own : ∀ p, p ∈ P → G.h0.get? p = none ∧ (p = env.locals ∨ ∃ x, env.cells.lookup x = some p)
  tnd : tbl.Nodup

theorem Frm.nt {G : Gd} {tbl : List Str} {P : List Addr} {env : Env} {h : Heap} {ρ : List Addr} {loc : Loc} (F : Frm G tbl P env h ρ loc) : NT h P := by
  intro p m
  rcases (F.own p m).2 with rfl | ⟨x, e⟩
  · obtain ⟨mm, ⟨o, es, ep, ho, hd, _⟩, _⟩ := F.ns
    exact ⟨o, ho, .inl ⟨es, ep, hd⟩⟩
  · obtain ⟨_, ov, o, ho, hd⟩ := F.cok x p e
    exact ⟨o, ho, .inr (.inl ⟨ov, hd⟩)⟩

theorem ns_keep {P : List Addr} {h h' : Heap} {ρ ρ' : List Addr} (x : Ev P h ρ h' ρ') {L : Addr} {m : Str → Option Value} (n : h.Ns L m) (h1 : L ∉ ρ) (h2 : L ∉ P) : h'.Ns L m := by
  obtain ⟨o, es, ep, ho, hd, r⟩ := n
  obtain ⟨o', ho', q⟩ := x.keep L o ho h1 h2
  exact ⟨o', es, ep, ho', q.2.1.trans hd, r⟩
theorem cell_keep {P : List Addr} {h h' : Heap} {ρ ρ' : List Addr} (x : Ev P h ρ h' ρ') {c : Addr} {ov : Option Value} (n : h.IsCell c ov) (h1 : c ∉ ρ) (h2 : c ∉ P) : h'.IsCell c ov := by
  obtain ⟨o, ho, hd⟩ := n
  obtain ⟨o', ho', q⟩ := x.keep c o ho h1 h2
  exact ⟨o', ho', q.2.1.trans hd⟩

/-- a frame stands through what writes none of its own -/
theorem Frm.keep {G : Gd} {tbl : List Str} {P : List Addr} {env : Env} {s : Shared} {ρ : List Addr} {σ : Sto} {loc : Loc} {h' : Heap} {ρ' : List Addr} (F : Frm G tbl P env s.heap ρ loc) (I : Inv G s ρ σ) (x : Ev [] s.heap ρ h' ρ') :
    Frm G tbl P env h' ρ' loc where
  kind := F.kind
  glob := F.glob
  bi := F.bi
  ns := by
    obtain ⟨m, n, q⟩ := F.ns
    exact ⟨m, ns_keep x n F.lrho (fun m => nomatch m), fun i y e k d hd => let ⟨v, e1, e2⟩ := q i y e k d hd; ⟨v, e1, Rel.mono (x.stb I .nil) d v e2⟩⟩
  cell i y e k := by
    obtain ⟨c, e1, ov, n, q⟩ := F.cell i y e k
    exact ⟨c, e1, ov, cell_keep x n (F.cok y c e1).1 (fun m => nomatch m), fun d hd => let ⟨v, e1, e2⟩ := q d hd; ⟨v, e1, Rel.mono (x.stb I .nil) d v e2⟩⟩
  cok y c e := by
    obtain ⟨n, ov, o, ho, hd⟩ := F.cok y c e
    exact ⟨x.notin ho n, ov, cell_keep x ⟨o, ho, hd⟩ n (fun m => nomatch m)⟩
  cinj := F.cinj
  lrho := by
    obtain ⟨m, ⟨o, es, ep, ho, r⟩, q⟩ := F.ns
    exact x.notin ho F.lrho
  lP := F.lP
  own := F.own
  tnd := F.tnd

structure Room (n : Nat) (A : Around) : Prop where
  hd : A.handled = none
  depth : A.depth + n ≤ 900
  units : A.units + 10 * n ≤ 9000

theorem Room.le {n n' : Nat} {A : Around} (R : Room n A) (h : n' ≤ n) : Room n' A := ⟨R.hd, by have := R.depth; omega, by have := R.units; omega⟩

/-- the frames below: what the traceback of an exception looks at -/
def FF (G : Gd) (h : Heap) (ρ : List Addr) (fs : List Env) : Prop :=
  ∀ e, e ∈ fs → e.scope.kind ≠ .module ∧ ∃ L o es n, e.frame = some L ∧ G.h0.get? L = none ∧ L ∉ ρ ∧ h.get? L = some o ∧ o.data = .dict es n
theorem FF.fun {G : Gd} {h : Heap} {ρ : List Addr} : ∀ {fs : List Env}, FF G h ρ fs → h.FunFrames G.h0 fs
  | [], _ => trivial
  | e :: r, x => by
    obtain ⟨hk, L, o, es, n, hf, h0, _, ho, hd⟩ := x e List.mem_cons_self
    exact ⟨hk, ⟨L, o, hf, h0, ho, fun vs z => by rw [hd] at z; cases z⟩, FF.fun fun e' m => x e' (List.mem_cons_of_mem _ m)⟩
structure Stk (G : Gd) (A : Around) (env : Env) (h : Heap) (ρ : List Addr) : Prop where
  fr : ∃ fenv outer L, A.frames = some (fenv :: outer) ∧ fenv.frame = some L ∧ env.frame = some L
  ff : ∀ fs, A.frames = some fs → FF G h ρ fs

theorem FF.keep {G : Gd} {h h' : Heap} {ρ ρ' : List Addr} (x : Ev [] h ρ h' ρ') {fs : List Env} (f : FF G h ρ fs) : FF G h' ρ' fs := fun e m => by
  obtain ⟨hk, L, o, es, n, hf, h0, hr, ho, hd⟩ := f e m
  obtain ⟨o', ho', q⟩ := x.keep L o ho hr (fun m => nomatch m)
  exact ⟨hk, L, o', es, n, hf, h0, x.notin ho hr, ho', q.2.1.trans hd⟩
theorem FF.keepF {G : Gd} {h h' : Heap} {ρ ρ' : List Addr} {tbl : List Str} {P : List Addr} {env : Env} {loc loc' : Loc} (x : Ev P h ρ h' ρ') (F : Frm G tbl P env h ρ loc) (F' : Frm G tbl P env h' ρ' loc') {fs : List Env} (f : FF G h ρ fs) : FF G h' ρ' fs := fun e m => by
  obtain ⟨hk, L, o, es, n, hf, h0, hr, ho, hd⟩ := f e m
  by_cases mp : L ∈ P
  · rcases (F.own L mp).2 with rfl | ⟨y, e'⟩
    · obtain ⟨mm, ⟨o', es', ep', ho', hd', _⟩, _⟩ := F'.ns
      exact ⟨hk, env.locals, o', es', ep', hf, h0, F'.lrho, ho', hd'⟩
    · obtain ⟨_, ov, o', ho', hd'⟩ := F.cok y L e'
      rw [ho] at ho'; cases ho'
      rw [hd] at hd'; cases hd'
  · obtain ⟨o', ho', q⟩ := x.keep L o ho hr mp
    exact ⟨hk, L, o', es, n, hf, h0, x.notin ho hr, ho', q.2.1.trans hd⟩

/-- an exception of an own class in flight, new since the heap had n objects -/
def Fly (n : Nat) (h : Heap) (_f : Option Addr) (a c : Addr) : Prop :=
  n ≤ a ∧ ∃ o vs, h.get? a = some o ∧ o.cls = .ref c ∧ o.data = .fields vs ∧ 5 < vs.size ∧
    (vs[1]? = some .none ∨ ∃ T oT ts, vs[1]? = some (.ref T) ∧ T ≠ a ∧ n ≤ T ∧ h.get? T = some oT ∧ oT.cls = .type "traceback" ∧ oT.data = .fields ts ∧
      ∃ x, ts[3]? = some x)

/-- names and their places; how deep calls may go -/
structure Cx where
  names : List (Str × NameKind)
  tbl : List Str
  lvl : Nat

structure Sees (names : List (Str × NameKind)) (env : Env) : Prop where
  loc : ∀ x, names.lookup x = some .local → env.kindOf x = some .local
  cell : ∀ x, names.lookup x = some .cell → env.kindOf x = some .cell
  free : ∀ x, names.lookup x = some .free → env.kindOf x = some .cell ∨ env.kindOf x = some .free
  glob : ∀ x, names.lookup x = some .globalImplicit → env.kindOf x = some .globalImplicit

structure Ok (G : Gd) (C : Cx) (A : Around) (P : List Addr) (env : Env) (s : Shared) (ρ : List Addr) (st : St) : Prop where
  room : Room C.lvl A
  sees : Sees C.names env
  inv : Inv G s ρ st.sto
  frm : Frm G C.tbl P env s.heap ρ st.loc
  stk : Stk G A env s.heap ρ

def ExcE {α : Type} (G : Gd) (env : Env) (s : Shared) (ρ : List Addr) (st : St) (r : Out α) (x : Value) (s' : Shared) : Prop :=
  ∃ ρ' c σ' a, r = .exc c ⟨st.loc, σ'⟩ ∧ Inv G s' ρ' σ' ∧ Ev [] s.heap ρ s'.heap ρ' ∧ x = .ref a ∧ Fly s.heap.objs.size s'.heap env.frame a c

abbrev Gd.M (G : Gd) : Model := model G.prog G.w

theorem Stk.step {G : Gd} {A : Around} {env : Env} {h h' : Heap} {ρ ρ' : List Addr} (S : Stk G A env h ρ) (x : Ev [] h ρ h' ρ') : Stk G A env h' ρ' := ⟨S.fr, fun fs e => (S.ff fs e).keep x⟩

theorem Ok.step {G : Gd} {C : Cx} {A : Around} {P : List Addr} {env : Env} {s : Shared} {ρ : List Addr} {st : St} (K : Ok G C A P env s ρ st) {s' : Shared} {ρ' : List Addr} {σ' : Sto}
    (I' : Inv G s' ρ' σ') (x : Ev [] s.heap ρ s'.heap ρ') : Ok G C A P env s' ρ' ⟨st.loc, σ'⟩ :=
  ⟨K.room, K.sees, I', K.frm.keep K.inv x, K.stk.step x⟩

theorem Fly.from {n₀ n₁ : Nat} {h₂ : Heap} {f : Option Addr} {a c : Addr} (F : Fly n₁ h₂ f a c) (hk : n₀ ≤ n₁) : Fly n₀ h₂ f a c := by
  obtain ⟨h1, o, vs, e1, e2, e3, e4, e5⟩ := F
  refine ⟨Nat.le_trans hk h1, o, vs, e1, e2, e3, e4, ?_⟩
  rcases e5 with e5 | ⟨T, oT, ts, q1, q2, q3, q4⟩
  · exact .inl e5
  · exact .inr ⟨T, oT, ts, q1, q2, Nat.le_trans hk q3, q4⟩

theorem bnd_ne_bot {α β : Type} {m : Mn α} {f : α → Mn β} {st : St} (h : bnd m f st ≠ .bot) : m st ≠ .bot := fun e => h (by simp only [bnd, e])
end Mine

/- part F2 -/
set_option Elab.async false
set_option linter.unusedVariables false
namespace Mine
open PySem

section
variable {G : Gd} {C : Cx} {A : Around} {P : List Addr} {env : Env} {s : Shared} {ρ : List Addr} {σ : Sto} {st : St}

/-! growth: all that was is as it was -/
def Grow (h h' : Heap) : Prop := ∀ b o, h.get? b = some o → h'.get? b = some o
theorem Grow.refl (h : Heap) : Grow h h := fun _ _ e => e
theorem Grow.trans {a b c : Heap} (x : Grow a b) (y : Grow b c) : Grow a c := fun k o e => y k o (x k o e)
theorem Grow.push (h : Heap) (o : Obj) : Grow h (h.push o) := fun _ _ e => Heap.get?_push_of_some o e
theorem size_push_le {h : Heap} {o : Obj} : h.objs.size ≤ (h.push o).objs.size := by rw [Heap.size_push]; omega
theorem Grow.ev {h h' : Heap} (g : Grow h h') (z : h.objs.size ≤ h'.objs.size) : Ev P h ρ h' ρ := ⟨fun _ _ e => e, fun b o e _ _ => ⟨o, g b o e, .refl o⟩, fun _ m => .inl m, z⟩
theorem Grow.stb {h h' : Heap} (g : Grow h h') : Stb h ρ h' ρ :=
  ⟨fun _ _ e => e, fun a _ n1 t => let ⟨n, ho⟩ := t; ⟨n1, n, g a _ ho⟩, fun a _ n1 t => let ⟨o, ho, r⟩ := t; ⟨n1, o, g a o ho, r⟩⟩
theorem Grow.ext {h h' : Heap} (g : Grow h h') {ρ' : List Addr} (hp : ∀ (k : Nat) (a : Addr), ρ[k]? = some a → ρ'[k]? = some a) (hn : ∀ a o, a ∉ ρ → h.get? a = some o → (o.cls = .type "tuple" ∨ ∃ c, o.cls = .ref c) → a ∉ ρ') : Stb h ρ h' ρ' :=
  ⟨hp, fun a _ n1 t => let ⟨n, ho⟩ := t; ⟨hn a _ n1 ho (.inl rfl), n, g a _ ho⟩, fun a _ n1 t => let ⟨o, ho, hc, r⟩ := t; ⟨hn a o n1 ho (.inr ⟨_, hc⟩), o, g a o ho, hc, r⟩⟩
theorem Grow.list {h h' : Heap} (g : Grow h h') {a : Addr} {vs : Array Value} (x : h.IsList a vs) : h'.IsList a vs := let ⟨o, ho, r⟩ := x; ⟨o, g a o ho, r⟩
theorem Grow.lst {h h' : Heap} (g : Grow h h') {a : Addr} {vs : Array Value} (x : IsLst h a vs) : IsLst h' a vs := let ⟨n, ho⟩ := x; ⟨n, g a _ ho⟩

theorem EntRel.mono {h h' : Heap} {ρ ρ' : List Addr} (S : Stb h ρ h' ρ') {e : DictEntry} {kv : D × D} (x : EntRel G h ρ e kv) : EntRel G h' ρ' e kv := ⟨Rel.mono S _ _ x.1, Rel.mono S _ _ x.2⟩
theorem ObjRel.mono {h h' : Heap} {ρ ρ' : List Addr} (S : Stb h ρ h' ρ') {a : Addr} (hk : ∀ o, h.get? a = some o → h'.get? a = some o) (hz : h.objs.size ≤ h'.objs.size) {o : PO} (x : ObjRel G h ρ a o) : ObjRel G h' ρ' a o := by
  cases o with
  | list ds =>
    obtain ⟨vs, ⟨n, ho⟩, r⟩ := x
    exact ⟨vs, ⟨n, hk _ ho⟩, RelL.mono S _ _ r⟩
  | dict kvs =>
    obtain ⟨o, es, n, ho, hc, hd, r⟩ := x
    exact ⟨o, es, n, hk _ ho, hc, hd, r.mono fun _ _ => EntRel.mono S⟩
  | priv =>
    obtain ⟨u, v, ho⟩ := x
    exact ⟨u, v, hk _ ho⟩

theorem Inv.grow (I : Inv G s ρ σ) {h' : Heap} (g : Grow s.heap h') (z : s.heap.objs.size ≤ h'.objs.size) (t : Nat) : Inv G { s with heap := h', toks := t } ρ σ where
  base b o e := g b o (I.base b o e)
  new := I.new
  nodup := I.nodup
  len := I.len
  sto k a o e1 e2 := (I.sto k a o e1 e2).mono g.stb (fun o ho => g a o ho) z
  os := I.os
  gens := I.gens
theorem Inv.tok (I : Inv G s ρ σ) (t : Nat) : Inv G { s with toks := t } ρ σ := I.grow (Grow.refl _) (Nat.le_refl _) t

theorem Inv.size_notin (I : Inv G s ρ σ) : s.heap.objs.size ∉ ρ := fun m => Nat.lt_irrefl _ (I.mem_lt m)
theorem Inv.h0_le (I : Inv G s ρ σ) {a : Addr} (h : s.heap.objs.size ≤ a) : G.h0.get? a = none := by
  cases q : G.h0.get? a with
  | none => rfl
  | some o => exact absurd (Heap.lt_size (I.base _ _ q)) (Nat.not_lt.mpr h)
theorem Inv.h0_size (I : Inv G s ρ σ) : G.h0.get? s.heap.objs.size = none := I.h0_le (Nat.le_refl _)

theorem pre_append {α : Type} {ρ : List α} {a : α} : ∀ (k : Nat) (b : α), ρ[k]? = some b → (ρ ++ [a])[k]? = some b := fun k b e => by
  rw [List.getElem?_append_left (List.getElem?_eq_some_iff.mp e).1]; exact e

/-- an object that is there becomes one of the store's -/
theorem Inv.adopt (I : Inv G s ρ σ) {q : Addr} {p : PO} (h0 : G.h0.get? q = none) (hq : q ∉ ρ) (hnt : ∀ o, s.heap.get? q = some o → o.cls ≠ .type "tuple" ∧ ∀ c, o.cls ≠ .ref c)
    (hr : Stb s.heap ρ s.heap (ρ ++ [q]) → ObjRel G s.heap (ρ ++ [q]) q p) (t : Nat) : Inv G { s with toks := t } (ρ ++ [q]) (σ ++ [p]) ∧ Stb s.heap ρ s.heap (ρ ++ [q]) := by
  have S : Stb s.heap ρ s.heap (ρ ++ [q]) := (Grow.refl s.heap).ext pre_append fun a o n1 ho hc m => by
    rcases List.mem_append.mp m with m | m
    · exact n1 m
    · rw [List.mem_singleton.mp m] at ho
      rcases hc with hc | ⟨c, hc⟩
      · exact (hnt o ho).1 hc
      · exact (hnt o ho).2 c hc
  refine ⟨⟨I.base, fun a m => ?_, ?_, by simp [I.len], fun k a p' e1 e2 => ?_, I.os, I.gens⟩, S⟩
  · rcases List.mem_append.mp m with m | m
    · exact I.new a m
    · rw [List.mem_singleton.mp m]; exact h0
  · refine List.nodup_append.mpr ⟨I.nodup, by simp, fun a m b m' e => ?_⟩
    rw [List.mem_singleton.mp m'] at e
    exact hq (e ▸ m)
  · by_cases hk : k < ρ.length
    · rw [List.getElem?_append_left hk] at e1
      rw [List.getElem?_append_left (by rw [← I.len]; exact hk)] at e2
      exact (I.sto k a p' e1 e2).mono S (fun o' ho' => ho') (Nat.le_refl _)
    · have : k = ρ.length := by
        have := (List.getElem?_eq_some_iff.mp e1).1
        simp at this
        omega
      subst this
      simp at e1
      rw [I.len] at e2
      simp at e2
      subst e1 e2
      exact hr S
theorem ev_adopt {h h' : Heap} {ρ' : List Addr} {q : Addr} (x : Ev P h ρ h' ρ') (hq : h.objs.size ≤ q) : Ev P h ρ h' (ρ' ++ [q]) where
  pre k a e := pre_append k a (x.pre k a e)
  keep := x.keep
  newp a m := by
    rcases List.mem_append.mp m with m | m
    · exact x.newp a m
    · rw [List.mem_singleton.mp m]; exact .inr hq
  size := x.size

/-- a new object of the store -/
theorem Inv.alloc (I : Inv G s ρ σ) {o : Obj} {p : PO} (hnt : o.cls ≠ .type "tuple" ∧ ∀ c, o.cls ≠ .ref c) (hf : o.isFreed = false)
    (hr : Stb s.heap ρ (s.heap.push o) (ρ ++ [s.heap.objs.size]) → ObjRel G (s.heap.push o) (ρ ++ [s.heap.objs.size]) s.heap.objs.size p) (t : Nat) :
    Inv G { s with heap := s.heap.push o, toks := t } (ρ ++ [s.heap.objs.size]) (σ ++ [p]) ∧ (∀ P, Ev P s.heap ρ (s.heap.push o) (ρ ++ [s.heap.objs.size])) := by
  have g := Grow.push s.heap o
  have I1 := I.grow g size_push_le t
  have x1 : ∀ P, Ev P s.heap ρ (s.heap.push o) ρ := fun P => g.ev size_push_le
  have S0 : Stb s.heap ρ (s.heap.push o) ρ := g.stb
  have := I1.adopt (q := s.heap.objs.size) (p := p) I.h0_size I.size_notin (fun o' ho' => by
    have ho'' : (s.heap.push o).get? s.heap.objs.size = some o' := ho'
    rw [Heap.get?_push_size _ hf] at ho''; cases ho''; exact hnt) (fun S => hr ⟨S.pre, fun a vs n1 t => let ⟨n2, t2⟩ := S0.tup a vs n1 t; S.tup a vs n2 t2, fun a c n1 t => let ⟨n2, t2⟩ := S0.exc a c n1 t; S.exc a c n2 t2⟩) t
  exact ⟨this.1, fun P => ev_adopt (x1 P) (Nat.le_refl _)⟩

/-- an object of the store changes -/
theorem Inv.put (I : Inv G s ρ σ) {k : Nat} {a : Addr} {p : PO} {h' : Heap} (hk : ρ[k]? = some a) (hs : Heap.SameBut a s.heap h')
    (hr : Stb s.heap ρ h' ρ → ObjRel G h' ρ a p) (t : Nat) : Inv G { s with heap := h', toks := t } ρ (σ.set k p) ∧ ∀ P, Ev P s.heap ρ h' ρ := by
  have ha : a ∈ ρ := List.mem_of_getElem? hk
  have keep : ∀ b o, b ≠ a → s.heap.get? b = some o → h'.get? b = some o := fun b o n e => (hs.2 b n).trans e
  have hz : s.heap.objs.size ≤ h'.objs.size := Nat.le_of_eq hs.1.symm
  have S : Stb s.heap ρ h' ρ := ⟨fun _ _ e => e, fun b items n1 t => by
      obtain ⟨n, ho⟩ := t
      exact ⟨n1, n, keep b _ (fun e => n1 (e ▸ ha)) ho⟩, fun b c n1 t => by
      obtain ⟨o, ho, hc, vs, hd⟩ := t
      exact ⟨n1, o, keep b o (fun e => n1 (e ▸ ha)) ho, hc, vs, hd⟩⟩
  refine ⟨⟨fun b o e => keep b o (fun q => ?_) (I.base b o e), I.new, I.nodup, by simp [I.len], fun j b p' e1 e2 => ?_, I.os, I.gens⟩,
    fun P => ⟨fun _ _ e => e, fun b o e n _ => ⟨o, keep b o (fun q => n (q ▸ ha)) e, .refl o⟩, fun _ m => .inl m, hz⟩⟩
  · rw [q, I.new a ha] at e; cases e
  · by_cases hj : j = k
    · subst hj
      rw [hk] at e1; cases e1
      rw [List.getElem?_set_self (by rw [← I.len]; exact (List.getElem?_eq_some_iff.mp hk).1)] at e2
      cases e2
      exact hr S
    · rw [List.getElem?_set_ne (Ne.symm hj)] at e2
      have hb : b ≠ a := fun q => hj (nodup_getElem_inj I.nodup (q ▸ e1) hk)
      exact (I.sto j b p' e1 e2).mono S (fun o ho => keep b o hb ho) hz

/-- an iterator's object: new, of a built-in class, with fields -/
def Itr (G : Gd) (h : Heap) (ρ : List Addr) (q : Addr) : Prop := G.h0.get? q = none ∧ q ∉ ρ ∧ ∃ o T vs, h.get? q = some o ∧ o.cls = .type T ∧ T ≠ "tuple" ∧ o.data = .fields vs
/-- all but S is as it was -/
def Only (S : List Addr) (h h' : Heap) : Prop := (∀ b o, b ∉ S → h.get? b = some o → h'.get? b = some o) ∧ h.objs.size ≤ h'.objs.size ∧ ∀ q, q ∈ S → Prv h q → Prv h' q
theorem only1 {I : Addr} {h h' : Heap} (k : ∀ b o, b ≠ I → h.get? b = some o → h'.get? b = some o) (z : h.objs.size ≤ h'.objs.size) (np : ¬ Prv h I) : Only [I] h h' :=
  ⟨fun b o n e => k b o (fun q => n (by simp [q])) e, z, fun q m p => absurd (List.mem_singleton.mp m ▸ p) np⟩
theorem only_refl {S : List Addr} {h : Heap} : Only S h h := ⟨fun _ _ _ e => e, Nat.le_refl _, fun _ _ p => p⟩
theorem Itr.notPrv {h : Heap} {q : Addr} (i : Itr G h ρ q) : ¬ Prv h q := fun ⟨x, y, e⟩ => by
  obtain ⟨_, _, o, T, vs, ho, _, _, hd⟩ := i
  rw [e] at ho; cases ho; cases hd

/-- q may be written by an iterator's step: its own object, or a private tuple of the store -/
def Own (G : Gd) (h : Heap) (ρ : List Addr) (σ : Sto) (q : Addr) : Prop := (Itr G h ρ q ∨ (G.h0.get? q = none ∧ q ∉ ρ ∧ ∃ vs, IsLst h q vs)) ∨ ∃ k : Nat, ρ[k]? = some q ∧ σ[k]? = some .priv

theorem Only.stb {S : List Addr} {h h' : Heap} (x : Only S h h') (i : ∀ q, q ∈ S → Own G h ρ σ q) : Stb h ρ h' ρ :=
  ⟨fun _ _ e => e, fun b items n1 t => by
      obtain ⟨n, ho⟩ := t
      refine ⟨n1, n, x.1 b _ (fun m => ?_) ho⟩
      rcases i b m with (⟨_, _, o', T, vs, ho', hc', hT, _⟩ | ⟨_, _, vs, nn, ho'⟩) | ⟨k, e, _⟩
      · rw [ho] at ho'; cases ho'
        cases hc'; exact hT rfl
      · rw [ho] at ho'; exact tup_ne_lst (Option.some.inj ho')
      · exact n1 (List.mem_of_getElem? e), fun b c n1 t => by
      obtain ⟨o, ho, hc, vs, hd⟩ := t
      refine ⟨n1, o, x.1 b o (fun m => ?_) ho, hc, vs, hd⟩
      rcases i b m with (⟨_, _, o', T, vs, ho', hc', hT, _⟩ | ⟨_, _, vs, nn, ho'⟩) | ⟨k, e, _⟩
      · rw [ho] at ho'; cases ho'
        rw [hc] at hc'; cases hc'
      · rw [ho] at ho'; cases ho'
        cases hc
      · exact n1 (List.mem_of_getElem? e)⟩

theorem Inv.only (I : Inv G s ρ σ) {S : List Addr} {h' : Heap} (x : Only S s.heap h') (i : ∀ q, q ∈ S → Own G s.heap ρ σ q) (t : Nat) : Inv G { s with heap := h', toks := t } ρ σ where
  base b o e := x.1 b o (fun m => by
    rcases i b m with (z | z) | ⟨k, z, _⟩
    · rw [z.1] at e; cases e
    · rw [z.1] at e; cases e
    · rw [I.new b (List.mem_of_getElem? z)] at e; cases e) (I.base b o e)
  new := I.new
  nodup := I.nodup
  len := I.len
  sto k a o e1 e2 := by
    by_cases m : a ∈ S
    · rcases i a m with (z | z) | ⟨k', z1, z2⟩
      · exact absurd (List.mem_of_getElem? e1) z.2.1
      · exact absurd (List.mem_of_getElem? e1) z.2.1
      · have := nodup_getElem_inj I.nodup e1 z1
        subst this
        rw [z2] at e2; cases e2
        exact x.2.2 a m (I.sto k a .priv e1 z2)
    · exact (I.sto k a o e1 e2).mono (x.stb i) (fun o ho => x.1 a o m ho) x.2.1
  os := I.os
  gens := I.gens

theorem Own.ne_dict {h : Heap} {q : Addr} (z : Own G h ρ σ q) (hr : q ∉ ρ) {o : Obj} (ho : h.get? q = some o) : (∀ es n, o.data ≠ .dict es n) ∧ ∀ v, o.data ≠ .cell v := by
  rcases z with (⟨_, _, o', T, vs, ho', _, _, hd'⟩ | ⟨_, _, vs, nn, ho'⟩) | ⟨k, e, _⟩
  · rw [ho] at ho'; cases ho'; rw [hd']; exact ⟨fun _ _ z => (by cases z), fun _ z => by cases z⟩
  · rw [ho] at ho'; cases ho'; exact ⟨fun _ _ z => (by cases z), fun _ z => by cases z⟩
  · exact absurd (List.mem_of_getElem? e) hr

theorem Frm.only {tbl : List Str} {loc : Loc} (F : Frm G tbl P env s.heap ρ loc) {S : List Addr} {h' : Heap} (x : Only S s.heap h') (i : ∀ q, q ∈ S → Own G s.heap ρ σ q) : Frm G tbl P env h' ρ loc where
  kind := F.kind
  glob := F.glob
  bi := F.bi
  ns := by
    obtain ⟨m, ⟨o, es, ep, ho, hd, r⟩, q⟩ := F.ns
    refine ⟨m, ⟨o, es, ep, x.1 _ o (fun mm => ?_) ho, hd, r⟩, fun i' y e k d hd => let ⟨v, e1, e2⟩ := q i' y e k d hd; ⟨v, e1, Rel.mono (x.stb i) d v e2⟩⟩
    exact ((i _ mm).ne_dict F.lrho ho).1 _ _ hd
  cell i' y e k := by
    obtain ⟨c, e1, ov, ⟨o, ho, hd⟩, q⟩ := F.cell i' y e k
    refine ⟨c, e1, ov, ⟨o, x.1 c o (fun mm => ?_) ho, hd⟩, fun d hd => let ⟨v, e1, e2⟩ := q d hd; ⟨v, e1, Rel.mono (x.stb i) d v e2⟩⟩
    exact ((i _ mm).ne_dict (F.cok y c e1).1 ho).2 _ hd
  cok y c e := by
    obtain ⟨n, ov, o, ho, hd⟩ := F.cok y c e
    refine ⟨n, ov, o, x.1 c o (fun mm => ?_) ho, hd⟩
    exact ((i _ mm).ne_dict n ho).2 _ hd
  cinj := F.cinj
  lrho := F.lrho
  lP := F.lP
  own := F.own
  tnd := F.tnd

theorem Stk.only (K : Stk G A env s.heap ρ) {S : List Addr} {h' : Heap} (x : Only S s.heap h') (i : ∀ q, q ∈ S → Own G s.heap ρ σ q) : Stk G A env h' ρ :=
  ⟨K.fr, fun fs e en m => by
    obtain ⟨hk, L, o, es, n, hf, h0, hr, ho, hd⟩ := K.ff fs e en m
    refine ⟨hk, L, o, es, n, hf, h0, hr, x.1 L o (fun mm => ?_) ho, hd⟩
    exact ((i _ mm).ne_dict hr ho).1 _ _ hd⟩

theorem Ok.only (K : Ok G C A P env s ρ st) {S : List Addr} {h' : Heap} (x : Only S s.heap h') (i : ∀ q, q ∈ S → Own G s.heap ρ st.sto q) (t : Nat) : Ok G C A P env { s with heap := h', toks := t } ρ st :=
  ⟨K.room, K.sees, K.inv.only x i t, K.frm.only x i, K.stk.only x i⟩
theorem Ok.tok (K : Ok G C A P env s ρ st) (t : Nat) : Ok G C A P env { s with toks := t } ρ st := ⟨K.room, K.sees, K.inv.tok t, K.frm, K.stk⟩
theorem Ok.grow (K : Ok G C A P env s ρ st) {h' : Heap} (g : Grow s.heap h') (z : s.heap.objs.size ≤ h'.objs.size) (t : Nat) : Ok G C A P env { s with heap := h', toks := t } ρ st := by
  have := K.step (K.inv.grow g z t) (Grow.ev (P := []) (ρ := ρ) g z)
  exact this

theorem Ev.only {hs h h' : Heap} {ρs : List Addr} (x : Ev P hs ρs h ρ) {S : List Addr} (y : Only S h h') (n : ∀ q, q ∈ S → hs.objs.size ≤ q ∨ q ∈ ρs) : Ev P hs ρs h' ρ where
  pre := x.pre
  keep b o e n1 n2 := by
    obtain ⟨o', e', q⟩ := x.keep b o e n1 n2
    exact ⟨o', y.1 b o' (fun m => (n b m).elim (fun z => Nat.lt_irrefl _ (Nat.lt_of_lt_of_le (Heap.lt_size e) z)) n1) e', q⟩
  newp := x.newp
  size := Nat.le_trans x.size y.2.1

theorem Itr.keep {h' : Heap} {ρ' : List Addr} {q : Addr} (i : Itr G s.heap ρ q) (x : Ev P s.heap ρ h' ρ') (F : NT s.heap P) : Itr G h' ρ' q ∧ h'.get? q = s.heap.get? q := by
  obtain ⟨h1, h2, o, T, vs, ho, hc, hT, hd⟩ := i
  obtain ⟨o', ho', e⟩ := x.keep q o ho h2 (fun m => by
    obtain ⟨o', ho', z⟩ := F q m
    rw [ho] at ho'; cases ho'
    rcases z with ⟨_, _, z⟩ | ⟨_, z⟩ | ⟨_, _, z⟩
    · rw [hd] at z; cases z
    · rw [hd] at z; cases z
    · rw [z] at hd; cases hd)
  have e' := e.eq (fun es n z => by rw [hd] at z; cases z)
  subst e'
  exact ⟨⟨h1, x.notin ho h2, o', T, vs, ho', hc, hT, hd⟩, ho'.trans ho.symm⟩
end
end Mine

/- part F3 -/
set_option Elab.async false
set_option linter.unusedVariables false
namespace Mine
open PySem PyProof.Rows

/-- from this state the tree t does what m does, the results related by R -/
def At {α β : Type} (G : Gd) (A : Around) (env : Env) (s : Shared) (ρ : List Addr) (st : St) (R : Heap → List Addr → β → α → Prop) (t : Sem α) (m : Mn β) : Prop :=
  m st ≠ .bot → wpAny G.M A t (fun v s' => ∃ ρ' d σ', m st = .ok d ⟨st.loc, σ'⟩ ∧ Inv G s' ρ' σ' ∧ Ev [] s.heap ρ s'.heap ρ' ∧ R s'.heap ρ' d v) (ExcE G env s ρ st (m st)) s

abbrev RV (G : Gd) : Heap → List Addr → D → Value → Prop := fun h ρ d v => Rel G h ρ d v
abbrev RB : Heap → List Addr → Bool → Bool → Prop := fun _ _ b c => b = c
abbrev RVs (G : Gd) : Heap → List Addr → List D → List Value → Prop := fun h ρ ds vs => RelL G h ρ ds vs

/-- an expression -/
structure SE (G : Gd) (C : Cx) (e : Expr) (m : Mn D) : Prop where
  run : ∀ A P env s ρ st, Ok G C A P env s ρ st → At G A env s ρ st (RV G) (eval e env) m
/-- a test -/
structure SB (G : Gd) (C : Cx) (e : Expr) (m : Mn Bool) : Prop where
  run : ∀ A P env s ρ st, Ok G C A P env s ρ st → At G A env s ρ st RB (isTrue e env (eval e env)) m
/-- arguments -/
structure SA (G : Gd) (C : Cx) (es : List Expr) (m : Mn (List D)) : Prop where
  run : ∀ A P env s ρ st pos, Ok G C A P env s ρ st → At G A env s ρ st (RVs G) (spliced (backTo pos (starEach es env))) m

section
variable {α β γ δ : Type} {G : Gd} {C : Cx} {A : Around} {P : List Addr} {env : Env} {s : Shared} {ρ : List Addr} {st : St}

theorem At.bind {R : Heap → List Addr → β → α → Prop} {R' : Heap → List Addr → δ → γ → Prop} {t : Sem α} {m : Mn β} {k : α → Sem γ} {f : β → Mn δ} (K : Ok G C A P env s ρ st) (h1 : At G A env s ρ st R t m)
    (h2 : ∀ v s' ρ' d σ', Ok G C A P env s' ρ' ⟨st.loc, σ'⟩ → Ev [] s.heap ρ s'.heap ρ' → R s'.heap ρ' d v → At G A env s' ρ' ⟨st.loc, σ'⟩ R' (k v) (f d)) :
    At G A env s ρ st R' (t >>= k) (bnd m f) := fun hb => by
  refine wpAny_bind (wpAny_mono (h1 (bnd_ne_bot hb)) (fun v s' q => ?_) fun x s' q => ?_)
  · obtain ⟨ρ', d, σ', e, I', x, r⟩ := q
    have e' : bnd m f st = f d ⟨st.loc, σ'⟩ := by simp only [bnd, e]
    rw [e'] at hb ⊢
    refine wpAny_mono (h2 v s' ρ' d σ' (K.step I' x) x r hb) (fun w s'' q => ?_) fun w s'' q => ?_
    · obtain ⟨ρ'', d', σ'', e2, I'', x2, r2⟩ := q
      exact ⟨ρ'', d', σ'', e2, I'', x.trans x2, r2⟩
    · obtain ⟨ρ'', c, σ'', a, e2, I'', x2, rfl, fl⟩ := q
      exact ⟨ρ'', c, σ'', a, e2, I'', x.trans x2, rfl, fl.from x.size⟩
  · obtain ⟨ρ', c, σ', a, e, I', x, rfl, fl⟩ := q
    exact ⟨ρ', c, σ', a, by simp only [bnd, e], I', x, rfl, fl⟩
theorem At.hold {R : Heap → List Addr → β → α → Prop} {t : Sem α} {m : Mn β} {vs : List Value} (h : At G A env s ρ st R t m) : At G A env s ρ st R (holding vs t) m := fun hb => wpAny_holding (h hb)
theorem At.stand {R : Heap → List Addr → β → α → Prop} {t : Sem α} {m : Mn β} {p : Pos} (h : At G A env s ρ st R t m) : At G A env s ρ st R (standAt p >>= fun _ => t) m := fun hb => wpAny_bind (wpAny_standAt (h hb))
theorem At.ofEq {R : Heap → List Addr → β → α → Prop} {t t' : Sem α} {m : Mn β} (e : t = t') (h : At G A env s ρ st R t' m) : At G A env s ρ st R t m := e ▸ h
theorem At.pure {R : Heap → List Addr → β → α → Prop} {d : β} {v : α} (K : Ok G C A P env s ρ st) (h : R s.heap ρ d v) : At G A env s ρ st R (pure v) (ret1 d) := fun _ => wpAny_pure ⟨ρ, d, st.sto, rfl, K.inv, Ev.refl, h⟩
/-- a leaf: the tree ends in v, the heap only grown -/
theorem At.leaf {R : Heap → List Addr → β → α → Prop} {t : Sem α} {m : Mn β} (h : m st ≠ .bot → wpAny G.M A t (fun v s' => ∃ d, m st = .ok d st ∧ (∃ h' tk, s' = { s with heap := h', toks := tk } ∧ Grow s.heap h') ∧ R s'.heap ρ d v) (fun _ _ => False) s)
    (K : Ok G C A P env s ρ st) : At G A env s ρ st R t m := fun hb => by
  refine wpAny_mono (wpAny_size (h hb)) (fun v s' q => ?_) fun _ _ q => q.2.elim
  obtain ⟨z, d, e, ⟨h', tk, rfl, g⟩, r⟩ := q
  exact ⟨ρ, d, st.sto, e, K.inv.grow g z tk, g.ev z, r⟩
theorem Grow.same {s : Shared} {t : Nat} : ∃ h' tk, ({ s with toks := t } : Shared) = { s with heap := h', toks := tk } ∧ Grow s.heap h' := ⟨s.heap, t, rfl, .refl _⟩
theorem Grow.same0 {s : Shared} : ∃ h' tk, s = { s with heap := h', toks := tk } ∧ Grow s.heap h' := ⟨s.heap, s.toks, rfl, .refl _⟩
theorem At.map {R : Heap → List Addr → β → α → Prop} {R' : Heap → List Addr → δ → γ → Prop} {t : Sem α} {m : Mn β} {f : β → δ} {g : α → γ} (h : At G A env s ρ st R t m)
    (hr : ∀ h ρ d v, R h ρ d v → R' h ρ (f d) (g v)) : At G A env s ρ st R' (t >>= fun v => Pure.pure (g v)) (bnd m fun d => ret1 (f d)) := fun hb => by
  refine wpAny_bind (wpAny_mono (h (bnd_ne_bot hb)) (fun v s' q => ?_) fun x s' q => ?_)
  · obtain ⟨ρ', d, σ', e, I', x, r⟩ := q
    exact wpAny_pure ⟨ρ', f d, σ', by simp only [bnd, e, ret1], I', x, hr _ _ _ _ r⟩
  · obtain ⟨ρ', c, σ', a, e, I', x, rfl, fl⟩ := q
    exact ⟨ρ', c, σ', a, by simp only [bnd, e], I', x, rfl, fl⟩
end

/-! values read -/
def pvar (i : Nat) : Mn D := fun st => match st.loc i with
  | some d => .ok d st
  | none => .bot

section
variable {G : Gd} {C : Cx}

theorem se_int {i : Int} {k : Nat} {pos : Pos} : SE G C (.Constant (.int i) k pos) (ret1 (.int i)) := .mk <| fun A P env s ρ st K =>
  At.leaf (fun _ => wpAny_Constant_int ⟨_, rfl, Grow.same, ⟨_, rfl⟩⟩) K
theorem se_str {x : Str} {k : Nat} {pos : Pos} : SE G C (.Constant (.str x) k pos) (ret1 (.str x)) := .mk <| fun A P env s ρ st K =>
  At.leaf (fun _ => Calls.Constant_str ⟨_, rfl, Grow.same, ⟨_, rfl⟩⟩) K
theorem se_bool {b : Bool} {k : Nat} {pos : Pos} : SE G C (.Constant (.bool b) k pos) (ret1 (.bool b)) := .mk <| fun A P env s ρ st K => At.pure K rfl
theorem se_none {k : Nat} {pos : Pos} : SE G C (.Constant .none k pos) (ret1 .none) := .mk <| fun A P env s ρ st K => At.pure K rfl

theorem se_local {i : Nat} {x : Str} {pos : Pos} (hi : C.tbl[i]? = some x) (hx : C.names.lookup x = some .local) (hd : (x == ("__debug__" : Str)) = false) : SE G C (.Name x pos) (pvar i) := .mk <| fun A P env s ρ st K => by
  refine At.leaf (fun hb => ?_) K
  obtain ⟨m, n, q⟩ := K.frm.ns
  cases e : st.loc i with
  | none => exact absurd (by simp only [pvar, e]) hb
  | some d =>
    obtain ⟨v, e1, e2⟩ := q i x hi (K.sees.loc x hx) d e
    exact wpAny_Name (wpAny_loadName_local K.frm.kind (K.sees.loc x hx) n e1 ⟨d, by simp only [pvar, e], Grow.same0, e2⟩) hd
theorem se_cell {i : Nat} {x : Str} {pos : Pos} (hi : C.tbl[i]? = some x) (hx : C.names.lookup x = some .cell ∨ C.names.lookup x = some .free) (hd : (x == ("__debug__" : Str)) = false) (hn : (x == ("__classdict__" : Str)) = false) :
    SE G C (.Name x pos) (pvar i) := .mk <| fun A P env s ρ st K => by
  refine At.leaf (fun hb => ?_) K
  have hk := hx.elim (fun h => Or.inl (K.sees.cell x h)) (K.sees.free x)
  obtain ⟨c, e1, ov, n, q⟩ := K.frm.cell i x hi hk
  cases e : st.loc i with
  | none => exact absurd (by simp only [pvar, e]) hb
  | some d =>
    obtain ⟨v, rfl, e2⟩ := q d e
    refine wpAny_Name ?_ hd
    rcases hk with hk | hk
    · exact wpAny_loadName_cell K.frm.kind hk e1 n ⟨d, by simp only [pvar, e], Grow.same0, e2⟩
    · exact wpAny_loadName_free K.frm.kind hk e1 n ⟨d, by simp only [pvar, e], Grow.same0, e2⟩ hn
end

/-! binary operations -/
/-- a binary operation upon values -/
def BinOk (G : Gd) (op : Operator) (f : D → D → Mn D) : Prop :=
  ∀ C A P env s ρ st d1 d2 v1 v2, Ok G C A P env s ρ st → Rel G s.heap ρ d1 v1 → Rel G s.heap ρ d2 v2 → At G A env s ρ st (RV G) (binaryOp op v1 v2) (f d1 d2)

section
variable {G : Gd} {C : Cx}
theorem At.operate {α : Type} {A : Around} {env : Env} {s : Shared} {ρ : List Addr} {st : St} {R : Heap → List Addr → α → Value → Prop} {t : Sem Value} {m : Mn α} {vs : List Value} (h : At G A env s ρ st R t m) :
    At G A env s ρ st R (operate vs t) m := fun hb Γ p hΓ => by rw [Sem.wp_operate]; exact h hb Γ p hΓ

theorem se_bin {l r : Expr} {op : Operator} {pos : Pos} {m1 m2 : Mn D} {f : D → D → Mn D} (ho : BinOk G op f) (h1 : SE G C l m1) (h2 : SE G C r m2) :
    SE G C (.BinOp l op r pos) (bnd m1 fun a => bnd m2 fun b => f a b) := .mk <| fun A P env s ρ st K => by
  show At G A env s ρ st (RV G) (do let a ← eval l env; let b ← holding [a] (eval r env); standAt pos; operate [a, b] (binaryOp op a b)) _
  refine At.bind K (h1.run A P env s ρ st K) fun v s' ρ' d σ' K' x r1 => ?_
  refine At.bind K' (h2.run A P env s' ρ' _ K').hold fun v2 s'' ρ'' d2 σ'' K'' x2 r2 => ?_
  exact At.stand (At.operate (ho C A P env s'' ρ'' _ d d2 v v2 K'' (Rel.mono (x2.stb K'.inv .nil) _ _ r1) r2))
end

def pAddI : D → D → Mn D
  | .int a, .int b => ret1 (.int (a + b))
  | _, _ => botM
def pSub : D → D → Mn D
  | .int a, .int b => ret1 (.int (a - b))
  | _, _ => botM
def pDiv : D → D → Mn D
  | .int a, .int b => if b ≠ 0 ∧ b.natAbs < 1073741824 then ret1 (.int (a.fdiv b)) else botM
  | _, _ => botM
end Mine

/- part F4 -/
set_option Elab.async false
set_option linter.unusedVariables false
namespace Mine
open PySem PyProof.Rows

def upd (loc : Loc) (i : Nat) (d : D) : Loc := fun j => if j = i then some d else loc j
def setvar (i : Nat) (d : D) : Mn Fl := fun st => .ok .next ⟨upd st.loc i d, st.sto⟩

/-- may write all cells of its frame -/
def Wr (env : Env) (P : List Addr) : Prop := ∀ x c, env.cells.lookup x = some c → c ∈ P

def FlR (G : Gd) (h : Heap) (ρ : List Addr) : Fl → Flow → Prop
  | .next, f => f = .next
  | .brk, f => f = .brk
  | .cont, f => f = .cont
  | .ret d, f => ∃ v, f = .ret v ∧ Rel G h ρ d v

def AtS (G : Gd) (tbl : List Str) (A : Around) (P : List Addr) (env : Env) (s : Shared) (ρ : List Addr) (st : St) (t : Sem Flow) (m : Mn Fl) : Prop :=
  m st ≠ .bot → wpAny G.M A t (fun f s' => ∃ ρ' fl st', m st = .ok fl st' ∧ Inv G s' ρ' st'.sto ∧ Ev P s.heap ρ s'.heap ρ' ∧ Frm G tbl P env s'.heap ρ' st'.loc ∧ FlR G s'.heap ρ' fl f)
    (fun x s' => ∃ ρ' c st' a, m st = .exc c st' ∧ Inv G s' ρ' st'.sto ∧ Ev P s.heap ρ s'.heap ρ' ∧ Frm G tbl P env s'.heap ρ' st'.loc ∧ x = .ref a ∧ Fly s.heap.objs.size s'.heap env.frame a c) s

structure SS (G : Gd) (C : Cx) (t : Stmt) (m : Mn Fl) : Prop where
  run : ∀ A P env s ρ st, Ok G C A P env s ρ st → Wr env P → AtS G C.tbl A P env s ρ st (exec t env) m
structure SSs (G : Gd) (C : Cx) (t : List Stmt) (m : Mn Fl) : Prop where
  run : ∀ A P env s ρ st, Ok G C A P env s ρ st → Wr env P → AtS G C.tbl A P env s ρ st (execs t env) m

section
variable {G : Gd} {C : Cx} {A : Around} {P : List Addr} {env : Env} {s : Shared} {ρ : List Addr} {st : St} {σ : Sto}

theorem Ok.stepS (K : Ok G C A P env s ρ st) {s' : Shared} {ρ' : List Addr} {st' : St} (I' : Inv G s' ρ' st'.sto) (x : Ev P s.heap ρ s'.heap ρ') (F' : Frm G C.tbl P env s'.heap ρ' st'.loc) : Ok G C A P env s' ρ' st' :=
  ⟨K.room, K.sees, I', F', K.stk.fr, fun fs e => (K.stk.ff fs e).keepF x K.frm F'⟩

/-- one object of the frame's own is written -/
theorem wr_own (I : Inv G s ρ σ) {p : Addr} {h' : Heap} (hs : Heap.SameBut p s.heap h') (hp : p ∈ P) (h0 : G.h0.get? p = none) (hr : p ∉ ρ)
    (hn : ∃ o, s.heap.get? p = some o ∧ ((∃ es n, o.data = .dict es n) ∨ ∃ v, o.data = .cell v)) (t : Nat) :
    Inv G { s with heap := h', toks := t } ρ σ ∧ Ev P s.heap ρ h' ρ ∧ Stb s.heap ρ h' ρ := by
  have keep : ∀ b o, b ≠ p → s.heap.get? b = some o → h'.get? b = some o := fun b o n e => (hs.2 b n).trans e
  have hz : s.heap.objs.size ≤ h'.objs.size := Nat.le_of_eq hs.1.symm
  obtain ⟨op, hop, hd⟩ := hn
  have S : Stb s.heap ρ h' ρ := ⟨fun _ _ e => e, fun b items n1 t => by
      obtain ⟨n, ho⟩ := t
      refine ⟨n1, n, keep b _ (fun e => ?_) ho⟩
      rw [e, hop] at ho; cases ho
      rcases hd with ⟨_, _, z⟩ | ⟨_, z⟩ <;> (cases z), fun b c n1 t => by
      obtain ⟨o, ho, hc, vs, hd'⟩ := t
      refine ⟨n1, o, keep b o (fun e => ?_) ho, hc, vs, hd'⟩
      rw [e, hop] at ho; cases ho
      rw [hd'] at hd
      rcases hd with ⟨_, _, z⟩ | ⟨_, z⟩ <;> cases z⟩
  refine ⟨⟨fun b o e => keep b o (fun q => by rw [q, h0] at e; cases e) (I.base b o e), I.new, I.nodup, I.len, fun k a o e1 e2 => ?_, I.os, I.gens⟩, ⟨fun _ _ e => e, fun b o e n n2 => ⟨o, keep b o (fun q => n2 (q ▸ hp)) e, .refl o⟩, fun _ m => .inl m, hz⟩, S⟩
  exact (I.sto k a o e1 e2).mono S (fun o ho => keep a o (fun q => hr (q ▸ List.mem_of_getElem? e1)) ho) hz

theorem Frm.set_local {tbl : List Str} {loc : Loc} (F : Frm G tbl P env s.heap ρ loc) (I : Inv G s ρ σ) {i : Nat} {x : Str} {d : D} {v : Value} {m : Str → Option Value} {h' : Heap} (hi : tbl[i]? = some x) (hx : env.kindOf x = some .local)
    (hm : s.heap.Ns env.locals m) (q : ∀ (i : Nat) (x : Str), tbl[i]? = some x → env.kindOf x = some .local → ∀ d, loc i = some d → ∃ v, m x = some v ∧ Rel G s.heap ρ d v)
    (hn : h'.Ns env.locals (fun y => if y = x then some v else m y)) (hs : Heap.SameBut env.locals s.heap h') (r : Rel G s.heap ρ d v) (t : Nat) :
    Inv G { s with heap := h', toks := t } ρ σ ∧ Ev P s.heap ρ h' ρ ∧ Frm G tbl P env h' ρ (upd loc i d) := by
  have own := F.own _ F.lP
  obtain ⟨oL, esL, epL, hoL, hdL, rL⟩ := id hm
  obtain ⟨oN, esN, epN, hoN, hdN, rN⟩ := id hn
  obtain ⟨I', x', S⟩ := wr_own (P := P) I hs F.lP own.1 F.lrho ⟨oL, hoL, .inl ⟨esL, epL, hdL⟩⟩ t
  have cellne : ∀ y c, env.cells.lookup y = some c → c ≠ env.locals := fun y c e z => by
    obtain ⟨_, ov, o, ho, hd⟩ := F.cok y c e
    rw [z, hoL] at ho; cases ho
    rw [hdL] at hd; cases hd
  refine ⟨I', x', ⟨F.kind, F.glob, F.bi, ⟨_, hn, fun j y e k d' hd' => ?_⟩, fun j y e k => ?_, fun y c e => ?_, F.cinj, F.lrho, F.lP, F.own, F.tnd⟩⟩
  · by_cases hj : j = i
    · subst hj
      rw [hi] at e; cases e
      simp only [upd, if_true] at hd'
      cases hd'
      exact ⟨v, by simp, Rel.mono S _ _ r⟩
    · simp only [upd, hj, if_false] at hd'
      obtain ⟨v', e1, e2⟩ := q j y e k d' hd'
      have hy : y ≠ x := fun z => hj (nodup_getElem_inj F.tnd (z ▸ e) hi)
      exact ⟨v', by simp only [hy, if_false]; exact e1, Rel.mono S _ _ e2⟩
  · obtain ⟨c, e1, ov, n, qq⟩ := F.cell j y e k
    refine ⟨c, e1, ov, n.sameBut hs (cellne y c e1), fun d' hd' => ?_⟩
    have hj : j ≠ i := fun z => by
      subst z
      rw [hi] at e; cases e
      rw [hx] at k
      rcases k with k | k <;> cases k
    simp only [upd, hj, if_false] at hd'
    obtain ⟨v', e1, e2⟩ := qq d' hd'
    exact ⟨v', e1, Rel.mono S _ _ e2⟩
  · obtain ⟨n, ov, z⟩ := F.cok y c e
    exact ⟨n, ov, z.sameBut hs (cellne y c e)⟩

theorem Frm.set_cell {tbl : List Str} {loc : Loc} (F : Frm G tbl P env s.heap ρ loc) (I : Inv G s ρ σ) {i : Nat} {x : Str} {d : D} {v : Value} {c : Addr} {h' : Heap} (hi : tbl[i]? = some x) (hx : env.kindOf x = some .cell)
    (hc : env.cells.lookup x = some c) (hP : c ∈ P) (hn : h'.IsCell c (some v)) (hs : Heap.SameBut c s.heap h') (r : Rel G s.heap ρ d v) (t : Nat) :
    Inv G { s with heap := h', toks := t } ρ σ ∧ Ev P s.heap ρ h' ρ ∧ Frm G tbl P env h' ρ (upd loc i d) := by
  have own := F.own _ hP
  obtain ⟨n0, ov0, o0, ho0, hd0⟩ := F.cok x c hc
  obtain ⟨oN, hoN, hdN⟩ := id hn
  obtain ⟨I', x', S⟩ := wr_own (P := P) I hs hP own.1 n0 ⟨o0, ho0, .inr ⟨ov0, hd0⟩⟩ t
  obtain ⟨m, nm, q⟩ := F.ns
  have lne : env.locals ≠ c := fun z => by
    obtain ⟨oL, esL, epL, hoL, hdL, rL⟩ := nm
    rw [z, ho0] at hoL; cases hoL
    rw [hdL] at hd0; cases hd0
  refine ⟨I', x', ⟨F.kind, F.glob, F.bi, ⟨m, nm.sameBut hs lne, fun j y e k d' hd' => ?_⟩, fun j y e k => ?_, fun y c' e => ?_, F.cinj, F.lrho, F.lP, F.own, F.tnd⟩⟩
  · have hj : j ≠ i := fun z => by
      subst z
      rw [hi] at e; cases e
      rw [hx] at k; cases k
    simp only [upd, hj, if_false] at hd'
    obtain ⟨v', e1, e2⟩ := q j y e k d' hd'
    exact ⟨v', e1, Rel.mono S _ _ e2⟩
  · by_cases hj : j = i
    · subst hj
      rw [hi] at e; cases e
      refine ⟨c, hc, some v, hn, fun d' hd' => ?_⟩
      simp only [upd, if_true] at hd'
      cases hd'
      exact ⟨v, rfl, Rel.mono S _ _ r⟩
    · obtain ⟨c', e1, ov, n, qq⟩ := F.cell j y e k
      have hy : y ≠ x := fun z => hj (nodup_getElem_inj F.tnd (z ▸ e) hi)
      have hcc : c' ≠ c := fun z => hy (F.cinj y x c (z ▸ e1) hc)
      refine ⟨c', e1, ov, n.sameBut hs hcc, fun d' hd' => ?_⟩
      simp only [upd, hj, if_false] at hd'
      obtain ⟨v', e1, e2⟩ := qq d' hd'
      exact ⟨v', e1, Rel.mono S _ _ e2⟩
  · obtain ⟨n, ov, z⟩ := F.cok y c' e
    by_cases hcc : c' = c
    · subst hcc; exact ⟨n, _, hn⟩
    · exact ⟨n, ov, z.sameBut hs hcc⟩

/-- an expression first, then what it is for -/
theorem AtS.bind {α β : Type} {R : Heap → List Addr → β → α → Prop} {t : Sem α} {m : Mn β} {k : α → Sem Flow} {f : β → Mn Fl} (K : Ok G C A P env s ρ st) (h1 : At G A env s ρ st R t m)
    (h2 : ∀ v s' ρ' d σ', Ok G C A P env s' ρ' ⟨st.loc, σ'⟩ → Ev [] s.heap ρ s'.heap ρ' → R s'.heap ρ' d v → AtS G C.tbl A P env s' ρ' ⟨st.loc, σ'⟩ (k v) (f d)) :
    AtS G C.tbl A P env s ρ st (t >>= k) (bnd m f) := fun hb => by
  refine wpAny_bind (wpAny_mono (h1 (bnd_ne_bot hb)) (fun v s' q => ?_) fun x s' q => ?_)
  · obtain ⟨ρ', d, σ', e, I', x, r⟩ := q
    have e' : bnd m f st = f d ⟨st.loc, σ'⟩ := by simp only [bnd, e]
    rw [e'] at hb ⊢
    refine wpAny_mono (h2 v s' ρ' d σ' (K.step I' x) x r hb) (fun w s'' q => ?_) fun w s'' q => ?_
    · obtain ⟨ρ'', fl, st'', e2, I'', x2, F2, r2⟩ := q
      exact ⟨ρ'', fl, st'', e2, I'', x.nil.trans x2, F2, r2⟩
    · obtain ⟨ρ'', c, st'', a, e2, I'', x2, F2, rfl, fl⟩ := q
      exact ⟨ρ'', c, st'', a, e2, I'', x.nil.trans x2, F2, rfl, fl.from x.size⟩
  · obtain ⟨ρ', c, σ', a, e, I', x, rfl, fl⟩ := q
    exact ⟨ρ', c, ⟨st.loc, σ'⟩, a, by simp only [bnd, e], I', x.nil, K.frm.keep K.inv x, rfl, fl⟩
theorem AtS.stand {t : Sem Flow} {m : Mn Fl} {p : Pos} {tbl : List Str} (h : AtS G tbl A P env s ρ st t m) : AtS G tbl A P env s ρ st (standAt p >>= fun _ => t) m := fun hb => wpAny_bind (wpAny_standAt (h hb))

def seqM (m1 m2 : Mn Fl) : Mn Fl := bnd m1 fun fl => match fl with
  | .next => m2
  | f => ret1 f
def ifM (c : Mn Bool) (m1 m2 : Mn Fl) : Mn Fl := bnd c fun b => if b then m1 else m2

theorem ss_nil : SSs G C [] (ret1 .next) := .mk <| fun A P env s ρ st K W hb => wpAny_execs_nil ⟨ρ, .next, st, rfl, K.inv, Ev.refl, K.frm, rfl⟩
theorem ss_cons {t : Stmt} {ts : List Stmt} {m1 m2 : Mn Fl} (h1 : SS G C t m1) (h2 : SSs G C ts m2) : SSs G C (t :: ts) (seqM m1 m2) := .mk <| fun A P env s ρ st K W hb => by
  refine wpAny_execs_cons (wpAny_mono (h1.run A P env s ρ st K W (bnd_ne_bot hb)) (fun f s' q => ?_) fun x s' q => ?_)
  · obtain ⟨ρ', fl, st', e, I', x, F', r⟩ := q
    have K' := K.stepS I' x F'
    cases fl with
    | next =>
      have e' : seqM m1 m2 st = m2 st' := by simp only [seqM, bnd, e]
      cases (show f = .next from r)
      rw [e'] at hb ⊢
      refine wpAny_mono (h2.run A P env s' ρ' st' K' W hb) (fun w s'' q => ?_) fun w s'' q => ?_
      · obtain ⟨ρ'', fl, st'', e2, I'', x2, F2, r2⟩ := q
        exact ⟨ρ'', fl, st'', e2, I'', x.trans x2, F2, r2⟩
      · obtain ⟨ρ'', c, st'', a, e2, I'', x2, F2, rfl, fl⟩ := q
        exact ⟨ρ'', c, st'', a, e2, I'', x.trans x2, F2, rfl, fl.from x.size⟩
    | brk => cases (show f = .brk from r); exact ⟨ρ', .brk, st', by simp only [seqM, bnd, e, ret1], I', x, F', rfl⟩
    | cont => cases (show f = .cont from r); exact ⟨ρ', .cont, st', by simp only [seqM, bnd, e, ret1], I', x, F', rfl⟩
    | ret d =>
      obtain ⟨v, rfl, r⟩ := r
      exact ⟨ρ', .ret d, st', by simp only [seqM, bnd, e, ret1], I', x, F', v, rfl, r⟩
  · obtain ⟨ρ', c, st', a, e, I', x, F', rfl, fl⟩ := q
    exact ⟨ρ', c, st', a, by simp only [seqM, bnd, e], I', x, F', rfl, fl⟩

theorem ss_return {e : Expr} {pos : Pos} {m : Mn D} (h : SE G C e m) : SS G C (.Return (some e) pos) (bnd m fun d => ret1 (.ret d)) := .mk <| fun A P env s ρ st K W => by
  show AtS G C.tbl A P env s ρ st (do standAt pos; return .ret (← eval e env)) _
  refine AtS.stand (AtS.bind K (h.run A P env s ρ st K) fun v s' ρ' d σ' K' x r hb => ?_)
  exact wpAny_pure ⟨ρ', .ret d, _, rfl, K'.inv, Ev.refl, K'.frm, v, rfl, r⟩
theorem ss_pass {pos : Pos} : SS G C (.Pass pos) (ret1 .next) := .mk <| fun A P env s ρ st K W hb => wpAny_Pass ⟨ρ, .next, st, rfl, K.inv, Ev.refl, K.frm, rfl⟩
theorem ss_break {pos : Pos} : SS G C (.Break pos) (ret1 .brk) := .mk <| fun A P env s ρ st K W hb => wpAny_bind (wpAny_standAt (wpAny_pure ⟨ρ, .brk, st, rfl, K.inv, Ev.refl, K.frm, rfl⟩))
theorem ss_continue {pos : Pos} : SS G C (.Continue pos) (ret1 .cont) := .mk <| fun A P env s ρ st K W hb => wpAny_bind (wpAny_standAt (wpAny_pure ⟨ρ, .cont, st, rfl, K.inv, Ev.refl, K.frm, rfl⟩))
theorem ss_if {c : Expr} {b1 b2 : List Stmt} {pos : Pos} {mc : Mn Bool} {m1 m2 : Mn Fl} (hc : SB G C c mc) (h1 : SSs G C b1 m1) (h2 : SSs G C b2 m2) : SS G C (.If c b1 b2 pos) (ifM mc m1 m2) := .mk <| fun A P env s ρ st K W => by
  show AtS G C.tbl A P env s ρ st (do standAt pos; if ← isTrue c env (eval c env) then execs b1 env else execs b2 env) _
  refine AtS.stand (AtS.bind K (hc.run A P env s ρ st K) fun v s' ρ' d σ' K' x r => ?_)
  cases (show d = v from r)
  cases v with
  | true => exact h1.run A P env s' ρ' _ K' W
  | false => exact h2.run A P env s' ρ' _ K' W

/-- storing into a local name -/
theorem at_store {i : Nat} {x : Str} {d : D} {v : Value} (K : Ok G C A P env s ρ st) (hi : C.tbl[i]? = some x) (hx : C.names.lookup x = some .local) (r : Rel G s.heap ρ d v) {Q : Unit → Shared → Prop} {E : Value → Shared → Prop}
    (h : ∀ s', Inv G s' ρ st.sto → Ev P s.heap ρ s'.heap ρ → Frm G C.tbl P env s'.heap ρ (upd st.loc i d) → Q () s') : wpAny G.M A (storeName env x v) Q E s := by
  obtain ⟨m, n, q⟩ := K.frm.ns
  refine wpAny_storeName_local (K.sees.loc x hx) n (fun h' hn hs => ?_) (by rw [K.frm.kind]; rfl)
  obtain ⟨I', x', F'⟩ := K.frm.set_local K.inv hi (K.sees.loc x hx) n q hn hs r (s.toks + 1)
  exact h _ I' x' F'
theorem at_storeC {i : Nat} {x : Str} {d : D} {v : Value} (K : Ok G C A P env s ρ st) (W : Wr env P) (hi : C.tbl[i]? = some x) (hx : env.kindOf x = some .cell) (r : Rel G s.heap ρ d v) {Q : Unit → Shared → Prop} {E : Value → Shared → Prop}
    (h : ∀ s', Inv G s' ρ st.sto → Ev P s.heap ρ s'.heap ρ → Frm G C.tbl P env s'.heap ρ (upd st.loc i d) → Q () s') : wpAny G.M A (storeName env x v) Q E s := by
  obtain ⟨c, e1, ov, n, q⟩ := K.frm.cell i x hi (.inl hx)
  refine wpAny_storeName_cell K.frm.kind hx e1 n fun h' hn hs => ?_
  obtain ⟨I', x', F'⟩ := K.frm.set_cell K.inv hi hx e1 (W x c e1) hn hs r s.toks
  exact h _ I' x' F'

theorem ss_assign {i : Nat} {x : Str} {e : Expr} {np pos : Pos} {m : Mn D} (hi : C.tbl[i]? = some x) (hx : C.names.lookup x = some .local) (h : SE G C e m)
    (hs : ∀ env : Env, swapsWith e (some (.Name x np)) pos.line env = pure false) : SS G C (.Assign [.Name x np] e pos) (bnd m (setvar i)) := .mk <| fun A P env s ρ st K W hb => by
  refine wpAny_Assign_Name ?_ (hs env)
  refine wpAny_mono (h.run A P env s ρ st K (bnd_ne_bot hb)) (fun v s' q => ?_) fun x s' q => ?_
  · obtain ⟨ρ', d, σ', e, I', x', r⟩ := q
    have K' := K.step I' x'
    refine at_store K' hi hx r fun s'' I'' x'' F'' => ?_
    exact ⟨ρ', .next, ⟨upd st.loc i d, σ'⟩, by simp only [bnd, e, setvar], I'', x'.nil.trans x'', F'', rfl⟩
  · obtain ⟨ρ', c, σ', a, e, I', x', rfl, fl⟩ := q
    exact ⟨ρ', c, ⟨st.loc, σ'⟩, a, by simp only [bnd, e], I', x'.nil, K.frm.keep K.inv x', rfl, fl⟩
theorem ss_assignC {i : Nat} {x : Str} {e : Expr} {np pos : Pos} {m : Mn D} (hi : C.tbl[i]? = some x) (hx : C.names.lookup x = some .cell) (h : SE G C e m)
    (hs : ∀ env : Env, env.kindOf x = some .cell → swapsWith e (some (.Name x np)) pos.line env = pure false) : SS G C (.Assign [.Name x np] e pos) (bnd m (setvar i)) := .mk <| fun A P env s ρ st K W hb => by
  refine wpAny_Assign_Name ?_ (hs env (K.sees.cell x hx))
  refine wpAny_mono (h.run A P env s ρ st K (bnd_ne_bot hb)) (fun v s' q => ?_) fun x s' q => ?_
  · obtain ⟨ρ', d, σ', e, I', x', r⟩ := q
    have K' := K.step I' x'
    refine at_storeC K' W hi (K.sees.cell x hx) r fun s'' I'' x'' F'' => ?_
    exact ⟨ρ', .next, ⟨upd st.loc i d, σ'⟩, by simp only [bnd, e, setvar], I'', x'.nil.trans x'', F'', rfl⟩
  · obtain ⟨ρ', c, σ', a, e, I', x', rfl, fl⟩ := q
    exact ⟨ρ', c, ⟨st.loc, σ'⟩, a, by simp only [bnd, e], I', x'.nil, K.frm.keep K.inv x', rfl, fl⟩
end
end Mine

/- part F5 -/
set_option Elab.async false
set_option linter.unusedVariables false
namespace Mine
open PySem PyProof.Rows

/-- what notes of a flying exception may change: exceptions and tracebacks that are new, frames' slots -/
def NoteCh (G : Gd) (n : Nat) (h h' : Heap) : Prop :=
  (∀ b o, h.get? b = some o → (n ≤ b ∧ ((∃ vs, o.data = .fields vs) ∧ (o.cls = .type "traceback" ∨ ∃ c, o.cls = .ref c)) ∧ ∃ o', h'.get? b = some o' ∧ o'.cls = o.cls ∧ ∃ vs, o'.data = .fields vs) ∨
    ∃ o', h'.get? b = some o' ∧ SameObj o o' ∧ (G.h0.get? b ≠ none → o' = o)) ∧ h.objs.size ≤ h'.objs.size
section
variable {G : Gd} {C : Cx} {A : Around} {P : List Addr} {env : Env} {s : Shared} {ρ ρs : List Addr} {σ : Sto} {n : Nat} {hs h h' h'' : Heap} {tbl : List Str} {loc : Loc}

theorem NoteCh.refl : NoteCh G n h h := ⟨fun b o e => .inr ⟨o, e, .refl o, fun _ => rfl⟩, Nat.le_refl _⟩
theorem NoteCh.trans (x : NoteCh G n h h') (y : NoteCh G n h' h'') : NoteCh G n h h'' := ⟨fun b o e => by
  rcases x.1 b o e with ⟨n, ⟨⟨vs, hd⟩, hc⟩, o', e', c', vs', d'⟩ | ⟨o', e', q, z⟩
  · rcases y.1 b o' e' with ⟨_, _, o'', e'', c'', d''⟩ | ⟨o'', e'', q, _⟩
    · exact .inl ⟨n, ⟨⟨vs, hd⟩, hc⟩, o'', e'', c''.trans c', d''⟩
    · exact .inl ⟨n, ⟨⟨vs, hd⟩, hc⟩, o'', e'', q.1.trans c', vs', q.2.1.trans d'⟩
  · rcases y.1 b o' e' with ⟨n, ⟨⟨vs, hd⟩, hc⟩, o'', e'', c'', d''⟩ | ⟨o'', e'', q', z'⟩
    · exact .inl ⟨n, ⟨⟨vs, q.2.1 ▸ hd⟩, q.1 ▸ hc⟩, o'', e'', c''.trans q.1, d''⟩
    · exact .inr ⟨o'', e'', q.trans q', fun n => (z' n).trans (z n)⟩, Nat.le_trans x.2 y.2⟩
theorem NoteCh.grow (g : Grow h h') (z : h.objs.size ≤ h'.objs.size) : NoteCh G n h h' := ⟨fun b o e => .inr ⟨o, g b o e, .refl o, fun _ => rfl⟩, z⟩
theorem NoteCh.slots {S : List Addr} (x : Heap.SlotsOnly S h h') (f : ∀ b, b ∈ S → G.h0.get? b = none ∧ ∃ o es n, h.get? b = some o ∧ o.data = .dict es n) : NoteCh G n h h' := ⟨fun b o e => by
  by_cases m : b ∈ S
  · obtain ⟨h0, o', es, n, e', hd⟩ := f b m
    rw [e] at e'; cases e'
    obtain ⟨sl, e''⟩ := x.2.2 b o e
    exact .inr ⟨_, e'', ⟨rfl, rfl, rfl, .inl ⟨es, n, hd⟩⟩, fun z => absurd h0 z⟩
  · exact .inr ⟨o, (x.2.1 b m).trans e, .refl o, fun _ => rfl⟩, Nat.le_of_eq x.1.symm⟩
theorem NoteCh.fields {q : Addr} {o : Obj} {vs : Array Value} {g : Array Value → Array Value} (e : h.get? q = some o) (hd : o.data = .fields vs) (hc : o.cls = .type "traceback" ∨ ∃ c, o.cls = .ref c) (hn : n ≤ q) :
    NoteCh G n h (h.update q (Obj.mapFields g)) := ⟨fun b o' e' => by
  by_cases m : b = q
  · subst m
    rw [e] at e'; cases e'
    have hd' := Obj.data_mapFields hd g
    exact .inl ⟨hn, ⟨⟨vs, hd⟩, hc⟩, _, Heap.get?_update_self _ e (Obj.isFreed_of_fields hd'), Obj.cls_mapFields .., _, hd'⟩
  · exact .inr ⟨o', (Heap.get?_update_other h _ (Ne.symm m)).trans e', .refl _, fun _ => rfl⟩, by rw [Heap.size_after_update]; exact Nat.le_refl _⟩

theorem NoteCh.stb (x : NoteCh G n h h') : Stb h ρ h' ρ := ⟨fun _ _ e => e, fun a items n1 t => by
    obtain ⟨n, e⟩ := t
    rcases x.1 a _ e with ⟨_, ⟨⟨vs, hd⟩, _⟩, _⟩ | ⟨o', e', q, _⟩
    · cases hd
    · rw [q.eq (fun _ _ z => by cases z)] at e'; exact ⟨n1, n, e'⟩, fun a c n1 t => by
    obtain ⟨o, e, hc, vs, hd⟩ := t
    rcases x.1 a o e with ⟨_, _, o', e', c', d'⟩ | ⟨o', e', q, _⟩
    · exact ⟨n1, o', e', c'.trans hc, d'⟩
    · exact ⟨n1, o', e', q.1.trans hc, vs, q.2.1.trans hd⟩⟩
theorem NoteCh.ns (x : NoteCh G n h h') {L : Addr} {m : Str → Option Value} (n : h.Ns L m) : h'.Ns L m := by
  obtain ⟨o, es, ep, e, hd, r⟩ := n
  rcases x.1 L o e with ⟨_, ⟨⟨vs, hd'⟩, _⟩, _⟩ | ⟨o', e', q, _⟩
  · rw [hd] at hd'; cases hd'
  · exact ⟨o', es, ep, e', q.2.1.trans hd, r⟩
theorem NoteCh.cell (x : NoteCh G n h h') {c : Addr} {ov : Option Value} (n : h.IsCell c ov) : h'.IsCell c ov := by
  obtain ⟨o, e, hd⟩ := n
  rcases x.1 c o e with ⟨_, ⟨⟨vs, hd'⟩, _⟩, _⟩ | ⟨o', e', q, _⟩
  · rw [hd] at hd'; cases hd'
  · exact ⟨o', e', q.2.1.trans hd⟩
theorem NoteCh.inv (x : NoteCh G n s.heap h') (I : Inv G s ρ σ) (hb : ∀ b, n ≤ b → G.h0.get? b = none) (t : Nat) : Inv G { s with heap := h', toks := t } ρ σ where
  base b o e := by
    rcases x.1 b o (I.base b o e) with ⟨n, _⟩ | ⟨o', e', q, z⟩
    · rw [hb b n] at e; cases e
    · rw [z (by rw [e]; intro z; cases z)] at e'; exact e'
  new := I.new
  nodup := I.nodup
  len := I.len
  sto k a p e1 e2 := by
    have r := I.sto k a p e1 e2
    cases p with
    | list ds =>
      obtain ⟨vs, ⟨n, e⟩, r⟩ := r
      rcases x.1 a _ e with ⟨_, ⟨⟨vs, hd⟩, _⟩, _⟩ | ⟨o', e', q, _⟩
      · cases hd
      · rw [q.eq (fun _ _ z => by cases z)] at e'
        exact ⟨vs, ⟨n, e'⟩, RelL.mono x.stb _ _ r⟩
    | dict kvs =>
      obtain ⟨o, es, n, e, hc, hd, r⟩ := r
      rcases x.1 a _ e with ⟨_, ⟨⟨vs, hd'⟩, _⟩, _⟩ | ⟨o', e', q, _⟩
      · rw [hd] at hd'; cases hd'
      · exact ⟨o', es, n, e', q.1.trans hc, q.2.1.trans hd, r.mono fun _ _ => EntRel.mono x.stb⟩
    | priv =>
      obtain ⟨u, v, e⟩ := r
      rcases x.1 a _ e with ⟨_, ⟨⟨vs, hd⟩, _⟩, _⟩ | ⟨o', e', q, _⟩
      · cases hd
      · rw [q.eq (fun _ _ z => by cases z)] at e'
        exact ⟨u, v, e'⟩
  os := I.os
  gens := I.gens
theorem NoteCh.frm (x : NoteCh G n h h') (F : Frm G tbl P env h ρ loc) : Frm G tbl P env h' ρ loc where
  kind := F.kind
  glob := F.glob
  bi := F.bi
  ns := by
    obtain ⟨m, n, q⟩ := F.ns
    exact ⟨m, x.ns n, fun i y e k d hd => let ⟨v, e1, e2⟩ := q i y e k d hd; ⟨v, e1, Rel.mono x.stb d v e2⟩⟩
  cell i y e k := by
    obtain ⟨c, e1, ov, n, q⟩ := F.cell i y e k
    exact ⟨c, e1, ov, x.cell n, fun d hd => let ⟨v, e1, e2⟩ := q d hd; ⟨v, e1, Rel.mono x.stb d v e2⟩⟩
  cok y c e := by
    obtain ⟨n, ov, z⟩ := F.cok y c e
    exact ⟨n, ov, x.cell z⟩
  cinj := F.cinj
  lrho := F.lrho
  lP := F.lP
  own := F.own
  tnd := F.tnd
theorem NoteCh.ff (x : NoteCh G n h h') {fs : List Env} (f : FF G h ρ fs) : FF G h' ρ fs := fun e m => by
  obtain ⟨hk, L, o, es, n, hf, h0, hr, ho, hd⟩ := f e m
  rcases x.1 L o ho with ⟨_, ⟨⟨vs, hd'⟩, _⟩, _⟩ | ⟨o', e', q, _⟩
  · rw [hd] at hd'; cases hd'
  · exact ⟨hk, L, o', es, n, hf, h0, hr, e', q.2.1.trans hd⟩
theorem NoteCh.stk (x : NoteCh G n h h') (S : Stk G A env h ρ) : Stk G A env h' ρ := ⟨S.fr, fun fs e => x.ff (S.ff fs e)⟩
theorem NoteCh.ev (x : NoteCh G hs.objs.size h h') (y : Ev P hs ρs h ρ) : Ev P hs ρs h' ρ where
  pre := y.pre
  keep b o e n1 n2 := by
    obtain ⟨o', e', q⟩ := y.keep b o e n1 n2
    rcases x.1 b o' e' with ⟨n, _⟩ | ⟨o'', e'', q', _⟩
    · exact absurd (Heap.lt_size e) (Nat.not_lt.mpr n)
    · exact ⟨o'', e'', q.trans q'⟩
  newp := y.newp
  size := Nat.le_trans y.size x.2
end

/-- in flight with a traceback whose mark is x -/
def FlyT (n : Nat) (h : Heap) (x : Value) (a c : Addr) : Prop :=
  n ≤ a ∧ ∃ o vs T oT ts, h.get? a = some o ∧ o.cls = .ref c ∧ o.data = .fields vs ∧ 5 < vs.size ∧ vs[1]? = some (.ref T) ∧ T ≠ a ∧ n ≤ T ∧
    h.get? T = some oT ∧ oT.cls = .type "traceback" ∧ oT.data = .fields ts ∧ ts[3]? = some x
theorem FlyT.fly {n : Nat} {h : Heap} {x : Value} {a c : Addr} {f : Option Addr} (F : FlyT n h x a c) : Fly n h f a c := by
  obtain ⟨h1, o, vs, T, oT, ts, e1, e2, e3, e4, e5, e6, e7, e8, e9, e10, e11⟩ := F
  exact ⟨h1, o, vs, e1, e2, e3, e4, .inr ⟨T, oT, ts, e5, e6, e7, e8, e9, e10, x, e11⟩⟩

section
variable {G : Gd} {C : Cx} {A : Around} {P : List Addr} {env : Env} {s : Shared} {ρ ρs : List Addr} {σ : Sto} {n : Nat} {hs : Heap}

theorem frameOf_ok {E : Value → Shared → Prop} {Q : Value → Shared → Prop} (S : Stk G A env s.heap ρ)
    (h : ∀ L h', env.frame = some L → NoteCh G n s.heap h' → (∀ b o, s.heap.get? b = some o → (∀ es n, o.data ≠ .dict es n) → h'.get? b = some o) → Q (.ref L) { s with heap := h' }) : wpAny G.M A (PySem.frameOf env) Q E s := by
  obtain ⟨fenv, outer, L, hA, hf, he⟩ := S.fr
  unfold PySem.frameOf
  refine wpAny_bind (wpAny_frameEnvs hA ?_)
  have hdw : ((fenv :: outer).dropWhile fun x => x.frame != env.frame) = fenv :: outer := by simp [List.dropWhile, hf, he]
  rw [hdw]
  unfold frameObject
  have hF := S.ff _ hA
  refine wpAny_bind (wpAny_bind (wpAny_readyFrames_fun hF.fun fun h₁ hs₁ => wpAny_pure ?_))
  rw [hf]
  have inS : ∀ b, b ∈ (fenv :: outer).filterMap (·.frame) → G.h0.get? b = none ∧ ∃ o es n, s.heap.get? b = some o ∧ o.data = .dict es n := fun b m => by
    obtain ⟨e, me, eb⟩ := List.mem_filterMap.mp m
    obtain ⟨_, L', o, es, n, hf', h0, _, ho, hd⟩ := hF e me
    rw [eb] at hf'; cases hf'
    exact ⟨h0, o, es, n, ho, hd⟩
  refine wpAny_pure (h L h₁ he (NoteCh.slots hs₁ inS) fun b o e hn => ?_)
  refine (hs₁.2.1 b fun m => ?_).trans e
  obtain ⟨_, o', es, n, e', hd⟩ := inS b m
  rw [e] at e'; cases e'
  exact hn es n hd

theorem note_fly {E : Value → Shared → Prop} {Q : Unit → Shared → Prop} {a c : Addr} (S : Stk G A env s.heap ρ) (F : Fly n s.heap env.frame a c) (hlt : n ≤ s.heap.objs.size)
    (h : ∀ L h', env.frame = some L → NoteCh G n s.heap h' → FlyT n h' (rawInt L) a c → Q () { s with heap := h' }) : wpAny G.M A (noteFrame (.ref a) env) Q E s := by
  obtain ⟨fenv, outer, L, hA, hf, he⟩ := id S.fr
  obtain ⟨hna, o, vs, ho, hc, hd, hsz, tb⟩ := F
  unfold noteFrame
  simp only [he]
  -- what is laid behind the head
  have rest : ∀ (h₁ : Heap) (head : Value) (vs₁ : Array Value) (o₁ : Obj), NoteCh G n s.heap h₁ → h₁.get? a = some o₁ → o₁.cls = .ref c → o₁.data = .fields vs₁ → 5 < vs₁.size →
      wpAny G.M A (PySem.frameOf env >>= fun fr => entryPlaceOf L (head != .none) >>= fun pl => EntryCells.newEntry head fr .none (rawInt L) .none pl >>= fun b => setField (.ref a) 1 b) Q E { s with heap := h₁ } := by
    intro h₁ head vs₁ o₁ N1 ho₁ hc₁ hd₁ hsz₁
    refine wpAny_bind (frameOf_ok (n := n) (s := { s with heap := h₁ }) (N1.stk S) fun L' h₂ hL' N2 ex => ?_)
    refine wpAny_bind (wpAny_entryPlaceOf fun pl hpl => ?_)
    unfold EntryCells.newEntry newFields
    refine wpAny_bind (wpAny_newObj_type ?_ (hpl.sizeOk5 _ _ _ _ _))
    have ho₂ : h₂.get? a = some o₁ := ex a o₁ ho₁ (fun _ _ z => by rw [hd₁] at z; cases z)
    have e₃ := Heap.get?_push_of_some (h := h₂) { cls := .type "traceback", dict := none, data := .fields ([head, .ref L', .none, rawInt L, .none] ++ (if pl.isEmpty then List.replicate 6 Value.none else pl)).toArray } ho₂
    refine wpAny_setField e₃ hd₁ (by omega) ?_
    have hTa : h₂.objs.size ≠ a := Nat.ne_of_gt (Heap.lt_size ho₂)
    have hd₃ := Obj.data_mapFields hd₁ (·.setIfInBounds 1 (Value.ref h₂.objs.size))
    have e₄ := Heap.get?_update_self (Obj.mapFields (·.setIfInBounds 1 (Value.ref h₂.objs.size))) e₃ (Obj.isFreed_of_fields hd₃)
    have eT := (Heap.get?_update_other (h₂.push { cls := .type "traceback", dict := none, data := .fields ([head, .ref L', .none, rawInt L, .none] ++ (if pl.isEmpty then List.replicate 6 Value.none else pl)).toArray })
      (Obj.mapFields (·.setIfInBounds 1 (Value.ref h₂.objs.size))) (Ne.symm hTa)).trans (Heap.get?_push_size h₂ rfl)
    have hnT : n ≤ h₂.objs.size := Nat.le_trans hlt (Nat.le_trans N1.2 N2.2)
    refine h L _ he ((N1.trans N2).trans ((NoteCh.grow (Grow.push _ _) size_push_le).trans (NoteCh.fields e₃ hd₁ (.inr ⟨c, hc₁⟩) hna))) ?_
    exact ⟨hna, _, _, h₂.objs.size, _, _, e₄, (Obj.cls_mapFields ..).trans hc₁, hd₃, by simp; omega, by simp [show 1 < vs₁.size by omega], hTa, hnT, eT, rfl, rfl, by simp⟩
  rcases tb with tb | ⟨T, oT, ts, t1, t2, t3, t4, t5, t6, x, t7⟩
  · refine wpAny_bind (wpAny_field ho hd tb ?_)
    rw [if_neg (by decide)]
    exact rest s.heap .none vs o .refl ho hc hd hsz
  · refine wpAny_bind (wpAny_field ho hd t1 ?_)
    rw [if_pos (show (Value.ref T != Value.none) = true from by simp)]
    refine wpAny_bind (wpAny_field t4 t6 t7 ?_)
    have hT3 : 3 < ts.size := (Array.getElem?_eq_some_iff.mp t7).1
    by_cases hx : (x == rawInt L) = true
    · rw [if_pos hx]
      have hx' : x = rawInt L := beq_iff_eq.mp hx
      subst hx'
      exact wpAny_pure (h L s.heap he .refl ⟨hna, o, vs, T, oT, ts, ho, hc, hd, hsz, t1, t2, t3, t4, t5, t6, t7⟩)
    · rw [if_neg hx]
      refine wpAny_bind (wpAny_setField t4 t6 hT3 ?_)
      exact rest _ (.ref T) vs o (NoteCh.fields t4 t6 (.inl t5) t3) ((Heap.get?_update_other _ _ t2).trans ho) hc hd hsz

theorem flight_fly {E : Value → Shared → Prop} {Q : Unit → Shared → Prop} {a c : Addr} {x : Value} {fr : Option Addr} (F : FlyT n s.heap x a c)
    (h : ∀ h', NoteCh G n s.heap h' → FlyT n h' (fr.elim .none fun f => rawInt f) a c → Q () { s with heap := h' }) : wpAny G.M A (setFlight (.ref a) fr) Q E s := by
  obtain ⟨hna, o, vs, T, oT, ts, ho, hc, hd, hsz, t1, t2, t3, t4, t5, t6, t7⟩ := F
  have hT3 : 3 < ts.size := (Array.getElem?_eq_some_iff.mp t7).1
  unfold setFlight
  refine wpAny_bind (wpAny_field ho hd t1 ?_)
  rw [if_pos (show (Value.ref T != Value.none) = true from by simp)]
  refine wpAny_setField t4 t6 hT3 ?_
  have hd₃ := Obj.data_mapFields t6 (·.setIfInBounds 3 (fr.elim Value.none fun f => rawInt f))
  refine h _ (NoteCh.fields t4 t6 (.inl t5) t3) ⟨hna, o, vs, T, _, _, (Heap.get?_update_other _ _ t2).trans ho, hc, hd, hsz, t1, t2, t3,
    Heap.get?_update_self _ t4 (Obj.isFreed_of_fields hd₃), (Obj.cls_mapFields ..).trans t5, hd₃, by simp [hT3]⟩

theorem leave_fly {E : Value → Shared → Prop} {Q : Unit → Shared → Prop} {a c : Addr} (S : Stk G A env s.heap ρ) (F : Fly n s.heap env.frame a c) (hlt : n ≤ s.heap.objs.size)
    (h : ∀ h', NoteCh G n s.heap h' → FlyT n h' .none a c → Q () { s with heap := h' }) : wpAny G.M A (leaving env (.ref a)) Q E s := by
  unfold leaving
  refine wpAny_bind (note_fly S F hlt fun L h' hL N T => ?_)
  exact flight_fly (s := { s with heap := h' }) (fr := none) T fun h'' N' T' => h h'' (N.trans N') T'

variable {tbl : List Str} {st' : St}
/-- an exception met in a turn of a loop is noted -/
theorem noted_ok {R : Result → Shared → Prop} {a c : Addr} (S : Stk G A env s.heap ρ) (F : Fly hs.objs.size s.heap env.frame a c) (I : Inv G s ρ st'.sto) (x : Ev P hs ρs s.heap ρ) (Fm : Frm G tbl P env s.heap ρ st'.loc) (hb : ∀ b, hs.objs.size ≤ b → G.h0.get? b = none)
    (h : ∀ L s', Inv G s' ρ st'.sto → Ev P hs ρs s'.heap ρ → Frm G tbl P env s'.heap ρ st'.loc → Stk G A env s'.heap ρ → env.frame = some L → FlyT hs.objs.size s'.heap (rawInt L) a c → R (.error (.ref a)) s') :
    notedBy G.M A env (fun e s' => R (.error e) s') (.ref a) s :=
  note_fly S F x.size fun L h' hL N T => h L _ (N.inv I hb s.toks) (N.ev x) (N.frm Fm) (N.stk S) hL T
theorem back_ok {E : Value → Shared → Prop} {L a c : Addr} (S : Stk G A env s.heap ρ) (hL : env.frame = some L) (T : FlyT hs.objs.size s.heap (rawInt L) a c) (I : Inv G s ρ st'.sto) (x : Ev P hs ρs s.heap ρ) (Fm : Frm G tbl P env s.heap ρ st'.loc) (hb : ∀ b, hs.objs.size ≤ b → G.h0.get? b = none)
    (h : ∀ s', Inv G s' ρ st'.sto → Ev P hs ρs s'.heap ρ → Frm G tbl P env s'.heap ρ st'.loc → Fly hs.objs.size s'.heap env.frame a c → E (.ref a) s') : cameBackBy G.M A env E (.ref a) s := by
  unfold cameBackBy
  obtain ⟨hna, o, vs, T', oT, ts, ho, hc, hd, hsz, t1, t2, t3, t4, t5, t6, t7⟩ := id T
  refine wpAny_bind (wpAny_field ho hd t1 ?_)
  rw [if_neg (by simp)]
  refine flight_fly (fr := env.frame) T fun h' N T => h _ (N.inv I hb s.toks) (N.ev x) (N.frm Fm) T.fly
end
end Mine

/- part F6 -/
set_option Elab.async false
set_option linter.unusedVariables false
namespace Mine
open PySem PyProof.Rows

def bindP : Loc → List Nat → List D → Loc
  | loc, p :: ps, d :: ds => bindP (upd loc p d) ps ds
  | loc, _, _ => loc
def emptyL : Loc := fun _ => none

def mkFn (ps : List Nat) (body : Mn Fl) : List D → Mn D := fun ds st =>
  if ds.length = ps.length then
    match body ⟨bindP emptyL ps ds, st.sto⟩ with
    | .ok (.ret d) st' => .ok d ⟨st.loc, st'.sto⟩
    | .ok _ st' => .ok .none ⟨st.loc, st'.sto⟩
    | .exc c st' => .exc c ⟨st.loc, st'.sto⟩
    | .bot => .bot
  else .bot

/-- the frames below stand -/
def Bel (G : Gd) (A : Around) (h : Heap) (ρ : List Addr) : Prop := (∃ fs, A.frames = some fs) ∧ ∀ fs, A.frames = some fs → FF G h ρ fs

/-- the function at a does what F does -/
def SF (G : Gd) (n : Nat) (a : Addr) (F : List D → Mn D) : Prop :=
  ∀ A env s ρ st ds vs, Room n A → Inv G s ρ st.sto → Bel G A s.heap ρ → RelL G s.heap ρ ds vs → At G A env s ρ st (RV G) (call (.ref a) vs) (F ds)

theorem cellsFrom_mem : ∀ (names : List (Str × NameKind)) (n : Nat) (acc : List (Str × Addr)) (x : Str), ((x, NameKind.cell) ∈ names ∨ (acc.lookup x).isSome = true) → ((cellsFrom n names acc).lookup x).isSome = true
  | [], n, acc, x, h => by rcases h with h | h; cases h; exact h
  | (y, k) :: r, n, acc, x, h => by
    unfold cellsFrom
    split
    · refine cellsFrom_mem r _ _ x ?_
      rcases h with h | h
      · rcases List.mem_cons.mp h with e | m
        · cases e; right; simp [List.lookup]
        · exact .inl m
      · right
        simp only [List.lookup]
        split
        · rfl
        · exact h
    · rename_i hk
      refine cellsFrom_mem r _ _ x ?_
      rcases h with h | h
      · rcases List.mem_cons.mp h with e | m
        · cases e; simp at hk
        · exact .inl m
      · exact .inr h

/-- what a frame's two maps hold of the pure locals -/
def MapsOk (G : Gd) (tbl : List Str) (kindOf : Str → Option NameKind) (h : Heap) (ρ : List Addr) (m cm : Str → Option Value) (loc : Loc) : Prop :=
  ∀ (i : Nat) (x : Str), tbl[i]? = some x → ∀ d, loc i = some d → (kindOf x = some .local → ∃ v, m x = some v ∧ Rel G h ρ d v) ∧ ((kindOf x = some .cell ∨ kindOf x = some .free) → ∃ v, cm x = some v ∧ Rel G h ρ d v)

theorem maps_bind {G : Gd} {tbl : List Str} {kindOf : Str → Option NameKind} {h : Heap} {ρ : List Addr} (tnd : tbl.Nodup) : ∀ (is : List Nat) (xs : List Str) (ds : List D) (vs : List Value) (m cm : Str → Option Value) (loc : Loc),
    All2 (fun (i : Nat) x => tbl[i]? = some x) is xs → RelL G h ρ ds vs → ds.length = is.length → MapsOk G tbl kindOf h ρ m cm loc →
    MapsOk G tbl kindOf h ρ (bindL kindOf (xs.zip vs) m) (bindC kindOf (xs.zip vs) cm) (bindP loc is ds)
  | [], _, ds, vs, m, cm, loc, .nil, r, hl, M => by
    cases ds with
    | nil => simp only [RelL] at r; subst r; exact M
    | cons _ _ => simp at hl
  | i :: is, x :: xs, ds, vs, m, cm, loc, .cons hx hxs, r, hl, M => by
    cases ds with
    | nil => simp at hl
    | cons d ds =>
      simp only [RelL] at r
      obtain ⟨v, vr, rfl, r1, r2⟩ := r
      simp only [List.zip_cons_cons, bindL, bindC, bindP]
      refine maps_bind tnd is xs ds vr _ _ _ hxs r2 (by simpa using hl) fun j y hy d' hd' => ?_
      by_cases hj : j = i
      · subst hj
        rw [hx] at hy; cases hy
        simp only [upd, if_true] at hd'
        cases hd'
        refine ⟨fun k => ⟨v, by simp [k], r1⟩, fun k => ⟨v, ?_, r1⟩⟩
        have : ¬ kindOf x = some .local := fun z => by rw [z] at k; rcases k with k | k <;> cases k
        simp [this]
      · simp only [upd, hj, if_false] at hd'
        have hne : y ≠ x := fun z => hj (nodup_getElem_inj tnd (z ▸ hy) hx)
        obtain ⟨q1, q2⟩ := M j y hy d' hd'
        refine ⟨fun k => ?_, fun k => ?_⟩
        · obtain ⟨v', e1, e2⟩ := q1 k
          refine ⟨v', ?_, e2⟩
          split
          · simp [hne, e1]
          · exact e1
        · obtain ⟨v', e1, e2⟩ := q2 k
          refine ⟨v', ?_, e2⟩
          split
          · exact e1
          · simp [hne, e1]

structure FnIs (G : Gd) (a : Addr) (fd : FuncData) (body : List Stmt) (xs : List Str) : Prop where
  obj : ∃ o, G.h0.get? a = some o ∧ o.data = .func fd
  body : fd.body = .stmts body
  glob : fd.globals = mainGlobals
  clo : fd.closure = []
  bi : fd.builtins = builtinsNs
  code : G.h0.CodeRec fd.code fd.qualname
  lim : G.h0.NoLimit
  kind : fd.scope.kind = .function
  co : fd.scope.isCoroutine = false
  gen : fd.scope.isGenerator = false
  bind : ∀ vs : List Value, vs.length = xs.length → bindArgs fd ⟨vs, []⟩ = pure (xs.zip vs)
  par : ∀ x, x ∈ xs → fd.scope.names.lookup x = some .local ∨ fd.scope.names.lookup x = some .cell
  nofree : ∀ x, x ∈ fd.scope.names → x.2 ≠ .free

theorem codeRec_grow {h h' : Heap} (g : Grow h h') {c : Value} {q : Str} (x : h.CodeRec c q) : h'.CodeRec c q := by
  obtain ⟨c, oc, vs, tq, hc, hoc, hdc, hq⟩ := x
  exact ⟨c, oc, vs, tq, hc, g _ _ hoc, hdc, hq⟩

theorem lookup_zip_mem {xs : List Str} {vs : List Value} : ∀ p, p ∈ xs.zip vs → p.1 ∈ xs := fun p m => (List.of_mem_zip m).1

theorem sf_body {G : Gd} {a : Addr} {fd : FuncData} {body : List Stmt} {xs : List Str} {is : List Nat} {tbl : List Str} {n : Nat} {m : Mn Fl} (Fi : FnIs G a fd body xs) (tnd : tbl.Nodup)
    (hi : All2 (fun (i : Nat) x => tbl[i]? = some x) is xs) (hb : SSs G ⟨fd.scope.names, tbl, n⟩ body m) : SF G (n + 1) a (mkFn is m) := by
  intro A env₀ s ρ st ds vs R I B r hbot
  have hlen : ds.length = is.length := by
    cases h : decide (ds.length = is.length) with
    | true => exact of_decide_eq_true h
    | false => exact absurd (by simp only [mkFn, of_decide_eq_false h, if_false]) hbot
  have hvl : vs.length = xs.length := by rw [r.all2.length, hlen, hi.length]
  obtain ⟨o, ho, hdata⟩ := Fi.obj
  have g0 : Grow G.h0 s.heap := I.base
  refine wpAny_call (codeAny_call_cells (fd := fd) (binds := xs.zip vs) (by have := R.depth; show A.depth < 1000; omega) (I.base _ _ ho) hdata (Fi.lim.keeps g0) (codeRec_grow g0 Fi.code) Fi.body (Fi.bind vs hvl) Fi.clo
    (fun p m => ?_) (fun s₁ X => ?_) Fi.co Fi.gen Fi.kind)
  · rcases Fi.par p.1 (lookup_zip_mem p m) with h | h
    · exact .inl h
    · exact .inr ⟨h, cellsFrom_mem _ _ _ _ (.inl (mem_of_lookup h))⟩
  generalize hE : callEnvC fd s.heap.objs.size a = env at X ⊢
  have eloc : env.locals = s.heap.objs.size := by rw [← hE]; rfl
  have escope : env.scope = fd.scope := by rw [← hE]; rfl
  have ekind : ∀ x, env.kindOf x = fd.scope.names.lookup x := fun x => by unfold Env.kindOf; rw [escope]
  have eframe : env.frame = some env.locals := by rw [← hE]; rfl
  have ecells : env.cells = cellsFrom (s.heap.objs.size + 1) fd.scope.names [] := by rw [← hE]; rfl
  obtain ⟨h₁, tk, hs₁⟩ := X.toInCall.same
  have g1 : Grow s.heap s₁.heap := X.toInCall.keep
  have z1 : s.heap.objs.size ≤ s₁.heap.objs.size := by
    obtain ⟨oL, _, _, hoL, _⟩ := X.toInCall.ns
    have := Heap.lt_size hoL
    rw [eloc] at this; exact Nat.le_of_lt this
  have I₁ : Inv G s₁ ρ st.sto := by
    have := I.grow (h' := h₁) (by rw [hs₁] at g1; exact g1) (by rw [hs₁] at z1; exact z1) tk
    rw [hs₁]; exact this
  have hcell_size : ∀ x c, env.cells.lookup x = some c → s.heap.objs.size < c := fun x c e => eloc ▸ X.above x c (mem_of_lookup e)
  have hM : MapsOk G tbl env.kindOf s₁.heap ρ (bindL env.kindOf (xs.zip vs) fun _ => none) (bindC env.kindOf (xs.zip vs) fun _ => none) (bindP emptyL is ds) :=
    maps_bind tnd is xs ds vs _ _ _ hi (RelL.mono g1.stb _ _ r) hlen fun i x _ d hd => by cases hd
  have Wp : Wr env (env.locals :: env.cells.filterMap fun p => env.cells.lookup p.1) := fun x c e => List.mem_cons_of_mem _ (List.mem_filterMap.mpr ⟨(x, c), mem_of_lookup e, e⟩)
  have Pp : ∀ p, p ∈ (env.locals :: env.cells.filterMap fun p => env.cells.lookup p.1) → s.heap.objs.size ≤ p ∧ (p = env.locals ∨ ∃ x, env.cells.lookup x = some p) := fun p mp => by
    rcases List.mem_cons.mp mp with rfl | mp
    · exact ⟨by rw [eloc]; exact Nat.le_refl _, .inl rfl⟩
    · obtain ⟨⟨x, c⟩, mc, e⟩ := List.mem_filterMap.mp mp
      exact ⟨Nat.le_of_lt (hcell_size x p e), .inr ⟨x, e⟩⟩
  generalize hP : (env.locals :: env.cells.filterMap fun p => env.cells.lookup p.1) = P at Wp Pp
  have Fm : Frm G tbl P env s₁.heap ρ (bindP emptyL is ds) := {
    kind := by rw [escope]; exact Fi.kind
    glob := by rw [← hE]; exact Fi.glob
    bi := by rw [← hE]; exact Fi.bi
    ns := ⟨_, X.toInCall.ns, fun i x e k d hd => (hM i x e d hd).1 k⟩
    cell := fun i x e k => by
      have hk : (x, NameKind.cell) ∈ fd.scope.names := by
        rcases k with k | k
        · rw [ekind] at k; exact mem_of_lookup k
        · rw [ekind] at k; exact absurd rfl (Fi.nofree _ (mem_of_lookup k))
      obtain ⟨c, hc⟩ := Option.isSome_iff_exists.mp (cellsFrom_mem fd.scope.names (s.heap.objs.size + 1) [] x (.inl hk))
      rw [← ecells] at hc
      exact ⟨c, hc, _, X.cell x c hc, fun d hd => (hM i x e d hd).2 k⟩
    cok := fun x c e => ⟨fun mm => Nat.lt_asymm (I.mem_lt mm) (hcell_size x c e), _, X.cell x c e⟩
    cinj := fun x y c e1 e2 => name_of_addr X.apart (mem_of_lookup e1) (mem_of_lookup e2)
    lrho := by rw [eloc]; exact I.size_notin
    lP := by rw [← hP]; exact List.mem_cons_self
    own := fun p mp => ⟨I.h0_le (Pp p mp).1, (Pp p mp).2⟩
    tnd := tnd }
  obtain ⟨fs, hfs⟩ := B.1
  have hfr : (A.deeper env).frames = some (env :: fs) := Around.frames_deeper hfs
  have hff : FF G s₁.heap ρ (env :: fs) := fun e me => by
    rcases List.mem_cons.mp me with rfl | me
    · obtain ⟨mm, n, _⟩ := Fm.ns
      obtain ⟨oL, es, ep, hoL, hdL, _⟩ := n
      exact ⟨by rw [escope, Fi.kind]; decide, e.locals, oL, es, ep, eframe, by rw [eloc]; exact I.h0_size, Fm.lrho, hoL, hdL⟩
    · exact (B.2 fs hfs).keep (Grow.ev g1 z1) e me
  have K : Ok G ⟨fd.scope.names, tbl, n⟩ (A.deeper env) P env s₁ ρ ⟨bindP emptyL is ds, st.sto⟩ := {
    room := ⟨R.hd, by have := R.depth; show A.depth + 1 + n ≤ 900; omega, by have := R.units; show A.units + 3 + 10 * n ≤ 9000; omega⟩
    sees := ⟨fun x h => (ekind x).trans h, fun x h => (ekind x).trans h, fun x h => .inr ((ekind x).trans h), fun x h => (ekind x).trans h⟩
    inv := I₁
    frm := Fm
    stk := ⟨⟨env, fs, env.locals, hfr, eframe, eframe⟩, fun fs' e => by rw [hfr] at e; cases e; exact hff⟩ }
  have hnb : m ⟨bindP emptyL is ds, st.sto⟩ ≠ .bot := fun z => hbot (by simp only [mkFn, hlen, if_true, z])
  have back : ∀ {s' : Shared} {ρ' : List Addr}, Ev P s₁.heap ρ s'.heap ρ' → Ev [] s.heap ρ s'.heap ρ' := fun x =>
    ((Grow.ev g1 z1).trans x).less fun p mp => .inr (Pp p mp).1
  refine wpAny_mono (hb.run (A.deeper env) P env s₁ ρ _ K Wp hnb) (fun f s' q => ?_) fun x s' q => ?_
  · obtain ⟨ρ', fl, st', e, I', x, F', rr⟩ := q
    cases fl with
    | next => cases (show f = .next from rr); exact ⟨ρ', .none, st'.sto, by simp only [mkFn, hlen, if_true, e], I', back x, rfl⟩
    | brk => cases (show f = .brk from rr); exact ⟨ρ', .none, st'.sto, by simp only [mkFn, hlen, if_true, e], I', back x, rfl⟩
    | cont => cases (show f = .cont from rr); exact ⟨ρ', .none, st'.sto, by simp only [mkFn, hlen, if_true, e], I', back x, rfl⟩
    | ret d =>
      obtain ⟨v, rfl, rr⟩ := rr
      exact ⟨ρ', d, st'.sto, by simp only [mkFn, hlen, if_true, e], I', back x, rr⟩
  · obtain ⟨ρ', c, st', a', e, I', x, F', rfl, fl⟩ := q
    have K' := K.stepS I' x F'
    refine leave_fly (n := s₁.heap.objs.size) K'.stk fl x.size fun h'' N T => ?_
    refine ⟨ρ', c, st'.sto, a', by simp only [mkFn, hlen, if_true, e], N.inv I' (fun b z => I₁.h0_le z) s'.toks, back (N.ev x), rfl, ?_⟩
    exact T.fly.from z1
end Mine

/- part F7 -/
set_option Elab.async false
set_option linter.unusedVariables false
namespace Mine
open PySem PyProof.Rows

def GlobIs (G : Gd) (x : Str) (v : Value) : Prop := ∃ mg, G.h0.Ns mainGlobals mg ∧ mg x = some v
def BuiIs (G : Gd) (x : Str) (v : Value) : Prop := ∃ mg mb, G.h0.Ns mainGlobals mg ∧ mg x = none ∧ G.h0.Ns builtinsNs mb ∧ mb x = some v

section
variable {G : Gd} {C : Cx} {A : Around} {P : List Addr} {env : Env} {s : Shared} {ρ : List Addr} {st : St}

theorem name_glob {x : Str} {v : Value} {pos : Pos} (K : Ok G C A P env s ρ st) (hg : GlobIs G x v) (hn : C.names.lookup x = some .globalImplicit) (hd : (x == ("__debug__" : Str)) = false) {Q : Value → Shared → Prop} {E : Value → Shared → Prop} (h : Q v s) :
    wpAny G.M A (eval (.Name x pos) env) Q E s := by
  obtain ⟨mg, n, e⟩ := hg
  refine Calls.Name_function_global K.frm.kind (K.sees.glob x hn) (Calls.loadGlobal_global (mg := mg) ?_ e h) hd
  rw [K.frm.glob]; exact n.keeps K.inv.base
theorem name_bui {x : Str} {v : Value} {pos : Pos} (K : Ok G C A P env s ρ st) (hg : BuiIs G x v) (hn : C.names.lookup x = some .globalImplicit) (hd : (x == ("__debug__" : Str)) = false) {Q : Value → Shared → Prop} {E : Value → Shared → Prop} (h : Q v s) :
    wpAny G.M A (eval (.Name x pos) env) Q E s := by
  obtain ⟨mg, mb, n, e, n', e'⟩ := hg
  refine Calls.Name_function_global K.frm.kind (K.sees.glob x hn) (Calls.loadGlobal_builtin (mg := mg) (mb := mb) ?_ e ?_ e' h) hd
  · rw [K.frm.glob]; exact n.keeps K.inv.base
  · rw [K.frm.bi]; exact n'.keeps K.inv.base

theorem se_globInt {x : Str} {i : Int} {t : Tok} {pos : Pos} (hg : GlobIs G x (.int i t)) (hn : C.names.lookup x = some .globalImplicit) (hd : (x == ("__debug__" : Str)) = false) : SE G C (.Name x pos) (ret1 (.int i)) := .mk <| fun A P env s ρ st K =>
  At.leaf (fun _ => name_glob K hg hn hd ⟨_, rfl, Grow.same0, ⟨_, rfl⟩⟩) K

theorem sa_nil : SA G C [] (ret1 []) := .mk <| fun A P env s ρ st pos K => At.pure K (by show RelL _ _ _ _ _; simp [RelL])
theorem sa_cons {e : Expr} {es : List Expr} {m : Mn D} {ms : Mn (List D)} (he : SE G C e m) (hs : SA G C es ms) (hst : ∀ env, starEach (e :: es) env = (false, eval e env) :: starEach es env) :
    SA G C (e :: es) (bnd m fun d => bnd ms fun ds => ret1 (d :: ds)) := .mk <| fun A P env s ρ st pos K => by
  rw [hst]
  show At G A env s ρ st (RVs G) (eval e env >>= fun v => pure [v] >>= fun here => holding here (spliced (backTo pos (starEach es env))) >>= fun r => pure (here ++ r)) _
  refine At.bind K (he.run A P env s ρ st K) fun v s' ρ' d σ' K' x r => ?_
  refine At.ofEq (t' := holding [v] (spliced (backTo pos (starEach es env))) >>= fun r => pure ([v] ++ r)) rfl ?_
  refine At.bind K' (hs.run A P env s' ρ' _ pos K').hold fun vs s'' ρ'' ds σ'' K'' x2 r2 => ?_
  refine At.pure K'' ?_
  show RelL _ _ _ _ _
  simp only [RelL]
  exact ⟨v, vs, rfl, Rel.mono (x2.stb K'.inv .nil) _ _ r, r2⟩

theorem Ok.bel (K : Ok G C A P env s ρ st) : Bel G A s.heap ρ := ⟨let ⟨f, o, _, h, _⟩ := K.stk.fr; ⟨f :: o, h⟩, K.stk.ff⟩

/-- a call of the text's own def -/
theorem se_call {f : Str} {a : Addr} {n : Nat} {F : List D → Mn D} {e : Expr} {es : List Expr} {ms : Mn (List D)} {np pos : Pos} (hg : GlobIs G f (.ref a)) (hn : C.names.lookup f = some .globalImplicit) (hd : (f == ("__debug__" : Str)) = false)
    (hfd : ∃ o fd, G.h0.get? a = some o ∧ o.data = .func fd) (hF : SF G n a F) (hl : n ≤ C.lvl) (hs : SA G C (e :: es) ms) (hst : ∀ env, starEach (e :: es) env = (false, eval e env) :: starEach es env) :
    SE G C (.Call (.Name f np) (e :: es) [] pos) (bnd ms F) := .mk <| fun A P env s ρ st K hb => by
  show wpAny G.M A (eval (.Name f np) env >>= fun fv => callWith pos fv [] (backTo pos (starEach (e :: es) env)) []) _ _ s
  refine wpAny_bind (name_glob K hg hn hd ?_)
  obtain ⟨o, fd, ho, hfdd⟩ := hfd
  refine Calls.callWith_function (o := o) (fd := fd) ?_
  have hev : backTo pos (starEach (e :: es) env) = (false, eval e env) :: backTo pos (starEach es env) := by rw [hst]; rfl
  have h1 := hs.run A P env s ρ st pos K (bnd_ne_bot hb)
  rw [hev] at h1 ⊢
  refine Calls.evalArgs_plain (wpAny_mono h1 (fun vs s' q => ?_) fun x s' q => ?_)
  · obtain ⟨ρ', ds, σ', e', I', x', r⟩ := q
    refine ⟨⟨I'.base _ _ ho, hfdd⟩, ?_⟩
    have K' := K.step I' x'
    have e2 : bnd ms F st = F ds ⟨st.loc, σ'⟩ := by simp only [bnd, e']
    rw [e2] at hb ⊢
    refine wpAny_mono (hF A env s' ρ' ⟨st.loc, σ'⟩ ds vs (K.room.le hl) I' K'.bel r hb) (fun w s'' q => ?_) fun w s'' q => ?_
    · obtain ⟨ρ'', d', σ'', e3, I'', x2, r2⟩ := q
      exact ⟨ρ'', d', σ'', e3, I'', x'.trans x2, r2⟩
    · obtain ⟨ρ'', c, σ'', a', e3, I'', x2, rfl, fl⟩ := q
      exact ⟨ρ'', c, σ'', a', e3, I'', x'.trans x2, rfl, fl.from x'.size⟩
  · obtain ⟨ρ', c, σ', a', e', I', x', rfl, fl⟩ := q
    exact ⟨ρ', c, σ', a', by simp only [bnd, e'], I', x', rfl, fl⟩

/-- what a built-in function does with plain positional arguments -/
def BF (G : Gd) (id : String) (F : List D → Mn D) : Prop :=
  ∀ C A P env s ρ st ds vs, Ok G C A P env s ρ st → RelL G s.heap ρ ds vs → At G A env s ρ st (RV G) (call (.builtin id) vs) (F ds)
theorem se_bcall {f : Str} {id : String} {F : List D → Mn D} {e : Expr} {es : List Expr} {ms : Mn (List D)} {np pos : Pos} (hg : BuiIs G f (.builtin id)) (hn : C.names.lookup f = some .globalImplicit) (hd : (f == ("__debug__" : Str)) = false)
    (hF : BF G id F) (hs : SA G C (e :: es) ms) (hst : ∀ env, starEach (e :: es) env = (false, eval e env) :: starEach es env) (hpl : ∀ env, (backTo pos (starEach es env)).any (·.1) = false) :
    SE G C (.Call (.Name f np) (e :: es) [] pos) (bnd ms F) := .mk <| fun A P env s ρ st K hb => by
  show wpAny G.M A (eval (.Name f np) env >>= fun fv => callWith pos fv [] (backTo pos (starEach (e :: es) env)) []) _ _ s
  refine wpAny_bind (name_bui K hg hn hd ?_)
  have hev : backTo pos (starEach (e :: es) env) = (false, eval e env) :: backTo pos (starEach es env) := by rw [hst]; rfl
  have h1 := hs.run A P env s ρ st pos K (bnd_ne_bot hb)
  rw [hev] at h1 ⊢
  refine Calls.callWith_builtin (by show (false || _) = false; rw [Bool.false_or]; exact hpl env) (Calls.evalArgs_plain (wpAny_mono h1 (fun vs s' q => ?_) fun x s' q => ?_))
  · obtain ⟨ρ', ds, σ', e', I', x', r⟩ := q
    have K' := K.step I' x'
    have e2 : bnd ms F st = F ds ⟨st.loc, σ'⟩ := by simp only [bnd, e']
    rw [e2] at hb ⊢
    refine wpAny_mono (hF C A P env s' ρ' ⟨st.loc, σ'⟩ ds vs K' r hb) (fun w s'' q => ?_) fun w s'' q => ?_
    · obtain ⟨ρ'', d', σ'', e3, I'', x2, r2⟩ := q
      exact ⟨ρ'', d', σ'', e3, I'', x'.trans x2, r2⟩
    · obtain ⟨ρ'', c, σ'', a', e3, I'', x2, rfl, fl⟩ := q
      exact ⟨ρ'', c, σ'', a', e3, I'', x'.trans x2, rfl, fl.from x'.size⟩
  · obtain ⟨ρ', c, σ', a', e', I', x', rfl, fl⟩ := q
    exact ⟨ρ', c, σ', a', by simp only [bnd, e'], I', x', rfl, fl⟩
end
end Mine

/- part F8 -/
set_option Elab.async false
set_option linter.unusedVariables false
namespace Mine
open PySem PyProof.Rows

/-- an iterator at I: T rem: what it will yet give; Md v rem: it has just given v -/
structure Itx (G : Gd) (I : Addr) (S : List Addr) (tg : Expr → Prop) (g : Sto → Prop) (T : List D → Heap → List Addr → Sto → Prop) (Md : Value → List D → Heap → List Addr → Sto → Prop) : Prop where
  own : ∀ rem h ρ σ, T rem h ρ σ → ∀ q, q ∈ S → Own G h ρ σ q
  ownM : ∀ v rem h ρ σ, Md v rem h ρ σ → ∀ q, q ∈ S → Own G h ρ σ q
  keep : ∀ (P : List Addr) rem s ρ σ s' ρ' σ', T rem s.heap ρ σ → Inv G s ρ σ → Inv G s' ρ' σ' → Ev P s.heap ρ s'.heap ρ' → NT s.heap P → g σ' → T rem s'.heap ρ' σ'
  next : ∀ (A : Around) s ρ σ rem (Q : Option Value → Shared → Prop) (E : Value → Shared → Prop), A.handled = none → Inv G s ρ σ → T rem s.heap ρ σ →
    (rem = [] → ∀ h' tk, Only S s.heap h' → Q none { s with heap := h', toks := tk }) →
    (∀ d rest, rem = d :: rest → ∀ v h' tk, Only S s.heap h' → Rel G h' ρ d v → Md v rest h' ρ σ → Q (some v) { s with heap := h', toks := tk }) → wpAny G.M A (pyNext (.ref I)) Q E s
  go : ∀ (A : Around) s ρ σ tgt v rest (Q : Unit → Shared → Prop) (E : Value → Shared → Prop), tg tgt → Inv G s ρ σ → Md v rest s.heap ρ σ →
    (∀ h', Only S s.heap h' → T rest h' ρ σ → Q () { s with heap := h' }) → wpAny G.M A (letOwnedTupleGo tgt (.ref I) v) Q E s

/-- an iterator is its own iterator -/
def ItSelf (G : Gd) (I : Addr) (T : List D → Heap → List Addr → Sto → Prop) : Prop :=
  ∀ (A : Around) s ρ σ rem (Q : Value → Shared → Prop) (E : Value → Shared → Prop), A.handled = none → T rem s.heap ρ σ → Q (.ref I) s → wpAny G.M A (pyIter (.ref I)) Q E s

/-- storing into a target -/
structure ST (G : Gd) (C : Cx) (b : Bool) (t : Expr) (f : D → Loc → Option Loc) : Prop where
  run : ∀ A P env s ρ st d v loc' (Q : Unit → Shared → Prop) (E : Value → Shared → Prop), Ok G C A P env s ρ st → (b = true → Wr env P) → Rel G s.heap ρ d v → f d st.loc = some loc' →
    (∀ s', Inv G s' ρ st.sto → Ev P s.heap ρ s'.heap ρ → Frm G C.tbl P env s'.heap ρ loc' → Q () s') → wpAny G.M A (assign t env v) Q E s

open Classical in
/-- a loop over ds, the source guarded by g -/
noncomputable def forM (tgt : D → Loc → Option Loc) (g : Sto → Prop) (body : Mn Fl) : List D → Mn Fl
  | [] => fun st => if g st.sto then .ok .next st else .bot
  | d :: rest => fun st => if g st.sto then
      match tgt d st.loc with
      | none => .bot
      | some loc' => match body ⟨loc', st.sto⟩ with
        | .ok .next st' => forM tgt g body rest st'
        | .ok .cont st' => forM tgt g body rest st'
        | .ok .brk st' => .ok .next st'
        | .ok (.ret d) st' => .ok (.ret d) st'
        | .exc c st' => .exc c st'
        | .bot => .bot
    else .bot

/-- how a loop ends -/
def LoopR (G : Gd) (tbl : List Str) (A : Around) (P : List Addr) (env : Env) (hs : Heap) (ρs : List Addr) (r : Out Fl) : Result → Shared → Prop
  | .ok f, s' => ∃ ρ' fl st', r = .ok fl st' ∧ Inv G s' ρ' st'.sto ∧ Ev P hs ρs s'.heap ρ' ∧ Frm G tbl P env s'.heap ρ' st'.loc ∧ FlR G s'.heap ρ' fl f
  | .error x, s' => ∃ ρ' c st' a L, r = .exc c st' ∧ Inv G s' ρ' st'.sto ∧ Ev P hs ρs s'.heap ρ' ∧ Frm G tbl P env s'.heap ρ' st'.loc ∧ Stk G A env s'.heap ρ' ∧ x = .ref a ∧ env.frame = some L ∧ FlyT hs.objs.size s'.heap (rawInt L) a c

section
variable {G : Gd} {C : Cx} {A : Around} {P : List Addr} {env : Env}

theorem for_ok {I : Addr} {S : List Addr} {tg : Expr → Prop} {g : Sto → Prop} {T : List D → Heap → List Addr → Sto → Prop} {Md : Value → List D → Heap → List Addr → Sto → Prop} (X : Itx G I S tg g T Md)
    {target : Expr} {tf : D → Loc → Option Loc} {body : List Stmt} {m : Mn Fl} (ht : tg target) (hT : ST G C true target tf) (hB : SSs G C body m) (W : Wr env P) {hs : Heap} {ρs : List Addr} (hb0 : ∀ b, hs.objs.size ≤ b → G.h0.get? b = none) :
    ∀ (ds : List D) (s : Shared) (ρ : List Addr) (st : St), Ok G C A P env s ρ st → T ds s.heap ρ st.sto → Ev P hs ρs s.heap ρ → (∀ q, q ∈ S → hs.objs.size ≤ q ∨ q ∈ ρs) → forM tf g m ds st ≠ .bot →
      codeAny G.M A (.forLoop target (.ref I) body [] env) (LoopR G C.tbl A P env hs ρs (forM tf g m ds st)) s := by
  intro ds
  induction ds with
  | nil =>
    intro s ρ st K hTT x hS hbot
    have hg : g st.sto := by
      by_cases h : g st.sto
      · exact h
      · exact absurd (by simp only [forM, h, if_false]) hbot
    refine codeAny_of_tree ?_
    show wpAny _ A ((forTurn target (.ref I) body [] env).onRaise (fun x => do noteFrame x env; theTreesLotGoes x)) _ _ s
    refine wpAny_noted ?_
    simp only [forTurn]
    refine wpAny_bind (wpAny_standAt (wpAny_bind (wpAny_onRaise (X.next A s ρ st.sto [] _ _ K.room.hd K.inv hTT (fun _ h' tk ho => ?_) (fun d rest e => by cases e)))))
    have K' := K.only ho (X.own _ _ _ _ hTT) tk
    refine wpAny_pure (And.intro rfl (codeAny_block (wpAny_execs_nil ⟨ρ, .next, st, ?_, K'.inv, x.only ho hS, K'.frm, rfl⟩)))
    simp only [forM, hg, if_true]
  | cons d rest ih =>
    intro s ρ st K hTT x hS hbot
    have hg : g st.sto := by
      by_cases h : g st.sto
      · exact h
      · exact absurd (by simp only [forM, h, if_false]) hbot
    refine codeAny_of_tree ?_
    show wpAny _ A ((forTurn target (.ref I) body [] env).onRaise (fun x => do noteFrame x env; theTreesLotGoes x)) _ _ s
    refine wpAny_noted ?_
    simp only [forTurn]
    refine wpAny_bind (wpAny_standAt (wpAny_bind (wpAny_onRaise (X.next A s ρ st.sto (d :: rest) _ _ K.room.hd K.inv hTT (fun e => by cases e) (fun d' rest' e v h' tk ho r hM => ?_)))))
    cases e
    have K₁ := K.only ho (X.own _ _ _ _ hTT) tk
    refine wpAny_bind (X.go A _ ρ st.sto target v rest _ _ ht K₁.inv hM fun h₂ ho₂ hT₂ => ?_)
    have K₂ := K₁.only ho₂ (X.ownM _ _ _ _ _ hM) tk
    have x₂ : Ev P hs ρs h₂ ρ := (x.only ho hS).only ho₂ hS
    have r₂ : Rel G h₂ ρ d v := Rel.mono (ho₂.stb (X.ownM _ _ _ _ _ hM)) d v r
    cases e1 : tf d st.loc with
    | none => exact absurd (by simp only [forM, hg, if_true, e1]) hbot
    | some loc' =>
      refine wpAny_bind (hT.run A P env { s with heap := h₂, toks := tk } ρ st d v loc' _ _ K₂ (fun _ => W) r₂ e1 fun s₃ I₃ x₃ F₃ => ?_)
      have K₃ : Ok G C A P env s₃ ρ ⟨loc', st.sto⟩ := K₂.stepS (st' := ⟨loc', st.sto⟩) I₃ x₃ F₃
      have hnb : m ⟨loc', st.sto⟩ ≠ .bot := fun z => hbot (by simp only [forM, hg, if_true, e1, z])
      have T₃ : T rest s₃.heap ρ st.sto := X.keep P rest { s with heap := h₂, toks := tk } ρ st.sto s₃ ρ st.sto hT₂ K₂.inv I₃ x₃ K₂.frm.nt hg
      refine wpAny_bind (wpAny_mono (hB.run A P env s₃ ρ _ K₃ W hnb) (fun f s₄ q => ?_) fun e s₄ q => ?_)
      · obtain ⟨ρ₄, fl, st₄, e2, I₄, x₄, F₄, r₄⟩ := q
        have K₄ := K₃.stepS I₄ x₄ F₄
        have xx : Ev P hs ρs s₄.heap ρ₄ := (x₂.trans x₃).trans x₄
        have hS' : ∀ q, q ∈ S → hs.objs.size ≤ q ∨ q ∈ ρs := hS
        have again : ∀ (_ : forM tf g m (d :: rest) st = forM tf g m rest st₄), codeAny G.M A (.forLoop target (.ref I) body [] env) (LoopR G C.tbl A P env hs ρs (forM tf g m (d :: rest) st)) s₄ := fun e3 => by
          rw [e3] at hbot ⊢
          have hg₄ : g st₄.sto := by
            by_cases h : g st₄.sto
            · exact h
            · exact absurd (by cases rest <;> simp only [forM, h, if_false]) hbot
          exact ih s₄ ρ₄ st₄ K₄ (X.keep P rest s₃ ρ st.sto s₄ ρ₄ st₄.sto T₃ K₃.inv I₄ x₄ K₃.frm.nt hg₄) xx hS hbot
        cases fl with
        | next =>
          cases (show f = .next from r₄)
          exact wpAny_pure (And.intro rfl (again (by simp only [forM, hg, if_true, e1, e2])))
        | cont =>
          cases (show f = .cont from r₄)
          exact wpAny_pure (And.intro rfl (again (by simp only [forM, hg, if_true, e1, e2])))
        | brk =>
          cases (show f = .brk from r₄)
          exact wpAny_pure ⟨ρ₄, .next, st₄, by simp only [forM, hg, if_true, e1, e2], I₄, xx, F₄, rfl⟩
        | ret d' =>
          obtain ⟨v', rfl, r₄⟩ := r₄
          exact wpAny_pure ⟨ρ₄, .ret d', st₄, by simp only [forM, hg, if_true, e1, e2], I₄, xx, F₄, v', rfl, r₄⟩
      · obtain ⟨ρ₄, c, st₄, a, e2, I₄, x₄, F₄, rfl, fl⟩ := q
        have K₄ := K₃.stepS I₄ x₄ F₄
        have xx : Ev P hs ρs s₄.heap ρ₄ := (x₂.trans x₃).trans x₄
        refine noted_ok K₄.stk (fl.from (x₂.trans x₃).size) I₄ xx F₄ hb0 fun L s₅ I₅ x₅ F₅ S₅ hL fT => ?_
        exact ⟨ρ₄, c, st₄, a, L, by simp only [forM, hg, if_true, e1, e2], I₅, x₅, F₅, S₅, rfl, hL, fT⟩

structure Src where
  ds : List D
  g : Sto → Prop

/-- the source of a loop -/
structure SI (G : Gd) (C : Cx) (e : Expr) (tg : Expr → Prop) (m : Mn Src) : Prop where
  run : ∀ A P env s ρ st, Ok G C A P env s ρ st → m st ≠ .bot → wpAny G.M A (eval e env) (fun x s₁ => wpAny G.M A (pyIter x) (fun it s₂ => ∃ ρ' src σ' I S T Md, m st = .ok src ⟨st.loc, σ'⟩ ∧ Inv G s₂ ρ' σ' ∧
    Ev [] s.heap ρ s₂.heap ρ' ∧ it = .ref I ∧ Itx G I S tg src.g T Md ∧ ItSelf G I T ∧ T src.ds s₂.heap ρ' σ' ∧ ∀ q, q ∈ S → s.heap.objs.size ≤ q) (ExcE G env s ρ st (m st)) s₁) (ExcE G env s ρ st (m st)) s

theorem ss_for {target iter : Expr} {body : List Stmt} {pos : Pos} {tg : Expr → Prop} {mi : Mn Src} {tf : D → Loc → Option Loc} {m : Mn Fl} (hI : SI G C iter tg mi) (ht : tg target) (hT : ST G C true target tf) (hB : SSs G C body m)
    (hs : ∀ env x, foldedSetIterable iter env x = pure x) : SS G C (.For target iter body [] pos) (bnd mi fun src => forM tf src.g m src.ds) := .mk <| fun A P env s ρ st K W hb => by
  refine wpAny_For ?_ (hs env)
  refine wpAny_mono (hI.run A P env s ρ st K (bnd_ne_bot hb)) (fun x s₁ h₁ => wpAny_mono h₁ (fun it s₂ q => ?_) fun x s₂ q => ?_) fun x s₂ q => ?_
  · obtain ⟨ρ', src, σ', I, S, T, Md, e, I', x, rfl, X, _, hT0, hS⟩ := q
    have e' : bnd mi (fun src => forM tf src.g m src.ds) st = forM tf src.g m src.ds ⟨st.loc, σ'⟩ := by simp only [bnd, e]
    rw [e'] at hb ⊢
    have K' := K.step I' x
    refine codeAny_mono (for_ok X ht hT hB W (hs := s.heap) (ρs := ρ) (fun b z => K.inv.h0_le z) src.ds s₂ ρ' ⟨st.loc, σ'⟩ K' hT0 x.nil (fun q m => .inl (hS q m)) hb) fun r s' hr => ?_
    cases r with
    | ok f => exact hr
    | error ex =>
      obtain ⟨ρ'', c, st'', a, L, e2, I'', x'', F'', S'', rfl, hL, fT⟩ := hr
      exact back_ok S'' hL fT I'' x'' F'' (fun b z => K.inv.h0_le z) fun s₃ I₃ x₃ F₃ fl => ⟨ρ'', c, st'', a, e2, I₃, x₃, F₃, rfl, fl⟩
  · obtain ⟨ρ', c, σ', a, e, I', x', rfl, fl⟩ := q
    exact ⟨ρ', c, ⟨st.loc, σ'⟩, a, by simp only [bnd, e], I', x'.nil, K.frm.keep K.inv x', rfl, fl⟩
  · obtain ⟨ρ', c, σ', a, e, I', x', rfl, fl⟩ := q
    exact ⟨ρ', c, ⟨st.loc, σ'⟩, a, by simp only [bnd, e], I', x'.nil, K.frm.keep K.inv x', rfl, fl⟩

/-! targets -/
theorem st_name {i : Nat} {x : Str} {pos : Pos} {b : Bool} (hi : C.tbl[i]? = some x) (hx : C.names.lookup x = some .local) : ST G C b (.Name x pos) (fun d loc => some (upd loc i d)) := .mk <| fun A P env s ρ st d v loc' Q E K W r e h => by
  cases e
  exact wpAny_assign_Name (at_store K hi hx r h)
theorem st_nameC {i : Nat} {x : Str} {pos : Pos} (hi : C.tbl[i]? = some x) (hx : C.names.lookup x = some .cell) : ST G C true (.Name x pos) (fun d loc => some (upd loc i d)) := .mk <| fun A P env s ρ st d v loc' Q E K W r e h => by
  cases e
  exact wpAny_assign_Name (at_storeC K (W rfl) hi (K.sees.cell x hx) r h)

/-- several names in order -/
structure STs (G : Gd) (C : Cx) (b : Bool) (ts : List Expr) (f : List D → Loc → Option Loc) : Prop where
  run : ∀ A P env s ρ st ds vs loc' (Q : Unit → Shared → Prop) (E : Value → Shared → Prop), Ok G C A P env s ρ st → (b = true → Wr env P) → RelL G s.heap ρ ds vs → f ds st.loc = some loc' →
    (∀ s', Inv G s' ρ st.sto → Ev P s.heap ρ s'.heap ρ → Frm G C.tbl P env s'.heap ρ loc' → Q () s') → wpAny G.M A (assignInOrder ((assignEach ts env).map (·.2)) vs) Q E s
def noneL : List D → Loc → Option Loc
  | [], loc => some loc
  | _, _ => none
def consL (f : D → Loc → Option Loc) (g : List D → Loc → Option Loc) : List D → Loc → Option Loc
  | d :: ds, loc => (f d loc).bind (g ds)
  | [], _ => none
theorem sts_nil {b : Bool} : STs G C b [] noneL := .mk <| fun A P env s ρ st ds vs loc' Q E K W r e h => by
  cases ds with
  | nil =>
    simp only [RelL] at r; subst r
    simp only [noneL] at e; cases e
    exact wpAny_pure (h s K.inv Ev.refl K.frm)
  | cons _ _ => simp only [noneL] at e; cases e
theorem sts_cons {b : Bool} {t : Expr} {ts : List Expr} {f : D → Loc → Option Loc} {g : List D → Loc → Option Loc} (h1 : ST G C b t f) (h2 : STs G C b ts g) (hst : ∀ env, assignEach (t :: ts) env = (false, assign t env) :: assignEach ts env) :
    STs G C b (t :: ts) (consL f g) := .mk <| fun A P env s ρ st ds vs loc' Q E K W r e h => by
  cases ds with
  | nil => simp only [consL] at e; cases e
  | cons d ds =>
    simp only [RelL] at r
    obtain ⟨v, vr, rfl, r1, r2⟩ := r
    simp only [consL] at e
    obtain ⟨loc₁, e1, e2⟩ := Option.bind_eq_some_iff.mp e
    rw [hst]
    show wpAny G.M A (holding vr (assign t env v) >>= fun _ => assignInOrder ((assignEach ts env).map (·.2)) vr) Q E s
    refine wpAny_bind (wpAny_holding (h1.run A P env s ρ st d v loc₁ _ _ K W r1 e1 fun s₁ I₁ x₁ F₁ => ?_))
    have K₁ : Ok G C A P env s₁ ρ ⟨loc₁, st.sto⟩ := K.stepS (st' := ⟨loc₁, st.sto⟩) I₁ x₁ F₁
    exact h2.run A P env s₁ ρ ⟨loc₁, st.sto⟩ ds vr loc' Q E K₁ W (RelL.mono (x₁.stb K.inv K.frm.nt) _ _ r2) e2 fun s₂ I₂ x₂ F₂ => h s₂ I₂ (x₁.trans x₂) F₂

def tupT (n : Nat) (f : List D → Loc → Option Loc) : D → Loc → Option Loc
  | .tup ds, loc => if ds.length = n then f ds loc else none
  | _, _ => none
theorem wpAny_szd {α : Type} {M : Model} {A : Around} {s : Shared} {t : Sem α} {Q : α → Shared → Prop} {E : Value → Shared → Prop} (h : wpAny M A t (fun a s' => s.heap.objs.size ≤ s'.heap.objs.size → Q a s') E s) : wpAny M A t Q E s :=
  wpAny_mono (wpAny_size h) (fun _ _ q => q.2 q.1) fun _ _ q => q.2
/-- what grows but for one new object -/
theorem grow_of_extBut {s : Shared} {h' : Heap} (x : Heap.ExtBut s.heap.objs.size s.heap h') : Grow s.heap h' := fun b o e => x b o (Nat.ne_of_lt (Heap.lt_size e)) e
theorem st_tuple {b : Bool} {ts : List Expr} {k n : Nat} {pos : Pos} {f : List D → Loc → Option Loc} (h1 : STs G C b ts f) (hn : ∀ env, (assignEach ts env).length = n) (hst : ∀ env, (assignEach ts env).findIdx? (·.1) = none) :
    ST G C b (.Tuple ts k pos) (tupT n f) := .mk <| fun A P env s ρ st d v loc' Q E K W r e h => by
  cases d with
  | tup ds =>
    simp only [tupT] at e
    split at e
    · rename_i hl
      simp only [Rel] at r
      obtain ⟨a, vs, rfl, hna, ⟨nn, ho⟩, r⟩ := r
      have hlen : vs.size = ds.length := by have := r.all2.length; simpa using this
      show wpAny G.M A (standAt pos >>= fun _ => unpack (.ref a) (assignEach ts env)) Q E s
      refine wpAny_bind (wpAny_standAt ?_)
      unfold unpack
      rw [hst env, show (assignEach ts env).length = vs.size by rw [hn, hlen, hl]]
      refine wpAny_bind (wpAny_holding (wpAny_szd (wpAny_unpackItems_tuple K.room.hd (items := vs) ⟨_, ho, rfl, nn, rfl⟩ fun h' hx z => ?_)))
      have g := grow_of_extBut hx
      have K' := K.grow g z s.toks
      exact h1.run A P env { s with heap := h' } ρ st ds vs.toList loc' Q E K' W (RelL.mono g.stb _ _ r) e fun s₂ I₂ x₂ F₂ => h s₂ I₂ ((g.ev z).trans x₂) F₂
    · cases e
  | _ => simp only [tupT] at e; cases e
end
end Mine

/- part F9 -/
set_option Elab.async false
set_option linter.unusedVariables false
namespace Mine
open PySem PyProof.Rows

section
variable {G : Gd} {C : Cx} {A : Around} {P : List Addr} {env : Env} {s : Shared} {ρ : List Addr} {σ : Sto} {st : St}

def plainIter (T : String) : Bool := !["enumerate", "zip", "dict_itemiterator", "dict_reverseitemiterator", "odict_iterator", "itertools.zip_longest", "itertools.pairwise"].contains T
theorem letGo_plain {I : Addr} {o : Obj} {T : String} {vs : Array Value} {tgt : Expr} {v : Value} {Q : Unit → Shared → Prop} {E : Value → Shared → Prop} (ho : s.heap.get? I = some o) (hc : o.cls = .type T) (hd : o.data = .fields vs) (hT : plainIter T = true) (h : Q () s) :
    wpAny G.M A (letOwnedTupleGo tgt (.ref I) v) Q E s := by
  have key : ∀ a : Addr, wpAny G.M A (do
      let o ← load I
      match o.cls, o.data with
      | .type n, .fields vs =>
        if ["enumerate", "zip", "dict_itemiterator", "dict_reverseitemiterator", "odict_iterator", "itertools.zip_longest", "itertools.pairwise"].contains n && vs[0]? == some (rawInt a) then
          rule "for.unpacks-the-owned-tuple"
          updateField I 0 .none
      | _, _ => pure ()) Q E s := fun a => by
    refine wpAny_bind (wpAny_load ho ?_)
    rw [hc, hd]
    simp only [plainIter, Bool.not_eq_true'] at hT
    simp only [hT, Bool.false_and, Bool.false_eq_true, if_false]
    exact wpAny_pure h
  unfold letOwnedTupleGo
  cases tgt <;> (try exact wpAny_pure h) <;> (cases v <;> (first | exact wpAny_pure h | exact key _))

theorem itr_new (I : Inv G s ρ σ) {T : String} {vs : Array Value} (hT : T ≠ "tuple") (t : Nat) : Itr G (s.heap.push { cls := .type T, data := .fields vs }) ρ s.heap.objs.size :=
  ⟨I.h0_size, I.size_notin, _, T, vs, Heap.get?_push_size _ rfl, rfl, hT, rfl⟩

theorem drop_cons {α : Type} {l : List α} {i : Nat} {d : α} {r : List α} (h : d :: r = l.drop i) : l[i]? = some d ∧ r = l.drop (i + 1) := by
  have h1 : l[i]? = some d := by
    have : (l.drop i)[0]? = some d := by rw [← h]; rfl
    simpa using this
  refine ⟨h1, ?_⟩
  have : (l.drop i).drop 1 = r := by rw [← h]; rfl
  rw [← this, List.drop_drop]
theorem drop_nil {α : Type} {l : List α} {i : Nat} (h : [] = l.drop i) : l.length ≤ i := by
  have := congrArg List.length h
  simp at this
  omega

/-! a list of the store -/
def TList (G : Gd) (I : Addr) (k : Nat) (ds : List D) : List D → Heap → List Addr → Sto → Prop := fun rem h ρ σ =>
  Itr G h ρ I ∧ σ[k]? = some (.list ds) ∧ ∃ a i, ρ[k]? = some a ∧ h.IsListIter I a i ∧ rem = ds.drop i
theorem itx_list {I : Addr} {k : Nat} {ds : List D} : Itx G I [I] (fun _ => True) (fun σ => σ[k]? = some (.list ds)) (TList G I k ds) (fun _ => TList G I k ds) where
  own rem h ρ σ t q m := by rw [List.mem_singleton.mp m]; exact .inl (.inl t.1)
  ownM v rem h ρ σ t q m := by rw [List.mem_singleton.mp m]; exact .inl (.inl t.1)
  keep P rem s ρ σ s' ρ' σ' t I0 I' x N g := by
    obtain ⟨it, e, a, i, e1, ⟨o, ho, hc, hd⟩, e3⟩ := t
    obtain ⟨it', z⟩ := it.keep x N
    exact ⟨it', g, a, i, x.pre k a e1, ⟨o, z.trans ho, hc, hd⟩, e3⟩
  next A s ρ σ rem Q E hh I0 t h1 h2 := by
    obtain ⟨it, e, a, i, e1, e2, e3⟩ := t
    obtain ⟨vs, hl, r⟩ := I0.sto k a (.list ds) e1 e
    have hne : a ≠ I := fun z => it.2.1 (z ▸ List.mem_of_getElem? e1)
    cases rem with
    | nil =>
      have hi : vs[i]? = none := by
        have := r.all2.length
        have h3 := drop_nil e3
        simp at this
        simp; omega
      refine wpAny_szd (wpAny_pyNext_list_end hh e2 hl.list hi fun h' x z => ?_)
      exact h1 rfl h' s.toks (only1 (fun b o n e => x b o n e) z it.notPrv)
    | cons d rest =>
      obtain ⟨hd, hr⟩ := drop_cons e3
      obtain ⟨v, hv, rv⟩ := r.all2.get i d hd
      have hv' : vs[i]? = some v := by simpa using hv
      refine wpAny_pyNext_list_item e2 hl.list hv' fun h' hit' hs' => ?_
      have ho : Only [I] s.heap h' := only1 (fun b o n e => (hs'.2 b n).trans e) (Nat.le_of_eq hs'.1.symm) it.notPrv
      have S : Stb s.heap ρ h' ρ := ho.stb (σ := σ) fun q m => by rw [List.mem_singleton.mp m]; exact .inl (.inl it)
      obtain ⟨o', ho', hc', hd'⟩ := id hit'
      exact h2 d rest rfl v h' s.toks ho (Rel.mono S _ _ rv) ⟨⟨it.1, it.2.1, o', _, _, ho', hc', by decide, hd'⟩, e, a, i + 1, e1, hit', hr⟩
  go A s ρ σ tgt v rest Q E _ I0 t h := by
    obtain ⟨it, e, a, i, e1, e2, e3⟩ := id t
    obtain ⟨o, ho, hc, hd⟩ := e2
    exact letGo_plain ho hc hd (by decide) (h s.heap only_refl t)
theorem self_list {I : Addr} {k : Nat} {ds : List D} : ItSelf G I (TList G I k ds) := fun A s ρ σ rem Q E hh t h => by
  obtain ⟨it, e, a, i, e1, e2, e3⟩ := t
  exact wpAny_pyIter_listiter e2 h

/-! a tuple -/
def TTup (G : Gd) (I t : Addr) (vs : Array Value) (ds : List D) : List D → Heap → List Addr → Sto → Prop := fun rem h ρ σ =>
  Itr G h ρ I ∧ t ∉ ρ ∧ IsTupl h t vs ∧ RelL G h ρ ds vs.toList ∧ ∃ i, h.IsTupleIter I t i ∧ rem = ds.drop i
theorem itx_tup {I t : Addr} {vs : Array Value} {ds : List D} : Itx G I [I] (fun _ => True) (fun _ => True) (TTup G I t vs ds) (fun _ => TTup G I t vs ds) where
  own rem h ρ σ t q m := by rw [List.mem_singleton.mp m]; exact .inl (.inl t.1)
  ownM v rem h ρ σ t q m := by rw [List.mem_singleton.mp m]; exact .inl (.inl t.1)
  keep P rem s ρ σ s' ρ' σ' tt I0 I' x N g := by
    obtain ⟨it, n, ht, r, i, ⟨o, ho, hc, hd⟩, e3⟩ := tt
    obtain ⟨it', z⟩ := it.keep x N
    have S := x.stb I0 N
    obtain ⟨n', ht'⟩ := S.tup t vs n ht
    exact ⟨it', n', ht', RelL.mono S _ _ r, i, ⟨o, z.trans ho, hc, hd⟩, e3⟩
  next A s ρ σ rem Q E hh I0 tt h1 h2 := by
    obtain ⟨it, n, ht, r, i, e2, e3⟩ := tt
    have htt : s.heap.IsTuple t vs := let ⟨n, e⟩ := ht; ⟨_, e, rfl, n, rfl⟩
    cases rem with
    | nil =>
      have hi : vs[i]? = none := by
        have := r.all2.length
        have h3 := drop_nil e3
        simp at this
        simp; omega
      refine wpAny_szd (wpAny_pyNext_tuple_end hh e2 htt hi fun h' x z => ?_)
      exact h1 rfl h' s.toks (only1 (fun b o n e => x b o n e) z it.notPrv)
    | cons d rest =>
      obtain ⟨hd, hr⟩ := drop_cons e3
      obtain ⟨v, hv, rv⟩ := r.all2.get i d hd
      have hv' : vs[i]? = some v := by simpa using hv
      refine wpAny_pyNext_tuple_item e2 htt hv' fun h' hit' hs' => ?_
      have ho : Only [I] s.heap h' := only1 (fun b o n e => (hs'.2 b n).trans e) (Nat.le_of_eq hs'.1.symm) it.notPrv
      have S : Stb s.heap ρ h' ρ := ho.stb (σ := σ) fun q m => by rw [List.mem_singleton.mp m]; exact .inl (.inl it)
      obtain ⟨n', ht'⟩ := S.tup t vs n ht
      obtain ⟨o', ho', hc', hd'⟩ := id hit'
      exact h2 d rest rfl v h' s.toks ho (Rel.mono S _ _ rv) ⟨⟨it.1, it.2.1, o', _, _, ho', hc', by decide, hd'⟩, n', ht', RelL.mono S _ _ r, i + 1, hit', hr⟩
  go A s ρ σ tgt v rest Q E _ I0 tt h := by
    obtain ⟨it, n, ht, r, i, ⟨o, ho, hc, hd⟩, e3⟩ := id tt
    exact letGo_plain ho hc hd (by decide) (h s.heap only_refl tt)
theorem self_tup {I t : Addr} {vs : Array Value} {ds : List D} : ItSelf G I (TTup G I t vs ds) := fun A s ρ σ rem Q E hh tt h => by
  obtain ⟨it, n, ht, r, i, e2, e3⟩ := tt
  refine (Walks.tuple (prog := G.prog) (w := G.w) (A := A) hh I t (fun z => ?_) vs).self i s Q E ⟨e2, let ⟨nn, e⟩ := ht; ⟨_, e, rfl, nn, rfl⟩⟩ h
  obtain ⟨_, _, o, T, vs', ho, hc, hT, hd⟩ := it
  obtain ⟨nn, ho'⟩ := ht
  rw [z, ho] at ho'; cases ho'; cases hd

/-! a text's signs -/
def signs (x : Str) : List D := x.cps.toList.map fun c => D.str ⟨#[c]⟩
def strItT (x : Str) : String := if x.cps.all (· < 128) then "str_ascii_iterator" else "str_iterator"
def TStr (G : Gd) (I : Addr) (x : Str) (tk : Tok) : List D → Heap → List Addr → Sto → Prop := fun rem h ρ σ =>
  Itr G h ρ I ∧ ∃ i, h.IsStrIter I (strItT x) x tk i ∧ rem = (signs x).drop i
theorem strItT_ne (x : Str) : strItT x ≠ "tuple" ∧ plainIter (strItT x) = true := by unfold strItT; split <;> decide
theorem next_str {I : Addr} {x : Str} {tk : Tok} {i : Nat} {Q : Option Value → Shared → Prop} {E : Value → Shared → Prop} (hh : A.handled = none) (hit : s.heap.IsStrIter I (strItT x) x tk i)
    (h1 : x.cps[i]? = none → ∀ h', Heap.ExtBut I s.heap h' → Q none { s with heap := h' })
    (h2 : ∀ c, x.cps[i]? = some c → ∀ h', h'.IsStrIter I (strItT x) x tk (i + 1) → Heap.SameBut I s.heap h' → Q (some (.str ⟨#[c]⟩ s.toks)) { s with heap := h', toks := s.toks + 1 }) : wpAny G.M A (pyNext (.ref I)) Q E s := by
  by_cases ha : x.cps.all (· < 128) = true
  · have hT : strItT x = "str_ascii_iterator" := by simp only [strItT, ha, if_true]
    rw [hT] at hit h2
    cases e : x.cps[i]? with
    | none => exact wpAny_pyNext_ascii_end hh hit e (h1 e)
    | some c => exact wpAny_pyNext_ascii_item hit e (h2 c e)
  · have hT : strItT x = "str_iterator" := by simp only [strItT, ha, if_false]; rfl
    rw [hT] at hit h2
    cases e : x.cps[i]? with
    | none => exact wpAny_pyNext_wide_end hh hit e (h1 e)
    | some c => exact wpAny_pyNext_wide_item hit e (h2 c e)
theorem itx_str {I : Addr} {x : Str} {tk : Tok} : Itx G I [I] (fun _ => True) (fun _ => True) (TStr G I x tk) (fun _ => TStr G I x tk) where
  own rem h ρ σ t q m := by rw [List.mem_singleton.mp m]; exact .inl (.inl t.1)
  ownM v rem h ρ σ t q m := by rw [List.mem_singleton.mp m]; exact .inl (.inl t.1)
  keep P rem s ρ σ s' ρ' σ' tt I0 I' x N g := by
    obtain ⟨it, i, ⟨o, ho, hc, hd⟩, e3⟩ := tt
    obtain ⟨it', z⟩ := it.keep x N
    exact ⟨it', i, ⟨o, z.trans ho, hc, hd⟩, e3⟩
  next A s ρ σ rem Q E hh I0 tt h1 h2 := by
    obtain ⟨it, i, e2, e3⟩ := tt
    refine wpAny_szd (next_str hh e2 (fun hi h' x z => ?_) (fun c hc h' hit' hs' z => ?_))
    · cases rem with
      | nil => exact h1 rfl h' s.toks (only1 (fun b o n e => x b o n e) z it.notPrv)
      | cons d rest =>
        obtain ⟨hd, hr⟩ := drop_cons e3
        simp [signs] at hd
        obtain ⟨c, hc, _⟩ := hd
        simp at hi
        have := (Array.getElem?_eq_some_iff.mp hc).1
        omega
    · cases rem with
      | nil =>
        have := drop_nil e3
        have h3 := (Array.getElem?_eq_some_iff.mp hc).1
        simp [signs] at this
        omega
      | cons d rest =>
        obtain ⟨hd, hr⟩ := drop_cons e3
        simp [signs] at hd
        obtain ⟨c', hc', rfl⟩ := hd
        rw [hc] at hc'; cases hc'
        have ho : Only [I] s.heap h' := only1 (fun b o n e => (hs'.2 b n).trans e) (Nat.le_of_eq hs'.1.symm) it.notPrv
        obtain ⟨o', ho', hc', hd'⟩ := id hit'
        exact h2 _ rest rfl _ h' (s.toks + 1) ho (by simp only [Rel]; exact ⟨_, rfl⟩) ⟨⟨it.1, it.2.1, o', _, _, ho', hc', (strItT_ne _).1, hd'⟩, i + 1, hit', hr⟩
  go A s ρ σ tgt v rest Q E _ I0 tt h := by
    obtain ⟨it, i, ⟨o, ho, hc, hd⟩, e3⟩ := id tt
    exact letGo_plain ho hc hd (strItT_ne _).2 (h s.heap only_refl tt)
theorem self_str {I : Addr} {x : Str} {tk : Tok} : ItSelf G I (TStr G I x tk) := fun A s ρ σ rem Q E hh tt h => by
  obtain ⟨it, i, e2, e3⟩ := tt
  unfold strItT at e2
  split at e2
  · exact (Walks.strAscii (prog := G.prog) (w := G.w) (A := A) hh I x tk).self i s Q E e2 h
  · exact (Walks.strWide (prog := G.prog) (w := G.w) (A := A) hh I x tk).self i s Q E e2 h

/-! a range -/
def rngL (a step : Int) (n : Nat) : List D := (List.range n).map fun (j : Nat) => D.int (a + j * step)
theorem rngL_zero {a step : Int} : rngL a step 0 = [] := rfl
theorem rngL_succ {a step : Int} {n : Nat} : rngL a step (n + 1) = .int a :: rngL (a + step) step n := by
  simp only [rngL, List.range_succ_eq_map, List.map_cons, List.map_map]
  refine congr (congrArg List.cons ?_) ?_
  · simp
  · refine List.map_congr_left fun j _ => ?_
    simp only [Function.comp]
    congr 1
    have : ((j.succ : Nat) : Int) = (j : Int) + 1 := by omega
    rw [this, Int.add_mul]; omega
def TRng (G : Gd) (I : Addr) (step : Int) : List D → Heap → List Addr → Sto → Prop := fun rem h ρ σ => Itr G h ρ I ∧ ∃ (x : Int) (n : Nat), IsRangeIter h I x n step ∧ rem = rngL x step n
theorem itx_rng {I : Addr} {step : Int} : Itx G I [I] (fun _ => True) (fun _ => True) (TRng G I step) (fun _ => TRng G I step) where
  own rem h ρ σ t q m := by rw [List.mem_singleton.mp m]; exact .inl (.inl t.1)
  ownM v rem h ρ σ t q m := by rw [List.mem_singleton.mp m]; exact .inl (.inl t.1)
  keep P rem s ρ σ s' ρ' σ' tt I0 I' x N g := by
    obtain ⟨it, y, n, hr, e3⟩ := tt
    obtain ⟨it', z⟩ := it.keep x N
    exact ⟨it', y, n, z.trans hr, e3⟩
  next A s ρ σ rem Q E hh I0 tt h1 h2 := by
    obtain ⟨it, y, n, hr, e3⟩ := tt
    cases n with
    | zero =>
      rw [rngL_zero] at e3; subst e3
      refine wpAny_szd (wpAny_pyNext_range_end hh hr (by simp) fun h' x z => ?_)
      exact h1 rfl h' s.toks (only1 (fun b o n e => x b o n e) z it.notPrv)
    | succ n =>
      rw [rngL_succ] at e3; subst e3
      refine wpAny_pyNext_range_item hr (by omega) fun h' hit' hs' => ?_
      have ho : Only [I] s.heap h' := only1 (fun b o n e => (hs'.2 b n).trans e) (Nat.le_of_eq hs'.1.symm) it.notPrv
      refine h2 _ _ rfl _ h' (s.toks + 1) ho (by simp only [Rel]; exact ⟨_, rfl⟩) ⟨⟨it.1, it.2.1, _, _, _, hit', rfl, by decide, rfl⟩, y + step, n, ?_, rfl⟩
      have : (((n + 1 : Nat) : Int) - 1) = (n : Int) := by omega
      rw [this] at hit'; exact hit'
  go A s ρ σ tgt v rest Q E _ I0 tt h := by
    obtain ⟨it, y, n, hr, e3⟩ := id tt
    exact letGo_plain hr rfl rfl (by decide) (h s.heap only_refl tt)
theorem self_rng {I : Addr} {step : Int} : ItSelf G I (TRng G I step) := fun A s ρ σ rem Q E hh tt h => by
  obtain ⟨it, y, n, hr, e3⟩ := tt
  refine (Walks.range (prog := G.prog) (w := G.w) (A := A) hh I y step n).self 0 s Q E ?_ h
  simpa using hr

/-! the sources -/
def srcOf : D → Mn Src
  | .ref k => fun st => match st.sto[k]? with
    | some (.list ds) => .ok ⟨ds, fun σ => σ[k]? = some (.list ds)⟩ st
    | _ => .bot
  | .tup ds => ret1 ⟨ds, fun _ => True⟩
  | .str x => ret1 ⟨signs x, fun _ => True⟩
  | _ => botM

/-- the iterator of a value -/
def SrcAt (G : Gd) (A : Around) (env : Env) (s : Shared) (ρ : List Addr) (st : St) (tg : Expr → Prop) (v : Value) (m : Mn Src) : Prop :=
  m st ≠ .bot → wpAny G.M A (pyIter v) (fun it s₂ => ∃ ρ' src σ' I S T Md, m st = .ok src ⟨st.loc, σ'⟩ ∧ Inv G s₂ ρ' σ' ∧
    Ev [] s.heap ρ s₂.heap ρ' ∧ it = .ref I ∧ Itx G I S tg src.g T Md ∧ ItSelf G I T ∧ T src.ds s₂.heap ρ' σ' ∧ ∀ q, q ∈ S → s.heap.objs.size ≤ q) (ExcE G env s ρ st (m st)) s

theorem src_at {d : D} {v : Value} (K : Ok G C A P env s ρ st) (r : Rel G s.heap ρ d v) : SrcAt G A env s ρ st (fun _ => True) v (srcOf d) := fun hb => by
  cases d with
  | ref k =>
    simp only [Rel] at r
    obtain ⟨a, rfl, e1⟩ := r
    cases e : st.sto[k]? with
    | none => exact absurd (by simp only [srcOf, e]) hb
    | some o =>
      cases o with
      | list ds =>
        obtain ⟨vs, hl, rr⟩ := K.inv.sto k a (.list ds) e1 e
        refine wpAny_pyIter_list hl.list ?_
        have g := Grow.push s.heap { cls := .type "list_iterator", data := .fields #[.ref a, .int 0 0] }
        exact ⟨ρ, ⟨ds, fun σ => σ[k]? = some (.list ds)⟩, st.sto, s.heap.objs.size, [s.heap.objs.size], TList G s.heap.objs.size k ds, fun _ => TList G s.heap.objs.size k ds, by simp only [srcOf, e], K.inv.grow g size_push_le s.toks, g.ev size_push_le, rfl, itx_list, self_list,
          ⟨itr_new K.inv (by decide) 0, e, a, 0, e1, ⟨_, Heap.get?_push_size _ rfl, rfl, rfl⟩, rfl⟩, fun q m => by rw [List.mem_singleton.mp m]; exact Nat.le_refl _⟩
      | dict _ => exact absurd (by simp only [srcOf, e]) hb
      | priv => exact absurd (by simp only [srcOf, e]) hb
  | tup ds =>
    simp only [Rel] at r
    obtain ⟨a, vs, rfl, n, ht, rr⟩ := r
    have htt : s.heap.IsTuple a vs := let ⟨n, e⟩ := ht; ⟨_, e, rfl, n, rfl⟩
    refine wpAny_pyIter_tuple htt ?_
    have g := Grow.push s.heap { cls := .type "tuple_iterator", data := .fields #[.ref a, .int 0 0] }
    have S : Stb s.heap ρ _ ρ := g.stb
    obtain ⟨n', ht'⟩ := S.tup a vs n ht
    exact ⟨ρ, ⟨ds, fun _ => True⟩, st.sto, s.heap.objs.size, [s.heap.objs.size], TTup G s.heap.objs.size a vs ds, fun _ => TTup G s.heap.objs.size a vs ds, rfl, K.inv.grow g size_push_le s.toks, g.ev size_push_le, rfl, itx_tup, self_tup,
      ⟨itr_new K.inv (by decide) 0, n', ht', RelL.mono S _ _ rr, 0, ⟨_, Heap.get?_push_size _ rfl, rfl, rfl⟩, rfl⟩, fun q m => by rw [List.mem_singleton.mp m]; exact Nat.le_refl _⟩
  | str x =>
    simp only [Rel] at r
    obtain ⟨t, rfl⟩ := r
    have fin : ∀ T, strItT x = T → (fun it s₂ => ∃ ρ' src σ' I S T Md, srcOf (.str x) st = .ok src ⟨st.loc, σ'⟩ ∧ Inv G s₂ ρ' σ' ∧
        Ev [] s.heap ρ s₂.heap ρ' ∧ it = Value.ref I ∧ Itx G I S (fun _ => True) src.g T Md ∧ ItSelf G I T ∧ T src.ds s₂.heap ρ' σ' ∧ ∀ q, q ∈ S → s.heap.objs.size ≤ q) (.ref s.heap.objs.size) { s with heap := s.heap.push { cls := .type T, data := .fields #[.str x t, .int 0 0] } } := by
      rintro T rfl
      have g := Grow.push s.heap { cls := .type (strItT x), data := .fields #[.str x t, .int 0 0] }
      exact ⟨ρ, ⟨signs x, fun _ => True⟩, st.sto, s.heap.objs.size, [s.heap.objs.size], TStr G s.heap.objs.size x t, fun _ => TStr G s.heap.objs.size x t, rfl, K.inv.grow g size_push_le s.toks, g.ev size_push_le, rfl, itx_str, self_str,
        ⟨itr_new K.inv (strItT_ne x).1 0, 0, ⟨_, Heap.get?_push_size _ rfl, rfl, rfl⟩, rfl⟩, fun q m => by rw [List.mem_singleton.mp m]; exact Nat.le_refl _⟩
    cases ha : x.cps.all (· < 128) with
    | true => exact wpAny_pyIter_ascii ha (fin _ (by simp [strItT, ha]))
    | false => exact wpAny_pyIter_wide ha (fin _ (by simp [strItT, ha]))
  | _ => exact absurd rfl hb

theorem si_of {e : Expr} {tg : Expr → Prop} {m : Mn D} {f : D → Mn Src} (h : SE G C e m) (hf : ∀ A P env s ρ st d v, Ok G C A P env s ρ st → Rel G s.heap ρ d v → SrcAt G A env s ρ st tg v (f d)) : SI G C e tg (bnd m f) := .mk <| fun A P env s ρ st K hb => by
  refine wpAny_mono (h.run A P env s ρ st K (bnd_ne_bot hb)) (fun v s' q => ?_) fun x s' q => ?_
  · obtain ⟨ρ', d, σ', e, I', x, r⟩ := q
    have e' : bnd m f st = f d ⟨st.loc, σ'⟩ := by simp only [bnd, e]
    rw [e'] at hb ⊢
    refine wpAny_mono (hf A P env s' ρ' _ d v (K.step I' x) r hb) (fun it s'' q => ?_) fun w s'' q => ?_
    · obtain ⟨ρ'', src, σ'', I, S, T, Md, e2, I'', x2, rfl, X, X', T0, hS⟩ := q
      exact ⟨ρ'', src, σ'', I, S, T, Md, e2, I'', x.trans x2, rfl, X, X', T0, fun q m => Nat.le_trans x.size (hS q m)⟩
    · obtain ⟨ρ'', c, σ'', a, e2, I'', x2, rfl, fl⟩ := q
      exact ⟨ρ'', c, σ'', a, e2, I'', x.trans x2, rfl, fl.from x.size⟩
  · obtain ⟨ρ', c, σ', a, e, I', x, rfl, fl⟩ := q
    exact ⟨ρ', c, σ', a, by simp only [bnd, e], I', x, rfl, fl⟩
theorem si_val {e : Expr} {m : Mn D} (h : SE G C e m) : SI G C e (fun _ => True) (bnd m srcOf) := si_of h fun A P env s ρ st d v K r => src_at K r
end
end Mine

/- part F10 -/
set_option Elab.async false
set_option linter.unusedVariables false
namespace Mine
open PySem PyProof.Rows

/-! the closure of a comprehension's block -/
def closL (env : Env) : List (Str × NameKind) → List (Str × Addr) → List (Str × Addr)
  | [], acc => acc
  | (x, k) :: r, acc => if k == .free then (match env.cells.lookup x with
      | some c => closL env r ((x, c) :: acc)
      | none => closL env r acc) else closL env r acc

theorem closure_forIn (env : Env) (f : Str × NameKind → List (Str × Addr) → Sem (ForInStep (List (Str × Addr))))
    (hf : ∀ x k cs, f (x, k) cs = if k == .free then (do let a ← cellOf env x; pure (.yield ((x, a) :: cs))) else pure (.yield cs)) : ∀ (names : List (Str × NameKind)) (acc : List (Str × Addr)), (∀ x, (x, NameKind.free) ∈ names → (env.cells.lookup x).isSome = true) →
    (forIn names acc f : Sem (List (Str × Addr))) = pure (closL env names acc)
  | [], acc, _ => rfl
  | (x, k) :: r, acc, h => by
    rw [List.forIn_cons, hf]
    have ih := fun acc => closure_forIn env f hf r acc fun y m => h y (List.mem_cons_of_mem _ m)
    cases hk : k == NameKind.free with
    | true =>
      have hk' : k = .free := beq_iff_eq.mp hk
      obtain ⟨c, hc⟩ := Option.isSome_iff_exists.mp (h x (by rw [hk']; exact List.mem_cons_self))
      simp only [if_true, closL, hc, cellOf, hk]
      exact ih ((x, c) :: acc)
    | false =>
      simp only [hk, closL, Bool.false_eq_true, if_false]
      exact ih acc
theorem closureFor_eq {scope : Scope} {env : Env} (h : ∀ x, (x, NameKind.free) ∈ scope.names → (env.cells.lookup x).isSome = true) : closureFor scope env = pure (closL env scope.names []) := by
  simp only [closureFor]
  rw [closure_forIn env _ (fun x k cs => by cases hk : k == NameKind.free <;> simp [hk]) scope.names [] h]
  rfl
theorem closL_sub (env : Env) : ∀ (names : List (Str × NameKind)) (acc : List (Str × Addr)), (∀ p, p ∈ acc → env.cells.lookup p.1 = some p.2) → ∀ p, p ∈ closL env names acc → env.cells.lookup p.1 = some p.2
  | [], acc, h, p, m => h p m
  | (x, k) :: r, acc, h, p, m => by
    unfold closL at m
    split at m
    · split at m
      · rename_i c hc
        refine closL_sub env r _ (fun q mq => ?_) p m
        rcases List.mem_cons.mp mq with rfl | mq
        · exact hc
        · exact h q mq
      · exact closL_sub env r acc h p m
    · exact closL_sub env r acc h p m
theorem closL_mem (env : Env) : ∀ (names : List (Str × NameKind)) (acc : List (Str × Addr)) (x : Str) (c : Addr), env.cells.lookup x = some c → ((x, NameKind.free) ∈ names ∨ (x, c) ∈ acc) → (x, c) ∈ closL env names acc
  | [], acc, x, c, _, h => h.elim (fun z => nomatch z) id
  | (y, k) :: r, acc, x, c, e, h => by
    unfold closL
    split
    · rename_i hk
      split
      · rename_i c' hc'
        refine closL_mem env r _ x c e ?_
        rcases h with h | h
        · rcases List.mem_cons.mp h with z | z
          · cases z; rw [e] at hc'; cases hc'; exact .inr List.mem_cons_self
          · exact .inl z
        · exact .inr (List.mem_cons_of_mem _ h)
      · rename_i hc'
        refine closL_mem env r _ x c e ?_
        rcases h with h | h
        · rcases List.mem_cons.mp h with z | z
          · cases z; rw [e] at hc'; cases hc'
          · exact .inl z
        · exact .inr h
    · rename_i hk
      refine closL_mem env r _ x c e ?_
      rcases h with h | h
      · rcases List.mem_cons.mp h with z | z
        · cases z; simp at hk
        · exact .inl z
      · exact .inr h
theorem lookup_isSome_of_mem {α : Type} : ∀ (l : List (Str × α)) (x : Str) (c : α), (x, c) ∈ l → (l.lookup x).isSome = true
  | [], _, _, h => nomatch h
  | p :: r, x, c, h => by
    simp only [List.lookup]
    split
    · rfl
    · rcases List.mem_cons.mp h with e | m
      · rename_i q; rw [← e] at q; simp at q
      · exact lookup_isSome_of_mem r x c m
theorem closL_lookup {env : Env} {names : List (Str × NameKind)} {x : Str} {c : Addr} (h : (closL env names []).lookup x = some c) : env.cells.lookup x = some c :=
  closL_sub env names [] (fun _ m => nomatch m) (x, c) (mem_of_lookup h)
theorem closL_has {env : Env} {names : List (Str × NameKind)} {x : Str} {c : Addr} (hm : (x, NameKind.free) ∈ names) (h : env.cells.lookup x = some c) : (closL env names []).lookup x = some c := by
  obtain ⟨c', e⟩ := Option.isSome_iff_exists.mp (lookup_isSome_of_mem _ _ _ (closL_mem env names [] x c h (.inl hm)))
  have := closL_lookup e
  rw [h] at this; cases this; exact e

theorem lookup_map_snd {α β : Type} (f : Str × α → Str × β) (hf : ∀ p, (f p).1 = p.1) : ∀ (l : List (Str × α)) (x : Str), (l.map f).lookup x = (l.lookup x).map fun k => (f (x, k)).2
  | [], _ => rfl
  | (y, k) :: r, x => by
    have hk := hf (y, k)
    simp only [List.map_cons]
    rw [show f (y, k) = ((f (y, k)).1, (f (y, k)).2) from rfl, hk]
    simp only [List.lookup]
    cases e : x == y with
    | true => simp only; rw [beq_iff_eq.mp e]; rfl
    | false => simp only; exact lookup_map_snd f hf r x
theorem relabel_lookup {scope : Scope} {env : Env} (x : Str) : (relabel scope env).names.lookup x = (scope.names.lookup x).map fun k => if (k == NameKind.free && env.scope.kind == .function && env.kindOf x == some .cell) then NameKind.cell else k := by
  show (scope.names.map _).lookup x = _
  rw [lookup_map_snd _ (fun p => by dsimp only; split <;> rfl)]
  cases scope.names.lookup x with
  | none => rfl
  | some k => simp only [Option.map_some]; congr 1; split <;> rfl

open Classical in
/-- what a comprehension collects -/
noncomputable def compM (tgt : D → Loc → Option Loc) (g : Sto → Prop) (test : Mn Bool) (elt : Mn D) : List D → List D → Mn (List D)
  | [], acc => fun st => if g st.sto then .ok acc st else .bot
  | d :: rest, acc => fun st => if g st.sto then
      match tgt d st.loc with
      | none => .bot
      | some loc' => match test ⟨loc', st.sto⟩ with
        | .ok true st' => (match elt st' with
          | .ok x st'' => compM tgt g test elt rest (acc ++ [x]) st''
          | .exc c st'' => .exc c st''
          | .bot => .bot)
        | .ok false st' => compM tgt g test elt rest acc st'
        | .exc c st' => .exc c st'
        | .bot => .bot
    else .bot

/-- the tests of a comprehension -/
structure STst (G : Gd) (C : Cx) (ifs : List Expr) (m : Mn Bool) : Prop where
  run : ∀ A P env s ρ st, Ok G C A P env s ρ st →
  At G A env s ρ st RB (forIn ifs true fun c r => if r = true then do let ok ← isTrue c env (eval c env); pure (ForInStep.yield ok) else pure (ForInStep.yield r)) m
theorem tst_nil {G : Gd} {C : Cx} : STst G C [] (ret1 true) := .mk <| fun A P env s ρ st K => At.pure K rfl
theorem tst_one {G : Gd} {C : Cx} {c : Expr} {m : Mn Bool} (h : SB G C c m) : STst G C [c] m := .mk <| fun A P env s ρ st K hb => wpAny_tests_one (h.run A P env s ρ st K hb)

def clearL (is : List Nat) (loc : Loc) : Loc := fun i => if is.contains i then none else loc i

section
variable {G : Gd} {C C' : Cx} {A : Around} {P : List Addr} {env : Env}

/-- how the block of a comprehension ends: s the state at its start -/
def CompR (G : Gd) (tbl : List Str) (A : Around) (cenv : Env) (hs : Heap) (ρs : List Addr) (q : Addr) (r : Out (List D)) : Result → Shared → Prop
  | .ok _, s' => ∃ ρ' xs st' vs, r = .ok xs st' ∧ Inv G s' ρ' st'.sto ∧ Ev [cenv.locals] hs ρs s'.heap ρ' ∧ Frm G tbl [cenv.locals] cenv s'.heap ρ' st'.loc ∧ q ∉ ρ' ∧ IsLst s'.heap q vs ∧ RelL G s'.heap ρ' xs vs.toList
  | .error x, s' => ∃ ρ' c st' a L, r = .exc c st' ∧ Inv G s' ρ' st'.sto ∧ Ev [cenv.locals] hs ρs s'.heap ρ' ∧ Frm G tbl [cenv.locals] cenv s'.heap ρ' st'.loc ∧ Stk G A cenv s'.heap ρ' ∧ x = .ref a ∧ cenv.frame = some L ∧ FlyT hs.objs.size s'.heap (rawInt L) a c

theorem comp_ok {I : Addr} {S : List Addr} {tg : Expr → Prop} {g : Sto → Prop} {T : List D → Heap → List Addr → Sto → Prop} {Md : Value → List D → Heap → List Addr → Sto → Prop} (X : Itx G I S tg g T Md)
    {elt target iter : Expr} {ifs : List Expr} {scope : Scope} {pos : Pos} {tf : D → Loc → Option Loc} {mt : Mn Bool} {me : Mn D} {cenv : Env} {q : Addr}
    (ht : tg target) (hT : ST G C' false target tf) (hTs : STst G C' ifs mt) (hE : SE G C' elt me) {hs : Heap} {ρs : List Addr} (hb0 : ∀ b, hs.objs.size ≤ b → G.h0.get? b = none) (hq : hs.objs.size ≤ q) (hS : ∀ q', q' ∈ S → hs.objs.size ≤ q' ∨ q' ∈ ρs) (hqS : q ∉ S) (hqC : q ≠ cenv.locals) :
    ∀ (ds acc : List D) (s : Shared) (ρ : List Addr) (st : St) (vs : Array Value), Ok G C' A [cenv.locals] cenv s ρ st → T ds s.heap ρ st.sto → Ev [cenv.locals] hs ρs s.heap ρ → q ∉ ρ → IsLst s.heap q vs → RelL G s.heap ρ acc vs.toList →
      acc.length + ds.length ≤ sizeLine → compM tf g mt me ds acc st ≠ .bot →
      codeAny G.M A (.compLoop (.ListComp elt [⟨target, iter, ifs, 0⟩] scope pos) 0 (.ref I) (.ref q) cenv) (CompR G C'.tbl A cenv hs ρs q (compM tf g mt me ds acc st)) s := by
  intro ds
  induction ds with
  | nil =>
    intro acc s ρ st vs K hTT x hqr hl r hz hbot
    have hg : g st.sto := by
      by_cases h : g st.sto
      · exact h
      · exact absurd (by simp only [compM, h, if_false]) hbot
    refine codeAny_of_tree ?_
    show wpAny _ A ((compTurn (.ListComp elt [⟨target, iter, ifs, 0⟩] scope pos) 0 (.ref I) (.ref q) cenv).onRaise (fun x => do noteFrame x cenv; theTreesLotGoes x)) _ _ s
    refine wpAny_noted ?_
    rw [compTurn_list]
    refine wpAny_bind (wpAny_standAt (wpAny_bind (X.next A s ρ st.sto [] _ _ K.room.hd K.inv hTT (fun _ h' tk ho => ?_) (fun d rest e => by cases e))))
    have K' := K.only ho (X.own _ _ _ _ hTT) tk
    have Sb := ho.stb (X.own _ _ _ _ hTT)
    obtain ⟨n, hl⟩ := hl
    exact wpAny_pure ⟨ρ, acc, st, vs, by simp only [compM, hg, if_true], K'.inv, x.only ho hS, K'.frm, hqr, ⟨n, ho.1 q _ hqS hl⟩, RelL.mono Sb _ _ r⟩
  | cons d rest ih =>
    intro acc s ρ st vs K hTT x hqr hl r hz hbot
    have hg : g st.sto := by
      by_cases h : g st.sto
      · exact h
      · exact absurd (by simp only [compM, h, if_false]) hbot
    refine codeAny_of_tree ?_
    show wpAny _ A ((compTurn (.ListComp elt [⟨target, iter, ifs, 0⟩] scope pos) 0 (.ref I) (.ref q) cenv).onRaise (fun x => do noteFrame x cenv; theTreesLotGoes x)) _ _ s
    refine wpAny_noted ?_
    rw [compTurn_list]
    refine wpAny_bind (wpAny_standAt (wpAny_bind (X.next A s ρ st.sto (d :: rest) _ _ K.room.hd K.inv hTT (fun e => by cases e) (fun d' rest' e v h' tk ho rv hM => ?_))))
    cases e
    have K₁ := K.only ho (X.own _ _ _ _ hTT) tk
    refine wpAny_bind (X.go A _ ρ st.sto target v rest _ _ ht K₁.inv hM fun h₂ ho₂ hT₂ => ?_)
    have K₂ := K₁.only ho₂ (X.ownM _ _ _ _ _ hM) tk
    have x₂ : Ev [cenv.locals] hs ρs h₂ ρ := (x.only ho hS).only ho₂ hS
    have rv₂ : Rel G h₂ ρ d v := Rel.mono (ho₂.stb (X.ownM _ _ _ _ _ hM)) d v rv
    have hl₂ : IsLst h₂ q vs := let ⟨n, e⟩ := hl; ⟨n, ho₂.1 q _ hqS (ho.1 q _ hqS e)⟩
    have r₂ : RelL G h₂ ρ acc vs.toList := RelL.mono (ho₂.stb (X.ownM _ _ _ _ _ hM)) _ _ (RelL.mono (ho.stb (X.own _ _ _ _ hTT)) _ _ r)
    -- the list being filled stands through what writes neither the store nor the list
    have keepq : ∀ {h h' : Heap} {ρ₁ ρ₂ : List Addr}, Ev [cenv.locals] h ρ₁ h' ρ₂ → q ∉ ρ₁ → IsLst h q vs → q ∉ ρ₂ ∧ IsLst h' q vs := fun xx nq ⟨n, e⟩ => by
      obtain ⟨o', e', sm⟩ := xx.keep q _ e nq (fun m => hqC (List.mem_singleton.mp m))
      rw [sm.eq (fun _ _ z => by cases z)] at e'
      exact ⟨xx.notin e nq, n, e'⟩
    cases e1 : tf d st.loc with
    | none => exact absurd (by simp only [compM, hg, if_true, e1]) hbot
    | some loc' =>
      refine wpAny_bind (hT.run A [cenv.locals] cenv { s with heap := h₂, toks := tk } ρ st d v loc' _ _ K₂ (fun z => by cases z) rv₂ e1 fun s₃ I₃ x₃ F₃ => ?_)
      have K₃ : Ok G C' A [cenv.locals] cenv s₃ ρ ⟨loc', st.sto⟩ := K₂.stepS (st' := ⟨loc', st.sto⟩) I₃ x₃ F₃
      obtain ⟨hqr₃, hl₃⟩ := keepq x₃ hqr hl₂
      have r₃ : RelL G s₃.heap ρ acc vs.toList := RelL.mono (x₃.stb K₂.inv K₂.frm.nt) _ _ r₂
      have T₃ : T rest s₃.heap ρ st.sto := X.keep _ rest { s with heap := h₂, toks := tk } ρ st.sto s₃ ρ st.sto hT₂ K₂.inv I₃ x₃ K₂.frm.nt hg
      have hnb : mt ⟨loc', st.sto⟩ ≠ .bot := fun z => hbot (by simp only [compM, hg, if_true, e1, z])
      have exf : ∀ {s₄ : Shared} {ρ₄ : List Addr} {c : Addr} {st₄ : St} {a : Addr}, Ok G C' A [cenv.locals] cenv s₄ ρ₄ st₄ → Ev [cenv.locals] hs ρs s₄.heap ρ₄ → Fly hs.objs.size s₄.heap cenv.frame a c → compM tf g mt me (d :: rest) acc st = .exc c st₄ →
          notedBy G.M A cenv (fun e s' => CompR G C'.tbl A cenv hs ρs q (compM tf g mt me (d :: rest) acc st) (.error e) s') (.ref a) s₄ := fun K₄ x₄ fl e2 =>
        noted_ok K₄.stk fl K₄.inv x₄ K₄.frm hb0 fun L s₅ I₅ x₅ F₅ S₅ hL fT => ⟨_, _, _, _, L, e2, I₅, x₅, F₅, S₅, rfl, hL, fT⟩
      refine wpAny_bind (wpAny_mono (hTs.run A [cenv.locals] cenv s₃ ρ _ K₃ hnb) (fun ok s₄ qq => ?_) fun e s₄ qq => ?_)
      · obtain ⟨ρ₄, b, σ₄, e2, I₄, x₄, rb⟩ := qq
        cases (show b = ok from rb)
        have K₄ := K₃.step I₄ x₄
        obtain ⟨hqr₄, hl₄⟩ := keepq x₄.nil hqr₃ hl₃
        have r₄ : RelL G s₄.heap ρ₄ acc vs.toList := RelL.mono (x₄.stb K₃.inv .nil) _ _ r₃
        have xx₄ : Ev [cenv.locals] hs ρs s₄.heap ρ₄ := (x₂.trans x₃).trans x₄.nil
        cases ok with
        | false =>
          have e3 : compM tf g mt me (d :: rest) acc st = compM tf g mt me rest acc ⟨loc', σ₄⟩ := by simp only [compM, hg, if_true, e1, e2]
          rw [e3] at hbot ⊢
          have hg₄ : g σ₄ := by
            by_cases h : g σ₄
            · exact h
            · exact absurd (by cases rest <;> simp only [compM, h, if_false]) hbot
          exact wpAny_pure (And.intro rfl (ih acc s₄ ρ₄ ⟨loc', σ₄⟩ vs K₄ (X.keep [] rest s₃ ρ st.sto s₄ ρ₄ σ₄ T₃ K₃.inv I₄ x₄ .nil hg₄) xx₄ hqr₄ hl₄ r₄ (by simp at hz; omega) hbot))
        | true =>
          have hnb2 : me ⟨loc', σ₄⟩ ≠ .bot := fun z => hbot (by simp only [compM, hg, if_true, e1, e2, z])
          refine wpAny_bind (wpAny_bind (wpAny_mono (hE.run A [cenv.locals] cenv s₄ ρ₄ _ K₄ hnb2) (fun y s₅ qq => ?_) fun e s₅ qq => ?_))
          · obtain ⟨ρ₅, dy, σ₅, e4, I₅, x₅, ry⟩ := qq
            have K₅ := K₄.step I₅ x₅
            obtain ⟨hqr₅, hl₅⟩ := keepq x₅.nil hqr₄ hl₄
            have r₅ : RelL G s₅.heap ρ₅ acc vs.toList := RelL.mono (x₅.stb K₄.inv .nil) _ _ r₄
            have xx₅ : Ev [cenv.locals] hs ρs s₅.heap ρ₅ := xx₄.trans x₅.nil
            have e3 : compM tf g mt me (d :: rest) acc st = compM tf g mt me rest (acc ++ [dy]) ⟨loc', σ₅⟩ := by simp only [compM, hg, if_true, e1, e2, e4]
            rw [e3] at hbot ⊢
            have hg₅ : g σ₅ := by
              by_cases h : g σ₅
              · exact h
              · exact absurd (by cases rest <;> simp only [compM, h, if_false]) hbot
            have hsz : vs.size ≤ sizeLine := by
              have := r.all2.length
              simp at this hz
              omega
            obtain ⟨n₅, hl₅'⟩ := id hl₅
            refine wpAny_bind ?_
            -- the append
            refine call_meets slot_list_append hl₅.list.typeIs entry_list_append (args_list_append _ _) (S := fun _ R s => s.heap.get? q = some (lstO vs n₅) ∧ R (.ok (.ret .none)) { s with heap := s.heap.update q (Obj.mapSeq (·.push y)) }) ?_ ⟨hl₅', ?_⟩
            · refine .of_wp fun prog w A R s h => ?_
              show wpAny _ _ (updateSeq q (·.push y) >>= fun _ => ret .none) _ _ s
              exact wpAny_bind (wpAny_updateSeq h.1 rfl (wpAny_pure ⟨.none, rfl, h.2⟩))
            have hnew : (s₅.heap.update q (Obj.mapSeq (·.push y))).get? q = some (lstO (vs.push y) (n₅ + 1)) := by
              rw [Heap.get?_update_self _ hl₅' rfl]
              simp [Obj.mapSeq]
            have hsame : Heap.SameBut q s₅.heap (s₅.heap.update q (Obj.mapSeq (·.push y))) := Heap.SameBut.update ..
            have ho6 : Only [q] s₅.heap (s₅.heap.update q (Obj.mapSeq (·.push y))) := only1 (fun b o n e => (hsame.2 b n).trans e) (Nat.le_of_eq hsame.1.symm) (fun ⟨u, v, z⟩ => by rw [hl₅'] at z; exact tup_ne_lst (Option.some.inj z).symm)
            have own6 : ∀ q', q' ∈ [q] → Own G s₅.heap ρ₅ σ₅ q' := fun q' m => by rw [List.mem_singleton.mp m]; exact .inl (.inr ⟨hb0 q hq, hqr₅, vs, hl₅⟩)
            have K₆ := K₅.only ho6 own6 s₅.toks
            have S₆ := ho6.stb own6
            have T₅ : T rest s₅.heap ρ₅ σ₅ := X.keep [] rest s₃ ρ st.sto s₅ ρ₅ σ₅ T₃ K₃.inv I₅ (x₄.trans x₅) .nil hg₅
            have x6 : Ev [q] s₅.heap ρ₅ (s₅.heap.update q (Obj.mapSeq (·.push y))) ρ₅ := ⟨fun _ _ e => e, fun b o e _ n => ⟨o, ho6.1 b o n e, .refl o⟩, fun _ m => .inl m, ho6.2.1⟩
            have nt6 : NT s₅.heap [q] := fun p m => by rw [List.mem_singleton.mp m]; exact ⟨_, hl₅', .inr (.inr ⟨_, _, rfl⟩)⟩
            have T₆ := X.keep [q] rest s₅ ρ₅ σ₅ _ ρ₅ σ₅ T₅ I₅ K₆.inv x6 nt6 hg₅
            refine wpAny_pure (wpAny_pure (And.intro rfl (ih (acc ++ [dy]) _ ρ₅ ⟨loc', σ₅⟩ (vs.push y) K₆ T₆ (xx₅.only ho6 (fun q' m => .inl (by rw [List.mem_singleton.mp m]; exact hq))) hqr₅ ⟨_, hnew⟩ ?_ (by simp at hz ⊢; omega) hbot)))
            rw [Array.toList_push]
            exact RelL.of_all2 ((RelL.mono S₆ _ _ r₅).all2.append (.cons (Rel.mono S₆ _ _ ry) .nil))
          · obtain ⟨ρ₅, c, σ₅, a, e4, I₅, x₅, rfl, fl⟩ := qq
            exact exf (K₄.step I₅ x₅) (xx₄.trans x₅.nil) (fl.from xx₄.size) (by simp only [compM, hg, if_true, e1, e2, e4])
      · obtain ⟨ρ₄, c, σ₄, a, e2, I₄, x₄, rfl, fl⟩ := qq
        exact exf (K₃.step I₄ x₄) ((x₂.trans x₃).trans x₄.nil) (fl.from (x₂.trans x₃).size) (by simp only [compM, hg, if_true, e1, e2])
end
end Mine

/- part F11 -/
set_option Elab.async false
set_option linter.unusedVariables false
namespace Mine
open PySem PyProof.Rows

open Classical in
noncomputable def compD (cls : List Nat) (tf : D → Loc → Option Loc) (mt : Mn Bool) (me : Mn D) (src : Src) : Mn D := fun st =>
  if src.ds.length ≤ sizeLine then
    match compM tf src.g mt me src.ds [] ⟨clearL cls st.loc, st.sto⟩ with
    | .ok xs st' => .ok (.ref st'.sto.length) ⟨st.loc, st'.sto ++ [.list xs]⟩
    | .exc c st' => .exc c ⟨st.loc, st'.sto⟩
    | .bot => .bot
  else .bot

/-- what is to be looked at in a comprehension's block -/
structure CompSt (C : Cx) (scope : Scope) (cls : List Nat) : Prop where
  kind : scope.kind = .function
  nocell : ∀ x, x ∈ scope.names → x.2 ≠ .cell
  nl : ∀ x, x ∈ scope.names → x.2 = .local → scope.names.lookup x.1 = some .local
  free : ∀ x, x ∈ scope.names → x.2 = .free → (C.names.lookup x.1 = some .cell ∨ C.names.lookup x.1 = some .free) ∧ x.1 ∈ C.tbl
  cls : ∀ (i : Nat) x, C.tbl[i]? = some x → scope.names.lookup x = some .local → cls.contains i = true

section
variable {G : Gd} {C : Cx} {A : Around} {P : List Addr} {env : Env} {s : Shared} {ρ : List Addr} {st : St}


/-- the comprehension as a whole: what it gives is handed to the rest -/
theorem comp_core {elt target iter : Expr} {ifs : List Expr} {scope : Scope} {pos cpos : Pos} {cls : List Nat} {tg : Expr → Prop} {mi : Mn Src} {tf : D → Loc → Option Loc} {mt : Mn Bool} {me : Mn D}
    (hS : CompSt C scope cls) (hI : SI G C iter tg mi) (ht : tg target) (hT : ST G ⟨scope.names, C.tbl, C.lvl⟩ false target tf) (hTs : STst G ⟨scope.names, C.tbl, C.lvl⟩ ifs mt) (hE : SE G ⟨scope.names, C.tbl, C.lvl⟩ elt me)
    (hs : ∀ env x, foldedSetIterable iter env x = pure x) (K : Ok G C A P env s ρ st) (hb : bnd mi (compD cls tf mt me) st ≠ .bot) {use : Option (Value → Sem Unit)} {Q : Value → Shared → Prop} {E : Value → Shared → Prop}
    (hQ : ∀ (s' : Shared) (ρ' : List Addr) (d : D) (σ' : Sto) (v : Value) (C0 : Addr), bnd mi (compD cls tf mt me) st = .ok d ⟨st.loc, σ'⟩ → Inv G s' ρ' σ' → Ev [] s.heap ρ s'.heap ρ' → Rel G s'.heap ρ' d v → s.heap.objs.size ≤ C0 → C0 ∉ ρ' → (∃ m, s'.heap.Ns C0 m) →
      match use with
      | none => ∀ h', Heap.SameBut C0 s'.heap h' → Q v { s' with heap := h' }
      | some u => wpAny G.M A (u v) (fun _ s'' => ∃ m, s''.heap.Ns C0 m ∧ ∀ h', Heap.SameBut C0 s''.heap h' → Q .none { s'' with heap := h' }) E s')
    (hX : ∀ x s', ExcE G env s ρ st (bnd mi (compD cls tf mt me) st) x s' → E x s') :
    wpAny G.M A (comprehension (.ListComp elt [⟨target, iter, ifs, 0⟩] scope pos) scope env cpos (newList []) false (eval iter env) use) Q E s := by
  have hclos : closureFor scope env = pure (closL env scope.names []) := closureFor_eq fun x m => by
    obtain ⟨hk, mt⟩ := hS.free (x, .free) m rfl
    obtain ⟨i, hi, e⟩ := List.getElem_of_mem mt
    have hk' : env.kindOf x = some .cell ∨ env.kindOf x = some .free := hk.elim (fun h => .inl (K.sees.cell x h)) (K.sees.free x)
    obtain ⟨c, hc, _⟩ := K.frm.cell i x (by rw [List.getElem?_eq_getElem hi, e]) hk'
    rw [hc]; rfl
  refine wpAny_comprehension_free rfl (hs env) hclos hS.kind hS.nl ?_
  refine wpAny_mono (hI.run A P env s ρ st K (bnd_ne_bot hb)) (fun x s₁ h₁ => wpAny_mono h₁ (fun it s₂ q => ?_) fun x s₂ q => ?_) fun x s₂ q => ?_
  rotate_left
  · obtain ⟨ρ', c, σ', a, e, I', x', rfl, fl⟩ := q
    exact hX _ _ ⟨ρ', c, σ', a, by simp only [bnd, e], I', x', rfl, fl⟩
  · obtain ⟨ρ', c, σ', a, e, I', x', rfl, fl⟩ := q
    exact hX _ _ ⟨ρ', c, σ', a, by simp only [bnd, e], I', x', rfl, fl⟩
  obtain ⟨ρ₂, src, σ₂, Ia, S, T, Md, e, I₂, x₂, rfl, X, Xs, hT0, hSn⟩ := q
  have e' : bnd mi (compD cls tf mt me) st = compD cls tf mt me src ⟨st.loc, σ₂⟩ := by simp only [bnd, e]
  have K₂ := K.step I₂ x₂
  have hlen : src.ds.length ≤ sizeLine := by
    by_cases h : src.ds.length ≤ sizeLine
    · exact h
    · exact absurd (by rw [e']; simp only [compD, h, if_false]) hb
  have hnb : compM tf src.g mt me src.ds [] ⟨clearL cls st.loc, σ₂⟩ ≠ .bot := fun z => hb (by rw [e']; simp only [compD, hlen, if_true, z])
  -- the list to be filled
  refine wpAny_newObj_type ?_ (by size_fits)
  -- the block's frame
  refine wpAny_newFunctionEnv hS.nocell (fun x m => nomatch m) (fun h₄ hn₄ hs₄ => ?_) hS.kind
  generalize hq0 : s₂.heap.objs.size = q at *
  have hC0 : (s₂.heap.push { cls := .type "list", data := .seq #[] }).objs.size = q + 1 := by rw [Heap.size_push, hq0]
  rw [hC0] at hn₄ hs₄ ⊢
  generalize hC1 : q + 1 = C0 at *
  have hqC : q < C0 := hC1 ▸ Nat.lt_succ_self q
  have g₄ : Grow s₂.heap h₄ := fun b o ho => by
    have hb : b < q := hq0 ▸ Heap.lt_size ho
    exact (hs₄.2 b (Nat.ne_of_lt (Nat.lt_trans hb hqC))).trans (Heap.get?_push_of_some _ (Heap.get?_push_of_some _ ho))
  have z₄ : s₂.heap.objs.size ≤ h₄.objs.size := by rw [hs₄.1, Heap.size_push, Heap.size_push]; exact Nat.le_add_right _ 2
  have hlq : IsLst h₄ q #[] := by
    refine ⟨0, (hs₄.2 q (Nat.ne_of_lt hqC)).trans (Heap.get?_push_of_some _ ?_)⟩
    rw [← hq0]; exact Heap.get?_push_size _ rfl
  have I₄ : Inv G { s₂ with heap := h₄ } ρ₂ σ₂ := I₂.grow g₄ z₄ s₂.toks
  have x₄ : Ev [] s₂.heap ρ₂ h₄ ρ₂ := g₄.ev z₄
  have lt₂ : ∀ {a : Addr}, a ∈ ρ₂ → a < q := fun m => hq0 ▸ I₂.mem_lt m
  have hC0n : C0 ∉ ρ₂ := fun m => Nat.lt_asymm (lt₂ m) hqC
  have hqn : q ∉ ρ₂ := fun m => Nat.lt_irrefl _ (lt₂ m)
  -- the block's environment
  generalize hE0 : newEnv scope C0 env.globals (closL env scope.names []) env.qual none .none (some env) builtinsNs = ce
  have hcl0 : ce.locals = C0 := by rw [← hE0]; rfl
  generalize hcenv : ({ ce with scope := relabel scope env } : Env) = cenv
  have eloc : cenv.locals = C0 := by rw [← hcenv]; exact hcl0
  have ekind : ∀ x, cenv.kindOf x = (scope.names.lookup x).map fun k => if (k == NameKind.free && env.scope.kind == .function && env.kindOf x == some .cell) then NameKind.cell else k := fun x => by
    rw [← hcenv]; exact relabel_lookup x
  have ecells : cenv.cells = closL env scope.names [] := by rw [← hcenv, ← hE0]; rfl
  have eframe : cenv.frame = env.frame := by rw [← hcenv, ← hE0]; rfl
  have kfree : ∀ x, cenv.kindOf x = some .cell ∨ cenv.kindOf x = some .free → scope.names.lookup x = some .free := fun x h => by
    rw [ekind] at h
    cases q : scope.names.lookup x with
    | none => rw [q] at h; rcases h with h | h <;> cases h
    | some k =>
      rw [q] at h
      cases k with
      | free => rfl
      | cell => exact absurd rfl (hS.nocell _ (mem_of_lookup q))
      | _ => rcases h with h | h <;> cases h
  have kloc : ∀ x, cenv.kindOf x = some .local → scope.names.lookup x = some .local := fun x h => by
    rw [ekind] at h
    cases q : scope.names.lookup x with
    | none => rw [q] at h; cases h
    | some k =>
      rw [q] at h
      simp only [Option.map_some] at h
      split at h
      · cases h
      · exact h
  have F₄ : Frm G C.tbl [cenv.locals] cenv h₄ ρ₂ (clearL cls st.loc) := {
    kind := by rw [← hcenv]; exact hS.kind
    glob := by rw [← hcenv, ← hE0]; exact K.frm.glob
    bi := by rw [← hcenv, ← hE0]; exact K.frm.bi
    ns := ⟨_, by rw [eloc]; exact hn₄, fun i x e k d hd => by
      have := hS.cls i x e (kloc x k)
      simp only [clearL, this, if_true] at hd; cases hd⟩
    cell := fun i x e k => by
      have kf := kfree x k
      have ko := (hS.free (x, .free) (mem_of_lookup kf) rfl).1
      have hk' : env.kindOf x = some .cell ∨ env.kindOf x = some .free := ko.elim (fun h => .inl (K.sees.cell x h)) (K.sees.free x)
      obtain ⟨c, hc, ov, n, qq⟩ := (K₂.frm.keep K₂.inv x₄).cell i x e hk'
      refine ⟨c, by rw [ecells]; exact closL_has (mem_of_lookup kf) hc, ov, n, fun d hd => qq d ?_⟩
      simp only [clearL] at hd
      split at hd
      · cases hd
      · exact hd
    cok := fun x c e => by rw [ecells] at e; exact (K₂.frm.keep K₂.inv x₄).cok x c (closL_lookup e)
    cinj := fun x y c e1 e2 => by rw [ecells] at e1 e2; exact K.frm.cinj x y c (closL_lookup e1) (closL_lookup e2)
    lrho := by rw [eloc]; exact hC0n
    lP := List.mem_singleton.mpr rfl
    own := fun p m => ⟨by rw [List.mem_singleton.mp m, eloc]; exact I₂.h0_le (by rw [hq0]; exact Nat.le_of_lt hqC), .inl (List.mem_singleton.mp m)⟩
    tnd := K.frm.tnd }
  have K₄ : Ok G ⟨scope.names, C.tbl, C.lvl⟩ A [cenv.locals] cenv { s₂ with heap := h₄ } ρ₂ ⟨clearL cls st.loc, σ₂⟩ := {
    room := K.room
    sees := {
      loc := fun x h => by rw [ekind, h]; rfl
      cell := fun x h => absurd rfl (hS.nocell _ (mem_of_lookup h))
      free := fun x h => by
        rw [ekind, h]
        simp only [Option.map_some]
        split
        · exact .inl rfl
        · exact .inr rfl
      glob := fun x h => by rw [ekind, h]; rfl }
    inv := I₄
    frm := F₄
    stk := ⟨let ⟨fe, o, L, h1, h2, h3⟩ := K.stk.fr; ⟨fe, o, L, h1, h2, eframe.trans h3⟩, (K₂.stk.step x₄).ff⟩ }
  have T₄ : T src.ds h₄ ρ₂ σ₂ := X.keep [] src.ds s₂ ρ₂ σ₂ { s₂ with heap := h₄ } ρ₂ σ₂ hT0 I₂ I₄ x₄ .nil (by
    by_cases h : src.g σ₂
    · exact h
    · exact absurd (by cases src.ds <;> simp only [compM, h, if_false]) hnb)
  have b0 : ∀ b, s.heap.objs.size ≤ b → G.h0.get? b = none := fun b z => K.inv.h0_le z
  have hsq : s.heap.objs.size ≤ q := hq0 ▸ x₂.size
  have hqS : q ∉ S := fun m => by
    rcases X.own _ _ _ _ hT0 q m with (⟨_, _, o, _, _, ho, _⟩ | ⟨_, _, vs, n, ho⟩) | ⟨k, ek, _⟩
    · exact absurd (Heap.lt_size ho) (by rw [hq0]; exact Nat.lt_irrefl _)
    · exact absurd (Heap.lt_size ho) (by rw [hq0]; exact Nat.lt_irrefl _)
    · exact hqn (List.mem_of_getElem? ek)
  have xs₄ : Ev [cenv.locals] s.heap ρ h₄ ρ₂ := (x₂.trans x₄).nil
  have loop : codeAny G.M A (.compLoop (.ListComp elt [⟨target, iter, ifs, 0⟩] scope pos) 0 (.ref Ia) (.ref q) cenv) (compPost G.M A E use Q (.ref q) ce.locals) { s₂ with heap := h₄ } := by
    refine codeAny_mono (comp_ok X ht hT hTs hE (hs := s.heap) (ρs := ρ) b0 hsq (fun q' m => .inl (hSn q' m)) hqS (by rw [eloc]; exact Nat.ne_of_lt hqC) src.ds [] _ ρ₂ ⟨clearL cls st.loc, σ₂⟩ #[] K₄ T₄ xs₄ hqn hlq (by simp [RelL]) (by simpa using hlen) hnb) fun r s' hr => ?_
    rw [hcl0]
    have hC0s : s.heap.objs.size ≤ C0 := Nat.le_trans hsq (Nat.le_of_lt hqC)
    cases r with
    | ok f =>
      obtain ⟨ρ', xs, st', vs, e3, I', x', F', hq', hl', r'⟩ := hr
      obtain ⟨n', hl''⟩ := id hl'
      obtain ⟨mm, nm, _⟩ := F'.ns
      rw [eloc] at nm
      have ad := I'.adopt (q := q) (p := .list xs) (b0 q hsq) hq' (fun o ho => by rw [hl''] at ho; cases ho; exact ⟨by simp, fun c z => by cases z⟩)
        (fun S => ⟨vs, hl', RelL.mono S _ _ r'⟩) s'.toks
      have ev : Ev [] s.heap ρ s'.heap (ρ' ++ [q]) := ev_adopt (x'.less fun p m => .inr (by rw [List.mem_singleton.mp m, eloc]; exact hC0s)) hsq
      have rel : Rel G s'.heap (ρ' ++ [q]) (.ref st'.sto.length) (.ref q) := by
        simp only [Rel]
        exact ⟨q, rfl, by rw [← I'.len]; simp⟩
      have hn0 : C0 ∉ ρ' ++ [q] := fun m => by
        rcases List.mem_append.mp m with m | m
        · exact (eloc ▸ F'.lrho) m
        · exact Nat.ne_of_gt hqC (List.mem_singleton.mp m)
      have fin := hQ s' (ρ' ++ [q]) (.ref st'.sto.length) (st'.sto ++ [.list xs]) (.ref q) C0 (by rw [e']; simp only [compD, hlen, if_true, e3]) ad.1 ev rel hC0s hn0 ⟨mm, nm⟩
      cases use with
      | none => exact ⟨mm, nm, fin⟩
      | some u => exact fin
    | error x =>
      obtain ⟨ρ', c, st', a, L, e3, I', x', F', S', rfl, hL, fT⟩ := hr
      obtain ⟨mm, nm, _⟩ := F'.ns
      rw [eloc] at nm
      have main : ∃ m, s'.heap.Ns C0 m ∧ ∀ h', Heap.SameBut C0 s'.heap h' → ∀ cenv : Env, cenv.locals = C0 → wpAny G.M A (passOn "comprehension.variables-let-go" (.ref a) cenv : Sem Value) (fun _ _ => False) E { s' with heap := h' } := by
        refine ⟨mm, nm, fun h' hsb cenv' _ => ?_⟩
        obtain ⟨oC, es, ep, hoC, hdC, _⟩ := id nm
        obtain ⟨I'', x'', S''⟩ := wr_own (P := [C0]) I' hsb (List.mem_singleton.mpr rfl) (b0 C0 hC0s) (eloc ▸ F'.lrho) ⟨oC, hoC, .inl ⟨es, ep, hdC⟩⟩ s'.toks
        obtain ⟨hna, o, vs, T', oT, ts, ho, hc, hd, hsz, t1, t2, t3, t4, t5, t6, t7⟩ := fT
        have ne : ∀ (b : Addr) (ob : Obj) (vs : Array Value), s'.heap.get? b = some ob → ob.data = .fields vs → b ≠ C0 := fun b ob vs e hd z => by
          rw [z, hoC] at e; cases e
          rw [hdC] at hd; cases hd
        have ho' : h'.get? a = some o := (hsb.2 a (ne a o vs ho hd)).trans ho
        have fT' : FlyT s.heap.objs.size h' (rawInt L) a c := ⟨hna, o, vs, T', oT, ts, ho', hc, hd, hsz, t1, t2, t3, (hsb.2 T' (ne T' oT ts t4 t6)).trans t4, t5, t6, t7⟩
        unfold PySem.passOn
        refine wpAny_bind (wpAny_field (s := { s' with heap := h' }) ho' hd t1 ?_)
        rw [if_neg (by simp)]
        refine wpAny_bind (flight_fly (s := { s' with heap := h' }) (G := G) (fr := cenv'.frame) fT' fun h'' N T => ?_)
        refine wpAny_throw (hX _ _ ?_)
        have xall : Ev [] s.heap ρ h' ρ' := (x'.trans (eloc.symm ▸ x'')).less fun p m => .inr (by rw [List.mem_singleton.mp m, eloc]; exact hC0s)
        exact ⟨ρ', c, st'.sto, a, by rw [e']; simp only [compD, hlen, if_true, e3], N.inv I'' b0 s'.toks, N.ev xall, rfl, T.fly⟩
      cases use <;> exact main
  refine codeAny_compStart_list loop (Xs A { s₂ with heap := h₄ } ρ₂ σ₂ src.ds _ _ K.room.hd T₄ loop)

theorem se_comp {elt target iter : Expr} {ifs : List Expr} {scope : Scope} {pos : Pos} {cls : List Nat} {tg : Expr → Prop} {mi : Mn Src} {tf : D → Loc → Option Loc} {mt : Mn Bool} {me : Mn D}
    (hS : CompSt C scope cls) (hI : SI G C iter tg mi) (ht : tg target) (hT : ST G ⟨scope.names, C.tbl, C.lvl⟩ false target tf) (hTs : STst G ⟨scope.names, C.tbl, C.lvl⟩ ifs mt) (hE : SE G ⟨scope.names, C.tbl, C.lvl⟩ elt me)
    (hs : ∀ env x, foldedSetIterable iter env x = pure x) : SE G C (.ListComp elt [⟨target, iter, ifs, 0⟩] scope pos) (bnd mi (compD cls tf mt me)) := .mk <| fun A P env s ρ st K hb => by
  show wpAny G.M A (comprehension (.ListComp elt [⟨target, iter, ifs, 0⟩] scope pos) scope env iter.pos (newList []) false (eval iter env) none) _ _ s
  refine comp_core hS hI ht hT hTs hE hs K hb (fun s' ρ' d σ' v C0 e I' x r hC0 hn ⟨m, nm⟩ => ?_) fun _ _ z => z
  intro h' hsb
  obtain ⟨oC, es, ep, hoC, hdC, _⟩ := id nm
  obtain ⟨I'', x'', S''⟩ := wr_own (P := [C0]) I' hsb (List.mem_singleton.mpr rfl) (K.inv.h0_le hC0) hn ⟨oC, hoC, .inl ⟨es, ep, hdC⟩⟩ s'.toks
  exact ⟨ρ', d, σ', e, I'', (x.nil.trans x'').less fun p m => .inr (by rw [List.mem_singleton.mp m]; exact hC0), Rel.mono S'' _ _ r⟩

/-- a name bound to a comprehension: the store stands ahead of the block's end -/
theorem ss_assign_comp {i : Nat} {x : Str} {np : Pos} {elt target iter : Expr} {ifs : List Expr} {scope : Scope} {cpos pos : Pos} {cls : List Nat} {tg : Expr → Prop} {mi : Mn Src} {tf : D → Loc → Option Loc} {mt : Mn Bool} {me : Mn D}
    (hi : C.tbl[i]? = some x) (hx : C.names.lookup x = some .local)
    (hS : CompSt C scope cls) (hI : SI G C iter tg mi) (ht : tg target) (hT : ST G ⟨scope.names, C.tbl, C.lvl⟩ false target tf) (hTs : STst G ⟨scope.names, C.tbl, C.lvl⟩ ifs mt) (hE : SE G ⟨scope.names, C.tbl, C.lvl⟩ elt me)
    (hs : ∀ env x, foldedSetIterable iter env x = pure x)
    (hsw : ∀ env : Env, env.kindOf x = some .local → env.blockKind = .function → swapsWith (.ListComp elt [⟨target, iter, ifs, 0⟩] scope cpos) (some (.Name x np)) pos.line env = pure true) :
    SS G C (.Assign [.Name x np] (.ListComp elt [⟨target, iter, ifs, 0⟩] scope cpos) pos) (bnd (bnd mi (compD cls tf mt me)) (setvar i)) := .mk <| fun A P env s ρ st K W hb => by
  have hbk : env.blockKind = .function := by unfold Env.blockKind; rw [K.frm.kind]; rfl
  rw [exec_Assign_Name_used (env := env) x np _ pos (hsw env (K.sees.loc x hx) hbk)]
  refine wpAny_bind (wpAny_standAt ?_)
  show wpAny G.M A ((comprehension (.ListComp elt [⟨target, iter, ifs, 0⟩] scope cpos) scope env iter.pos (newList []) false (eval iter env) (some (assign (.Name x np) env)) >>= fun _ => pure ()) >>= fun _ => pure Flow.next) _ _ s
  refine wpAny_bind (wpAny_bind ?_)
  refine comp_core hS hI ht hT hTs hE hs K (bnd_ne_bot hb) (fun s' ρ' d σ' v C0 e I' x' r hC0 hn ⟨m, nm⟩ => ?_) fun ex s' z => ?_
  · have K' := K.step I' x'
    obtain ⟨oC, es, ep, hoC, hdC, rC⟩ := id nm
    have hCP : C0 ∉ P := fun m => by
      rcases (K.frm.own C0 m).2 with z | ⟨y, z⟩
      · obtain ⟨_, n, _⟩ := K.frm.ns
        exact absurd n.lt (by rw [← z]; exact Nat.not_lt.mpr hC0)
      · obtain ⟨_, ov, o, ho, _⟩ := K.frm.cok y C0 z
        exact absurd (Heap.lt_size ho) (Nat.not_lt.mpr hC0)
    refine wpAny_assign_Name (at_store K' hi hx r fun s'' I'' x'' F'' => ⟨m, ns_keep x'' nm hn hCP, fun h' hsb => ?_⟩)
    have nm'' := ns_keep x'' nm hn hCP
    obtain ⟨oC', es', ep', hoC', hdC', _⟩ := id nm''
    obtain ⟨I3, x3, S3⟩ := wr_own (P := C0 :: P) I'' hsb List.mem_cons_self (K.inv.h0_le hC0) hn ⟨oC', hoC', .inl ⟨es', ep', hdC'⟩⟩ s''.toks
    have ev : Ev P s.heap ρ h' ρ' := ((x'.nil.trans (x''.more fun p m => List.mem_cons_of_mem _ m)).trans x3).less fun p m => by
      rcases List.mem_cons.mp m with rfl | m
      · exact .inr hC0
      · exact .inl m
    have F3 : Frm G C.tbl P env h' ρ' (upd st.loc i d) := by
      -- the block's dict is no object of this frame's
      refine ⟨F''.kind, F''.glob, F''.bi, ?_, fun j y e k => ?_, fun y c e => ?_, F''.cinj, F''.lrho, F''.lP, F''.own, F''.tnd⟩
      · obtain ⟨m, n, q⟩ := F''.ns
        exact ⟨m, n.sameBut hsb (fun z => hCP (z ▸ F''.lP)), fun j y e k d hd => let ⟨v, e1, e2⟩ := q j y e k d hd; ⟨v, e1, Rel.mono S3 _ _ e2⟩⟩
      · obtain ⟨c, e1, ov, n, q⟩ := F''.cell j y e k
        exact ⟨c, e1, ov, n.sameBut hsb (fun z => hCP (z ▸ W y c e1)), fun d hd => let ⟨v, e1, e2⟩ := q d hd; ⟨v, e1, Rel.mono S3 _ _ e2⟩⟩
      · obtain ⟨n, ov, z⟩ := F''.cok y c e
        exact ⟨n, ov, z.sameBut hsb (fun z => hCP (z ▸ W y c e))⟩
    exact wpAny_pure (wpAny_pure ⟨ρ', .next, ⟨upd st.loc i d, σ'⟩, by rw [bnd, e]; rfl, I3, ev, F3, rfl⟩)
  · obtain ⟨ρ', c, σ', a, e, I', x', rfl, fl⟩ := z
    exact ⟨ρ', c, ⟨st.loc, σ'⟩, a, by rw [bnd, e], I', x'.nil, K.frm.keep K.inv x', rfl, fl⟩
end
end Mine

/- part F12 -/
set_option Elab.async false
set_option linter.unusedVariables false
namespace Mine
open PySem PyProof.Rows

def truthyD : D → Mn Bool
  | .bool b => ret1 b
  | .int i => ret1 (i != 0)
  | .none => ret1 false
  | .str x => if x.length ≤ sizeLine then ret1 (x.length != 0) else botM
  | _ => botM

theorem if_app {α : Type} {c : Prop} [Decidable c] {f g : Mn α} {st : St} (h : c) : (if c then f else g) st = f st := by rw [if_pos h]
theorem ifn_app {α : Type} {c : Prop} [Decidable c] {f g : Mn α} {st : St} (h : ¬ c) : (if c then f else g) st = g st := by rw [if_neg h]

def notM (m : Mn Bool) : Mn Bool := bnd m fun b => ret1 (!b)
def andM (m n : Mn Bool) : Mn Bool := bnd m fun b => if b then n else ret1 false
def orM (m n : Mn Bool) : Mn Bool := bnd m fun b => if b then ret1 true else n
/-- `and` | `or` as values -/
def andV (m n : Mn D) : Mn D := bnd m fun d => bnd (truthyD d) fun b => if b then n else ret1 d
def orV (m n : Mn D) : Mn D := bnd m fun d => bnd (truthyD d) fun b => if b then ret1 d else n
def notV (m : Mn D) : Mn D := bnd m fun d => bnd (truthyD d) fun b => ret1 (.bool (!b))
def asD (m : Mn Bool) : Mn D := bnd m fun b => ret1 (.bool b)

section
variable {G : Gd} {C : Cx} {A : Around} {P : List Addr} {env : Env} {s : Shared} {ρ : List Addr} {st : St}

theorem at_truthy {d : D} {v : Value} (K : Ok G C A P env s ρ st) (r : Rel G s.heap ρ d v) : At G A env s ρ st RB (truthy v) (truthyD d) := by
  refine At.leaf (fun hb => ?_) K
  cases d with
  | bool b => cases r; exact wpAny_truthy_bool ⟨b, rfl, Grow.same0, rfl⟩
  | int i => simp only [Rel] at r; obtain ⟨t, rfl⟩ := r; exact PySem.P.truthy_int ⟨_, rfl, Grow.same0, rfl⟩
  | none => cases r; exact truthy_none ⟨_, rfl, Grow.same0, rfl⟩
  | str x =>
    simp only [Rel] at r; obtain ⟨t, rfl⟩ := r
    have hz : x.length ≤ sizeLine := by
      by_cases h : x.length ≤ sizeLine
      · exact h
      · exact absurd (ifn_app h) hb
    refine PySem.P.truthy_str (by rw [sizeLine_eq] at hz; omega) ⟨x.length != 0, if_app hz, Grow.same, ?_⟩
    show (x.length != 0) = ((x.length : Int) != 0)
    cases h : x.length with
    | zero => rfl
    | succ n => simp [bne]; omega
  | _ => exact absurd rfl hb

theorem sb_val {e : Expr} {m : Mn D} (h : SE G C e m) (he : ∀ env whole, isTrue e env whole = (do let v ← whole; standAt e.pos; holding [v] (truthy v))) : SB G C e (bnd m truthyD) := .mk <| fun A P env s ρ st K => by
  rw [he]
  refine At.bind K (h.run A P env s ρ st K) fun v s' ρ' d σ' K' x r => ?_
  exact At.stand (At.hold (at_truthy K' r))
theorem sb_not {e : Expr} {pos : Pos} {m : Mn Bool} (h : SB G C e m) : SB G C (.UnaryOp .Not e pos) (notM m) := .mk <| fun A P env s ρ st K => by
  show At G A env s ρ st RB (isTrue e env (eval e env) >>= fun b => pure (!b)) _
  exact At.map (h.run A P env s ρ st K) fun _ _ d v r => by cases r; rfl

/-- the parts of an `and` | `or` as tests -/
structure SBs (G : Gd) (C : Cx) (op : BoolOp) (es : List Expr) (m : Mn Bool) : Prop where
  run : ∀ A P env s ρ st, Ok G C A P env s ρ st → At G A env s ρ st RB (allTrue op es env) m
theorem sbs_and1 {e : Expr} {m : Mn Bool} (h : SB G C e m) : SBs G C .And [e] m := .mk <| fun A P env s ρ st K hb => by
  show wpAny G.M A (isTrue e env (eval e env) >>= fun b => match BoolOp.And, b with | .And, false => pure false | .Or, true => pure true | _, _ => allTrue .And [] env) _ _ s
  refine wpAny_bind (wpAny_mono (h.run A P env s ρ st K hb) (fun b s' q => ?_) fun _ _ q => q)
  cases b <;> exact wpAny_pure q
theorem sbs_or1 {e : Expr} {m : Mn Bool} (h : SB G C e m) : SBs G C .Or [e] m := .mk <| fun A P env s ρ st K hb => by
  show wpAny G.M A (isTrue e env (eval e env) >>= fun b => match BoolOp.Or, b with | .And, false => pure false | .Or, true => pure true | _, _ => allTrue .Or [] env) _ _ s
  refine wpAny_bind (wpAny_mono (h.run A P env s ρ st K hb) (fun b s' q => ?_) fun _ _ q => q)
  cases b <;> exact wpAny_pure q
theorem sbs_and {e : Expr} {es : List Expr} {m n : Mn Bool} (h : SB G C e m) (h2 : SBs G C .And es n) : SBs G C .And (e :: es) (andM m n) := .mk <| fun A P env s ρ st K => by
  show At G A env s ρ st RB (isTrue e env (eval e env) >>= fun b => match BoolOp.And, b with | .And, false => pure false | .Or, true => pure true | _, _ => allTrue .And es env) _
  refine At.bind K (h.run A P env s ρ st K) fun v s' ρ' d σ' K' x r => ?_
  cases (show d = v from r)
  cases v with
  | false => exact At.pure K' rfl
  | true => exact h2.run A P env s' ρ' _ K'
theorem sbs_or {e : Expr} {es : List Expr} {m n : Mn Bool} (h : SB G C e m) (h2 : SBs G C .Or es n) : SBs G C .Or (e :: es) (orM m n) := .mk <| fun A P env s ρ st K => by
  show At G A env s ρ st RB (isTrue e env (eval e env) >>= fun b => match BoolOp.Or, b with | .And, false => pure false | .Or, true => pure true | _, _ => allTrue .Or es env) _
  refine At.bind K (h.run A P env s ρ st K) fun v s' ρ' d σ' K' x r => ?_
  cases (show d = v from r)
  cases v with
  | false => exact h2.run A P env s' ρ' _ K'
  | true => exact At.pure K' rfl
theorem sb_bool {op : BoolOp} {es : List Expr} {pos : Pos} {m : Mn Bool} (h : SBs G C op es m) : SB G C (.BoolOp op es pos) m := .mk <| fun A P env s ρ st K => h.run A P env s ρ st K

/-- the parts of an `and` | `or` as values -/
structure SVs (G : Gd) (C : Cx) (op : BoolOp) (es : List Expr) (m : Mn D) : Prop where
  run : ∀ A P env s ρ st pos, Ok G C A P env s ρ st → At G A env s ρ st (RV G) (boolOp pos op (evalEach es env)) m
theorem svs_one {op : BoolOp} {e : Expr} {m : Mn D} (h : SE G C e m) : SVs G C op [e] m := .mk <| fun A P env s ρ st pos K => h.run A P env s ρ st K
theorem svs_and {e e' : Expr} {es : List Expr} {m n : Mn D} (h : SE G C e m) (h2 : SVs G C .And (e' :: es) n) : SVs G C .And (e :: e' :: es) (andV m n) := .mk <| fun A P env s ρ st pos K => by
  show At G A env s ρ st (RV G) (eval e env >>= fun v => standAt pos >>= fun _ => holding [v] (truthy v) >>= fun t => match BoolOp.And, t with | .And, false | .Or, true => pure v | _, _ => boolOp pos .And (evalEach (e' :: es) env)) _
  refine At.bind K (h.run A P env s ρ st K) fun v s' ρ' d σ' K' x r => ?_
  refine At.stand (At.bind K' (At.hold (at_truthy K' r)) fun t s'' ρ'' b σ'' K'' x2 rb => ?_)
  cases (show b = t from rb)
  cases t with
  | false => exact At.pure K'' (Rel.mono (x2.stb K'.inv .nil) _ _ r)
  | true => exact h2.run A P env s'' ρ'' _ pos K''
theorem svs_or {e e' : Expr} {es : List Expr} {m n : Mn D} (h : SE G C e m) (h2 : SVs G C .Or (e' :: es) n) : SVs G C .Or (e :: e' :: es) (orV m n) := .mk <| fun A P env s ρ st pos K => by
  show At G A env s ρ st (RV G) (eval e env >>= fun v => standAt pos >>= fun _ => holding [v] (truthy v) >>= fun t => match BoolOp.Or, t with | .And, false | .Or, true => pure v | _, _ => boolOp pos .Or (evalEach (e' :: es) env)) _
  refine At.bind K (h.run A P env s ρ st K) fun v s' ρ' d σ' K' x r => ?_
  refine At.stand (At.bind K' (At.hold (at_truthy K' r)) fun t s'' ρ'' b σ'' K'' x2 rb => ?_)
  cases (show b = t from rb)
  cases t with
  | false => exact h2.run A P env s'' ρ'' _ pos K''
  | true => exact At.pure K'' (Rel.mono (x2.stb K'.inv .nil) _ _ r)
theorem se_boolop {op : BoolOp} {es : List Expr} {pos : Pos} {m : Mn D} (h : SVs G C op es m) : SE G C (.BoolOp op es pos) m := .mk <| fun A P env s ρ st K => h.run A P env s ρ st pos K
theorem se_not {e : Expr} {pos : Pos} {m : Mn D} (h : SE G C e m) : SE G C (.UnaryOp .Not e pos) (notV m) := .mk <| fun A P env s ρ st K => by
  show At G A env s ρ st (RV G) (eval e env >>= fun v => standAt pos >>= fun _ => holding [v] (unaryOp .Not v)) _
  refine At.bind K (h.run A P env s ρ st K) fun v s' ρ' d σ' K' x r => ?_
  refine At.stand (At.hold (fun hb => ?_))
  refine not_of (wpAny_mono (at_truthy K' r (bnd_ne_bot hb)) (fun c s'' q => ?_) fun ex s'' q => ?_)
  · obtain ⟨ρ'', b, σ'', e, I'', x'', rb⟩ := q
    cases (show b = c from rb)
    exact ⟨ρ'', .bool (!c), σ'', by simp only [bnd, e, ret1], I'', x'', rfl⟩
  · obtain ⟨ρ'', c, σ'', a, e, I'', x'', rfl, fl⟩ := q
    exact ⟨ρ'', c, σ'', a, by simp only [bnd, e], I'', x'', rfl, fl⟩
theorem se_ifexp {c e1 e2 : Expr} {pos : Pos} {mc : Mn Bool} {m1 m2 : Mn D} (hc : SB G C c mc) (h1 : SE G C e1 m1) (h2 : SE G C e2 m2) : SE G C (.IfExp c e1 e2 pos) (bnd mc fun b => if b then m1 else m2) := .mk <| fun A P env s ρ st K => by
  show At G A env s ρ st (RV G) (isTrue c env (eval c env) >>= fun b => if b then eval e1 env else eval e2 env) _
  refine At.bind K (hc.run A P env s ρ st K) fun v s' ρ' d σ' K' x r => ?_
  cases (show d = v from r)
  cases v with
  | true => exact h1.run A P env s' ρ' _ K'
  | false => exact h2.run A P env s' ρ' _ K'

theorem at_release {α β : Type} {R : Heap → List Addr → β → α → Prop} {t : Sem α} {m : Mn β} {vs ks : List Value} (h : At G A env s ρ st R t m) : At G A env s ρ st R (release vs ks >>= fun _ => t) m := fun hb => wpAny_bind (wpAny_release' (h hb))

/-! comparisons -/
def CmpOk (G : Gd) (op : CmpOp) (f : D → D → Mn D) : Prop :=
  ∀ C A P env s ρ st d1 d2 v1 v2, Ok G C A P env s ρ st → Rel G s.heap ρ d1 v1 → Rel G s.heap ρ d2 v2 → At G A env s ρ st (RV G) (compareOp op v1 v2) (f d1 d2)

theorem se_cmp {l r : Expr} {op : CmpOp} {pos : Pos} {m1 m2 : Mn D} {f : D → D → Mn D} (ho : CmpOk G op f) (h1 : SE G C l m1) (h2 : SE G C r m2) (hm : behindInMarks op r = false) :
    SE G C (.Compare l [op] [r] pos) (bnd m1 fun a => bnd m2 fun b => f a b) := .mk <| fun A P env s ρ st K => by
  show At G A env s ρ st (RV G) (eval l env >>= fun a => holding [a] (markedBehindIn op r (eval r env)) >>= fun b => standAt pos >>= fun _ => operate [a, b] (compareOp op a b)) _
  rw [markedBehindIn_of_false hm]
  refine At.bind K (h1.run A P env s ρ st K) fun v s' ρ' d σ' K' x r1 => ?_
  refine At.bind K' (h2.run A P env s' ρ' _ K').hold fun v2 s'' ρ'' d2 σ'' K'' x2 r2 => ?_
  exact At.stand (At.operate (ho C A P env s'' ρ'' _ d d2 v v2 K'' (Rel.mono (x2.stb K'.inv .nil) _ _ r1) r2))
theorem sb_cmp {l r : Expr} {op : CmpOp} {pos : Pos} {m1 m2 : Mn D} {f : D → D → Mn D} (ho : CmpOk G op f) (h1 : SE G C l m1) (h2 : SE G C r m2) (hm : behindInMarks op r = false) :
    SB G C (.Compare l [op] [r] pos) (bnd m1 fun a => bnd m2 fun b => bnd (f a b) truthyD) := .mk <| fun A P env s ρ st K => by
  show At G A env s ρ st RB (eval l env >>= fun a => holding [a] (markedBehindIn op r (eval r env)) >>= fun b => standAt pos >>= fun _ => operate [a, b] (compareOp op a b) >>= fun c => holding [c] (truthy c)) _
  rw [markedBehindIn_of_false hm]
  refine At.bind K (h1.run A P env s ρ st K) fun v s' ρ' d σ' K' x r1 => ?_
  refine At.bind K' (h2.run A P env s' ρ' _ K').hold fun v2 s'' ρ'' d2 σ'' K'' x2 r2 => ?_
  refine At.stand (At.bind K'' (At.operate (ho C A P env s'' ρ'' _ d d2 v v2 K'' (Rel.mono (x2.stb K'.inv .nil) _ _ r1) r2)) fun c s₃ ρ₃ dc σ₃ K₃ x3 rc => ?_)
  exact At.hold (at_truthy K₃ rc)
/-- a chain of two comparisons -/
theorem sb_cmp2 {l r q : Expr} {op op' : CmpOp} {pos : Pos} {m1 m2 m3 : Mn D} {f g : D → D → Mn D} (ho : CmpOk G op f) (ho' : CmpOk G op' g) (h1 : SE G C l m1) (h2 : SE G C r m2) (h3 : SE G C q m3) (hm : lastMarks [op, op'] [r, q] = false) :
    SB G C (.Compare l [op, op'] [r, q] pos) (bnd m1 fun a => bnd m2 fun b => bnd (f a b) fun c => bnd (truthyD c) fun t => if t then (bnd m3 fun c => bnd (g b c) truthyD) else ret1 false) := .mk <| fun A P env s ρ st K => by
  show At G A env s ρ st RB (eval l env >>= fun a => testChain pos a [op, op'] (markedEach [op, op'] [r, q] [eval r env, eval q env])) _
  rw [markedEach_of_false _ _ _ hm]
  refine At.bind K (h1.run A P env s ρ st K) fun v s' ρ' d σ' K' x r1 => ?_
  show At G A env s' ρ' _ RB (holding [v] (eval r env) >>= fun rv => standAt pos >>= fun _ => holding [v, rv] (compareOp op v rv) >>= fun c => release [v, rv] [c] >>= fun _ => holding [c, rv] (truthy c) >>= fun t => if t then (holding [rv] (eval q env) >>= fun qv => standAt pos >>= fun _ => operate [rv, qv] (compareOp op' rv qv) >>= fun c => holding [c] (truthy c)) else pure false) _
  refine At.bind K' (h2.run A P env s' ρ' _ K').hold fun v2 s'' ρ'' d2 σ'' K'' x2 r2 => ?_
  refine At.stand (At.bind K'' (At.hold (ho C A P env s'' ρ'' _ d d2 v v2 K'' (Rel.mono (x2.stb K'.inv .nil) _ _ r1) r2)) fun c s₃ ρ₃ dc σ₃ K₃ x3 rc => ?_)
  refine at_release (At.bind K₃ (At.hold (at_truthy K₃ rc)) fun t s₄ ρ₄ b σ₄ K₄ x4 rb => ?_)
  cases (show b = t from rb)
  cases t with
  | false => exact At.pure K₄ rfl
  | true =>
    refine At.bind K₄ (h3.run A P env s₄ ρ₄ _ K₄).hold fun v3 s₅ ρ₅ d3 σ₅ K₅ x5 r3 => ?_
    refine At.stand (At.bind K₅ (At.operate (ho' C A P env s₅ ρ₅ _ d2 d3 v2 v3 K₅ (Rel.mono (x5.stb K₄.inv .nil) _ _ (Rel.mono (x4.stb K₃.inv .nil) _ _ (Rel.mono (x3.stb K''.inv .nil) _ _ r2))) r3)) fun c s₆ ρ₆ dc σ₆ K₆ x6 rc => ?_)
    exact At.hold (at_truthy K₆ rc)

/-! the operations upon ints and texts -/
def pAdd0 : D → D → Mn D
  | .int a, .int b => ret1 (.int (a + b))
  | .str x, .str y => if x.length + y.length ≤ sizeLine then ret1 (.str (x ++ y)) else botM
  | _, _ => botM
def pMod : D → D → Mn D
  | .int a, .int b => if b ≠ 0 then ret1 (.int (a.fmod b)) else botM
  | _, _ => botM
def small64 (a : Int) : Bool := decide (-(2 ^ 63) < a) && decide (a < 2 ^ 63)
def pMulI : D → D → Mn D
  | .int a, .int b => if small64 a || small64 b then ret1 (.int (a * b)) else botM
  | _, _ => botM
def pNeg : D → Mn D
  | .int a => ret1 (.int (-a))
  | _ => botM
theorem small64_bits {a : Int} (h : small64 a = true) : Builtin.Int.intBits a ≤ 64 := by
  simp only [small64, Bool.and_eq_true, decide_eq_true_eq] at h
  exact intBits_le_64 (by omega) (by omega)

theorem bin_sub : BinOk G .Sub pSub := fun C A P env s ρ st d1 d2 v1 v2 K r1 r2 => by
  refine At.leaf (fun hb => ?_) K
  cases d1 <;> cases d2 <;> first | exact absurd rfl hb | skip
  simp only [Rel] at r1 r2
  obtain ⟨t, rfl⟩ := r1; obtain ⟨u, rfl⟩ := r2
  exact PySem.P.sub_int ⟨_, rfl, Grow.same, _, rfl⟩
theorem bin_div : BinOk G .FloorDiv pDiv := fun C A P env s ρ st d1 d2 v1 v2 K r1 r2 => by
  refine At.leaf (fun hb => ?_) K
  cases d1 <;> cases d2 <;> first | exact absurd rfl hb | skip
  rename_i a b
  simp only [Rel] at r1 r2
  obtain ⟨t, rfl⟩ := r1; obtain ⟨u, rfl⟩ := r2
  by_cases h : b ≠ 0 ∧ b.natAbs < 1073741824
  · exact floordiv_int h.1 ⟨_, if_app h, Grow.same, _, rfl⟩ (.inl (PyProof.noPylong_small h.2))
  · exact absurd (ifn_app h) hb
theorem bin_mod : BinOk G .Mod pMod := fun C A P env s ρ st d1 d2 v1 v2 K r1 r2 => by
  refine At.leaf (fun hb => ?_) K
  cases d1 <;> cases d2 <;> first | exact absurd rfl hb | skip
  rename_i a b
  simp only [Rel] at r1 r2
  obtain ⟨t, rfl⟩ := r1; obtain ⟨u, rfl⟩ := r2
  by_cases h : b ≠ 0
  · exact mod_int' h ⟨_, if_app h, Grow.same, _, rfl⟩
  · exact absurd (ifn_app h) hb
theorem bin_mulI : BinOk G .Mult pMulI := fun C A P env s ρ st d1 d2 v1 v2 K r1 r2 => by
  refine At.leaf (fun hb => ?_) K
  cases d1 <;> cases d2 <;> first | exact absurd rfl hb | skip
  rename_i a b
  simp only [Rel] at r1 r2
  obtain ⟨t, rfl⟩ := r1; obtain ⟨u, rfl⟩ := r2
  by_cases h : (small64 a || small64 b) = true
  · refine PySem.P.mul_int ⟨_, if_app h, Grow.same, _, rfl⟩ ?_
    rcases Bool.or_eq_true_iff.mp h with h | h
    · exact IntMulOk.of_left (small64_bits h)
    · exact IntMulOk.of_right (small64_bits h)
  · exact absurd (ifn_app h) hb
theorem str_empty_append {x y : Str} (h : (x.length == 0) = true) : x ++ y = y := by
  have : x = Str.empty := by
    obtain ⟨c⟩ := x
    have : c.size = 0 := by simpa [Str.length] using h
    simp [Str.empty, Array.eq_empty_of_size_eq_zero this]
  rw [this]; exact Str.empty_append y
theorem str_append_empty {x y : Str} (h : (y.length == 0) = true) : x ++ y = x := by
  obtain ⟨c⟩ := y
  have hc : c.size = 0 := by simpa [Str.length] using h
  obtain ⟨b⟩ := x
  show Str.mk (b ++ c) = _
  rw [Array.eq_empty_of_size_eq_zero hc]; simp
theorem at_addStr {x y : Str} {t u : Tok} (K : Ok G C A P env s ρ st) : At G A env s ρ st (RV G) (binaryOp .Add (.str x t) (.str y u)) (if x.length + y.length ≤ sizeLine then ret1 (.str (x ++ y)) else botM) := by
  refine At.leaf (fun hb => ?_) K
  have hz : x.length + y.length ≤ sizeLine := by
    by_cases h : x.length + y.length ≤ sizeLine
    · exact h
    · exact absurd (ifn_app h) hb
  simp only [hz, if_true]
  refine PySem.P.add_str ?_
  split
  · rename_i h; rw [str_empty_append h]; exact ⟨_, rfl, Grow.same0, _, rfl⟩
  · split
    · rename_i h; rw [str_append_empty h]; exact ⟨_, rfl, Grow.same0, _, rfl⟩
    · exact ⟨by rw [Str.length_append]; exact hz, _, rfl, Grow.same, _, rfl⟩
theorem bin_add0 : BinOk G .Add pAdd0 := fun C A P env s ρ st d1 d2 v1 v2 K r1 r2 => by
  cases d1 <;> cases d2 <;> first | exact fun hb => absurd rfl hb | skip
  · simp only [Rel] at r1 r2
    obtain ⟨t, rfl⟩ := r1; obtain ⟨u, rfl⟩ := r2
    exact At.leaf (fun hb => PySem.P.add_int ⟨_, rfl, Grow.same, _, rfl⟩) K
  · simp only [Rel] at r1 r2
    obtain ⟨t, rfl⟩ := r1; obtain ⟨u, rfl⟩ := r2
    exact at_addStr K
theorem se_neg {e : Expr} {pos : Pos} {m : Mn D} (h : SE G C e m) : SE G C (.UnaryOp .USub e pos) (bnd m pNeg) := .mk <| fun A P env s ρ st K => by
  show At G A env s ρ st (RV G) (eval e env >>= fun v => standAt pos >>= fun _ => holding [v] (unaryOp .USub v)) _
  refine At.bind K (h.run A P env s ρ st K) fun v s' ρ' d σ' K' x r => ?_
  refine At.stand (At.hold (At.leaf (fun hb => ?_) K'))
  cases d <;> first | exact absurd rfl hb | skip
  simp only [Rel] at r
  obtain ⟨t, rfl⟩ := r
  exact PySem.P.neg_int ⟨_, rfl, Grow.same, _, rfl⟩

def pLt : D → D → Mn D
  | .int a, .int b => ret1 (.bool (decide (a < b)))
  | .str x, .str y => ret1 (.bool (decide (x.cps.toList < y.cps.toList)))
  | _, _ => botM
def pGt : D → D → Mn D
  | .int a, .int b => ret1 (.bool (decide (a > b)))
  | .str x, .str y => ret1 (.bool (decide (y.cps.toList < x.cps.toList)))
  | _, _ => botM
def pLe : D → D → Mn D
  | .int a, .int b => ret1 (.bool (decide (a ≤ b)))
  | _, _ => botM
def pGe : D → D → Mn D
  | .int a, .int b => ret1 (.bool (decide (a ≥ b)))
  | _, _ => botM
/-- == of ints and of texts -/
def pEq0 : D → D → Mn D
  | .int a, .int b => ret1 (.bool (a == b))
  | .str x, .str y => ret1 (.bool (x.cps.toList == y.cps.toList))
  | _, _ => botM
def pNe0 : D → D → Mn D
  | .int a, .int b => ret1 (.bool (a != b))
  | .str x, .str y => ret1 (.bool (x.cps.toList != y.cps.toList))
  | _, _ => botM
theorem gt_str {x y : Str} {t u : Tok} {Q : Value → Shared → Prop} {E : Value → Shared → Prop} (h : Q (.bool (decide (y.cps.toList < x.cps.toList))) s) : wpAny G.M A (compareOp .Gt (.str x t) (.str y u)) Q E s :=
  compareOp_gives (op := .Gt) (typeIs_str s x t) (typeIs_str s y u) F.slot_str_gt F.entry_str_gt (F.args_str_gt_2 _ _) (gives_str_gt x y t u) (fun e => nomatch e) h
theorem cmp_lt : CmpOk G .Lt pLt := fun C A P env s ρ st d1 d2 v1 v2 K r1 r2 => by
  refine At.leaf (fun hb => ?_) K
  cases d1 <;> cases d2 <;> first | exact absurd rfl hb | skip
  all_goals (simp only [Rel] at r1 r2; obtain ⟨t, rfl⟩ := r1; obtain ⟨u, rfl⟩ := r2)
  · exact PySem.P.lt_int ⟨_, rfl, Grow.same0, rfl⟩
  · exact PySem.P.lt_str ⟨_, rfl, Grow.same0, rfl⟩
theorem cmp_gt : CmpOk G .Gt pGt := fun C A P env s ρ st d1 d2 v1 v2 K r1 r2 => by
  refine At.leaf (fun hb => ?_) K
  cases d1 <;> cases d2 <;> first | exact absurd rfl hb | skip
  all_goals (simp only [Rel] at r1 r2; obtain ⟨t, rfl⟩ := r1; obtain ⟨u, rfl⟩ := r2)
  · exact PySem.P.gt_int ⟨_, rfl, Grow.same0, rfl⟩
  · exact gt_str ⟨_, rfl, Grow.same0, rfl⟩
theorem cmp_le : CmpOk G .LtE pLe := fun C A P env s ρ st d1 d2 v1 v2 K r1 r2 => by
  refine At.leaf (fun hb => ?_) K
  cases d1 <;> cases d2 <;> first | exact absurd rfl hb | skip
  all_goals (simp only [Rel] at r1 r2; obtain ⟨t, rfl⟩ := r1; obtain ⟨u, rfl⟩ := r2)
  exact PySem.P.le_int ⟨_, rfl, Grow.same0, rfl⟩
theorem cmp_ge : CmpOk G .GtE pGe := fun C A P env s ρ st d1 d2 v1 v2 K r1 r2 => by
  refine At.leaf (fun hb => ?_) K
  cases d1 <;> cases d2 <;> first | exact absurd rfl hb | skip
  all_goals (simp only [Rel] at r1 r2; obtain ⟨t, rfl⟩ := r1; obtain ⟨u, rfl⟩ := r2)
  exact PySem.P.ge_int ⟨_, rfl, Grow.same0, rfl⟩
theorem cmp_eq0 : CmpOk G .Eq pEq0 := fun C A P env s ρ st d1 d2 v1 v2 K r1 r2 => by
  refine At.leaf (fun hb => ?_) K
  cases d1 <;> cases d2 <;> first | exact absurd rfl hb | skip
  all_goals (simp only [Rel] at r1 r2; obtain ⟨t, rfl⟩ := r1; obtain ⟨u, rfl⟩ := r2)
  · exact PySem.P.eq_int ⟨_, rfl, Grow.same0, rfl⟩
  · exact PySem.P.eq_str ⟨_, rfl, Grow.same0, rfl⟩
theorem cmp_ne0 : CmpOk G .NotEq pNe0 := fun C A P env s ρ st d1 d2 v1 v2 K r1 r2 => by
  refine At.leaf (fun hb => ?_) K
  cases d1 <;> cases d2 <;> first | exact absurd rfl hb | skip
  all_goals (simp only [Rel] at r1 r2; obtain ⟨t, rfl⟩ := r1; obtain ⟨u, rfl⟩ := r2)
  · exact PySem.P.ne_int ⟨_, rfl, Grow.same0, rfl⟩
  · exact PySem.P.ne_str ⟨_, rfl, Grow.same0, rfl⟩
end
end Mine

/- part F13 -/
set_option Elab.async false
set_option linter.unusedVariables false
namespace Mine
open PySem PyProof.Rows

section
variable {G : Gd} {C : Cx} {A : Around} {P : List Addr} {env : Env} {s : Shared} {ρ : List Addr} {st : St}

/-! an item of a sequence -/
def inLong (i : Int) : Bool := decide (-(2 ^ 63) ≤ i) && decide (i < 2 ^ 63)
theorem inLong_iff {i : Int} : inLong i = true ↔ -(2 ^ 63) ≤ i ∧ i < 2 ^ 63 := by simp [inLong]
def optM {α : Type} : Option α → Mn α
  | some a => ret1 a
  | none => botM
def pIdx : D → D → Mn D
  | .str x, .int i => if inLong i then optM (((seqIndex? i x.length).bind (x.cps[·]?)).map fun c => .str ⟨#[c]⟩) else botM
  | .tup ds, .int i => if inLong i then optM ((seqIndex? i ds.length).bind (ds[·]?)) else botM
  | .ref k, .int i => fun st => match st.sto[k]? with
    | some (.list ds) => if inLong i then optM ((seqIndex? i ds.length).bind (ds[·]?)) st else .bot
    | _ => .bot
  | .scr ns, .int i => if 0 ≤ i ∧ i < 2 ^ 63 then optM (ns[i.toNat]?.map D.int) else botM
  | _, _ => botM

theorem All2.get' {α β : Type} {R : α → β → Prop} {l : List α} {l' : List β} (h : All2 R l l') : ∀ (i : Nat) (a : α), l[i]? = some a → ∃ b, l'[i]? = some b ∧ R a b := by
  induction h with
  | nil => intro i b e; simp at e
  | cons x _ ih =>
    intro i b e
    cases i with
    | zero => simp at e; subst e; exact ⟨_, by simp, x⟩
    | succ i => simp at e; obtain ⟨a, ha, r⟩ := ih i b e; exact ⟨a, by simpa using ha, r⟩

theorem RelL.size {h : Heap} {ds : List D} {vs : Array Value} (r : RelL G h ρ ds vs.toList) : vs.size = ds.length := by have := r.all2.length; simpa using this
theorem IsInts.size {vs : Array Value} {ns : List Int} (r : IsInts vs.toList ns) : vs.size = ns.length := by have := All2.length r; simpa using this
theorem ite_bot {α : Type} {c : Bool} {f : Mn α} (h : (if c then f else botM) st ≠ .bot) : c = true := by
  cases c with
  | true => rfl
  | false => exact absurd rfl h
theorem itep_bot {α : Type} {c : Prop} [Decidable c] {f : Mn α} (h : (if c then f else botM) st ≠ .bot) : c := by
  by_cases z : c
  · exact z
  · exact absurd (ifn_app z) h
theorem optM_bot {α : Type} {o : Option α} (h : optM o st ≠ .bot) : ∃ a, o = some a := by
  cases o with
  | none => exact absurd rfl h
  | some a => exact ⟨a, rfl⟩

theorem getItem_list {l : Addr} {items : Array Value} {k : Int} {t : Tok} {j : Nat} {x : Value} {Q : Value → Shared → Prop} {E : Value → Shared → Prop} (hl : s.heap.IsList l items) (hi : inLong k = true) (hj : seqIndex? k items.size = some j) (hx : items[j]? = some x) (h : Q x s) :
    wpAny G.M A (getItem (.ref l) (.int k t)) Q E s := by
  have hi' := inLong_iff.mp hi
  by_cases h0 : 0 ≤ k
  · have : j = k.toNat := by
      unfold seqIndex? at hj
      simp only [show ¬ k < 0 by omega, if_false] at hj
      split at hj
      · cases hj; rfl
      · cases hj
    subst this
    exact wpAny_getItem_list hl h0 hi'.2 hx h
  · have h1 : -(items.size : Int) ≤ k := by
      unfold seqIndex? at hj
      simp only [show k < 0 by omega, if_true] at hj
      split at hj
      · rename_i z
        simp only [Bool.and_eq_true, decide_eq_true_eq] at z
        omega
      · cases hj
    rw [seqIndex_neg (by omega) h1] at hj
    cases hj
    exact wpAny_getItem_list_neg hl (by omega) h1 hi'.1 hx h

theorem at_idx {d1 d2 : D} {o i : Value} {value slice : Expr} (K : Ok G C A P env s ρ st) (r1 : Rel G s.heap ρ d1 o) (r2 : Rel G s.heap ρ d2 i) (hs : ∀ o i, subscripted slice false o i = operate [o, i] (getItem o i)) :
    At G A env s ρ st (RV G) (subscriptTail value slice o i) (pIdx d1 d2) := by
  refine At.leaf (fun hb => ?_) K
  cases d1 <;> cases d2 <;> first | exact absurd rfl hb | skip
  · -- a text
    simp only [Rel] at r1 r2
    obtain ⟨t, rfl⟩ := r1; obtain ⟨u, rfl⟩ := r2
    simp only [pIdx] at hb ⊢
    have h1 := ite_bot hb
    rw [if_app h1] at hb ⊢
    obtain ⟨y, hy⟩ := optM_bot hb
    rw [hy]
    obtain ⟨c, hc, rfl⟩ := Option.map_eq_some_iff.mp hy
    have h1' := inLong_iff.mp h1
    exact tail_any (typeIs_str s _ t) F.slot_str_getitem.lookup (PySem.P.getItem_str (by simp; omega) hc ⟨_, rfl, Grow.same, _, rfl⟩) (hs _ _)
  · -- a tuple
    simp only [Rel] at r1 r2
    obtain ⟨a, vs, rfl, hna, ⟨n, ho⟩, r⟩ := r1; obtain ⟨u, rfl⟩ := r2
    simp only [pIdx] at hb ⊢
    have h1 := ite_bot hb
    rw [if_app h1] at hb ⊢
    obtain ⟨y, hy⟩ := optM_bot hb
    rw [hy]
    obtain ⟨j, hj, hd⟩ := Option.bind_eq_some_iff.mp hy
    have h1' := inLong_iff.mp h1
    have hlen := r.size
    obtain ⟨v, hv, rv⟩ := r.all2.get j y hd
    have ht : IsTup s.heap a vs := ⟨_, ho, rfl, n, rfl⟩
    exact tail_any ht.typeIs slot_tuple_getitem.lookup (getItem_tuple ht h1'.1 h1'.2 (hlen ▸ hj) (by simpa using hv) ⟨_, rfl, Grow.same0, rv⟩) (hs _ _)
  · -- a list
    rename_i k i'
    simp only [Rel] at r1 r2
    obtain ⟨a, rfl, e1⟩ := r1; obtain ⟨u, rfl⟩ := r2
    cases e : st.sto[k]? with
    | none => exact absurd (by simp only [pIdx, e]) hb
    | some o =>
      cases o with
      | list ds =>
        simp only [pIdx, e] at hb ⊢
        have h1 : inLong i' = true := by
          cases z : inLong i' with
          | true => rfl
          | false => exact absurd (by simp [z]) hb
        rw [if_pos h1] at hb ⊢
        obtain ⟨y, hy⟩ := optM_bot hb
        rw [hy]
        obtain ⟨vs, hl, r⟩ := K.inv.sto k a _ e1 e
        obtain ⟨j, hj, hd⟩ := Option.bind_eq_some_iff.mp hy
        have hlen := r.size
        obtain ⟨v, hv, rv⟩ := r.all2.get j y hd
        exact tail_any hl.list.typeIs slot_list_getitem.lookup (getItem_list hl.list h1 (hlen ▸ hj) (by simpa using hv) ⟨_, rfl, Grow.same0, rv⟩) (hs _ _)
      | dict _ => exact absurd (by simp only [pIdx, e]) hb
      | priv => exact absurd (by simp only [pIdx, e]) hb
  · -- the script
    simp only [Rel] at r1 r2
    obtain ⟨a, vs, rfl, hl, hi⟩ := r1; obtain ⟨u, rfl⟩ := r2
    simp only [pIdx] at hb ⊢
    have h1 := itep_bot hb
    rw [if_app h1] at hb ⊢
    obtain ⟨y, hy⟩ := optM_bot hb
    rw [hy]
    obtain ⟨c, hc, rfl⟩ := Option.map_eq_some_iff.mp hy
    obtain ⟨v, hv, t, rfl⟩ := hi.get _ _ hc
    have hl' := Grow.list K.inv.base hl
    exact tail_any hl'.typeIs slot_list_getitem.lookup (wpAny_getItem_list hl' h1.1 h1.2 (by simpa using hv) ⟨_, rfl, Grow.same0, _, rfl⟩) (hs _ _)

theorem se_sub {v sl : Expr} {pos : Pos} {m1 m2 : Mn D} (h1 : SE G C v m1) (h2 : SE G C sl m2) (hs : ∀ o i, subscripted sl false o i = operate [o, i] (getItem o i)) :
    SE G C (.Subscript v sl pos) (bnd m1 fun a => bnd m2 fun b => pIdx a b) := .mk <| fun A P env s ρ st K => by
  refine At.ofEq (t' := do let o ← eval v env; let i ← holding [o] (eval sl env); standAt pos; subscriptTail v sl o i) (by rw [eval_Subscript]; rfl) ?_
  refine At.bind K (h1.run A P env s ρ st K) fun v s' ρ' d σ' K' x r1 => ?_
  refine At.bind K' (h2.run A P env s' ρ' _ K').hold fun v2 s'' ρ'' d2 σ'' K'' x2 r2 => ?_
  exact At.stand (at_idx K'' (Rel.mono (x2.stb K'.inv .nil) _ _ r1) r2 hs)

/-! len -/
def pLen : List D → Mn D
  | [.str x] => if x.length < 2 ^ 62 then ret1 (.int x.length) else botM
  | [.tup ds] => if ds.length < 2 ^ 62 then ret1 (.int ds.length) else botM
  | [.scr ns] => if ns.length < 2 ^ 62 then ret1 (.int ns.length) else botM
  | [.ref k] => fun st => match st.sto[k]? with
    | some (.list ds) => if ds.length < 2 ^ 62 then .ok (.int ds.length) st else .bot
    | _ => .bot
  | _ => botM
theorem bf_len : BF G "len" pLen := fun C A P env s ρ st ds vs K r => by
  refine At.leaf (fun hb => ?_) K
  match ds, r with
  | [], _ => exact absurd rfl hb
  | [d], r =>
    simp only [RelL] at r
    obtain ⟨v, _, rfl, r, rfl⟩ := r
    cases d <;> first | exact absurd rfl hb | skip
    · simp only [Rel] at r
      obtain ⟨t, rfl⟩ := r
      simp only [pLen] at hb ⊢
      have h1 := itep_bot hb
      rw [if_app h1]
      exact PySem.P.len_str (by omega) ⟨_, rfl, Grow.same, _, rfl⟩
    · simp only [Rel] at r
      obtain ⟨a, vs, rfl, hna, ⟨n, ho⟩, r⟩ := r
      simp only [pLen] at hb ⊢
      have h1 := itep_bot hb
      rw [if_app h1]
      have hlen := r.size
      exact len_tuple ⟨_, ho, rfl, n, rfl⟩ (by omega) ⟨_, rfl, Grow.same, _, by rw [hlen]⟩
    · rename_i k
      simp only [Rel] at r
      obtain ⟨a, rfl, e1⟩ := r
      cases e : st.sto[k]? with
      | none => exact absurd (by simp only [pLen, e]) hb
      | some o =>
        cases o with
        | list ds =>
          simp only [pLen, e] at hb ⊢
          have h1 : ds.length < 2 ^ 62 := by
            by_cases z : ds.length < 2 ^ 62
            · exact z
            · exact absurd (if_neg z) hb
          rw [if_pos h1]
          obtain ⟨vs, hl, r⟩ := K.inv.sto k a _ e1 e
          have hlen := r.size
          exact Calls.call_len_list hl.list (by omega) ⟨_, rfl, Grow.same, _, by rw [hlen]⟩
        | dict _ => exact absurd (by simp only [pLen, e]) hb
        | priv => exact absurd (by simp only [pLen, e]) hb
    · simp only [Rel] at r
      obtain ⟨a, vs, rfl, hl, hi⟩ := r
      simp only [pLen] at hb ⊢
      have h1 := itep_bot hb
      rw [if_app h1]
      have hl' := Grow.list K.inv.base hl
      have hlen := IsInts.size hi
      exact Calls.call_len_list hl' (by omega) ⟨_, rfl, Grow.same, _, by rw [hlen]⟩
  | a :: b :: l, _ => exact absurd (by cases a <;> rfl) hb
end
end Mine

/- part F14 -/
set_option Elab.async false
set_option linter.unusedVariables false
set_option maxRecDepth 4000
namespace Mine
open PySem PyProof.Rows

/-! isinstance of built-in types -/
def tyD : D → Sto → Option String
  | .none, _ => some "NoneType"
  | .bool _, _ => some "bool"
  | .int _, _ => some "int"
  | .str _, _ => some "str"
  | .tup _, _ => some "tuple"
  | .scr _, _ => some "list"
  | .ref k, σ => match σ[k]? with
    | some (.list _) => some "list"
    | some (.dict _) => some "dict"
    | _ => none
  | .exc _, _ => none
def subB (T' T : String) : Bool := T' == T || (T' == "bool" && T == "int")
def pIsi (T : String) (d : D) : Mn D := fun st => match tyD d st.sto with
  | some T' => .ok (.bool (subB T' T)) st
  | none => .bot
structure TyF (T : String) : Prop where
  hty : typeOf (.type T) = pure (.type "type")
  sub : ∀ T', T' ∈ ["NoneType", "bool", "int", "str", "tuple", "list", "dict"] → isSubtype (.type T') (.type T) = pure (subB T' T)
theorem tyF_mk {T : String} (hty : typeOf (.type T) = pure (.type "type")) (h1 : isSubtype (.type "NoneType") (.type T) = pure (subB "NoneType" T)) (h2 : isSubtype (.type "bool") (.type T) = pure (subB "bool" T)) (h3 : isSubtype (.type "int") (.type T) = pure (subB "int" T))
    (h4 : isSubtype (.type "str") (.type T) = pure (subB "str" T)) (h5 : isSubtype (.type "tuple") (.type T) = pure (subB "tuple" T)) (h6 : isSubtype (.type "list") (.type T) = pure (subB "list" T)) (h7 : isSubtype (.type "dict") (.type T) = pure (subB "dict" T)) : TyF T :=
  ⟨hty, fun T' m => by
    simp only [List.mem_cons, List.not_mem_nil, or_false] at m
    rcases m with rfl | rfl | rfl | rfl | rfl | rfl | rfl <;> assumption⟩
theorem tyF_int : TyF "int" := tyF_mk (by kernel_rfl) (by rw [isSubtype_type]; kernel_rfl) (by rw [isSubtype_type]; kernel_rfl) (by rw [isSubtype_type]; kernel_rfl) (by rw [isSubtype_type]; kernel_rfl) (by rw [isSubtype_type]; kernel_rfl) (by rw [isSubtype_type]; kernel_rfl) (by rw [isSubtype_type]; kernel_rfl)
theorem tyF_bool : TyF "bool" := tyF_mk (by kernel_rfl) (by rw [isSubtype_type]; kernel_rfl) (by rw [isSubtype_type]; kernel_rfl) (by rw [isSubtype_type]; kernel_rfl) (by rw [isSubtype_type]; kernel_rfl) (by rw [isSubtype_type]; kernel_rfl) (by rw [isSubtype_type]; kernel_rfl) (by rw [isSubtype_type]; kernel_rfl)
theorem tyF_str : TyF "str" := tyF_mk (by kernel_rfl) (by rw [isSubtype_type]; kernel_rfl) (by rw [isSubtype_type]; kernel_rfl) (by rw [isSubtype_type]; kernel_rfl) (by rw [isSubtype_type]; kernel_rfl) (by rw [isSubtype_type]; kernel_rfl) (by rw [isSubtype_type]; kernel_rfl) (by rw [isSubtype_type]; kernel_rfl)
theorem tyF_list : TyF "list" := tyF_mk (by kernel_rfl) (by rw [isSubtype_type]; kernel_rfl) (by rw [isSubtype_type]; kernel_rfl) (by rw [isSubtype_type]; kernel_rfl) (by rw [isSubtype_type]; kernel_rfl) (by rw [isSubtype_type]; kernel_rfl) (by rw [isSubtype_type]; kernel_rfl) (by rw [isSubtype_type]; kernel_rfl)
theorem tyF_tuple : TyF "tuple" := tyF_mk (by kernel_rfl) (by rw [isSubtype_type]; kernel_rfl) (by rw [isSubtype_type]; kernel_rfl) (by rw [isSubtype_type]; kernel_rfl) (by rw [isSubtype_type]; kernel_rfl) (by rw [isSubtype_type]; kernel_rfl) (by rw [isSubtype_type]; kernel_rfl) (by rw [isSubtype_type]; kernel_rfl)

section
variable {G : Gd} {C : Cx} {A : Around} {P : List Addr} {env : Env} {s : Shared} {ρ : List Addr} {st : St}

theorem isi_yes {x : Value} {Tx T : String} {Q : Value → Shared → Prop} {E : Value → Shared → Prop} (F : TyF T) (hx : s.TypeIs x Tx) (hm : Tx ∈ ["NoneType", "bool", "int", "str", "tuple", "list", "dict"]) (hb : subB Tx T = true) (h : Q (.bool true) s) :
    wpAny G.M A (call (.builtin "isinstance") [x, .type T]) Q E s :=
  call_isinstance (isinstance_true (Tx := Tx) F.hty (by rw [F.sub Tx hm, hb])) ⟨hx, h⟩
theorem subB_ne {T' T : String} (h : subB T' T = false) : (Value.type T' == Value.type T) = false := by
  cases e : (Value.type T' == Value.type T) with
  | false => rfl
  | true =>
    have := eq_of_beq e
    cases this
    simp [subB] at h

theorem at_isi {T : String} {d : D} {v : Value} (F : TyF T) (K : Ok G C A P env s ρ st) (r : Rel G s.heap ρ d v) : At G A env s ρ st (RV G) (call (.builtin "isinstance") [v, .type T]) (pIsi T d) := by
  refine At.leaf (fun hb => ?_) K
  cases hd : tyD d st.sto with
  | none => exact absurd (by simp only [pIsi, hd]) hb
  | some T' =>
    simp only [pIsi, hd]
    have hnn : ∀ (o : Obj) a, v = .ref a → s.heap.get? a = some o → o.cls = .type T' → (T' = "tuple" ∨ T' = "list" ∨ T' = "dict") → wpAny G.M A (call (.builtin "isinstance") [v, .type T]) (fun v s' => ∃ d, (Out.ok (D.bool (subB T' T)) st : Out D) = .ok d st ∧ (∃ h' tk, s' = { s with heap := h', toks := tk } ∧ Grow s.heap h') ∧ RV G s'.heap ρ d v) (fun _ _ => False) s := fun o a hv ho hc hT => by
      subst hv
      have hty : s.TypeIs (.ref a) T' := ⟨o, ho, hc⟩
      cases hs : subB T' T with
      | true => exact isi_yes F hty (by rcases hT with rfl | rfl | rfl <;> simp) hs ⟨_, rfl, Grow.same0, rfl⟩
      | false =>
        rcases hT with rfl | rfl | rfl
        · exact call_isinstance (isinstance_false_tuple (subB_ne hs) F.hty (by rw [F.sub _ (by simp), hs])) ⟨⟨o, ho, hc⟩, _, rfl, Grow.same, rfl⟩
        · exact call_isinstance (isinstance_false_list (subB_ne hs) F.hty (by rw [F.sub _ (by simp), hs])) ⟨⟨o, ho, hc⟩, _, rfl, Grow.same, rfl⟩
        · exact call_isinstance (isinstance_false_dict (subB_ne hs) F.hty (by rw [F.sub _ (by simp), hs])) ⟨⟨o, ho, hc⟩, _, rfl, Grow.same, rfl⟩
    cases d with
    | none =>
      cases hd
      cases (show v = .none from r)
      cases hs : subB "NoneType" T with
      | true => exact isi_yes F rfl (by simp) hs ⟨_, rfl, Grow.same0, rfl⟩
      | false => exact call_isinstance (isinstance_false_none (subB_ne hs) F.hty (by rw [F.sub _ (by simp), hs])) ⟨_, rfl, Grow.same, rfl⟩
    | bool b =>
      cases hd
      cases (show v = .bool b from r)
      cases hs : subB "bool" T with
      | true => exact isi_yes F rfl (by simp) hs ⟨_, rfl, Grow.same0, rfl⟩
      | false => exact call_isinstance (isinstance_false_bool (subB_ne hs) F.hty (by rw [F.sub _ (by simp), hs])) ⟨_, rfl, Grow.same, rfl⟩
    | int i =>
      cases hd
      obtain ⟨t, rfl⟩ := (show ∃ t, v = .int i t from r)
      cases hs : subB "int" T with
      | true => exact isi_yes F (typeIs_int s i t) (by simp) hs ⟨_, rfl, Grow.same0, rfl⟩
      | false => exact call_isinstance (isinstance_false_int (subB_ne hs) F.hty (by rw [F.sub _ (by simp), hs])) ⟨_, rfl, Grow.same, rfl⟩
    | str x =>
      cases hd
      obtain ⟨t, rfl⟩ := (show ∃ t, v = .str x t from r)
      cases hs : subB "str" T with
      | true => exact isi_yes F (typeIs_str s x t) (by simp) hs ⟨_, rfl, Grow.same0, rfl⟩
      | false => exact call_isinstance (isinstance_false_str (subB_ne hs) F.hty (by rw [F.sub _ (by simp), hs])) ⟨_, rfl, Grow.same, rfl⟩
    | tup ds =>
      cases hd
      simp only [Rel] at r
      obtain ⟨a, vs, rfl, hna, ⟨n, ho⟩, r⟩ := r
      exact hnn _ a rfl ho rfl (.inl rfl)
    | scr ns =>
      cases hd
      simp only [Rel] at r
      obtain ⟨a, vs, rfl, hl, hi⟩ := r
      obtain ⟨o, ho, hc, _⟩ := Grow.list K.inv.base hl
      exact hnn _ a rfl ho hc (.inr (.inl rfl))
    | ref k =>
      simp only [Rel] at r
      obtain ⟨a, rfl, e1⟩ := r
      cases e : st.sto[k]? with
      | none => simp only [tyD, e] at hd; cases hd
      | some o =>
        cases o with
        | list ds =>
          simp only [tyD, e] at hd; cases hd
          obtain ⟨vs, ⟨n, ho⟩, r⟩ := K.inv.sto k a _ e1 e
          exact hnn _ a rfl ho rfl (.inr (.inl rfl))
        | dict kvs =>
          simp only [tyD, e] at hd; cases hd
          obtain ⟨o, es, n, ho, hc, _⟩ := K.inv.sto k a _ e1 e
          exact hnn _ a rfl ho hc (.inr (.inr rfl))
        | priv => simp only [tyD, e] at hd; cases hd
    | exc c => cases hd

theorem se_isi {T : String} {Tn : Str} {e : Expr} {m : Mn D} {np tp pos : Pos} (F : TyF T) (hg : BuiIs G "isinstance" (.builtin "isinstance")) (hn : C.names.lookup ("isinstance" : Str) = some .globalImplicit)
    (hgT : BuiIs G Tn (.type T)) (hnT : C.names.lookup Tn = some .globalImplicit) (hdT : (Tn == ("__debug__" : Str)) = false) (he : SE G C e m) (hst : ∀ env, starEach [e, .Name Tn tp] env = [(false, eval e env), (false, eval (.Name Tn tp) env)]) :
    SE G C (.Call (.Name "isinstance" np) [e, .Name Tn tp] [] pos) (bnd m (pIsi T)) := .mk <| fun A P env s ρ st K hb => by
  show wpAny G.M A (eval (.Name "isinstance" np) env >>= fun fv => callWith pos fv [] (backTo pos (starEach [e, .Name Tn tp] env)) []) _ _ s
  refine wpAny_bind (name_bui K hg hn (by decide) ?_)
  rw [hst]
  refine Calls.callWith_builtin rfl (Calls.evalArgs_plain (Calls.spliced_cons (wpAny_mono (he.run A P env s ρ st K (bnd_ne_bot hb)) (fun v s' q => ?_) fun x s' q => ?_)))
  · obtain ⟨ρ', d, σ', e', I', x', r⟩ := q
    have K' := K.step I' x'
    refine Calls.spliced_cons (name_bui K' hgT hnT hdT ?_)
    refine Calls.spliced_nil ?_
    have e2 : bnd m (pIsi T) st = pIsi T d ⟨st.loc, σ'⟩ := by simp only [bnd, e']
    rw [e2] at hb ⊢
    refine wpAny_mono (at_isi F K' r hb) (fun w s'' q => ?_) fun w s'' q => ?_
    · obtain ⟨ρ'', d', σ'', e3, I'', x2, r2⟩ := q
      exact ⟨ρ'', d', σ'', e3, I'', x'.trans x2, r2⟩
    · obtain ⟨ρ'', c, σ'', a', e3, I'', x2, rfl, fl⟩ := q
      exact ⟨ρ'', c, σ'', a', e3, I'', x'.trans x2, rfl, fl.from x'.size⟩
  · obtain ⟨ρ', c, σ', a', e', I', x', rfl, fl⟩ := q
    exact ⟨ρ', c, σ', a', by simp only [bnd, e'], I', x', rfl, fl⟩

/-! max and min of ints -/
def intsOf : List D → Option (List Int)
  | [] => some []
  | .int i :: r => (intsOf r).map (i :: ·)
  | _ => none
def pBest (best : List Int → Option Int) : List D → Mn D
  | [.int a, .int b] => optM ((best [a, b]).map D.int)
  | [.ref k] => fun st => match st.sto[k]? with
    | some (.list ds) => optM (((intsOf ds).bind best).map D.int) st
    | _ => .bot
  | _ => botM
def maxB (ns : List Int) : Option Int := ns.max?
def minB (ns : List Int) : Option Int := ns.min?
def pMax : List D → Mn D := pBest maxB
def pMin : List D → Mn D := pBest minB
theorem intsOf_items {h : Heap} : ∀ {ds : List D} {vs : List Value} {ns : List Int}, RelL G h ρ ds vs → intsOf ds = some ns → ∃ xs : List (Int × Tok), vs = xs.map (fun p => Value.int p.1 p.2) ∧ xs.map (·.1) = ns
  | [], vs, ns, r, e => by
    simp only [RelL] at r; subst r
    simp only [intsOf] at e; cases e
    exact ⟨[], rfl, rfl⟩
  | d :: ds, vs, ns, r, e => by
    simp only [RelL] at r
    obtain ⟨v, vr, rfl, r1, r2⟩ := r
    cases d with
    | int i =>
      simp only [intsOf] at e
      obtain ⟨ns', e', rfl⟩ := Option.map_eq_some_iff.mp e
      obtain ⟨xs, rfl, rfl⟩ := intsOf_items r2 e'
      simp only [Rel] at r1
      obtain ⟨t, rfl⟩ := r1
      exact ⟨(i, t) :: xs, rfl, rfl⟩
    | _ => simp only [intsOf] at e; cases e
theorem numAt_toArray {xs : List (Int × Tok)} {i : Nat} (h : i < xs.length) : numAt xs.toArray i = (xs.map (·.1))[i]'(by simpa using h) := by
  simp [numAt, h]
theorem at_best_list {gt : Bool} {xs : List (Int × Tok)} {l : Addr} {m : Int} {Q : Value → Shared → Prop} {E : Value → Shared → Prop} (hh : A.handled = none) (hl : s.heap.IsList l (xs.map (fun p => Value.int p.1 p.2)).toArray)
    (hm : (if gt then maxB else minB) (xs.map (·.1)) = some m) (h : ∀ t h' tk, Grow s.heap h' → Q (.int m t) { s with heap := h', toks := tk }) : wpAny G.M A (call (.builtin (if gt then "max" else "min")) [.ref l]) Q E s := by
  have hl' : s.heap.IsList l (intItems xs.toArray) := by
    have : intItems xs.toArray = (xs.map (fun p => Value.int p.1 p.2)).toArray := by simp [intItems]
    rw [this]; exact hl
  have hne : 0 < xs.length := by
    cases xs with
    | nil => cases gt <;> cases hm
    | cons _ _ => simp
  cases gt with
  | true =>
    refine max_intList hh hl' (by simpa using hne) fun v h' tk hv hk => ?_
    obtain ⟨t, rfl⟩ := intItems_at hv
    obtain ⟨h1, h2⟩ := argBest_gt (numAt xs.toArray) (xs.toArray.size - 1)
    have hlt : argBest (fun i j => decide (numAt xs.toArray i > numAt xs.toArray j)) (xs.toArray.size - 1) < xs.length := by simp at h1 ⊢; omega
    have hm' := List.max?_eq_some_iff.mp hm
    have : numAt xs.toArray (argBest (fun i j => decide (numAt xs.toArray i > numAt xs.toArray j)) (xs.toArray.size - 1)) = m := by
      refine Int.le_antisymm (hm'.2 _ ?_) ?_
      · rw [numAt_toArray hlt]; exact List.getElem_mem _
      · obtain ⟨j, hj, e⟩ := List.getElem_of_mem hm'.1
        rw [← e, ← numAt_toArray (by simpa using hj)]
        exact h2 j (by simp at hj ⊢; omega)
    rw [this]
    exact h t h' tk hk
  | false =>
    refine min_intList hh hl' (by simpa using hne) fun v h' tk hv hk => ?_
    obtain ⟨t, rfl⟩ := intItems_at hv
    obtain ⟨h1, h2⟩ := argBest_lt (numAt xs.toArray) (xs.toArray.size - 1)
    have hlt : argBest (fun i j => decide (numAt xs.toArray i < numAt xs.toArray j)) (xs.toArray.size - 1) < xs.length := by simp at h1 ⊢; omega
    have hm' := List.min?_eq_some_iff.mp hm
    have : numAt xs.toArray (argBest (fun i j => decide (numAt xs.toArray i < numAt xs.toArray j)) (xs.toArray.size - 1)) = m := by
      refine Int.le_antisymm ?_ (hm'.2 _ ?_)
      · obtain ⟨j, hj, e⟩ := List.getElem_of_mem hm'.1
        rw [← e, ← numAt_toArray (by simpa using hj)]
        exact h2 j (by simp at hj ⊢; omega)
      · rw [numAt_toArray hlt]; exact List.getElem_mem _
    rw [this]
    exact h t h' tk hk

theorem bf_best (gt : Bool) : BF G (if gt then "max" else "min") (pBest (if gt then maxB else minB)) := fun C A P env s ρ st ds vs K r => by
  refine At.leaf (fun hb => ?_) K
  match ds, r with
  | [], _ => exact absurd rfl hb
  | [d], r =>
    simp only [RelL] at r
    obtain ⟨v, _, rfl, r, rfl⟩ := r
    cases d <;> first | exact absurd rfl hb | skip
    rename_i k
    simp only [Rel] at r
    obtain ⟨a, rfl, e1⟩ := r
    cases e : st.sto[k]? with
    | none => exact absurd (by simp only [pBest, e]) hb
    | some o =>
      cases o with
      | list ds =>
        simp only [pBest, e] at hb ⊢
        obtain ⟨y, hy⟩ := optM_bot hb
        rw [hy]
        obtain ⟨m, hm, rfl⟩ := Option.map_eq_some_iff.mp hy
        obtain ⟨ns, hns, hm⟩ := Option.bind_eq_some_iff.mp hm
        obtain ⟨vs, hl, r⟩ := K.inv.sto k a _ e1 e
        obtain ⟨xs, hvs, rfl⟩ := intsOf_items r hns
        refine at_best_list K.room.hd (xs := xs) (by rw [← hvs]; exact hl.list) hm fun t h' tk g => ⟨_, rfl, ⟨h', tk, rfl, g⟩, _, rfl⟩
      | dict _ => exact absurd (by simp only [pBest, e]) hb
      | priv => exact absurd (by simp only [pBest, e]) hb
  | [d1, d2], r =>
    simp only [RelL] at r
    obtain ⟨v1, _, rfl, r1, v2, _, rfl, r2, rfl⟩ := r
    cases d1 <;> cases d2 <;> first | exact absurd rfl hb | skip
    rename_i a b
    simp only [Rel] at r1 r2
    obtain ⟨t, rfl⟩ := r1; obtain ⟨u, rfl⟩ := r2
    simp only [pBest]
    cases gt with
    | true =>
      refine max_two_ints K.room.hd fun h' tk g => ⟨.int (max a b), rfl, ⟨h', tk, rfl, g⟩, ?_⟩
      by_cases z : b > a
      · rw [if_pos z]; exact ⟨u, by rw [Int.max_eq_right (by omega)]⟩
      · rw [if_neg z]; exact ⟨t, by rw [Int.max_eq_left (by omega)]⟩
    | false =>
      refine min_two_ints K.room.hd fun h' tk g => ⟨.int (min a b), rfl, ⟨h', tk, rfl, g⟩, ?_⟩
      by_cases z : b < a
      · rw [if_pos z]; exact ⟨u, by rw [Int.min_eq_right (by omega)]⟩
      · rw [if_neg z]; exact ⟨t, by rw [Int.min_eq_left (by omega)]⟩
  | a :: b :: c :: l, _ => exact absurd (by cases a <;> cases b <;> rfl) hb
theorem bf_max : BF G "max" pMax := bf_best true
theorem bf_min : BF G "min" pMin := bf_best false
end
end Mine

/- part F15 -/
set_option Elab.async false
set_option linter.unusedVariables false
namespace Mine
open PySem PyProof.Rows PySem.Builtin.Str

section
variable {G : Gd} {C : Cx} {A : Around} {P : List Addr} {env : Env} {s : Shared} {ρ : List Addr} {st : St}

/-! a new list, a new tuple -/
def allocL (ds : List D) : Mn D := fun st => .ok (.ref st.sto.length) ⟨st.loc, st.sto ++ [.list ds]⟩
theorem inv_alloc_list (I : Inv G s ρ st.sto) {vs : Array Value} {n : Nat} {ds : List D} (r : RelL G s.heap ρ ds vs.toList) (tk : Nat) :
    ∃ ρ' d σ', allocL ds st = .ok d ⟨st.loc, σ'⟩ ∧ Inv G { s with heap := s.heap.push (lstO vs n), toks := tk } ρ' σ' ∧ Ev [] s.heap ρ (s.heap.push (lstO vs n)) ρ' ∧ Rel G (s.heap.push (lstO vs n)) ρ' d (.ref s.heap.objs.size) := by
  obtain ⟨I', x'⟩ := I.alloc (o := lstO vs n) (p := .list ds) ⟨(by show Value.type "list" ≠ Value.type "tuple"; decide), fun c => (by intro z; cases z)⟩ rfl (fun S => ⟨vs, ⟨n, Heap.get?_push_size _ rfl⟩, RelL.mono S _ _ r⟩) tk
  refine ⟨_, .ref st.sto.length, _, rfl, I', x' [], ?_⟩
  simp only [Rel]
  exact ⟨_, rfl, by rw [← I.len]; simp⟩
theorem at_newList {vs : List Value} {ds : List D} (K : Ok G C A P env s ρ st) (r : RelL G s.heap ρ ds vs) : At G A env s ρ st (RV G) (newList vs) (if ds.length ≤ sizeLine then allocL ds else botM) := fun hb => by
  have hz := itep_bot hb
  rw [if_app hz]
  exact wpAny_newList (inv_alloc_list (vs := vs.toArray) (n := 0) K.inv r s.toks) (by rw [r.all2.length]; exact hz)
theorem at_newTuple {vs : List Value} {ds : List D} (K : Ok G C A P env s ρ st) (r : RelL G s.heap ρ ds vs) : At G A env s ρ st (RV G) (newTuple vs) (if ds.length ≤ sizeLine then ret1 (.tup ds) else botM) := fun hb => by
  have hz := itep_bot hb
  rw [if_app hz]
  refine wpAny_newTuple ?_ (by rw [r.all2.length]; exact hz)
  have g := Grow.push s.heap (tupO vs.toArray 0)
  refine ⟨ρ, .tup ds, st.sto, rfl, K.inv.grow g size_push_le s.toks, g.ev size_push_le, ?_⟩
  show Rel _ _ _ _ _
  simp only [Rel]
  exact ⟨_, vs.toArray, rfl, K.inv.size_notin, ⟨0, Heap.get?_push_size _ rfl⟩, RelL.mono g.stb _ _ r⟩
def listM (ms : Mn (List D)) : Mn D := bnd ms fun ds => if ds.length ≤ sizeLine then allocL ds else botM
def tupM (ms : Mn (List D)) : Mn D := bnd ms fun ds => if ds.length ≤ sizeLine then ret1 (.tup ds) else botM
theorem se_list {es : List Expr} {pos : Pos} {ms : Mn (List D)} (h : SA G C es ms) : SE G C (.List es pos) (listM ms) := .mk <| fun A P env s ρ st K => by
  show At G A env s ρ st (RV G) (standAt pos >>= fun _ => spliced (backTo pos (starEach es env)) >>= fun vs => newList vs) _
  exact At.stand (At.bind K (h.run A P env s ρ st pos K) fun v s' ρ' d σ' K' x r => at_newList K' r)
theorem se_tuple {es : List Expr} {k : Nat} {pos : Pos} {ms : Mn (List D)} (h : SA G C es ms) : SE G C (.Tuple es k pos) (tupM ms) := .mk <| fun A P env s ρ st K => by
  show At G A env s ρ st (RV G) (standAt pos >>= fun _ => spliced (backTo pos (starEach es env)) >>= fun vs => newTuple vs) _
  exact At.stand (At.bind K (h.run A P env s ρ st pos K) fun v s' ρ' d σ' K' x r => at_newTuple K' r)

/-! sources by a call of a type -/
def TSrc (G : Gd) (T : String) (tg : Expr → Prop) (F : List D → Mn Src) : Prop :=
  ∀ C A P env s ρ st ds vs, Ok G C A P env s ρ st → RelL G s.heap ρ ds vs → F ds st ≠ .bot → wpAny G.M A (call (.type T) vs) (fun x s₁ => wpAny G.M A (pyIter x) (fun it s₂ => ∃ ρ' src σ' I S T Md, F ds st = .ok src ⟨st.loc, σ'⟩ ∧ Inv G s₂ ρ' σ' ∧
    Ev [] s.heap ρ s₂.heap ρ' ∧ it = .ref I ∧ Itx G I S tg src.g T Md ∧ ItSelf G I T ∧ T src.ds s₂.heap ρ' σ' ∧ ∀ q, q ∈ S → s.heap.objs.size ≤ q) (ExcE G env s ρ st (F ds st)) s₁) (ExcE G env s ρ st (F ds st)) s
theorem si_tcall {T : String} {f : Str} {tg : Expr → Prop} {F : List D → Mn Src} {e : Expr} {es : List Expr} {ms : Mn (List D)} {np pos : Pos} (hg : BuiIs G f (.type T)) (hn : C.names.lookup f = some .globalImplicit) (hd : (f == ("__debug__" : Str)) = false)
    (hF : TSrc G T tg F) (hs : SA G C (e :: es) ms) (hst : ∀ env, starEach (e :: es) env = (false, eval e env) :: starEach es env) (hpl : ∀ env, (backTo pos (starEach es env)).any (·.1) = false) :
    SI G C (.Call (.Name f np) (e :: es) [] pos) tg (bnd ms F) := .mk <| fun A P env s ρ st K hb => by
  show wpAny G.M A (eval (.Name f np) env >>= fun fv => callWith pos fv [] (backTo pos (starEach (e :: es) env)) []) _ _ s
  refine wpAny_bind (name_bui K hg hn hd ?_)
  have hev : backTo pos (starEach (e :: es) env) = (false, eval e env) :: backTo pos (starEach es env) := by rw [hst]; rfl
  have h1 := hs.run A P env s ρ st pos K (bnd_ne_bot hb)
  rw [hev] at h1 ⊢
  refine PySem.callWith_type (by show (false || _) = false; rw [Bool.false_or]; exact hpl env) (Calls.evalArgs_plain (wpAny_mono h1 (fun vs s' q => ?_) fun x s' q => ?_))
  · obtain ⟨ρ', ds, σ', e', I', x', r⟩ := q
    have K' := K.step I' x'
    have e2 : bnd ms F st = F ds ⟨st.loc, σ'⟩ := by simp only [bnd, e']
    rw [e2] at hb ⊢
    refine wpAny_mono (hF C A P env s' ρ' ⟨st.loc, σ'⟩ ds vs K' r hb) (fun w s'' q => wpAny_mono q (fun w s'' q => ?_) fun w s'' q => ?_) fun w s'' q => ?_
    · obtain ⟨ρ'', src, σ'', I, S, T, Md, e2, I'', x2, rfl, X, X', T0, hS⟩ := q
      exact ⟨ρ'', src, σ'', I, S, T, Md, e2, I'', x'.trans x2, rfl, X, X', T0, fun q m => Nat.le_trans x'.size (hS q m)⟩
    · obtain ⟨ρ'', c, σ'', a', e3, I'', x2, rfl, fl⟩ := q
      exact ⟨ρ'', c, σ'', a', e3, I'', x'.trans x2, rfl, fl.from x'.size⟩
    · obtain ⟨ρ'', c, σ'', a', e3, I'', x2, rfl, fl⟩ := q
      exact ⟨ρ'', c, σ'', a', e3, I'', x'.trans x2, rfl, fl.from x'.size⟩
  · obtain ⟨ρ', c, σ', a', e', I', x', rfl, fl⟩ := q
    exact ⟨ρ', c, σ', a', by simp only [bnd, e'], I', x', rfl, fl⟩

/-! range -/
def okR (n : Int) : Bool := decide (-(2 ^ 40) ≤ n) && decide (n < 2 ^ 40)
theorem okR_iff {n : Int} : okR n = true ↔ -(2 ^ 40) ≤ n ∧ n < 2 ^ 40 := by simp [okR]
def pRange : List D → Mn Src
  | [.int n] => if okR n then ret1 ⟨rngL 0 1 n.toNat, fun _ => True⟩ else botM
  | [.int a, .int b] => if okR a && okR b then ret1 ⟨rngL a 1 (b - a).toNat, fun _ => True⟩ else botM
  | [.int a, .int b, .int c] => if okR a && okR b && (decide (1 ≤ c) && decide (c < 1000)) then ret1 ⟨rngL a c (Builtin.Range.rangeSize a b c).toNat, fun _ => True⟩ else botM
  | _ => botM
theorem size_nonneg {a b c : Int} (hc : 1 ≤ c) : 0 ≤ Builtin.Range.rangeSize a b c := by
  unfold Builtin.Range.rangeSize
  rw [if_pos (by omega)]
  split
  · have : 0 ≤ (b - a - 1) / c := Int.ediv_nonneg (by omega) (by omega)
    omega
  · omega
theorem at_range {o : Obj} {a b c : Int} {t u v : Tok} {g : Sto → Prop} {m : Mn Src} (K : Ok G C A P env s ρ st) (hr : o = { cls := .type "range", data := .fields #[.int a t, .int b u, .int c v] }) (hsm : Builtin.Range.small a b c = true) (hc : 1 ≤ c) (tk : Nat)
    (hm : m st = .ok ⟨rngL a c (Builtin.Range.rangeSize a b c).toNat, fun _ => True⟩ st) :
    wpAny G.M A (pyIter (.ref s.heap.objs.size)) (fun it s₂ => ∃ ρ' src σ' I S T Md, m st = .ok src ⟨st.loc, σ'⟩ ∧ Inv G s₂ ρ' σ' ∧
      Ev [] s.heap ρ s₂.heap ρ' ∧ it = .ref I ∧ Itx G I S (fun _ => True) src.g T Md ∧ ItSelf G I T ∧ T src.ds s₂.heap ρ' σ' ∧ ∀ q, q ∈ S → s.heap.objs.size ≤ q) (ExcE G env s ρ st (m st)) { s with heap := s.heap.push o, toks := tk } := by
  subst hr
  have K' := K.grow (Grow.push s.heap { cls := .type "range", data := .fields #[.int a t, .int b u, .int c v] }) size_push_le tk
  refine wpAny_pyIter_range (IsRange.new ..) hsm ?_
  generalize hh : s.heap.push { cls := .type "range", data := .fields #[.int a t, .int b u, .int c v] } = h1 at K'
  have z1 : s.heap.objs.size ≤ h1.objs.size := by rw [← hh]; exact size_push_le
  have g1 : Grow s.heap h1 := by rw [← hh]; exact Grow.push _ _
  have gg := Grow.push h1 { cls := .type "range_iterator", data := .fields #[rawInt a, rawInt (Builtin.Range.rangeSize a b c), rawInt c] }
  refine ⟨ρ, _, st.sto, h1.objs.size, [h1.objs.size], TRng G h1.objs.size c, fun _ => TRng G h1.objs.size c, hm, K'.inv.grow gg size_push_le tk, (g1.ev z1).trans (gg.ev size_push_le), rfl, itx_rng, self_rng, ?_, fun q m => by rw [List.mem_singleton.mp m]; exact z1⟩
  refine ⟨itr_new K'.inv (by decide) 0, a, (Builtin.Range.rangeSize a b c).toNat, ?_, rfl⟩
  have e : (((Builtin.Range.rangeSize a b c).toNat : Nat) : Int) = Builtin.Range.rangeSize a b c := by have := size_nonneg (a := a) (b := b) hc; omega
  rw [e]
  exact Heap.get?_push_size _ rfl
theorem ts_range : TSrc G "range" (fun _ => True) pRange := fun C A P env s ρ st ds vs K r hb => by
  match ds, r with
  | [], _ => exact absurd rfl hb
  | [d], r =>
    simp only [RelL] at r
    obtain ⟨v, _, rfl, r, rfl⟩ := r
    cases d <;> first | exact absurd rfl hb | skip
    rename_i n
    simp only [Rel] at r
    obtain ⟨t, rfl⟩ := r
    simp only [pRange] at hb ⊢
    have h1 := ite_bot hb
    have h1' := okR_iff.mp h1
    refine call_range_1 (at_range (g := fun _ => True) K rfl (small_one (by omega) (by omega) (by omega) (by omega)) (by omega) _ ?_)
    rw [if_app h1, rangeSize_one]
    show Out.ok _ _ = _
    congr 3
    split <;> omega
  | [d1, d2], r =>
    simp only [RelL] at r
    obtain ⟨v1, _, rfl, r1, v2, _, rfl, r2, rfl⟩ := r
    cases d1 <;> cases d2 <;> first | exact absurd rfl hb | skip
    rename_i a b
    simp only [Rel] at r1 r2
    obtain ⟨t, rfl⟩ := r1; obtain ⟨u, rfl⟩ := r2
    simp only [pRange] at hb ⊢
    have h1 := ite_bot hb
    have h2 := Bool.and_eq_true_iff.mp h1
    have h3 := okR_iff.mp h2.1
    have h4 := okR_iff.mp h2.2
    refine call_range_2 (at_range (g := fun _ => True) K rfl (small_one (by omega) (by omega) (by omega) (by omega)) (by omega) _ ?_)
    rw [if_app h1, rangeSize_one]
    show Out.ok _ _ = _
    congr 3
    split <;> omega
  | [d1, d2, d3], r =>
    simp only [RelL] at r
    obtain ⟨v1, _, rfl, r1, v2, _, rfl, r2, v3, _, rfl, r3, rfl⟩ := r
    cases d1 <;> cases d2 <;> cases d3 <;> first | exact absurd rfl hb | skip
    rename_i a b c
    simp only [Rel] at r1 r2 r3
    obtain ⟨t, rfl⟩ := r1; obtain ⟨u, rfl⟩ := r2; obtain ⟨v, rfl⟩ := r3
    simp only [pRange] at hb ⊢
    have h1 := ite_bot hb
    have h2 := Bool.and_eq_true_iff.mp h1
    have h2' := Bool.and_eq_true_iff.mp h2.1
    have h3 := okR_iff.mp h2'.1
    have h4 := okR_iff.mp h2'.2
    have h5 := Bool.and_eq_true_iff.mp h2.2
    have h6 := of_decide_eq_true h5.1
    have h7 := of_decide_eq_true h5.2
    refine call_range_3 (by omega) (at_range (g := fun _ => True) K rfl ?_ h6 _ ?_) (.inl (PyProof.noPylong_small (by omega)))
    · have hs0 := size_nonneg (a := a) (b := b) h6
      have hs1 : Builtin.Range.rangeSize a b c ≤ 2 ^ 42 := by
        unfold Builtin.Range.rangeSize
        rw [if_pos (by omega)]
        split
        · have : (b - a - 1) / c ≤ b - a - 1 := Int.ediv_le_self _ (by omega)
          omega
        · omega
      unfold Builtin.Range.small
      simp only [Builtin.Range.rangeFitsLong, Bool.and_eq_true, Bool.or_eq_true, decide_eq_true_eq, beq_iff_eq, show c > 0 by omega, if_true]
      have hmul : Builtin.Range.rangeSize a b c * c ≤ 2 ^ 42 * 1000 := by
        calc _ ≤ 2 ^ 42 * c := Int.mul_le_mul_of_nonneg_right hs1 (by omega)
          _ ≤ _ := Int.mul_le_mul_of_nonneg_left (by omega) (by omega)
      refine ⟨?_, ?_⟩ <;> omega
    · rw [if_app h1]; rfl
  | a :: b :: c :: d :: l, _ => exact absurd (by cases a <;> cases b <;> cases c <;> rfl) hb

/-! methods of texts -/
/-- where a method of a text is found -/
def SMg (name : Str) (id : String) : Prop := Slot "str" name id ∧ typeOf (.builtin id) = pure (.type "method_descriptor")
theorem smg_of {name : Str} {id : String} (slot : Slot "str" name id) (ty : typeOf (.builtin id) = pure (.type "method_descriptor")) : SMg name id := ⟨slot, ty⟩
/-- what a method of a text does -/
def SM (G : Gd) (name : Str) (id : String) (F : Str → List D → Mn D) : Prop :=
  SMg name id ∧
  ∀ C A P env s ρ st x t ds vs, Ok G C A P env s ρ st → RelL G s.heap ρ ds vs → At G A env s ρ st (RV G) (call (.builtin id) (.str x t :: vs)) (F x ds)
def strM (F : Str → Mn D) : D → Mn D
  | .str x => F x
  | _ => botM
theorem se_smeth {name : Str} {id : String} {Fm : Str → List D → Mn D} {o e : Expr} {es : List Expr} {mo : Mn D} {ms : Mn (List D)} {apos pos : Pos} (hM : SM G name id Fm) (ho : SE G C o mo) (hs : SA G C (e :: es) ms)
    (hbase : ∀ env, attributeBase o name env (eval o env) = eval o env) (hst : ∀ env, starEach (e :: es) env = (false, eval e env) :: starEach es env) (hpl : ∀ env, (backTo pos (starEach es env)).any (·.1) = false)
    (hfew : ∀ env, methodCallForm ((e :: es).length + ([] : List Keyword).length) (backTo pos (starEach (e :: es) env)) (backToKw pos (keywordEach [] env)) = true) (hline : (apos.endLine == pos.line) = true) :
    SE G C (.Call (.Attribute o name apos) (e :: es) [] pos) (bnd mo (strM fun x => bnd ms (Fm x))) := .mk <| fun A P env s ρ st K hb => by
  refine wpAny_Call_method_lateS (hbase env) (hfew env) hline (wpAny_mono (ho.run A P env s ρ st K (bnd_ne_bot hb)) (fun ov s' q => ?_) fun x s' q => ?_)
  · obtain ⟨ρ', d, σ', e', I', x', r⟩ := q
    have K' := K.step I' x'
    have e2 : bnd mo (strM fun x => bnd ms (Fm x)) st = strM (fun x => bnd ms (Fm x)) d ⟨st.loc, σ'⟩ := by simp only [bnd, e']
    rw [e2] at hb ⊢
    cases d with
    | str x =>
      simp only [Rel] at r
      obtain ⟨t, rfl⟩ := r
      simp only [strM] at hb ⊢
      refine ⟨"str", id, F.plainAttrs_str, hM.1.1, hM.1.2, typeIs_str _ _ _, (fun _ e => nomatch e), ?_⟩
      have hev : backTo pos (starEach (e :: es) env) = (false, eval e env) :: backTo pos (starEach es env) := by rw [hst]; rfl
      have h1 := hs.run A P env s' ρ' ⟨st.loc, σ'⟩ pos K' (bnd_ne_bot hb)
      rw [hev] at h1 ⊢
      refine Calls.callWith_builtin (by show (false || _) = false; rw [Bool.false_or]; exact hpl env) (Calls.evalArgs_plain (wpAny_mono h1 (fun vs s'' q => ?_) fun x s'' q => ?_))
      · obtain ⟨ρ'', ds, σ'', e3, I'', x'', r⟩ := q
        have K'' := K'.step I'' x''
        have e4 : bnd ms (Fm x) ⟨st.loc, σ'⟩ = Fm x ds ⟨st.loc, σ''⟩ := by simp only [bnd, e3]
        rw [e4] at hb ⊢
        refine wpAny_mono (hM.2 C A P env s'' ρ'' ⟨st.loc, σ''⟩ x t ds vs K'' r hb) (fun w s3 q => ?_) fun w s3 q => ?_
        · obtain ⟨ρ3, d', σ3, e5, I3, x3, r3⟩ := q
          exact ⟨ρ3, d', σ3, e5, I3, (x'.trans x'').trans x3, r3⟩
        · obtain ⟨ρ3, c, σ3, a', e5, I3, x3, rfl, fl⟩ := q
          exact ⟨ρ3, c, σ3, a', e5, I3, (x'.trans x'').trans x3, rfl, fl.from (x'.trans x'').size⟩
      · obtain ⟨ρ'', c, σ'', a', e3, I'', x'', rfl, fl⟩ := q
        exact ⟨ρ'', c, σ'', a', by simp only [bnd, e3], I'', x'.trans x'', rfl, fl.from x'.size⟩
    | _ => exact absurd rfl hb
  · obtain ⟨ρ', c, σ', a', e', I', x', rfl, fl⟩ := q
    exact ⟨ρ', c, σ', a', by simp only [bnd, e'], I', x', rfl, fl⟩

def strD : Str → D := D.str
def pSplit (x : Str) : List D → Mn D
  | [.str y] => if (y.length == 0) = false ∧ x.length ≤ sizeLine ∧ (partsBetween x (occurrences x y 0 x.length (x.length + 1)) y.length).length ≤ sizeLine then allocL ((Txt.split x y).map D.str) else botM
  | _ => botM
theorem relL_strs {h : Heap} : ∀ (n : Nat) (xs : List Str), RelL G h ρ (xs.map D.str) (strsFrom n xs)
  | _, [] => by simp [RelL, strsFrom]
  | n, x :: r => by
    simp only [List.map_cons, RelL, strsFrom]
    exact ⟨_, _, rfl, ⟨_, rfl⟩, relL_strs (n + 1) r⟩
theorem sm_split : SM G "split" "str.split" pSplit := ⟨by with_reducible exact smg_of F.slot_str_split F.type_str_split, fun C A P env s ρ st x t ds vs K r hb => by
  match ds, r with
  | [], _ => exact absurd rfl hb
  | [d], r =>
    simp only [RelL] at r
    obtain ⟨v, _, rfl, r, rfl⟩ := r
    cases d <;> first | exact absurd rfl hb | skip
    rename_i y
    simp only [Rel] at r
    obtain ⟨u, rfl⟩ := r
    simp only [pSplit] at hb ⊢
    obtain ⟨hy, hx, hn⟩ := itep_bot hb
    rw [if_app ⟨hy, hx, hn⟩]
    have one : Txt.split x y = [x] → wpAny G.M A (call (.builtin "str.split") [.str x t, .str y u]) (fun v s' => ∃ ρ' d σ', allocL ((Txt.split x y).map D.str) st = .ok d ⟨st.loc, σ'⟩ ∧ Inv G s' ρ' σ' ∧ Ev [] s.heap ρ s'.heap ρ' ∧ RV G s'.heap ρ' d v) (ExcE G env s ρ st (allocL ((Txt.split x y).map D.str) st)) s →
        wpAny G.M A (call (.builtin "str.split") [.str x t, .str y u]) (fun v s' => ∃ ρ' d σ', allocL ((Txt.split x y).map D.str) st = .ok d ⟨st.loc, σ'⟩ ∧ Inv G s' ρ' σ' ∧ Ev [] s.heap ρ s'.heap ρ' ∧ RV G s'.heap ρ' d v) (ExcE G env s ρ st (allocL ((Txt.split x y).map D.str) st)) s := fun _ h => h
    have itself : Txt.split x y = [x] → (fun v s' => ∃ ρ' d σ', allocL ((Txt.split x y).map D.str) st = .ok d ⟨st.loc, σ'⟩ ∧ Inv G s' ρ' σ' ∧ Ev [] s.heap ρ s'.heap ρ' ∧ RV G s'.heap ρ' d v) (.ref s.heap.objs.size) { s with heap := s.heap.push { cls := .type "list", data := .seq [Value.str x t].toArray } } := fun e => by
      rw [e]
      exact inv_alloc_list (vs := [Value.str x t].toArray) (n := 0) K.inv (ds := [.str x]) (by simp only [RelL]; exact ⟨_, _, rfl, ⟨_, rfl⟩, rfl⟩) s.toks
    cases h1 : (decide (x.length < y.length) || decide (strKind x < strKind y))
    · cases hf : (occurrences x y 0 x.length (x.length + 1)).isEmpty
      · refine call_meets F.slot_str_split (typeIs_str _ _ _) F.entry_str_split (F.args_str_split_2 _ _) (meets_str_split_sep x y t u h1 hy hf hx hn) ?_
        have e : Txt.split x y = partsBetween x (occurrences x y 0 x.length (x.length + 1)) y.length := (if_neg (ne_true_of_eq_false h1)).trans (if_neg (ne_true_of_eq_false hf))
        rw [e]
        exact inv_alloc_list (vs := (strsFrom s.toks (partsBetween x (occurrences x y 0 x.length (x.length + 1)) y.length)).toArray) (n := 0) K.inv (relL_strs _ _) _
      · exact call_meets F.slot_str_split (typeIs_str _ _ _) F.entry_str_split (F.args_str_split_2 _ _) (meets_str_split_not_found x y t u h1 hy hf) (itself ((if_neg (ne_true_of_eq_false h1)).trans (if_pos hf)))
    · exact call_meets F.slot_str_split (typeIs_str _ _ _) F.entry_str_split (F.args_str_split_2 _ _) (meets_str_split_cannot_occur x y t u h1) (itself (if_pos h1))
  | a :: b :: l, _ => exact absurd (by cases a <;> rfl) hb⟩

def strsOf : List D → Option (List Str)
  | [] => some []
  | .str x :: r => (strsOf r).map (x :: ·)
  | _ => none
theorem strsOf_items {h : Heap} : ∀ {ds : List D} {vs : List Value} {xs : List Str}, RelL G h ρ ds vs → strsOf ds = some xs → ∃ l : List (Str × Tok), vs = strValues l ∧ l.map (·.1) = xs
  | [], vs, ns, r, e => by
    simp only [RelL] at r; subst r
    simp only [strsOf] at e; cases e
    exact ⟨[], rfl, rfl⟩
  | d :: ds, vs, ns, r, e => by
    simp only [RelL] at r
    obtain ⟨v, vr, rfl, r1, r2⟩ := r
    cases d with
    | str i =>
      simp only [strsOf] at e
      obtain ⟨ns', e', rfl⟩ := Option.map_eq_some_iff.mp e
      obtain ⟨xs, rfl, rfl⟩ := strsOf_items r2 e'
      simp only [Rel] at r1
      obtain ⟨t, rfl⟩ := r1
      exact ⟨(i, t) :: xs, rfl, rfl⟩
    | _ => simp only [strsOf] at e; cases e
def pJoin (x : Str) : List D → Mn D
  | [.ref k] => fun st => match st.sto[k]? with
    | some (.list ds) => match strsOf ds with
      | some xs => if JoinOk x xs = true then .ok (.str (Str.join x xs)) st else .bot
      | none => .bot
    | _ => .bot
  | _ => botM
theorem sm_join : SM G "join" "str.join" pJoin := ⟨by with_reducible exact smg_of F.slot_str_join F.type_str_join, fun C A P env s ρ st x t ds vs K r => by
  refine At.leaf (fun hb => ?_) K
  match ds, r with
  | [], _ => exact absurd rfl hb
  | [d], r =>
    simp only [RelL] at r
    obtain ⟨v, _, rfl, r, rfl⟩ := r
    cases d <;> first | exact absurd rfl hb | skip
    rename_i k
    simp only [Rel] at r
    obtain ⟨a, rfl, e1⟩ := r
    cases e : st.sto[k]? with
    | none => exact absurd (by simp only [pJoin, e]) hb
    | some o =>
      cases o with
      | list ds =>
        simp only [pJoin, e] at hb ⊢
        cases e2 : strsOf ds with
        | none => exact absurd (by simp only [e2]) hb
        | some xs =>
          simp only [e2] at hb ⊢
          have h1 : JoinOk x xs = true := by
            cases z : JoinOk x xs with
            | true => rfl
            | false => exact absurd (by simp [z]) hb
          simp only [h1, if_true]
          obtain ⟨vs, hl, r⟩ := K.inv.sto k a _ e1 e
          obtain ⟨l, hvs, rfl⟩ := strsOf_items r e2
          refine SC.join (l := l) (by rw [← hvs]; exact hl.list) rfl h1 fun t' k => ⟨_, rfl, Grow.same, ?_⟩
          show Rel _ _ _ _ _
          simp only [Rel]
          exact ⟨t', by rw [← StrLaws.glued_eq_join]; rfl⟩
      | dict _ => exact absurd (by simp only [pJoin, e]) hb
      | priv => exact absurd (by simp only [pJoin, e]) hb
  | a :: b :: l, _ => exact absurd (by cases a <;> rfl) hb⟩
def pEndswith (x : Str) : List D → Mn D
  | [.str y] => ret1 (.bool (Txt.endswith x y))
  | _ => botM
def pRstrip (x : Str) : List D → Mn D
  | [.str y] => if x.length ≤ sizeLine then ret1 (.str (Txt.rstripChars x y)) else botM
  | _ => botM
def pCount (x : Str) : List D → Mn D
  | [.str y] => ret1 (.int (Txt.count x y))
  | _ => botM
theorem sm_endswith : SM G "endswith" "str.endswith" pEndswith := ⟨by with_reducible exact smg_of F.slot_str_endswith F.type_str_endswith, fun C A P env s ρ st x t ds vs K r => by
  refine At.leaf (fun hb => ?_) K
  match ds, r with
  | [], _ => exact absurd rfl hb
  | [d], r =>
    simp only [RelL] at r
    obtain ⟨v, _, rfl, r, rfl⟩ := r
    cases d <;> first | exact absurd rfl hb | skip
    simp only [Rel] at r
    obtain ⟨u, rfl⟩ := r
    exact SC.endswith ⟨_, rfl, Grow.same0, rfl⟩
  | a :: b :: l, _ => exact absurd (by cases a <;> rfl) hb⟩
theorem sm_rstrip : SM G "rstrip" "str.rstrip" pRstrip := ⟨by with_reducible exact smg_of F.slot_str_rstrip F.type_str_rstrip, fun C A P env s ρ st x t ds vs K r => by
  refine At.leaf (fun hb => ?_) K
  match ds, r with
  | [], _ => exact absurd rfl hb
  | [d], r =>
    simp only [RelL] at r
    obtain ⟨v, _, rfl, r, rfl⟩ := r
    cases d <;> first | exact absurd rfl hb | skip
    simp only [Rel] at r
    obtain ⟨u, rfl⟩ := r
    simp only [pRstrip] at hb ⊢
    have h1 := itep_bot hb
    rw [if_app h1]
    exact SC.rstripChars (fun t' k => ⟨_, rfl, Grow.same, _, rfl⟩) h1
  | a :: b :: l, _ => exact absurd (by cases a <;> rfl) hb⟩
theorem sm_count : SM G "count" "str.count" pCount := ⟨by with_reducible exact smg_of F.slot_str_count F.type_str_count, fun C A P env s ρ st x t ds vs K r => by
  refine At.leaf (fun hb => ?_) K
  match ds, r with
  | [], _ => exact absurd rfl hb
  | [d], r =>
    simp only [RelL] at r
    obtain ⟨v, _, rfl, r, rfl⟩ := r
    cases d <;> first | exact absurd rfl hb | skip
    simp only [Rel] at r
    obtain ⟨u, rfl⟩ := r
    exact SC.count ⟨_, rfl, Grow.same, _, rfl⟩
  | a :: b :: l, _ => exact absurd (by cases a <;> rfl) hb⟩
end
end Mine

/- part F16 -/
set_option Elab.async false
set_option linter.unusedVariables false
namespace Mine
open PySem PyProof.Rows

section
variable {G : Gd} {C : Cx} {A : Around} {P : List Addr} {env : Env} {s : Shared} {ρ : List Addr} {σ : Sto} {st : St}

/-- growth, and a new object that becomes a private pair of the store -/
theorem Inv.growPriv (I : Inv G s ρ σ) {h' : Heap} (g : Grow s.heap h') (z : s.heap.objs.size ≤ h'.objs.size) {q : Addr} (hq : s.heap.objs.size ≤ q) (hp : Prv h' q) (t : Nat) :
    Inv G { s with heap := h', toks := t } (ρ ++ [q]) (σ ++ [.priv]) ∧ Ev [] s.heap ρ h' (ρ ++ [q]) ∧ Stb s.heap ρ h' (ρ ++ [q]) := by
  have hqr : q ∉ ρ := fun m => Nat.lt_irrefl _ (Nat.lt_of_lt_of_le (I.mem_lt m) hq)
  have S : Stb s.heap ρ h' (ρ ++ [q]) := g.ext pre_append fun a o n1 ho _ m => by
    rcases List.mem_append.mp m with m | m
    · exact n1 m
    · rw [List.mem_singleton.mp m] at ho
      exact Nat.lt_irrefl _ (Nat.lt_of_lt_of_le (Heap.lt_size ho) hq)
  refine ⟨⟨fun b o e => g b o (I.base b o e), fun a m => ?_, ?_, by simp [I.len], fun k a p' e1 e2 => ?_, I.os, I.gens⟩, ev_adopt (g.ev z) hq, S⟩
  · rcases List.mem_append.mp m with m | m
    · exact I.new a m
    · rw [List.mem_singleton.mp m]; exact I.h0_le hq
  · refine List.nodup_append.mpr ⟨I.nodup, by simp, fun a m b m' e => ?_⟩
    rw [List.mem_singleton.mp m'] at e
    exact hqr (e ▸ m)
  · by_cases hk : k < ρ.length
    · rw [List.getElem?_append_left hk] at e1
      rw [List.getElem?_append_left (by rw [← I.len]; exact hk)] at e2
      exact (I.sto k a p' e1 e2).mono S (fun o' ho' => g a o' ho') z
    · have : k = ρ.length := by
        have := (List.getElem?_eq_some_iff.mp e1).1
        simp at this
        omega
      subst this
      simp at e1
      rw [I.len] at e2
      simp at e2
      subst e1 e2
      exact hp

/-! zip of two lists -/
/-- the end of a zip: the pair it keeps stays a pair -/
theorem zip_end {z TI TO i1 i2 l1 l2 : Addr} {k1 k2 : Nat} {xs ys : Array Value} {a b : Value} {Q : Option Value → Shared → Prop} {E : Value → Shared → Prop} (hh : A.handled = none) (Ap : ZipApart z TI TO i1 i2 l1 l2)
    (hz : IsZip s.heap z TI TO .none) (hTI : IsPair s.heap TI (.ref i1) (.ref i2)) (hTO : IsPair s.heap TO a b)
    (h1 : s.heap.IsListIter i1 l1 k1) (h2 : s.heap.IsListIter i2 l2 k2) (hl1 : s.heap.IsList l1 xs) (hl2 : s.heap.IsList l2 ys) (hend : xs[k1]? = none ∨ ys[k2]? = none)
    (hQ : ∀ h', (∀ c o, c ≠ z → c ≠ TO → c ≠ i1 → c ≠ i2 → s.heap.get? c = some o → h'.get? c = some o) → Prv h' TO → Q none { s with heap := h' }) : wpAny G.M A (pyNext (.ref z)) Q E s := by
  have hT : s.TypeIs (.ref z) "zip" := ⟨_, hz, rfl⟩
  have fin : ∀ h' e, (∀ c o, c ≠ z → c ≠ TO → c ≠ i1 → c ≠ i2 → s.heap.get? c = some o → h'.get? c = some o) → Prv h' TO → (∃ o, h'.get? e = some o ∧ o.cls = .type "StopIteration") →
      wpAny G.M A (do if ← isInstance (.ref e) (.type "StopIteration") then pure none else throw (.ref e)) Q E { s with heap := h' } := fun h' e hk hp ho => by
    obtain ⟨o, ho, hc⟩ := ho
    refine wpAny_bind (wpAny_isInstance (T := "StopIteration") (b := true) ⟨o, ho, hc⟩ isSubtype_stop ?_)
    exact wpAny_pure (hQ h' hk hp)
  unfold pyNext
  refine wpAny_bind (wpAny_attempt (wpAny_callSpecial?_slot (name := Str.ofString "__next__") hT F.slot_zip_next
    (wpAny_call_entry F.slot_zip_next hT F.entry_zip_next ?_ (F.args_zip_next_1 _))))
  show wpAny _ _ (field (.ref z) 2 >>= _) _ _ _
  refine wpAny_bind (wpAny_field hz rfl (x := .bool false) rfl ?_)
  show wpAny _ _ (field (.ref z) 3 >>= _) _ _ _
  refine wpAny_bind (wpAny_field hz rfl (x := .ref TI) rfl (wpAny_bind (wpAny_seqItems hTI rfl ?_)))
  show wpAny _ _ (Builtin.SmallTypes.ownedTupleIsFree (.ref z) >>= _) _ _ _
  unfold Builtin.SmallTypes.ownedTupleIsFree
  refine wpAny_bind (wpAny_bind (wpAny_field hz rfl (x := .none) rfl (wpAny_pure ?_)))
  simp only [if_true]
  refine wpAny_bind (wpAny_rule (wpAny_bind (wpAny_field hz rfl (x := .ref TO) rfl (wpAny_bind (wpAny_setField_rec hz (by simp) fun g1 z1 u1 => ?_)))))
  replace z1 : IsZip g1 z TI TO .ellipsis := z1
  refine wpAny_bind ?_
  simp only [List.zipIdx_cons, List.zipIdx_nil, List.forIn_cons, List.forIn_nil]
  refine wpAny_bind (wpAny_bind (wpAny_onRaise ?_))
  show wpAny _ _ (Builtin.SmallTypes.nextOf (.ref i1) >>= _) _ _ _
  cases hx : xs[k1]? with
  | none =>
    refine wpAny_bind (wpAny_nextOf_list_end hh (h1.extBut u1.extBut Ap.i1z) (hl1.extBut u1.extBut Ap.l1z) hx fun g2 e u2 he => ?_)
    obtain ⟨oe, hoe, hce⟩ := he
    have z2 : IsZip g2 z TI TO .ellipsis := u2 _ _ Ap.i1z.symm z1
    have hez : e ≠ z := fun q => by subst q; rw [z2] at hoe; cases hoe; simp at hce
    refine wpAny_setField_rec z2 (by simp) fun g3 _ u3 => ?_
    exact fin g3 e (fun c o c1 _ c3 _ q => u3.extBut _ _ c1 (u2 _ _ c3 (u1.extBut _ _ c1 q))) ⟨a, b, u3.extBut _ _ Ap.TOz (u2 _ _ Ap.TOi1 (u1.extBut _ _ Ap.TOz hTO))⟩ ⟨oe, u3.extBut _ _ hez hoe, hce⟩
  | some x =>
    have hy : ys[k2]? = none := by rcases hend with h | h; rw [hx] at h; cases h; exact h
    refine wpAny_bind (wpAny_nextOf_list_item (h1.extBut u1.extBut Ap.i1z) (hl1.extBut u1.extBut Ap.l1z) hx fun g2 _ u2 => wpAny_pure ?_)
    have t2 : IsPair g2 TO a b := u2.extBut _ _ Ap.TOi1 (u1.extBut _ _ Ap.TOz hTO)
    refine wpAny_bind (wpAny_seqItems t2 rfl (wpAny_bind (wpAny_updateSeq_pair t2 fun g3 t3 u3 => ?_)))
    replace t3 : IsPair g3 TO x b := t3
    refine wpAny_bind (wpAny_letGo (wpAny_pure (wpAny_bind (wpAny_bind (wpAny_onRaise ?_)))))
    show wpAny _ _ (Builtin.SmallTypes.nextOf (.ref i2) >>= _) _ _ _
    refine wpAny_bind (wpAny_nextOf_list_end hh (((h2.extBut u1.extBut Ap.i2z).extBut u2.extBut Ap.i12.symm).extBut u3.extBut Ap.TOi2.symm)
      (((hl2.extBut u1.extBut Ap.l2z).extBut u2.extBut Ap.l2i1).extBut u3.extBut Ap.l2TO) hy fun g4 e u4 he => ?_)
    obtain ⟨oe, hoe, hce⟩ := he
    have z4 : IsZip g4 z TI TO .ellipsis := u4 _ _ Ap.i2z.symm (u3.extBut _ _ Ap.TOz.symm (u2.extBut _ _ Ap.i1z.symm z1))
    have hez : e ≠ z := fun q => by subst q; rw [z4] at hoe; cases hoe; simp at hce
    refine wpAny_setField_rec z4 (by simp) fun g5 _ u5 => ?_
    exact fin g5 e (fun c o c1 c2 c3 c4 q => u5.extBut _ _ c1 (u4 _ _ c4 (u3.extBut _ _ c2 (u2.extBut _ _ c3 (u1.extBut _ _ c1 q))))) ⟨x, b, u5.extBut _ _ Ap.TOz (u4 _ _ Ap.TOi2 t3)⟩ ⟨oe, u5.extBut _ _ hez hoe, hce⟩

def zipped (ds1 ds2 : List D) : List D := (ds1.zip ds2).map fun p => D.tup [p.1, p.2]
structure ZS (G : Gd) (z TI TO i1 i2 : Addr) (k1 k2 kp : Nat) (ds1 ds2 : List D) (f0 : Value) (rem : List D) (h : Heap) (ρ : List Addr) (σ : Sto) : Prop where
  iz : Itr G h ρ z
  j1 : Itr G h ρ i1
  j2 : Itr G h ρ i2
  s1 : σ[k1]? = some (.list ds1)
  s2 : σ[k2]? = some (.list ds2)
  sp : σ[kp]? = some .priv
  rp : ρ[kp]? = some TO
  ti : TI ∉ ρ
  n12 : i1 ≠ i2
  zip : IsZip h z TI TO f0
  pair : IsPair h TI (.ref i1) (.ref i2)
  ex : ∃ l1 l2 i, ρ[k1]? = some l1 ∧ ρ[k2]? = some l2 ∧ h.IsListIter i1 l1 i ∧ h.IsListIter i2 l2 i ∧ rem = (zipped ds1 ds2).drop i
def zipG (k1 k2 kp : Nat) (ds1 ds2 : List D) (σ : Sto) : Prop := σ[k1]? = some (.list ds1) ∧ σ[k2]? = some (.list ds2) ∧ σ[kp]? = some .priv

theorem keepObj {h h' : Heap} {ρ' : List Addr} (x : Ev P h ρ h' ρ') (N : NT h P) {a : Addr} {o : Obj} (ho : h.get? a = some o) (hn : a ∉ ρ) (hd : ∀ es n, o.data ≠ .dict es n) (hc : ∀ v, o.data ≠ .cell v) (hl : o.cls ≠ .type "list") : a ∉ ρ' ∧ h'.get? a = some o := by
  obtain ⟨o', ho', q⟩ := x.keep a o ho hn (fun m => by
    obtain ⟨o', ho', z⟩ := N a m
    rw [ho] at ho'; cases ho'
    rcases z with ⟨_, _, z⟩ | ⟨_, z⟩ | ⟨_, _, z⟩
    · exact hd _ _ z
    · exact hc _ z
    · rw [z] at hl; exact hl rfl)
  rw [q.eq hd] at ho'
  exact ⟨x.notin ho hn, ho'⟩

theorem ZS.apart {z TI TO i1 i2 : Addr} {k1 k2 kp : Nat} {ds1 ds2 rem : List D} {f0 : Value} (Z : ZS G z TI TO i1 i2 k1 k2 kp ds1 ds2 f0 rem s.heap ρ σ) (I : Inv G s ρ σ) {l1 l2 : Addr} {i : Nat} (e1 : ρ[k1]? = some l1) (e2 : ρ[k2]? = some l2)
    (h1 : s.heap.IsListIter i1 l1 i) (h2 : s.heap.IsListIter i2 l2 i) : ZipApart z TI TO i1 i2 l1 l2 := by
  obtain ⟨o1, ho1, hc1, _⟩ := h1
  obtain ⟨o2, ho2, hc2, _⟩ := h2
  have hz : s.heap.get? z = some _ := Z.zip
  have hp : s.heap.get? TI = some _ := Z.pair
  have inr : ∀ {a b : Addr}, a ∈ ρ → b ∉ ρ → a ≠ b := fun m n e => n (e ▸ m)
  have mTO := List.mem_of_getElem? Z.rp
  have m1 := List.mem_of_getElem? e1
  have m2 := List.mem_of_getElem? e2
  refine ⟨fun e => ?_, inr mTO Z.iz.2.1, fun e => ?_, fun e => ?_, fun e => Z.ti (e ▸ mTO), fun e => ?_, fun e => ?_, inr mTO Z.j1.2.1, inr mTO Z.j2.2.1, Z.n12, inr m1 Z.iz.2.1, fun e => ?_, inr m1 Z.j1.2.1, inr m1 Z.j2.2.1, inr m2 Z.iz.2.1, fun e => ?_, inr m2 Z.j1.2.1, inr m2 Z.j2.2.1⟩
  · rw [e, hz] at hp; simp at hp
  · rw [e, hz] at ho1; cases ho1; simp at hc1
  · rw [e, hz] at ho2; cases ho2; simp at hc2
  · rw [e, ho1] at hp; cases hp; simp at hc1
  · rw [e, ho2] at hp; cases hp; simp at hc2
  · subst e
    have := nodup_getElem_inj I.nodup e1 Z.rp
    subst this
    have := Z.s1; rw [Z.sp] at this; cases this
  · subst e
    have := nodup_getElem_inj I.nodup e2 Z.rp
    subst this
    have := Z.s2; rw [Z.sp] at this; cases this

theorem zipped_get {ds1 ds2 : List D} {i : Nat} {d : D} (h : (zipped ds1 ds2)[i]? = some d) : ∃ a b, ds1[i]? = some a ∧ ds2[i]? = some b ∧ d = .tup [a, b] := by
  simp only [zipped, List.getElem?_map, Option.map_eq_some_iff] at h
  obtain ⟨⟨a, b⟩, h, rfl⟩ := h
  obtain ⟨h1, h2⟩ := List.getElem?_zip_eq_some.mp h
  exact ⟨a, b, h1, h2, rfl⟩
theorem zipped_len {ds1 ds2 : List D} : (zipped ds1 ds2).length = min ds1.length ds2.length := by simp [zipped]

def isTupleT (e : Expr) : Prop := ∃ elts k pos, e = .Tuple elts k pos
theorem itx_zip {z TI TO i1 i2 : Addr} {k1 k2 kp : Nat} {ds1 ds2 : List D} : Itx G z [z, TO, i1, i2] isTupleT (zipG k1 k2 kp ds1 ds2) (ZS G z TI TO i1 i2 k1 k2 kp ds1 ds2 .none)
    (fun v rem h ρ σ => ∃ T, v = .ref T ∧ ZS G z TI TO i1 i2 k1 k2 kp ds1 ds2 (rawInt T) rem h ρ σ) where
  own rem h ρ σ t q m := by
    simp only [List.mem_cons, List.not_mem_nil, or_false] at m
    rcases m with rfl | rfl | rfl | rfl
    · exact .inl (.inl t.iz)
    · exact .inr ⟨kp, t.rp, t.sp⟩
    · exact .inl (.inl t.j1)
    · exact .inl (.inl t.j2)
  ownM v rem h ρ σ t q m := by
    obtain ⟨T, rfl, t⟩ := t
    simp only [List.mem_cons, List.not_mem_nil, or_false] at m
    rcases m with rfl | rfl | rfl | rfl
    · exact .inl (.inl t.iz)
    · exact .inr ⟨kp, t.rp, t.sp⟩
    · exact .inl (.inl t.j1)
    · exact .inl (.inl t.j2)
  keep P rem s ρ σ s' ρ' σ' t I0 I' x N g := by
    obtain ⟨l1, l2, i, e1, e2, h1, h2, e3⟩ := t.ex
    obtain ⟨iz', ez⟩ := t.iz.keep x N
    obtain ⟨j1', ej1⟩ := t.j1.keep x N
    obtain ⟨j2', ej2⟩ := t.j2.keep x N
    obtain ⟨ti', hp'⟩ := keepObj x N t.pair t.ti (fun _ _ z => by cases z) (fun _ z => by cases z) (by intro z; simp at z)
    obtain ⟨o1, ho1, r1⟩ := h1
    obtain ⟨o2, ho2, r2⟩ := h2
    exact ⟨iz', j1', j2', g.1, g.2.1, g.2.2, x.pre _ _ t.rp, ti', t.n12, ez.trans t.zip, hp', l1, l2, i, x.pre _ _ e1, x.pre _ _ e2, ⟨o1, ej1.trans ho1, r1⟩, ⟨o2, ej2.trans ho2, r2⟩, e3⟩
  next A s ρ σ rem Q E hh I0 t h1 h2 := by
    obtain ⟨l1, l2, i, e1, e2, hi1, hi2, e3⟩ := t.ex
    have Dd := t.apart I0 e1 e2 hi1 hi2
    obtain ⟨a, b, hTO⟩ := I0.sto kp TO .priv t.rp t.sp
    obtain ⟨xs, hl1, r1⟩ := I0.sto k1 l1 _ e1 t.s1
    obtain ⟨ys, hl2, r2⟩ := I0.sto k2 l2 _ e2 t.s2
    have np : ∀ q, q ∈ [z, TO, i1, i2] → Prv s.heap q → q = TO := fun q m p => by
      simp only [List.mem_cons, List.not_mem_nil, or_false] at m
      rcases m with rfl | rfl | rfl | rfl
      · exact absurd p t.iz.notPrv
      · rfl
      · exact absurd p t.j1.notPrv
      · exact absurd p t.j2.notPrv
    cases rem with
    | nil =>
      have hend : xs[i]? = none ∨ ys[i]? = none := by
        have h3 := drop_nil e3
        rw [zipped_len] at h3
        rw [← r1.size, ← r2.size] at h3
        rcases Nat.le_total xs.size ys.size with h | h
        · left; simp; omega
        · right; simp; omega
      refine wpAny_szd (zip_end hh Dd t.zip t.pair hTO hi1 hi2 hl1.list hl2.list hend fun h' hk hp zz => ?_)
      exact h1 rfl h' s.toks ⟨fun c o n e => hk c o (fun q => n (by simp [q])) (fun q => n (by simp [q])) (fun q => n (by simp [q])) (fun q => n (by simp [q])) e, zz, fun q m p => by rw [np q m p]; exact hp⟩
    | cons d rest =>
      obtain ⟨hd, hr⟩ := drop_cons e3
      obtain ⟨da, db, ha, hb, rfl⟩ := zipped_get hd
      obtain ⟨va, hva, ra⟩ := r1.all2.get i da ha
      obtain ⟨vb, hvb, rb⟩ := r2.all2.get i db hb
      refine wpAny_pyNext_zip_item Dd t.zip t.pair hTO hi1 hi2 hl1.list hl2.list (by simpa using hva) (by simpa using hvb) fun h' a1 a2 a3 a4 a5 a6 hk => ?_
      have ho : Only [z, TO, i1, i2] s.heap h' := ⟨fun c o n e => hk c o (fun q => n (by simp [q])) (fun q => n (by simp [q])) (fun q => n (by simp [q])) (fun q => n (by simp [q])) e, by omega, fun q m p => by rw [np q m p]; exact ⟨_, _, a2⟩⟩
      have own : ∀ q, q ∈ [z, TO, i1, i2] → Own G s.heap ρ σ q := fun q m => by
        simp only [List.mem_cons, List.not_mem_nil, or_false] at m
        rcases m with rfl | rfl | rfl | rfl
        · exact .inl (.inl t.iz)
        · exact .inr ⟨kp, t.rp, t.sp⟩
        · exact .inl (.inl t.j1)
        · exact .inl (.inl t.j2)
      have S := ho.stb own
      refine h2 _ rest rfl (.ref s.heap.objs.size) h' s.toks ho ?_ ⟨_, rfl, ?_⟩
      · simp only [Rel]
        refine ⟨_, #[va, vb], rfl, I0.size_notin, ⟨0, a5⟩, ?_⟩
        simp only [RelL]
        exact ⟨_, _, rfl, Rel.mono S _ _ ra, _, _, rfl, Rel.mono S _ _ rb, rfl⟩
      · have it1 : Itr G h' ρ i1 := by obtain ⟨o, ho, hc, hd⟩ := a3; exact ⟨t.j1.1, t.j1.2.1, o, _, _, ho, hc, by decide, hd⟩
        have it2 : Itr G h' ρ i2 := by obtain ⟨o, ho, hc, hd⟩ := a4; exact ⟨t.j2.1, t.j2.2.1, o, _, _, ho, hc, by decide, hd⟩
        exact ⟨⟨t.iz.1, t.iz.2.1, _, _, _, a1, rfl, by decide, rfl⟩, it1, it2, t.s1, t.s2, t.sp, t.rp, t.ti, t.n12, a1, hk _ _ Dd.TIz Dd.TITO Dd.TIi1 Dd.TIi2 t.pair, l1, l2, i + 1, e1, e2, a3, a4, hr⟩
  go A s ρ σ tgt v rest Q E ht I0 t h := by
    obtain ⟨T, rfl, t⟩ := t
    obtain ⟨elts, k, pos, rfl⟩ := ht
    obtain ⟨l1, l2, i, e1, e2, hi1, hi2, e3⟩ := t.ex
    have Dd := t.apart I0 e1 e2 hi1 hi2
    refine wpAny_letOwnedTupleGo_zip t.zip fun h' hz' hs' => h h' ⟨fun b o n e => hs'.extBut _ _ (fun q => n (by simp [q])) e, Nat.le_of_eq hs'.1.symm, fun q m p => ?_⟩ ?_
    · obtain ⟨x, y, p⟩ := p
      by_cases hq : q = z
      · subst hq; exact absurd ⟨x, y, p⟩ t.iz.notPrv
      · exact ⟨x, y, hs'.extBut _ _ hq p⟩
    · obtain ⟨_, _, o1, T1, vs1, ho1, hc1, hT1, hd1⟩ := id t.j1
      obtain ⟨_, _, o2, T2, vs2, ho2, hc2, hT2, hd2⟩ := id t.j2
      exact ⟨⟨t.iz.1, t.iz.2.1, _, _, _, hz', rfl, by decide, rfl⟩, ⟨t.j1.1, t.j1.2.1, o1, T1, vs1, hs'.extBut _ _ Dd.i1z ho1, hc1, hT1, hd1⟩, ⟨t.j2.1, t.j2.2.1, o2, T2, vs2, hs'.extBut _ _ Dd.i2z ho2, hc2, hT2, hd2⟩, t.s1, t.s2, t.sp, t.rp, t.ti, t.n12, hz', hs'.extBut _ _ Dd.TIz t.pair,
        l1, l2, i, e1, e2, hi1.extBut hs'.extBut Dd.i1z, hi2.extBut hs'.extBut Dd.i2z, e3⟩
theorem self_zip {z TI TO i1 i2 : Addr} {k1 k2 kp : Nat} {ds1 ds2 : List D} : ItSelf G z (ZS G z TI TO i1 i2 k1 k2 kp ds1 ds2 .none) := fun A s ρ σ rem Q E hh t h => wpAny_pyIter_zip t.zip h

def pZip : List D → Mn Src
  | [.ref k1, .ref k2] => fun st => match st.sto[k1]?, st.sto[k2]? with
    | some (.list a), some (.list b) => .ok ⟨zipped a b, zipG k1 k2 st.sto.length a b⟩ ⟨st.loc, st.sto ++ [.priv]⟩
    | _, _ => .bot
  | _ => botM
theorem ts_zip : TSrc G "zip" isTupleT pZip := fun C A P env s ρ st ds vs K r hb => by
  match ds, r with
  | [], _ => exact absurd rfl hb
  | [d], _ => exact absurd (by cases d <;> rfl) hb
  | [d1, d2], r =>
    simp only [RelL] at r
    obtain ⟨v1, _, rfl, r1, v2, _, rfl, r2, rfl⟩ := r
    cases d1 <;> cases d2 <;> first | exact absurd rfl hb | skip
    rename_i k1 k2
    simp only [Rel] at r1 r2
    obtain ⟨l1, rfl, e1⟩ := r1; obtain ⟨l2, rfl, e2⟩ := r2
    obtain ⟨a, b, q1, q2⟩ : ∃ a b, st.sto[k1]? = some (.list a) ∧ st.sto[k2]? = some (.list b) := by
      cases q1 : st.sto[k1]? with
      | none => exact absurd (by simp only [pZip, q1]) hb
      | some o1 =>
        cases q2 : st.sto[k2]? with
        | none => exact absurd (by simp only [pZip, q1, q2]) hb
        | some o2 =>
          cases o1 <;> cases o2 <;> first | exact ⟨_, _, rfl, rfl⟩ | exact absurd (by simp only [pZip, q1, q2]) hb
    obtain ⟨xs, hl1, rr1⟩ := K.inv.sto k1 l1 _ e1 q1
    obtain ⟨ys, hl2, rr2⟩ := K.inv.sto k2 l2 _ e2 q2
    refine wpAny_szd (call_zip_2 hl1.list hl2.list fun h' hz hTI hTO hi1 hi2 hsz hk zz => ?_)
    refine wpAny_pyIter_zip hz ?_
    obtain ⟨I', x', S'⟩ := K.inv.growPriv (h' := h') hk zz (q := s.heap.objs.size + 3) (Nat.le_add_right _ _) ⟨_, _, hTO⟩ s.toks
    have hnew : ∀ j, j ≠ 3 → s.heap.objs.size + j ∉ ρ ++ [s.heap.objs.size + 3] := fun j hj m => by
      rcases List.mem_append.mp m with m | m
      · exact Nat.lt_irrefl _ (Nat.lt_of_lt_of_le (K.inv.mem_lt m) (Nat.le_add_right _ j))
      · exact hj (Nat.add_left_cancel (List.mem_singleton.mp m))
    have h0 : ∀ j, G.h0.get? (s.heap.objs.size + j) = none := fun j => K.inv.h0_le (Nat.le_add_right _ _)
    have klt1 : k1 < st.sto.length := (List.getElem?_eq_some_iff.mp q1).1
    have klt2 : k2 < st.sto.length := (List.getElem?_eq_some_iff.mp q2).1
    obtain ⟨o1, ho1, hc1, hd1⟩ := id hi1
    obtain ⟨o2, ho2, hc2, hd2⟩ := id hi2
    refine ⟨_, ⟨zipped a b, zipG k1 k2 st.sto.length a b⟩, _, s.heap.objs.size + 4, [s.heap.objs.size + 4, s.heap.objs.size + 3, s.heap.objs.size, s.heap.objs.size + 1], _, _, by simp only [pZip, q1, q2], I', x', rfl, itx_zip (TI := s.heap.objs.size + 2), self_zip, ?_, fun q m => ?_⟩
    · exact ⟨⟨h0 4, hnew 4 (by decide), _, _, _, hz, rfl, by decide, rfl⟩, ⟨h0 0, hnew 0 (by decide), o1, _, _, ho1, hc1, by decide, hd1⟩, ⟨h0 1, hnew 1 (by decide), o2, _, _, ho2, hc2, by decide, hd2⟩,
        by rw [List.getElem?_append_left klt1]; exact q1, by rw [List.getElem?_append_left klt2]; exact q2, by simp, by rw [← K.inv.len]; simp, hnew 2 (by decide), Nat.ne_of_lt (Nat.lt_succ_self _), hz, hTI, l1, l2, 0, pre_append _ _ e1, pre_append _ _ e2, hi1, hi2, rfl⟩
    · simp only [List.mem_cons, List.not_mem_nil, or_false] at m
      rcases m with rfl | rfl | rfl | rfl
      · exact Nat.le_add_right _ _
      · exact Nat.le_add_right _ _
      · exact Nat.le_refl _
      · exact Nat.le_add_right _ _
  | a :: b :: c :: l, _ => exact absurd (by cases a <;> cases b <;> rfl) hb
end
end Mine

/- part F17 -/
set_option Elab.async false
set_option linter.unusedVariables false
namespace Mine
open PySem PySem.W PyProof.Rows

/-- what the law's call finds -/
structure Lay (G : Gd) (K : Frag) : Prop where
  kin : K.In G.h0
  g : ∃ mg, G.h0.Ns mainGlobals mg
  b : ∃ mb, G.h0.Ns builtinsNs mb ∧ ∀ x : Str, x ≠ "__name__" → mb x = bootBuiltins x
  lim : G.h0.NoLimit

section
variable {G : Gd} {K : Frag} {C : Cx}
theorem Lay.glob (L : Lay G K) {x : Str} {v : Value} (e : nsIn K mainGlobals x = some (some v)) : GlobIs G x v := by
  obtain ⟨mg, n⟩ := L.g
  exact ⟨mg, n, mg_of L.kin n e⟩
theorem Lay.bui (L : Lay G K) {x : Str} {v : Value} (e : nsIn K mainGlobals x = some none) (e2 : bootBuiltins x = some v) (hn : (x == ("__name__" : Str)) = false) : BuiIs G x v := by
  obtain ⟨mg, n⟩ := L.g
  obtain ⟨mb, n', h⟩ := L.b
  refine ⟨mg, mb, n, mg_none_of L.kin n e, n', ?_⟩
  rw [h x (fun z => by rw [z] at hn; simp at hn)]
  exact e2

def intB (K : Frag) (x : Str) (i : Int) : Bool := match nsIn K mainGlobals x with
  | some (some (.int j _)) => j == i
  | _ => false
theorem Lay.globInt (L : Lay G K) {x : Str} {i : Int} (e : intB K x i = true) : ∃ t, GlobIs G x (.int i t) := by
  unfold intB at e
  split at e
  · rename_i j t h
    cases (beq_iff_eq.mp e)
    exact ⟨t, L.glob h⟩
  · cases e
theorem se_globI {x : Str} {i : Int} {pos : Pos} (hg : ∃ t, GlobIs G x (.int i t)) (hn : C.names.lookup x = some .globalImplicit) (hd : (x == ("__debug__" : Str)) = false) : SE G C (.Name x pos) (ret1 (.int i)) :=
  let ⟨_, h⟩ := hg; se_globInt h hn hd

/-- the def at a, as data -/
def fdAt (K : Frag) (a : Addr) : FuncData := match K.lookup a with
  | some o => match o.data with
    | .func fd => fd
    | _ => default
  | none => default
def codeB (K : Frag) (cd : Value) (q : Str) : Bool := match cd with
  | .ref c => match K.lookup c with
    | some o => match o.data with
      | .fields vs => match (vs[1]? : Option Value) with
        | some (.str q' _) => q' == q
        | _ => false
      | _ => false
    | none => false
  | _ => false
def isFuncB (K : Frag) (a : Addr) : Bool := match K.lookup a with
  | some o => match o.data with
    | .func _ => true
    | _ => false
  | none => false
def parB (names : List (Str × NameKind)) (xs : List Str) : Bool := xs.all fun x => match names.lookup x with
  | some .local => true
  | some .cell => true
  | _ => false
def nofreeB (names : List (Str × NameKind)) : Bool := names.all fun p => p.2 != .free

theorem obj_of_isFunc {a : Addr} (h : isFuncB K a = true) : ∃ o, K.lookup a = some o ∧ o.data = .func (fdAt K a) := by
  unfold isFuncB at h
  split at h
  · rename_i o ho
    split at h
    · rename_i fd hd
      refine ⟨o, ho, ?_⟩
      unfold fdAt
      simp only [ho, hd]
    · cases h
  · cases h
theorem code_of {cd : Value} {q : Str} (L : Lay G K) (h : codeB K cd q = true) : G.h0.CodeRec cd q := by
  unfold codeB at h
  split at h
  · rename_i c
    split at h
    · rename_i o ho
      split at h
      · rename_i vs hd
        split at h
        · rename_i q' t e
          cases (beq_iff_eq.mp h)
          exact ⟨c, o, vs, t, rfl, L.kin _ _ ho, hd, e⟩
        · cases h
      · cases h
    · cases h
  · cases h

theorem bind1 {fd : FuncData} {x : Str} (h : ∀ a, bindArgs fd ⟨[a], []⟩ = pure [(x, a)]) : ∀ vs : List Value, vs.length = [x].length → bindArgs fd ⟨vs, []⟩ = pure ([x].zip vs)
  | [a], _ => h a
theorem bind2 {fd : FuncData} {x y : Str} (h : ∀ a b, bindArgs fd ⟨[a, b], []⟩ = pure [(x, a), (y, b)]) : ∀ vs : List Value, vs.length = [x, y].length → bindArgs fd ⟨vs, []⟩ = pure ([x, y].zip vs)
  | [a, b], _ => h a b
theorem bind3 {fd : FuncData} {x y z : Str} (h : ∀ a b c, bindArgs fd ⟨[a, b, c], []⟩ = pure [(x, a), (y, b), (z, c)]) : ∀ vs : List Value, vs.length = [x, y, z].length → bindArgs fd ⟨vs, []⟩ = pure ([x, y, z].zip vs)
  | [a, b, c], _ => h a b c
theorem bind4 {fd : FuncData} {x y z u : Str} (h : ∀ a b c d, bindArgs fd ⟨[a, b, c, d], []⟩ = pure [(x, a), (y, b), (z, c), (u, d)]) : ∀ vs : List Value, vs.length = [x, y, z, u].length → bindArgs fd ⟨vs, []⟩ = pure ([x, y, z, u].zip vs)
  | [a, b, c, d], _ => h a b c d
theorem bind5 {fd : FuncData} {x y z u v : Str} (h : ∀ a b c d e, bindArgs fd ⟨[a, b, c, d, e], []⟩ = pure [(x, a), (y, b), (z, c), (u, d), (v, e)]) : ∀ vs : List Value, vs.length = [x, y, z, u, v].length → bindArgs fd ⟨vs, []⟩ = pure ([x, y, z, u, v].zip vs)
  | [a, b, c, d, e], _ => h a b c d e
theorem bind6 {fd : FuncData} {x y z u v r : Str} (h : ∀ a b c d e f, bindArgs fd ⟨[a, b, c, d, e, f], []⟩ = pure [(x, a), (y, b), (z, c), (u, d), (v, e), (r, f)]) : ∀ vs : List Value, vs.length = [x, y, z, u, v, r].length → bindArgs fd ⟨vs, []⟩ = pure ([x, y, z, u, v, r].zip vs)
  | [a, b, c, d, e, f], _ => h a b c d e f

/-- the def at a: what is to be looked at -/
def defB (K : Frag) (a : Addr) (xs : List Str) : Bool :=
  isFuncB K a && codeB K (fdAt K a).code (fdAt K a).qualname && (fdAt K a).closure.isEmpty && ((fdAt K a).globals == mainGlobals) && ((fdAt K a).builtins == builtinsNs) &&
  (fdAt K a).scope.kind == .function && !(fdAt K a).scope.isCoroutine && !(fdAt K a).scope.isGenerator && parB (fdAt K a).scope.names xs && nofreeB (fdAt K a).scope.names

theorem fnIs_of {a : Addr} {body : List Stmt} {xs : List Str} (L : Lay G K) (h : defB K a xs = true) (hb : (fdAt K a).body = .stmts body) (hbind : ∀ vs : List Value, vs.length = xs.length → bindArgs (fdAt K a) ⟨vs, []⟩ = pure (xs.zip vs)) : FnIs G a (fdAt K a) body xs := by
  simp only [defB, Bool.and_eq_true, beq_iff_eq, Bool.not_eq_true', List.isEmpty_iff] at h
  obtain ⟨⟨⟨⟨⟨⟨⟨⟨⟨h1, h2⟩, h3⟩, h4⟩, h5⟩, h6⟩, h7⟩, h8⟩, h9⟩, h10⟩ := h
  obtain ⟨o, ho, hd⟩ := obj_of_isFunc h1
  refine ⟨⟨o, L.kin _ _ ho, hd⟩, hb, h4, h3, h5, code_of L h2, L.lim, h6, h7, h8, hbind, fun x m => ?_, fun x m => ?_⟩
  · have := List.all_eq_true.mp h9 x m
    split at this
    · left; assumption
    · right; assumption
    · cases this
  · have := List.all_eq_true.mp h10 x m
    intro z
    rw [z] at this
    simp at this

theorem sf_of {a : Addr} {body : List Stmt} {names : List (Str × NameKind)} {xs : List Str} {is : List Nat} {tbl : List Str} {n : Nat} {m : Mn Fl} (Fi : FnIs G a (fdAt K a) body xs) (hn : (fdAt K a).scope.names = names) (tnd : tbl.Nodup)
    (hi : is.map (fun i => tbl[i]?) = xs.map some) (hb : SSs G ⟨names, tbl, n⟩ body m) : SF G (n + 1) a (mkFn is m) := by
  subst hn
  refine sf_body Fi tnd ?_ hb
  clear hb Fi
  induction is generalizing xs with
  | nil => cases xs with
    | nil => exact .nil
    | cons _ _ => simp at hi
  | cons i is ih => cases xs with
    | nil => simp at hi
    | cons x xs =>
      simp only [List.map_cons, List.cons.injEq] at hi
      exact .cons hi.1 (ih hi.2)
theorem Lay.fd (L : Lay G K) {a : Addr} (h : isFuncB K a = true) : ∃ o fd, G.h0.get? a = some o ∧ o.data = .func fd := by
  obtain ⟨o, ho, hd⟩ := obj_of_isFunc h
  exact ⟨o, _, L.kin _ _ ho, hd⟩

/-! the base of a method's call -/
theorem base_const {c : Const} {k : Nat} {p : Pos} {name : Str} (env : Env) : attributeBase (.Constant c k p) name env (eval (.Constant c k p) env) = eval (.Constant c k p) env := (show ∀ whole, attributeBase (.Constant c k p) name env whole = whole from fun _ => rfl) _
theorem base_name {x : Str} {p : Pos} {name : Str} (env : Env) : attributeBase (.Name x p) name env (eval (.Name x p) env) = eval (.Name x p) env := (show ∀ whole, attributeBase (.Name x p) name env whole = whole from fun _ => rfl) _
theorem base_sub {v i : Expr} {p : Pos} {name : Str} (env : Env) : attributeBase (.Subscript v i p) name env (eval (.Subscript v i p) env) = eval (.Subscript v i p) env := (show ∀ whole, attributeBase (.Subscript v i p) name env whole = whole from fun _ => rfl) _
theorem base_call {f e : Expr} {es : List Expr} {ks : List Keyword} {p : Pos} {name : Str} (env : Env) : attributeBase (.Call f (e :: es) ks p) name env (eval (.Call f (e :: es) ks p) env) = eval (.Call f (e :: es) ks p) env :=
  (show ∀ whole, attributeBase (.Call f (e :: es) ks p) name env whole = whole from fun _ => by cases f <;> rfl) _

/-! words for the denotations -/
abbrev nilM : Mn (List D) := ret1 []
abbrev consM (m : Mn D) (ms : Mn (List D)) : Mn (List D) := bnd m fun d => bnd ms fun ds => ret1 (d :: ds)
abbrev binM (f : D → D → Mn D) (m1 m2 : Mn D) : Mn D := bnd m1 fun a => bnd m2 fun b => f a b
abbrev cmpM (f : D → D → Mn D) (m1 m2 : Mn D) : Mn Bool := bnd m1 fun a => bnd m2 fun b => bnd (f a b) truthyD
abbrev cmp2M (f g : D → D → Mn D) (m1 m2 m3 : Mn D) : Mn Bool := bnd m1 fun a => bnd m2 fun b => bnd (f a b) fun c => bnd (truthyD c) fun t => if t then (bnd m3 fun c => bnd (g b c) truthyD) else ret1 false
abbrev iteM (c : Mn Bool) (m1 m2 : Mn D) : Mn D := bnd c fun b => if b then m1 else m2
abbrev retM (m : Mn D) : Mn Fl := bnd m fun d => ret1 (.ret d)
abbrev nameT (i : Nat) : D → Loc → Option Loc := fun d loc => some (upd loc i d)

/-! the text of a def, as data -/
def bodyAt (p : Program) (n : Nat) : List Stmt := match p.main.body[n]? with
  | some (.FunctionDef _ _ b _ _ _ _ _ _ _) => b
  | _ => []
def namesAt (p : Program) (n : Nat) : List (Str × NameKind) := match p.main.body[n]? with
  | some (.FunctionDef _ _ _ _ _ _ s _ _ _) => s.names
  | _ => []

/-! comprehensions: what is to be looked at -/
def compB (C : Cx) (scope : Scope) (cls : List Nat) : Bool :=
  scope.kind == .function && (scope.names.all fun p => p.2 != .cell) && (scope.names.all fun p => p.2 != .local || scope.names.lookup p.1 == some .local) &&
  (scope.names.all fun p => p.2 != .free || ((C.names.lookup p.1 == some .cell || C.names.lookup p.1 == some .free) && C.tbl.contains p.1)) &&
  ((List.range C.tbl.length).all fun i => match C.tbl[i]? with
    | some x => scope.names.lookup x != some .local || cls.contains i
    | none => true)
theorem compSt_of {scope : Scope} {cls : List Nat} (h : compB C scope cls = true) : CompSt C scope cls := by
  simp only [compB, Bool.and_eq_true, beq_iff_eq] at h
  obtain ⟨⟨⟨⟨h1, h2⟩, h3⟩, h4⟩, h5⟩ := h
  refine ⟨h1, fun x m z => ?_, fun x m z => ?_, fun x m z => ?_, fun i x e z => ?_⟩
  · have := List.all_eq_true.mp h2 x m
    rw [z] at this; simp at this
  · have := List.all_eq_true.mp h3 x m
    rw [z] at this; simpa using this
  · have := List.all_eq_true.mp h4 x m
    rw [z] at this; simpa using this
  · have := List.all_eq_true.mp h5 i (List.mem_range.mpr (List.getElem?_eq_some_iff.mp e).1)
    simp only [e] at this
    rw [z] at this; simpa using this

theorem swaps_yes {elt : Expr} {gens : List Comprehension} {scope : Scope} {cpos np : Pos} {x : Str} {line : Nat} (h1 : (np.line == cpos.line) = true) (h2 : (scope.names.any fun p => p.1 == x && (p.2 == .local || p.2 == .cell)) = false) (env : Env) (hk : env.kindOf x = some .local) (hb : env.blockKind = .function) :
    swapsWith (.ListComp elt gens scope cpos) (some (.Name x np)) line env = pure true := by
  show (pure (env.blockKind == .function && env.kindOf x == some .local && np.line == cpos.line && !(scope.names.any fun p => p.1 == x && (p.2 == .local || p.2 == .cell))) : Sem Bool) = pure true
  rw [h1, h2, hk, hb]; rfl
theorem swaps_cell {elt : Expr} {gens : List Comprehension} {scope : Scope} {cpos np : Pos} {x : Str} {line : Nat} (env : Env) (hk : env.kindOf x = some .cell) :
    swapsWith (.ListComp elt gens scope cpos) (some (.Name x np)) line env = pure false := by
  show (pure (env.blockKind == .function && env.kindOf x == some .local && np.line == cpos.line && !(scope.names.any fun p => p.1 == x && (p.2 == .local || p.2 == .cell))) : Sem Bool) = pure false
  rw [hk]
  have : (some NameKind.cell == some NameKind.local) = false := by decide
  rw [this]; simp
end
end Mine

/- part F18 -/
set_option Elab.async false
set_option linter.unusedVariables false
namespace Mine
open PySem PySem.W PyProof.Rows

/-- the law holds, as the pure run says so -/
theorem law_ends {prog : Program} {w : World} {s₁ : Shared} {a fa l : Addr} {n : Nat} {F : List D → Mn D} {c : ClaimW} {cl : Str → Option Addr} {mean : ExcName → Option Value} {args : List WData} {vs : List Value} {ns : List Int}
    (hF : SF ⟨prog, w, s₁.heap, s₁.os, s₁.gens⟩ n a F) (hn : n ≤ 500) (hfa : fa = a) (hL : s₁.heap.IsList l vs.toArray) (hI : IntsAre vs ns) (hg : s₁.gens = #[]) (hc1 : ∀ cls, c.raises args cls = false) (hc2 : c.post args (.bool true) args = true)
    (hp : ∃ σ', F [.scr ns] ⟨emptyL, []⟩ = .ok (.bool true) ⟨emptyL, σ'⟩) :
    wpAny (model prog w) callerA (call (.ref fa) [.ref l]) (fun v s' => GoodWG c cl mean args s₁ (.ok (.ret v)) s') (fun e s' => GoodWG c cl mean args s₁ (.error e) s') s₁ := by
  subst hfa
  obtain ⟨σ', hp⟩ := hp
  have hi : IsInts vs.toArray.toList ns := by
    simp only [List.toList_toArray]
    clear hL hp
    induction hI with
    | nil => exact .nil
    | cons n t _ ih => exact .cons ⟨t, rfl⟩ ih
  have hb : F [.scr ns] ⟨emptyL, []⟩ ≠ .bot := by rw [hp]; intro z; cases z
  have I : Inv ⟨prog, w, s₁.heap, s₁.os, s₁.gens⟩ s₁ [] [] := ⟨fun _ _ e => e, fun _ m => (nomatch m), List.nodup_nil, rfl, fun _ _ _ e => (by simp at e), rfl, rfl⟩
  refine wpAny_mono (hF callerA default s₁ [] ⟨emptyL, []⟩ [.scr ns] [.ref l] ⟨rfl, ?_, ?_⟩ I ⟨⟨[], rfl⟩, fun fs e => by cases e; intro _ m; nomatch m⟩ ?_ hb) (fun v s' q => ?_) fun x s' q => ?_
  · show 1 + claimMargin + n ≤ 900
    have : claimMargin ≤ 300 := by decide
    omega
  · show 4 + 10 * n ≤ 9000
    omega
  · simp only [RelL, Rel]
    exact ⟨_, _, rfl, ⟨l, vs.toArray, rfl, hL, hi⟩, rfl⟩
  · obtain ⟨ρ', d, σ'', e, I', x, r⟩ := q
    rw [hp] at e
    cases e
    cases (show v = .bool true from r)
    exact GoodW.toG ⟨.inl ⟨_, _, _, rfl, hc1, .bool true, hc2, fun _ => ⟨List.nodup_nil, fun _ m => nomatch m⟩⟩, I'.base, I'.os, I'.gens.trans hg⟩
  · obtain ⟨ρ', c, σ'', a, e, _⟩ := q
    rw [hp] at e; cases e
end Mine

/- part F19 -/
set_option Elab.async false
set_option linter.unusedVariables false
namespace Mine
open PySem PyProof.Rows PySem.Builtin.Str

/-! slices -/
def clipI (v : Option Int) (dflt n : Int) : Int := match v with
  | none => dflt
  | some i => max 0 (min (if i < 0 then i + n else i) n)
def cutL {α : Type} (lo hi : Option Int) (l : List α) : List α := (l.drop (clipI lo 0 l.length).toNat).take (clipI hi l.length l.length - clipI lo 0 l.length).toNat
theorem clipI_range {v : Option Int} {d n : Int} (hn : 0 ≤ n) (hd : 0 ≤ d) (hd2 : d ≤ n) : 0 ≤ clipI v d n ∧ clipI v d n ≤ n := by
  unfold clipI
  split
  · exact ⟨hd, hd2⟩
  · omega
theorem bounds_eq (lo hi : Option Int) (n : Nat) : sliceBounds lo hi none n = (clipI lo 0 n, clipI hi n n, 1) := by
  cases lo <;> cases hi <;> simp [sliceBounds, clipI]
theorem range_eq {a b : Int} (ha : 0 ≤ a) : sliceRange a b 1 = (List.range (b - a).toNat).map fun k => a.toNat + k := by
  unfold sliceRange
  simp only [show (1 : Int) > 0 by decide, if_true, Int.ediv_one]
  have e : (if a < b then b - a + 1 - 1 else 0).toNat = (b - a).toNat := by split <;> omega
  rw [e]
  refine List.map_congr_left fun k _ => ?_
  omega
theorem picks_cut {α : Type} (lo hi : Option Int) (l : List α) : (sliceRange (clipI lo 0 l.length) (clipI hi l.length l.length) 1).filterMap (l[·]?) = cutL lo hi l := by
  obtain ⟨h1, h2⟩ := clipI_range (v := lo) (d := 0) (n := (l.length : Int)) (by omega) (by omega) (by omega)
  obtain ⟨h3, h4⟩ := clipI_range (v := hi) (d := (l.length : Int)) (n := (l.length : Int)) (by omega) (by omega) (by omega)
  rw [range_eq h1]
  unfold cutL
  by_cases h : clipI lo 0 l.length ≤ clipI hi l.length l.length
  · exact StrLaws.picks l _ _ (by omega)
  · have e : (clipI hi l.length l.length - clipI lo 0 l.length).toNat = 0 := by omega
    rw [e]; simp
theorem slicePick_eq (items : Array Value) (lo hi : Option Int) : slicePick items lo hi none = (cutL lo hi items.toList).toArray := by
  unfold slicePick
  rw [bounds_eq]
  congr 1
  have := picks_cut lo hi items.toList
  simpa using this
theorem cutL_length {α : Type} (lo hi : Option Int) (l : List α) : (cutL lo hi l).length ≤ l.length := by simp [cutL]; omega
theorem All2.cut {α β : Type} {R : α → β → Prop} {l : List α} {l' : List β} (h : All2 R l l') (lo hi : Option Int) : All2 R (cutL lo hi l) (cutL lo hi l') := by
  unfold cutL
  rw [h.length]
  exact (h.drop _).take _
theorem sliceText_eq (x : Str) (l u : Option Int) : Txt.slice x l u = ⟨(cutL l u x.cps.toList).toArray⟩ := by
  have e : strSliceIndices l u 1 x.length = sliceRange (clipI l 0 x.cps.toList.length) (clipI u x.cps.toList.length x.cps.toList.length) 1 := by
    simp only [strSliceIndices, clipI, show (1 : Int) > 0 by decide, if_true, Str.length, Array.length_toList]
    cases l <;> cases u <;> rfl
  have p := picks_cut l u x.cps.toList
  unfold Txt.slice
  split
  · rename_i h
    simp only [Bool.and_eq_true, beq_iff_eq] at h
    have h2 := h.2
    rw [e] at h2
    -- as many as the whole: all of it
    have hl : (cutL l u x.cps.toList).length = x.cps.toList.length := by
      obtain ⟨h1, h3⟩ := clipI_range (v := l) (d := 0) (n := (x.cps.toList.length : Int)) (by omega) (by omega) (by omega)
      obtain ⟨h4, h5⟩ := clipI_range (v := u) (d := (x.cps.toList.length : Int)) (n := (x.cps.toList.length : Int)) (by omega) (by omega) (by omega)
      rw [range_eq h1] at h2
      simp only [List.length_map, List.length_range, Str.length] at h2
      have : x.cps.size = x.cps.toList.length := by simp
      simp only [cutL, List.length_take, List.length_drop]
      omega
    have hall : cutL l u x.cps.toList = x.cps.toList := by
      obtain ⟨h1, h3⟩ := clipI_range (v := l) (d := 0) (n := (x.cps.toList.length : Int)) (by omega) (by omega) (by omega)
      unfold cutL at hl ⊢
      simp only [List.length_take, List.length_drop] at hl
      by_cases hz : x.cps.toList.length = 0
      · have : x.cps.toList = [] := List.eq_nil_of_length_eq_zero hz
        rw [this]; simp
      · have e0 : (clipI l 0 x.cps.toList.length).toNat = 0 := by omega
        rw [e0, List.drop_zero, List.take_of_length_le (by omega)]
    rw [hall]
  · rw [e]
    congr 2
    simpa using p

inductive SO (G : Gd) (C : Cx) : Option Expr → Option (Mn D) → Prop
  | none : SO G C none none
  | some {e m} : SE G C e m → SO G C (some e) (some m)
def asInt : D → Mn (Option Int)
  | .int i => ret1 (some i)
  | _ => botM
def partM : Option (Mn D) → Mn (Option Int)
  | none => ret1 none
  | some m => bnd m asInt
def pSlice (d : D) (l h : Option Int) : Mn D := match d with
  | .str x => if x.length ≤ sizeLine then ret1 (.str ⟨(cutL l h x.cps.toList).toArray⟩) else botM
  | .ref k => fun st => match st.sto[k]? with
    | some (.list ds) => if ds.length ≤ sizeLine then allocL (cutL l h ds) st else .bot
    | _ => .bot
  | _ => botM
def sliceM (m : Mn D) (lo hi : Option (Mn D)) : Mn D := bnd m fun a => bnd (bnd (partM lo) fun l => bnd (partM hi) fun h => ret1 (l, h)) fun p => pSlice a p.1 p.2

section
variable {G : Gd} {C : Cx} {A : Around} {P : List Addr} {env : Env} {s : Shared} {ρ : List Addr} {st : St}
abbrev RP : Heap → List Addr → Option Int → Value → Prop := fun _ _ k v => IsPart v k
abbrev RSl : Heap → List Addr → Option Int × Option Int → Value → Prop := fun h ρ p v => ∃ a vl vu, v = .ref a ∧ h.IsSliceOf a vl vu .none ∧ IsPart vl p.1 ∧ IsPart vu p.2
theorem so_none : SO G C none none := .none
theorem so_some {e : Expr} {m : Mn D} (h : SE G C e m) : SO G C (some e) (some m) := .some h
theorem at_part {oe : Option Expr} {om : Option (Mn D)} (h : SO G C oe om) (K : Ok G C A P env s ρ st) : At G A env s ρ st RP (evalPart oe env) (partM om) := by
  cases h with
  | none => exact At.pure K .none
  | @some e m h =>
    refine At.ofEq (t' := eval e env >>= fun v => pure v) (by rw [evalPart_some]; simp) ?_
    refine At.bind K (h.run A P env s ρ st K) fun v s' ρ' d σ' K' x r hb => ?_
    cases d <;> first | exact absurd rfl hb | skip
    simp only [Rel] at r
    obtain ⟨t, rfl⟩ := r
    exact At.pure K' (.int _ t) hb
theorem at_slice {lo hi : Option Expr} {ml mh : Option (Mn D)} {p : Pos} (h1 : SO G C lo ml) (h2 : SO G C hi mh) (K : Ok G C A P env s ρ st) :
    At G A env s ρ st RSl (eval (.Slice lo hi none p) env) (bnd (partM ml) fun l => bnd (partM mh) fun h => ret1 (l, h)) := fun hb => by
  refine wpAny_Slice (wpAny_mono (at_part h1 K (bnd_ne_bot hb)) (fun vl s' q => ?_) fun x s' q => ?_)
  · obtain ⟨ρ', l, σ', e, I', x, r⟩ := q
    have K' := K.step I' x
    have e' : bnd (partM ml) (fun l => bnd (partM mh) fun h => ret1 (l, h)) st = bnd (partM mh) (fun h => ret1 (l, h)) ⟨st.loc, σ'⟩ := by simp only [bnd, e]
    rw [e'] at hb ⊢
    refine wpAny_mono (at_part h2 K' (bnd_ne_bot hb)) (fun vu s'' q => ?_) fun ex s'' q => ?_
    · obtain ⟨ρ'', h, σ'', e2, I'', x2, r2⟩ := q
      rw [evalPart_none]
      refine wpAny_pure ?_
      have g := Grow.push s''.heap { cls := .type "slice", data := .fields #[vl, vu, .none] }
      exact ⟨ρ'', (l, h), σ'', by simp only [bnd, e2, ret1], I''.grow g size_push_le s''.toks, (x.trans x2).trans (g.ev size_push_le), _, vl, vu, rfl, Heap.IsSliceOf.new .., r, r2⟩
    · obtain ⟨ρ'', c, σ'', a, e2, I'', x2, rfl, fl⟩ := q
      exact ⟨ρ'', c, σ'', a, by simp only [bnd, e2], I'', x.trans x2, rfl, fl.from x.size⟩
  · obtain ⟨ρ', c, σ', a, e, I', x, rfl, fl⟩ := q
    exact ⟨ρ', c, σ', a, by simp only [bnd, e], I', x, rfl, fl⟩
theorem isPart_value {v : Value} {k : Option Int} (h : IsPart v k) : ∃ p : Option (Int × Tok), v = partValue p ∧ p.map (·.1) = k := by
  cases h with
  | none => exact ⟨none, rfl, rfl⟩
  | int i t => exact ⟨some (i, t), rfl, rfl⟩

theorem at_sliced {d : D} {o i : Value} {p : Option Int × Option Int} {value : Expr} {lo hi : Option Expr} {pp : Pos} (K : Ok G C A P env s ρ st) (r1 : Rel G s.heap ρ d o) (r2 : RSl s.heap ρ p i) :
    At G A env s ρ st (RV G) (subscriptTail value (.Slice lo hi none pp) o i) (pSlice d p.1 p.2) := fun hb => by
  obtain ⟨a, vl, vu, rfl, hs, pl, pu⟩ := r2
  have hsub : ∀ o, subscripted (.Slice lo hi none pp) false o (.ref a) = operate [.ref a, o] (getItem o (.ref a)) := fun _ => rfl
  cases d <;> first | exact absurd rfl hb | skip
  · rename_i x
    simp only [Rel] at r1
    obtain ⟨t, rfl⟩ := r1
    simp only [pSlice] at hb ⊢
    have hz := itep_bot hb
    rw [if_app hz]
    obtain ⟨l, rfl, el⟩ := isPart_value pl
    obtain ⟨u, rfl, eu⟩ := isPart_value pu
    refine tail_any (typeIs_str s x t) F.slot_str_getitem.lookup (wpAny_getItem_str_slice (l := l) (u := u) (st := none) hs rfl ?_) (hsub _)
    have key : ∀ t' k, ∃ ρ' d σ', (ret1 (D.str ⟨(cutL p.1 p.2 x.cps.toList).toArray⟩) : Mn D) st = .ok d ⟨st.loc, σ'⟩ ∧ Inv G { s with toks := k } ρ' σ' ∧ Ev [] s.heap ρ s.heap ρ' ∧ RV G s.heap ρ' d (.str (Txt.slice x (l.map (·.1)) (u.map (·.1))) t') := fun t' k =>
      ⟨ρ, _, st.sto, rfl, K.inv.tok k, Ev.refl, t', by rw [sliceText_eq, el, eu]⟩
    exact post_val_or_str (c := ((1 : Int) == 1 && (strSliceIndices (l.map (·.1)) (u.map (·.1)) 1 x.length).length == x.length) = true) ⟨Nat.le_trans (Txt.slice_le x _ _) hz, fun t' k => key t' k⟩
  · rename_i k
    simp only [Rel] at r1
    obtain ⟨al, rfl, e1⟩ := r1
    cases e : st.sto[k]? with
    | none => exact absurd (by simp only [pSlice, e]) hb
    | some ob =>
      cases ob with
      | list ds =>
        simp only [pSlice, e] at hb ⊢
        have hz : ds.length ≤ sizeLine := by
          by_cases z : ds.length ≤ sizeLine
          · exact z
          · exact absurd (if_neg z) hb
        rw [if_pos hz]
        obtain ⟨vs, hl, r⟩ := K.inv.sto k al _ e1 e
        refine tail_any hl.list.typeIs slot_list_getitem.lookup (wpAny_getItem_list_slice hl.list hs pl pu .none (by simp) ?_ (by rw [r.size]; exact hz)) (hsub _)
        rw [slicePick_eq]
        exact inv_alloc_list (vs := (cutL p.1 p.2 vs.toList).toArray) (n := 0) K.inv (RelL.of_all2 (r.all2.cut _ _)) s.toks
      | dict _ => exact absurd (by simp only [pSlice, e]) hb
      | priv => exact absurd (by simp only [pSlice, e]) hb
theorem se_slice {v : Expr} {lo hi : Option Expr} {p pos : Pos} {m : Mn D} {ml mh : Option (Mn D)} (h : SE G C v m) (h1 : SO G C lo ml) (h2 : SO G C hi mh) : SE G C (.Subscript v (.Slice lo hi none p) pos) (sliceM m ml mh) := .mk <| fun A P env s ρ st K => by
  refine At.ofEq (t' := do let o ← eval v env; let i ← holding [o] (eval (.Slice lo hi none p) env); standAt pos; subscriptTail v (.Slice lo hi none p) o i) (by rw [eval_Subscript]; rfl) ?_
  refine At.bind K (h.run A P env s ρ st K) fun o s' ρ' d σ' K' x r1 => ?_
  refine At.bind K' (At.hold (at_slice h1 h2 K')) fun i s'' ρ'' q σ'' K'' x2 r2 => ?_
  exact At.stand (at_sliced (lo := lo) (hi := hi) (value := v) K'' (Rel.mono (x2.stb K'.inv .nil) _ _ r1) r2)

/-! + of ints, texts, lists, tuples -/
def pAdd : D → D → Mn D
  | .ref a, .ref b => fun st => match st.sto[a]?, st.sto[b]? with
    | some (.list x), some (.list y) => if x.length + y.length ≤ sizeLine then allocL (x ++ y) st else .bot
    | _, _ => .bot
  | .tup x, .tup y => if x.isEmpty = false ∧ y.isEmpty = false ∧ x.length + y.length ≤ sizeLine then ret1 (.tup (x ++ y)) else botM
  | a, b => pAdd0 a b
theorem bin_add : BinOk G .Add pAdd := fun C A P env s ρ st d1 d2 v1 v2 K r1 r2 => by
  by_cases hr : ∃ a b, d1 = .ref a ∧ d2 = .ref b
  · obtain ⟨ka, kb, rfl, rfl⟩ := hr
    intro hb
    simp only [Rel] at r1 r2
    obtain ⟨a, rfl, ea⟩ := r1; obtain ⟨b, rfl, eb⟩ := r2
    obtain ⟨x, y, qa, qb⟩ : ∃ x y, st.sto[ka]? = some (.list x) ∧ st.sto[kb]? = some (.list y) := by
      cases qa : st.sto[ka]? with
      | none => exact absurd (by simp only [pAdd, qa]) hb
      | some o1 =>
        cases qb : st.sto[kb]? with
        | none => exact absurd (by simp only [pAdd, qa, qb]) hb
        | some o2 => cases o1 <;> cases o2 <;> first | exact ⟨_, _, rfl, rfl⟩ | exact absurd (by simp only [pAdd, qa, qb]) hb
    simp only [pAdd, qa, qb] at hb ⊢
    have hz : x.length + y.length ≤ sizeLine := by
      by_cases z : x.length + y.length ≤ sizeLine
      · exact z
      · exact absurd (if_neg z) hb
    rw [if_pos hz]
    obtain ⟨vs, ⟨n1, hl1⟩, rr1⟩ := K.inv.sto ka a _ ea qa
    obtain ⟨ws, ⟨n2, hl2⟩, rr2⟩ := K.inv.sto kb b _ eb qb
    refine PySem.P.add_list hl1 hl2 ?_ (by rw [rr1.size, rr2.size]; exact hz)
    exact inv_alloc_list (vs := vs ++ ws) (n := 0) K.inv (RelL.of_all2 (by rw [Array.toList_append]; exact rr1.all2.append rr2.all2)) s.toks
  · by_cases ht : ∃ a b, d1 = .tup a ∧ d2 = .tup b
    · obtain ⟨x, y, rfl, rfl⟩ := ht
      intro hb
      simp only [Rel] at r1 r2
      obtain ⟨a, vs, rfl, na, ⟨n1, h1⟩, rr1⟩ := r1; obtain ⟨b, ws, rfl, nb, ⟨n2, h2⟩, rr2⟩ := r2
      simp only [pAdd] at hb ⊢
      have hz := itep_bot hb
      rw [if_app hz]
      have e1 : ¬ vs.isEmpty = true := by
        have := rr1.size
        have hx : x.length ≠ 0 := by
          intro z
          rw [List.eq_nil_of_length_eq_zero z] at hz
          exact absurd hz.1 (by simp)
        rw [Array.isEmpty_iff_size_eq_zero]; omega
      have e2 : ¬ ws.isEmpty = true := by
        have := rr2.size
        have hx : y.length ≠ 0 := by
          intro z
          rw [List.eq_nil_of_length_eq_zero z] at hz
          exact absurd hz.2.1 (by simp)
        rw [Array.isEmpty_iff_size_eq_zero]; omega
      have g := Grow.push s.heap (tupO (vs ++ ws) 0)
      refine PySem.P.add_tuple h1 h2 e1 e2 ?_ (by rw [rr1.size, rr2.size]; exact hz.2.2)
      refine ⟨ρ, .tup (x ++ y), st.sto, rfl, K.inv.grow g size_push_le s.toks, g.ev size_push_le, ?_⟩
      show Rel _ _ _ _ _
      simp only [Rel]
      refine ⟨_, vs ++ ws, rfl, K.inv.size_notin, ⟨0, Heap.get?_push_size _ rfl⟩, RelL.of_all2 ?_⟩
      rw [Array.toList_append]
      exact (RelL.mono g.stb _ _ rr1).all2.append (RelL.mono g.stb _ _ rr2).all2
    · have e : pAdd d1 d2 = pAdd0 d1 d2 := by
        cases d1 <;> cases d2 <;> first | rfl | exact absurd ⟨_, _, rfl, rfl⟩ hr | exact absurd ⟨_, _, rfl, rfl⟩ ht
      rw [e]
      exact bin_add0 C A P env s ρ st d1 d2 v1 v2 K r1 r2
end
end Mine

/- part F20 -/
set_option Elab.async false
set_option linter.unusedVariables false
namespace Mine
open PySem PyProof.Rows PySem.Builtin.Str

section
variable {G : Gd} {C : Cx} {A : Around} {P : List Addr} {env : Env} {s : Shared} {ρ : List Addr} {st : St}

/-! * of ints, of a text and of a list by an int -/
def repL {α : Type} (n : Int) (l : List α) : List α := (List.replicate n.toNat l).flatten
def pMul : D → D → Mn D
  | .str x, .int n => if inLong n = true ∧ x.length * n.toNat ≤ 16777216 then ret1 (.str ⟨(repL n x.cps.toList).toArray⟩) else botM
  | .ref k, .int n => fun st => match st.sto[k]? with
    | some (.list ds) => if inLong n = true ∧ ds.length * n.toNat ≤ 16777216 then allocL (repL n ds) st else .bot
    | _ => .bot
  | a, b => pMulI a b
theorem fold_rep (x : Array Nat) : ∀ (k : Nat) (acc : Array Nat), (List.foldl (fun x1 x2 => x1 ++ x2) acc (List.replicate k x)).toList = acc.toList ++ (List.replicate k x.toList).flatten
  | 0, acc => by simp
  | k + 1, acc => by
    rw [List.replicate_succ, List.foldl_cons, fold_rep x k]
    simp [List.replicate_succ]
theorem All2.rep {α β : Type} {R : α → β → Prop} {l : List α} {l' : List β} (h : All2 R l l') : ∀ k : Nat, All2 R (List.replicate k l).flatten (List.replicate k l').flatten
  | 0 => by simp; exact .nil
  | k + 1 => by simp only [List.replicate_succ, List.flatten_cons]; exact h.append (h.rep k)
theorem mul_lst {l : Addr} {items : Array Value} {k : Nat} {x : Int} {u : Tok} {Q : Value → Shared → Prop} {E : Value → Shared → Prop}
    (hl : s.heap.get? l = some (lstO items k)) (hi : inLong x = true) (hsz : items.size * x.toNat ≤ 16777216)
    (h : Q (.ref s.heap.objs.size) { s with heap := s.heap.push (lstO (repL x items.toList).toArray 0) }) : wpAny G.M A (binaryOp .Mult (.ref l) (.int x u)) Q E s := by
  have hi' := inLong_iff.mp hi
  have e : List.foldl (fun x1 x2 => x1 ++ x2) #[] (List.replicate (if items.isEmpty = true then 0 else x.toNat) items) = (repL x items.toList).toArray := by
    rw [listMul_foldl]
    congr 1
    simp only [List.nil_append, repL]
    split
    · rename_i h
      rw [Array.isEmpty_iff.mp h]
      simp
    · rfl
  refine wpAny_binaryOp_repeat_ref (T := "list") (U := "int") (by decide) ⟨_, hl, rfl⟩ (fun s' => typeIs_int s' x u) noFill_list_mul F.fills_int_mul F.slot_int_rmul repeat_list F.slot_int_index.lookup
    (call_meets F.slot_int_rmul (typeIs_int s x u) F.entry_int_rmul (F.args_int_rmul_2 _ _) (int___rmul___int_list x u l items k)
      ⟨hl, rfl, ⟨_, hl, rfl⟩, call_meets F.slot_list_mul ⟨_, hl, rfl⟩ F.entry_list_mul (F.args_list_mul_2 _ _)
        (AutoListH.list___mul___list_int_3 l items k x u (by simp [Builtin.List.listFitsIndex]; omega) (by omega) (by simp [Builtin.List.listTooLong, sizeLine]; omega))
        ⟨hl, ?_⟩⟩)
  rw [e]
  exact h
theorem bin_mul : BinOk G .Mult pMul := fun C A P env s ρ st d1 d2 v1 v2 K r1 r2 => by
  by_cases hs : ∃ x n, d1 = .str x ∧ d2 = .int n
  · obtain ⟨x, n, rfl, rfl⟩ := hs
    refine At.leaf (fun hb => ?_) K
    simp only [Rel] at r1 r2
    obtain ⟨t, rfl⟩ := r1; obtain ⟨u, rfl⟩ := r2
    simp only [pMul] at hb ⊢
    have hz := itep_bot hb
    rw [if_app hz]
    have hi := inLong_iff.mp hz.1
    have hle : x.length * n.toNat ≤ 16777216 := hz.2
    refine PySem.P.mul_str (by simp; omega) (fun h1 h2 => ?_) (fun h1 h2 => ?_) ?_
    · have hx : 1 ≤ n := by omega
      have : (x.length : Int) * n ≤ 16777216 := by
        have h3 : ((x.length * n.toNat : Nat) : Int) ≤ 16777216 := by omega
        have h4 : (n.toNat : Int) = n := by omega
        rw [Int.natCast_mul, h4] at h3
        exact h3
      have h5 : (x.length : Int) ≤ (2 ^ 63 - 1) / n := (Int.le_ediv_iff_mul_le (by omega)).mpr (by omega)
      omega
    · simp [tooLong, sizeLine]; omega
    · split
      · rename_i h
        refine ⟨by decide, _, rfl, Grow.same, s.toks, ?_⟩
        have : n.toNat = 0 := by omega
        simp [repL, this, Str.empty]
      · split
        · rename_i h1 h2
          refine ⟨_, rfl, Grow.same0, t, ?_⟩
          congr 1
          obtain ⟨c⟩ := x
          congr 1
          rcases Bool.or_eq_true_iff.mp h2 with h2 | h2
          · have : n.toNat = 1 := by have := beq_iff_eq.mp h2; omega
            simp [repL, this]
          · have : c = #[] := Array.eq_empty_of_size_eq_zero (beq_iff_eq.mp h2)
            subst this
            simp [repL]
        · refine ⟨?_, _, rfl, Grow.same, s.toks, ?_⟩
          · show (List.foldl (fun x1 x2 => x1 ++ x2) #[] (List.replicate n.toNat x.cps)).size ≤ sizeLine
            rw [← Array.length_toList, fold_rep]
            simp only [List.nil_append, lm_len_rep_flat, Array.length_toList]
            show _ * x.length ≤ _
            rw [Nat.mul_comm]
            exact hle
          · congr 2
            rw [← Array.toList_inj, fold_rep]
            simp [repL]
  · by_cases hl : ∃ k n, d1 = .ref k ∧ d2 = .int n
    · obtain ⟨k, n, rfl, rfl⟩ := hl
      intro hb
      simp only [Rel] at r1 r2
      obtain ⟨a, rfl, e1⟩ := r1; obtain ⟨u, rfl⟩ := r2
      cases e : st.sto[k]? with
      | none => exact absurd (by simp only [pMul, e]) hb
      | some ob =>
        cases ob with
        | list ds =>
          simp only [pMul, e] at hb ⊢
          have hz : inLong n = true ∧ ds.length * n.toNat ≤ 16777216 := by
            by_cases z : inLong n = true ∧ ds.length * n.toNat ≤ 16777216
            · exact z
            · exact absurd (if_neg z) hb
          rw [if_pos hz]
          obtain ⟨vs, ⟨nn, hl⟩, r⟩ := K.inv.sto k a _ e1 e
          refine mul_lst hl hz.1 (by rw [r.size]; exact hz.2) ?_
          exact inv_alloc_list (vs := (repL n vs.toList).toArray) (n := 0) K.inv (RelL.of_all2 (r.all2.rep _)) s.toks
        | dict _ => exact absurd (by simp only [pMul, e]) hb
        | priv => exact absurd (by simp only [pMul, e]) hb
    · have e : pMul d1 d2 = pMulI d1 d2 := by
        cases d1 <;> cases d2 <;> first | rfl | exact absurd ⟨_, _, rfl, rfl⟩ hs | exact absurd ⟨_, _, rfl, rfl⟩ hl
      rw [e]
      exact bin_mulI C A P env s ρ st d1 d2 v1 v2 K r1 r2

/-! is -/
def pIs : D → D → Mn D
  | .bool a, .bool b => ret1 (.bool (a == b))
  | .none, .none => ret1 (.bool true)
  | .bool _, .none => ret1 (.bool false)
  | .none, .bool _ => ret1 (.bool false)
  | .int _, .bool _ => ret1 (.bool false)
  | .str _, .bool _ => ret1 (.bool false)
  | _, _ => botM
theorem cmp_is : CmpOk G .Is pIs := fun C A P env s ρ st d1 d2 v1 v2 K r1 r2 => by
  refine At.leaf (fun hb => ?_) K
  cases d1 <;> cases d2 <;> first | exact absurd rfl hb | skip
  · cases (show v1 = .none from r1); cases (show v2 = .none from r2)
    exact wpAny_is_plain rfl ⟨_, rfl, Grow.same0, rfl⟩
  · rename_i b
    cases (show v1 = .none from r1); cases (show v2 = .bool b from r2)
    exact wpAny_is_plain rfl ⟨_, rfl, Grow.same0, rfl⟩
  · rename_i b
    cases (show v1 = .bool b from r1); cases (show v2 = .none from r2)
    exact wpAny_is_plain rfl ⟨_, rfl, Grow.same0, rfl⟩
  · rename_i a b
    cases (show v1 = .bool a from r1); cases (show v2 = .bool b from r2)
    refine wpAny_is_plain rfl ⟨_, rfl, Grow.same0, ?_⟩
    cases a <;> cases b <;> rfl
  · rename_i a b
    obtain ⟨t, rfl⟩ := (show ∃ t, v1 = .int a t from r1); cases (show v2 = .bool b from r2)
    exact wpAny_is_plain rfl ⟨_, rfl, Grow.same0, rfl⟩
  · rename_i a b
    obtain ⟨t, rfl⟩ := (show ∃ t, v1 = .str a t from r1); cases (show v2 = .bool b from r2)
    exact wpAny_is_plain rfl ⟨_, rfl, Grow.same0, rfl⟩
/-! == of ints, texts, truth values -/
def pEq1 : D → D → Mn D
  | .bool a, .bool b => ret1 (.bool (a == b))
  | a, b => pEq0 a b
def pNe1 : D → D → Mn D
  | .bool a, .bool b => ret1 (.bool (a != b))
  | a, b => pNe0 a b
theorem cmp_eq1 : CmpOk G .Eq pEq1 := fun C A P env s ρ st d1 d2 v1 v2 K r1 r2 => by
  by_cases h : ∃ a b, d1 = .bool a ∧ d2 = .bool b
  · obtain ⟨a, b, rfl, rfl⟩ := h
    cases (show v1 = .bool a from r1); cases (show v2 = .bool b from r2)
    exact At.leaf (fun hb => eq_bool ⟨_, rfl, Grow.same0, rfl⟩) K
  · have e : pEq1 d1 d2 = pEq0 d1 d2 := by cases d1 <;> cases d2 <;> first | rfl | exact absurd ⟨_, _, rfl, rfl⟩ h
    rw [e]
    exact cmp_eq0 C A P env s ρ st d1 d2 v1 v2 K r1 r2
theorem cmp_ne1 : CmpOk G .NotEq pNe1 := fun C A P env s ρ st d1 d2 v1 v2 K r1 r2 => by
  by_cases h : ∃ a b, d1 = .bool a ∧ d2 = .bool b
  · obtain ⟨a, b, rfl, rfl⟩ := h
    cases (show v1 = .bool a from r1); cases (show v2 = .bool b from r2)
    exact At.leaf (fun hb => ne_bool ⟨_, rfl, Grow.same0, rfl⟩) K
  · have e : pNe1 d1 d2 = pNe0 d1 d2 := by cases d1 <;> cases d2 <;> first | rfl | exact absurd ⟨_, _, rfl, rfl⟩ h
    rw [e]
    exact cmp_ne0 C A P env s ρ st d1 d2 v1 v2 K r1 r2
end
end Mine

/- part P1 -/
set_option Elab.async false
set_option linter.unusedVariables false
namespace Mine
open PySem PyProof.Rows PySem.Builtin.Str

/-- the pure run ends well, in a state of which Q is true -/
def W {α : Type} (m : Mn α) (st : St) (Q : α → St → Prop) : Prop := ∃ a st', m st = .ok a st' ∧ Q a st'

section
variable {α β : Type} {st : St} {Q : α → St → Prop}
theorem W.mono {m : Mn α} {Q' : α → St → Prop} (h : W m st Q) (hq : ∀ a st', Q a st' → Q' a st') : W m st Q' := let ⟨a, st', e, q⟩ := h; ⟨a, st', e, hq a st' q⟩
theorem W_bnd {m : Mn β} {f : β → Mn α} : W (bnd m f) st Q ↔ W m st (fun b st' => W (f b) st' Q) := by
  unfold W bnd
  constructor
  · rintro ⟨a, st', e, q⟩
    cases h : m st with
    | ok b st'' => rw [h] at e; exact ⟨b, st'', rfl, a, st', e, q⟩
    | exc c st'' => rw [h] at e; cases e
    | bot => rw [h] at e; cases e
  · rintro ⟨b, st'', h, a, st', e, q⟩
    exact ⟨a, st', by rw [h]; exact e, q⟩
theorem W_ret1 {a : α} : W (ret1 a) st Q ↔ Q a st := by
  unfold W ret1
  constructor
  · rintro ⟨b, st', e, q⟩; cases e; exact q
  · intro q; exact ⟨a, st, rfl, q⟩
theorem W_botM : W (botM : Mn α) st Q ↔ False := by
  unfold W botM
  constructor
  · rintro ⟨b, st', e, q⟩; cases e
  · exact False.elim
theorem W_optM {o : Option α} : W (optM o) st Q ↔ ∃ a, o = some a ∧ Q a st := by
  cases o with
  | none => simp only [optM, W_botM]; simp
  | some a => simp only [optM, W_ret1]; simp
theorem W_ite {c : Prop} [Decidable c] {m n : Mn α} : W (if c then m else n) st Q ↔ if c then W m st Q else W n st Q := by split <;> rfl
theorem W_guard {c : Prop} [Decidable c] {m : Mn α} : W (if c then m else botM) st Q ↔ c ∧ W m st Q := by
  by_cases h : c
  · simp [h]
  · simp [h, W_botM]
end
section
variable {st : St}
theorem W_pvar {i : Nat} {Q : D → St → Prop} : W (pvar i) st Q ↔ ∃ d, st.loc i = some d ∧ Q d st := by
  unfold W pvar
  cases e : st.loc i with
  | none => simp
  | some d =>
    constructor
    · rintro ⟨a, st', e', q⟩; cases e'; exact ⟨d, rfl, q⟩
    · rintro ⟨a, e', q⟩; cases e'; exact ⟨d, st, rfl, q⟩
theorem W_setvar {i : Nat} {d : D} {Q : Fl → St → Prop} : W (setvar i d) st Q ↔ Q .next ⟨upd st.loc i d, st.sto⟩ := by
  unfold W setvar
  constructor
  · rintro ⟨b, st', e, q⟩; cases e; exact q
  · intro q; exact ⟨_, _, rfl, q⟩
/-- what comes behind a statement -/
def thn (m2 : Mn Fl) (Q : Fl → St → Prop) : Fl → St → Prop
  | .next, st' => W m2 st' Q
  | .brk, st' => Q .brk st'
  | .cont, st' => Q .cont st'
  | .ret d, st' => Q (.ret d) st'
theorem W_seqM {m1 m2 : Mn Fl} {Q : Fl → St → Prop} : W (seqM m1 m2) st Q ↔ W m1 st (thn m2 Q) := by
  unfold seqM
  rw [W_bnd]
  constructor
  · intro h
    refine h.mono fun fl st' q => ?_
    cases fl <;> simp only [thn] <;> first | exact q | exact W_ret1.mp q
  · intro h
    refine h.mono fun fl st' q => ?_
    cases fl <;> simp only [thn] at q <;> first | exact q | exact W_ret1.mpr q
theorem thn_next {m2 : Mn Fl} {Q : Fl → St → Prop} : thn m2 Q .next st ↔ W m2 st Q := Iff.rfl
theorem thn_ret {m2 : Mn Fl} {Q : Fl → St → Prop} {d : D} : thn m2 Q (.ret d) st ↔ Q (.ret d) st := Iff.rfl
theorem thn_brk {m2 : Mn Fl} {Q : Fl → St → Prop} : thn m2 Q .brk st ↔ Q .brk st := Iff.rfl
theorem thn_cont {m2 : Mn Fl} {Q : Fl → St → Prop} : thn m2 Q .cont st ↔ Q .cont st := Iff.rfl
theorem W_ifM {c : Mn Bool} {m1 m2 : Mn Fl} {Q : Fl → St → Prop} : W (ifM c m1 m2) st Q ↔ W c st (fun b st' => if b = true then W m1 st' Q else W m2 st' Q) := by
  unfold ifM
  rw [W_bnd]
  constructor <;> intro h <;> refine h.mono fun b st' q => ?_ <;> cases b <;> exact q
theorem W_truthy_bool {b : Bool} {Q : Bool → St → Prop} : W (truthyD (.bool b)) st Q ↔ Q b st := by unfold truthyD; exact W_ret1
theorem W_notM {m : Mn Bool} {Q : Bool → St → Prop} : W (notM m) st Q ↔ W m st (fun b st' => Q (!b) st') := by unfold notM; rw [W_bnd]; simp only [W_ret1]
theorem W_andM {m n : Mn Bool} {Q : Bool → St → Prop} : W (andM m n) st Q ↔ W m st (fun b st' => if b = true then W n st' Q else Q false st') := by
  unfold andM; rw [W_bnd]
  constructor <;> intro h <;> refine h.mono fun b st' q => ?_ <;> cases b <;> first | exact q | exact W_ret1.mp q | exact W_ret1.mpr q
theorem W_orM {m n : Mn Bool} {Q : Bool → St → Prop} : W (orM m n) st Q ↔ W m st (fun b st' => if b = true then Q true st' else W n st' Q) := by
  unfold orM; rw [W_bnd]
  constructor <;> intro h <;> refine h.mono fun b st' q => ?_ <;> cases b <;> first | exact q | exact W_ret1.mp q | exact W_ret1.mpr q
theorem W_andV {m n : Mn D} {Q : D → St → Prop} : W (andV m n) st Q ↔ W m st (fun d st' => W (truthyD d) st' fun b st'' => if b = true then W n st'' Q else Q d st'') := by
  unfold andV; rw [W_bnd]; simp only [W_bnd]
  constructor <;> intro h <;> refine h.mono fun d st' q => q.mono fun b st'' q => ?_ <;> cases b <;> first | exact q | exact W_ret1.mp q | exact W_ret1.mpr q
theorem W_orV {m n : Mn D} {Q : D → St → Prop} : W (orV m n) st Q ↔ W m st (fun d st' => W (truthyD d) st' fun b st'' => if b = true then Q d st'' else W n st'' Q) := by
  unfold orV; rw [W_bnd]; simp only [W_bnd]
  constructor <;> intro h <;> refine h.mono fun d st' q => q.mono fun b st'' q => ?_ <;> cases b <;> first | exact q | exact W_ret1.mp q | exact W_ret1.mpr q
theorem W_notV {m : Mn D} {Q : D → St → Prop} : W (notV m) st Q ↔ W m st (fun d st' => W (truthyD d) st' fun b st'' => Q (.bool (!b)) st'') := by
  unfold notV; rw [W_bnd]; simp only [W_bnd, W_ret1]

/-! operations -/
variable {a b : Int} {x y : Str} {Q : D → St → Prop}
theorem W_addI : W (pAdd0 (.int a) (.int b)) st Q ↔ Q (.int (a + b)) st := W_ret1
theorem W_addS : W (pAdd0 (.str x) (.str y)) st Q ↔ x.length + y.length ≤ sizeLine ∧ Q (.str (x ++ y)) st := by unfold pAdd0; rw [W_guard, W_ret1]
theorem W_sub : W (pSub (.int a) (.int b)) st Q ↔ Q (.int (a - b)) st := W_ret1
theorem W_div : W (pDiv (.int a) (.int b)) st Q ↔ (b ≠ 0 ∧ b.natAbs < 1073741824) ∧ Q (.int (a.fdiv b)) st := by unfold pDiv; rw [W_guard, W_ret1]
theorem W_mod : W (pMod (.int a) (.int b)) st Q ↔ b ≠ 0 ∧ Q (.int (a.fmod b)) st := by unfold pMod; rw [W_guard, W_ret1]
theorem W_mulI : W (pMulI (.int a) (.int b)) st Q ↔ (small64 a || small64 b) = true ∧ Q (.int (a * b)) st := by unfold pMulI; rw [W_guard, W_ret1]
theorem W_neg : W (pNeg (.int a)) st Q ↔ Q (.int (-a)) st := W_ret1
theorem W_ltI : W (pLt (.int a) (.int b)) st Q ↔ Q (.bool (decide (a < b))) st := W_ret1
theorem W_gtI : W (pGt (.int a) (.int b)) st Q ↔ Q (.bool (decide (a > b))) st := W_ret1
theorem W_leI : W (pLe (.int a) (.int b)) st Q ↔ Q (.bool (decide (a ≤ b))) st := W_ret1
theorem W_geI : W (pGe (.int a) (.int b)) st Q ↔ Q (.bool (decide (a ≥ b))) st := W_ret1
theorem W_eqI : W (pEq0 (.int a) (.int b)) st Q ↔ Q (.bool (a == b)) st := W_ret1
theorem W_neI : W (pNe0 (.int a) (.int b)) st Q ↔ Q (.bool (a != b)) st := W_ret1
theorem W_eqS : W (pEq0 (.str x) (.str y)) st Q ↔ Q (.bool (x.cps.toList == y.cps.toList)) st := W_ret1
theorem W_neS : W (pNe0 (.str x) (.str y)) st Q ↔ Q (.bool (x.cps.toList != y.cps.toList)) st := W_ret1
theorem W_isi {T : String} {d : D} : W (pIsi T d) st Q ↔ ∃ T', tyD d st.sto = some T' ∧ Q (.bool (subB T' T)) st := by
  unfold W pIsi
  cases e : tyD d st.sto with
  | none => simp
  | some T' =>
    constructor
    · rintro ⟨a, st', e, q⟩; cases e; exact ⟨_, rfl, q⟩
    · rintro ⟨T'', e, q⟩; cases e; exact ⟨_, _, rfl, q⟩
theorem W_lenS : W (pLen [.str x]) st Q ↔ x.length < 2 ^ 62 ∧ Q (.int x.length) st := by unfold pLen; rw [W_guard, W_ret1]
theorem W_lenN {ns : List Int} : W (pLen [.scr ns]) st Q ↔ ns.length < 2 ^ 62 ∧ Q (.int ns.length) st := by unfold pLen; rw [W_guard, W_ret1]
theorem W_lenT {ds : List D} : W (pLen [.tup ds]) st Q ↔ ds.length < 2 ^ 62 ∧ Q (.int ds.length) st := by unfold pLen; rw [W_guard, W_ret1]
theorem W_lenR {k : Nat} : W (pLen [.ref k]) st Q ↔ ∃ ds, st.sto[k]? = some (.list ds) ∧ ds.length < 2 ^ 62 ∧ Q (.int ds.length) st := by
  unfold W pLen
  constructor
  · rintro ⟨a, st', e, q⟩
    dsimp only at e
    split at e
    · rename_i ds h
      split at e
      · cases e; exact ⟨ds, h, by assumption, q⟩
      · cases e
    · cases e
  · rintro ⟨ds, h, h2, q⟩
    exact ⟨_, _, by simp only [h, h2, if_true], q⟩
theorem W_strM {F : Str → Mn D} : W (strM F (.str x)) st Q ↔ W (F x) st Q := Iff.rfl
theorem W_max2 : W (pMax [.int a, .int b]) st Q ↔ Q (.int (max a b)) st := W_ret1
theorem W_min2 : W (pMin [.int a, .int b]) st Q ↔ Q (.int (min a b)) st := W_ret1
theorem W_maxR {k : Nat} : W (pMax [.ref k]) st Q ↔ ∃ ds ns m, st.sto[k]? = some (.list ds) ∧ intsOf ds = some ns ∧ ns.max? = some m ∧ Q (.int m) st := by
  unfold W pMax pBest
  constructor
  · rintro ⟨a, st', e, q⟩
    dsimp only at e
    split at e
    · rename_i ds h
      obtain ⟨d, e1, e2⟩ := W_optM.mp ⟨a, st', e, q⟩
      obtain ⟨m, e3, rfl⟩ := Option.map_eq_some_iff.mp e1
      obtain ⟨ns, e4, e5⟩ := Option.bind_eq_some_iff.mp e3
      exact ⟨ds, ns, m, h, e4, e5, e2⟩
    · cases e
  · rintro ⟨ds, ns, m, h, e4, e5, q⟩
    refine ⟨.int m, st, ?_, q⟩
    have e5' : maxB ns = some m := e5
    simp only [h, e4, Option.bind_some, e5', Option.map_some, optM, ret1]
theorem W_range1 {n : Int} {Q : Src → St → Prop} : W (pRange [.int n]) st Q ↔ okR n = true ∧ Q ⟨rngL 0 1 n.toNat, fun _ => True⟩ st := by unfold pRange; rw [W_guard, W_ret1]
theorem W_range2 {Q : Src → St → Prop} : W (pRange [.int a, .int b]) st Q ↔ (okR a && okR b) = true ∧ Q ⟨rngL a 1 (b - a).toNat, fun _ => True⟩ st := by unfold pRange; rw [W_guard, W_ret1]
theorem W_allocL {ds : List D} : W (allocL ds) st Q ↔ Q (.ref st.sto.length) ⟨st.loc, st.sto ++ [.list ds]⟩ := by
  unfold W allocL
  constructor
  · rintro ⟨b, st', e, q⟩; cases e; exact q
  · intro q; exact ⟨_, _, rfl, q⟩
theorem W_split : W (pSplit x [.str y]) st Q ↔ ((y.length == 0) = false ∧ x.length ≤ sizeLine ∧ (partsBetween x (occurrences x y 0 x.length (x.length + 1)) y.length).length ≤ sizeLine) ∧ Q (.ref st.sto.length) ⟨st.loc, st.sto ++ [.list ((Txt.split x y).map D.str)]⟩ := by
  unfold pSplit; rw [W_guard, W_allocL]
theorem W_join {k : Nat} : W (pJoin x [.ref k]) st Q ↔ ∃ ds xs, st.sto[k]? = some (.list ds) ∧ strsOf ds = some xs ∧ JoinOk x xs = true ∧ Q (.str (Str.join x xs)) st := by
  unfold W pJoin
  constructor
  · rintro ⟨a, st', e, q⟩
    dsimp only at e
    split at e
    · rename_i ds h
      split at e
      · rename_i xs h2
        split at e
        · cases e; exact ⟨ds, xs, h, h2, by assumption, q⟩
        · cases e
      · cases e
    · cases e
  · rintro ⟨ds, xs, h, h2, h3, q⟩
    exact ⟨_, _, by simp only [h, h2, h3, if_true], q⟩
theorem W_srcR {k : Nat} {Q : Src → St → Prop} : W (srcOf (.ref k)) st Q ↔ ∃ ds, st.sto[k]? = some (.list ds) ∧ Q ⟨ds, fun σ => σ[k]? = some (.list ds)⟩ st := by
  unfold W srcOf
  constructor
  · rintro ⟨a, st', e, q⟩
    dsimp only at e
    split at e
    · rename_i ds h
      cases e; exact ⟨ds, h, q⟩
    · cases e
  · rintro ⟨ds, h, q⟩
    exact ⟨_, _, by simp only [h], q⟩
theorem W_srcS {Q : Src → St → Prop} : W (srcOf (.str x)) st Q ↔ Q ⟨signs x, fun _ => True⟩ st := W_ret1
theorem W_srcT {ds : List D} {Q : Src → St → Prop} : W (srcOf (.tup ds)) st Q ↔ Q ⟨ds, fun _ => True⟩ st := W_ret1
theorem W_zip {k1 k2 : Nat} {Q : Src → St → Prop} : W (pZip [.ref k1, .ref k2]) st Q ↔ ∃ ds1 ds2, st.sto[k1]? = some (.list ds1) ∧ st.sto[k2]? = some (.list ds2) ∧ Q ⟨zipped ds1 ds2, zipG k1 k2 st.sto.length ds1 ds2⟩ ⟨st.loc, st.sto ++ [.priv]⟩ := by
  unfold W pZip
  constructor
  · rintro ⟨a, st', e, q⟩
    dsimp only at e
    split at e
    · rename_i d1 d2 h1 h2
      cases e; exact ⟨d1, d2, h1, h2, q⟩
    · cases e
  · rintro ⟨d1, d2, h1, h2, q⟩
    exact ⟨_, _, by simp only [h1, h2], q⟩
theorem W_idxN {ns : List Int} {i : Int} : W (pIdx (.scr ns) (.int i)) st Q ↔ (0 ≤ i ∧ i < 2 ^ 63) ∧ ∃ n, ns[i.toNat]? = some n ∧ Q (.int n) st := by
  unfold pIdx
  rw [W_guard, W_optM]
  simp only [Option.map_eq_some_iff]
  constructor
  · rintro ⟨h, d, ⟨n, e, rfl⟩, q⟩; exact ⟨h, n, e, q⟩
  · rintro ⟨h, n, e, q⟩; exact ⟨h, .int n, ⟨n, e, rfl⟩, q⟩
theorem W_idxS {i : Int} (h0 : 0 ≤ i) (h1 : i < x.length) (h2 : x.length ≤ 2 ^ 62) : W (pIdx (.str x) (.int i)) st Q ↔ Q (.str ⟨#[x.cps[i.toNat]'(by show i.toNat < x.length; omega)]⟩) st := by
  have hi : inLong i = true := inLong_iff.mpr ⟨by omega, by omega⟩
  have hlt : i.toNat < x.cps.size := by show i.toNat < x.length; omega
  unfold pIdx
  rw [W_guard, W_optM, StrLaws.seqIndex_nonneg h0 h1]
  simp only [Option.bind_some, Array.getElem?_eq_getElem hlt, Option.map_some, hi, true_and]
  constructor
  · rintro ⟨d, e, q⟩; cases e; exact q
  · intro q; exact ⟨_, rfl, q⟩
end

theorem upd_at {loc : Loc} {i j : Nat} {d : D} : upd loc i d j = bif j == i then some d else loc j := by
  unfold upd
  by_cases h : j = i
  · simp [h]
  · rw [if_neg h, beq_false_of_ne h]; rfl
/-! calls -/
theorem W_mkFn {ps : List Nat} {body : Mn Fl} {ds : List D} {st : St} {Q : D → St → Prop} (hl : ds.length = ps.length) (h : W body ⟨bindP emptyL ps ds, st.sto⟩ (fun fl st' => match fl with | .ret d => Q d ⟨st.loc, st'.sto⟩ | _ => Q .none ⟨st.loc, st'.sto⟩)) :
    W (mkFn ps body ds) st Q := by
  obtain ⟨fl, st', e, q⟩ := h
  unfold W mkFn
  rw [if_pos hl, e]
  cases fl <;> exact ⟨_, _, rfl, q⟩

/-! loops -/
theorem W_forM {tgt : D → Loc → Option Loc} {g : Sto → Prop} {body : Mn Fl} {Q : Fl → St → Prop} (J : List D → St → Prop) (hstep : ∀ d rest st, J (d :: rest) st → g st.sto ∧ ∃ loc', tgt d st.loc = some loc' ∧ W body ⟨loc', st.sto⟩ (fun fl st' => match fl with
      | .next => J rest st'
      | .cont => J rest st'
      | .brk => Q .next st'
      | .ret d => Q (.ret d) st'))
    (hend : ∀ st, J [] st → g st.sto ∧ Q .next st) : ∀ (ds : List D) (st : St), J ds st → W (forM tgt g body ds) st Q
  | [], st, h => by
    obtain ⟨h1, h2⟩ := hend st h
    exact ⟨.next, st, by simp only [forM, h1, if_true], h2⟩
  | d :: rest, st, h => by
    obtain ⟨h1, loc', h2, fl, st', e, q⟩ := hstep d rest st h
    cases fl with
    | next =>
      obtain ⟨fl', st'', e', q'⟩ := W_forM J hstep hend rest st' q
      exact ⟨fl', st'', by simp only [forM, h1, if_true, h2, e]; exact e', q'⟩
    | cont =>
      obtain ⟨fl', st'', e', q'⟩ := W_forM J hstep hend rest st' q
      exact ⟨fl', st'', by simp only [forM, h1, if_true, h2, e]; exact e', q'⟩
    | brk => exact ⟨_, _, by simp only [forM, h1, if_true, h2, e], q⟩
    | ret d => exact ⟨_, _, by simp only [forM, h1, if_true, h2, e], q⟩

/-- the store has only grown -/
def Ext (σ σ' : Sto) : Prop := ∃ j, σ' = σ ++ j
theorem Ext.refl (σ : Sto) : Ext σ σ := ⟨[], by simp⟩
theorem Ext.trans {a b c : Sto} (x : Ext a b) (y : Ext b c) : Ext a c := by
  obtain ⟨j, rfl⟩ := x; obtain ⟨k, rfl⟩ := y; exact ⟨j ++ k, by simp⟩
theorem Ext.get {a b : Sto} (x : Ext a b) {k : Nat} {o : PO} (e : a[k]? = some o) : b[k]? = some o := by
  obtain ⟨j, rfl⟩ := x
  rw [List.getElem?_append_left (List.getElem?_eq_some_iff.mp e).1]; exact e
theorem Ext.app (σ j : Sto) : Ext σ (σ ++ j) := ⟨j, rfl⟩
theorem Ext.len {a b : Sto} (x : Ext a b) : a.length ≤ b.length := by obtain ⟨j, rfl⟩ := x; simp

/-- a comprehension whose element and test only grow the store -/
theorem compM_ext {tgt : D → Loc → Option Loc} {g : Sto → Prop} {mt : Mn Bool} {me : Mn D} (keep : D → Bool) (V : D → D → Sto → Prop) (A : Loc → Prop) {σ₀ : Sto} (hV : ∀ d x σ σ', Ext σ σ' → V d x σ → V d x σ') (hg : ∀ σ, Ext σ₀ σ → g σ) :
    ∀ (ds acc : List D) (loc : Loc) (σ : Sto), (∀ d, d ∈ ds → ∀ loc σ, A loc → Ext σ₀ σ → ∃ loc', tgt d loc = some loc' ∧ A loc' ∧ W mt ⟨loc', σ⟩ (fun b st' => b = keep d ∧ st'.loc = loc' ∧ Ext σ st'.sto ∧ (b = true → W me st' (fun x st'' => st''.loc = loc' ∧ Ext st'.sto st''.sto ∧ V d x st''.sto)))) →
      A loc → Ext σ₀ σ → ∃ xs loc' σ', compM tgt g mt me ds acc ⟨loc, σ⟩ = .ok (acc ++ xs) ⟨loc', σ'⟩ ∧ A loc' ∧ Ext σ σ' ∧ All2 (fun x d => V d x σ') xs (ds.filter keep)
  | [], acc, loc, σ, _, hA, hx => ⟨[], loc, σ, by simp only [compM, hg σ hx, if_true, List.append_nil], hA, .refl _, .nil⟩
  | d :: rest, acc, loc, σ, h, hA, hx => by
    obtain ⟨loc', e1, hA', b, st', e2, rfl, hl, hx', he⟩ := h d List.mem_cons_self loc σ hA hx
    obtain ⟨l2, σ2⟩ := st'
    cases hl
    have hrest := fun d' m => h d' (List.mem_cons_of_mem _ m)
    cases hk : keep d with
    | false =>
      rw [hk] at e2
      obtain ⟨xs, l3, σ3, e3, hA3, hx3, r⟩ := compM_ext keep V A hV hg rest acc l2 σ2 hrest hA' (hx.trans hx')
      refine ⟨xs, l3, σ3, ?_, hA3, hx'.trans hx3, ?_⟩
      · simp only [compM, hg σ hx, if_true, e1, e2]; exact e3
      · simp only [List.filter, hk]; exact r
    | true =>
      rw [hk] at e2
      obtain ⟨x, st3, e3, hl3, hx3, hv⟩ := he hk
      obtain ⟨l3, σ3⟩ := st3
      have hl4 : l3 = l2 := hl3
      subst hl4
      obtain ⟨xs, l4, σ4, e4, hA4, hx4, r⟩ := compM_ext keep V A hV hg rest (acc ++ [x]) l3 σ3 hrest hA' ((hx.trans hx').trans hx3)
      refine ⟨x :: xs, l4, σ4, ?_, hA4, (hx'.trans hx3).trans hx4, ?_⟩
      · simp only [compM, hg σ hx, if_true, e1, e2, e3]; simpa using e4
      · simp only [List.filter, hk]; exact .cons (hV _ _ _ _ hx4 hv) r
theorem W_compD {cls : List Nat} {tgt : D → Loc → Option Loc} {mt : Mn Bool} {me : Mn D} {src : Src} {st : St} {Q : D → St → Prop} (keep : D → Bool) (V : D → D → Sto → Prop) (A : Loc → Prop) (hlen : src.ds.length ≤ sizeLine) (hV : ∀ d x σ σ', Ext σ σ' → V d x σ → V d x σ') (hg : ∀ σ, Ext st.sto σ → src.g σ)
    (hA : A (clearL cls st.loc)) (h : ∀ d, d ∈ src.ds → ∀ loc σ, A loc → Ext st.sto σ → ∃ loc', tgt d loc = some loc' ∧ A loc' ∧ W mt ⟨loc', σ⟩ (fun b st' => b = keep d ∧ st'.loc = loc' ∧ Ext σ st'.sto ∧ (b = true → W me st' (fun x st'' => st''.loc = loc' ∧ Ext st'.sto st''.sto ∧ V d x st''.sto))))
    (hQ : ∀ xs σ', Ext st.sto σ' → All2 (fun x d => V d x σ') xs (src.ds.filter keep) → Q (.ref σ'.length) ⟨st.loc, σ' ++ [.list xs]⟩) : W (compD cls tgt mt me src) st Q := by
  obtain ⟨xs, l, σ', e, _, hx, r⟩ := compM_ext keep V A hV hg src.ds [] (clearL cls st.loc) st.sto h hA (.refl _)
  refine ⟨_, _, ?_, hQ xs σ' hx r⟩
  unfold compD
  rw [if_pos hlen, e]
  simp
end Mine

/- part P2 -/
set_option Elab.async false
set_option linter.unusedVariables false
namespace Mine
open PySem PyProof.Rows PySem.Builtin.Str

/-! texts as lists of signs -/
def cl (x : Str) : List Nat := x.cps.toList
theorem cl_inj {x y : Str} (h : cl x = cl y) : x = y := by
  obtain ⟨a⟩ := x; obtain ⟨b⟩ := y
  have : a = b := Array.toList_inj.mp h
  rw [this]
theorem cl_append (x y : Str) : cl (x ++ y) = cl x ++ cl y := by
  show (x.cps ++ y.cps).toList = _
  simp [cl]
theorem cl_length (x : Str) : (cl x).length = x.length := by simp [cl, Str.length]
theorem cl_mk (l : List Nat) : cl ⟨l.toArray⟩ = l := by simp [cl]

def joinL (c : Nat) : List (List Nat) → List Nat
  | [] => []
  | [a] => a
  | a :: b :: r => a ++ c :: joinL c (b :: r)
theorem cl_join (c : Nat) : ∀ xs : List Str, cl (Str.join ⟨#[c]⟩ xs) = joinL c (xs.map cl)
  | [] => rfl
  | [x] => rfl
  | x :: y :: r => by
    have := cl_join c (y :: r)
    show cl (x ++ ⟨#[c]⟩ ++ Str.join ⟨#[c]⟩ (y :: r)) = _
    rw [cl_append, cl_append, this]
    simp [joinL, cl]
theorem app_inj {c : Nat} : ∀ {a b r s : List Nat}, c ∉ a → c ∉ b → a ++ c :: r = b ++ c :: s → a = b ∧ r = s
  | [], [], r, s, _, _, e => by simpa using e
  | [], y :: b, r, s, _, hb, e => by simp at e; exact absurd (by rw [e.1]; exact List.mem_cons_self) hb
  | x :: a, [], r, s, ha, _, e => by simp at e; exact absurd (by rw [e.1]; exact List.mem_cons_self) ha
  | x :: a, y :: b, r, s, ha, hb, e => by
    simp only [List.cons_append, List.cons.injEq] at e
    obtain ⟨h1, h2⟩ := app_inj (fun m => ha (List.mem_cons_of_mem _ m)) (fun m => hb (List.mem_cons_of_mem _ m)) e.2
    exact ⟨by rw [e.1, h1], h2⟩
theorem joinL_inj {c : Nat} : ∀ {as bs : List (List Nat)}, as ≠ [] → bs ≠ [] → (∀ a, a ∈ as → c ∉ a) → (∀ b, b ∈ bs → c ∉ b) → joinL c as = joinL c bs → as = bs
  | [], _, h, _, _, _, _ => absurd rfl h
  | _, [], _, h, _, _, _ => absurd rfl h
  | [a], [b], _, _, _, _, e => by simpa [joinL] using e
  | [a], b :: b' :: r, _, _, ha, _, e => by
    simp only [joinL] at e
    exact absurd (by rw [e]; simp) (ha a List.mem_cons_self)
  | a :: a' :: r, [b], _, _, _, hb, e => by
    simp only [joinL] at e
    exact absurd (by rw [← e]; simp) (hb b List.mem_cons_self)
  | a :: a' :: r, b :: b' :: s, _, _, ha, hb, e => by
    simp only [joinL] at e
    obtain ⟨h1, h2⟩ := app_inj (ha a List.mem_cons_self) (hb b List.mem_cons_self) e
    rw [h1, joinL_inj (by simp) (by simp) (fun x m => ha x (List.mem_cons_of_mem _ m)) (fun x m => hb x (List.mem_cons_of_mem _ m)) h2]

/-- a text cut at a sign, as lists -/
def splitL (c : Nat) : List Nat → List (List Nat)
  | [] => [[]]
  | x :: r => if x = c then [] :: splitL c r else match splitL c r with
    | [] => [[x]]
    | a :: s => (x :: a) :: s
theorem splitL_ne (c : Nat) : ∀ l, splitL c l ≠ []
  | [] => by simp [splitL]
  | x :: r => by
    unfold splitL
    split
    · simp
    · split <;> simp
theorem join_splitL (c : Nat) : ∀ l, joinL c (splitL c l) = l
  | [] => rfl
  | x :: r => by
    have ih := join_splitL c r
    unfold splitL
    by_cases h : x = c
    · rw [if_pos h]
      cases e : splitL c r with
      | nil => exact absurd e (splitL_ne c r)
      | cons a s => rw [e] at ih; show [] ++ c :: joinL c (a :: s) = _; rw [ih, h]; rfl
    · rw [if_neg h]
      cases e : splitL c r with
      | nil => exact absurd e (splitL_ne c r)
      | cons a s =>
        rw [e] at ih
        cases s with
        | nil => show x :: a = _; rw [← ih]; rfl
        | cons b t => show (x :: a) ++ c :: joinL c (b :: t) = _; rw [← ih]; rfl
theorem splitL_free (c : Nat) : ∀ l, ∀ p, p ∈ splitL c l → c ∉ p
  | [], p, m => by simp [splitL] at m; rw [m]; simp
  | x :: r, p, m => by
    have ih := splitL_free c r
    unfold splitL at m
    by_cases h : x = c
    · rw [if_pos h] at m
      rcases List.mem_cons.mp m with rfl | m
      · simp
      · exact ih p m
    · rw [if_neg h] at m
      cases e : splitL c r with
      | nil => exact absurd e (splitL_ne c r)
      | cons a s =>
        rw [e] at m ih
        rcases List.mem_cons.mp m with rfl | m
        · intro q
          rcases List.mem_cons.mp q with q | q
          · exact h q.symm
          · exact ih a List.mem_cons_self q
        · exact ih p (List.mem_cons_of_mem _ m)
theorem split_ne (x : Str) (c : Nat) : Txt.split x ⟨#[c]⟩ ≠ [] := by
  unfold Txt.split
  split
  · simp
  · split
    · simp
    · rw [StrLaws.partsBetween_eq]
      obtain ⟨p, r, e⟩ := StrLaws.partsFrom_ne x (⟨#[c]⟩ : Str).length 0 (occurrences x ⟨#[c]⟩ 0 x.length (x.length + 1))
      rw [e]; simp
theorem cl_split (x : Str) (c : Nat) : (Txt.split x ⟨#[c]⟩).map cl = splitL c (cl x) := by
  refine joinL_inj (c := c) (by simpa using split_ne x c) (splitL_ne _ _) (fun a m => ?_) (splitL_free c _) ?_
  · obtain ⟨p, mp, rfl⟩ := List.mem_map.mp m
    exact StrLaws.split_free x c p mp
  · rw [← cl_join, StrLaws.join_split, join_splitL]
theorem splitL_joinL {c : Nat} {as : List (List Nat)} (h : as ≠ []) (hf : ∀ a, a ∈ as → c ∉ a) : splitL c (joinL c as) = as :=
  joinL_inj (splitL_ne _ _) h (splitL_free c _) hf (join_splitL c _)
theorem map_cl_inj : ∀ {xs ys : List Str}, xs.map cl = ys.map cl → xs = ys
  | [], [], _ => rfl
  | [], _ :: _, e => by simp at e
  | _ :: _, [], e => by simp at e
  | x :: xs, y :: ys, e => by
    simp only [List.map_cons, List.cons.injEq] at e
    rw [cl_inj e.1, map_cl_inj e.2]
theorem split_join {c : Nat} {xs : List Str} (h : xs ≠ []) (hf : ∀ x, x ∈ xs → c ∉ cl x) : Txt.split (Str.join ⟨#[c]⟩ xs) ⟨#[c]⟩ = xs := by
  refine map_cl_inj ?_
  rw [cl_split, cl_join, splitL_joinL (by simpa using h)]
  intro a m
  obtain ⟨p, mp, rfl⟩ := List.mem_map.mp m
  exact hf p mp
theorem partsFrom_len (x : Str) (w : Nat) : ∀ (cuts : List Nat) (a : Nat), (StrLaws.partsFrom x w a cuts).length = cuts.length + 1
  | [], a => rfl
  | c :: r, a => by
    have := partsFrom_len x w r (c + w)
    simp only [StrLaws.partsFrom, List.length_cons, this]
theorem W_split1 {x : Str} {c : Nat} {st : St} {Q : D → St → Prop} (hx : x.length + 2 ≤ sizeLine) (h : Q (.ref st.sto.length) ⟨st.loc, st.sto ++ [.list ((Txt.split x ⟨#[c]⟩).map D.str)]⟩) : W (pSplit x [.str ⟨#[c]⟩]) st Q := by
  refine W_split.mpr ⟨⟨rfl, by omega, ?_⟩, h⟩
  rw [StrLaws.partsBetween_eq, partsFrom_len]
  have := StrLaws.occ_length_le_len x ⟨#[c]⟩ 0 x.length (x.length + 1)
  omega
theorem strsOf_map (xs : List Str) : strsOf (xs.map D.str) = some xs := by
  induction xs with
  | nil => rfl
  | cons x r ih => simp [strsOf, ih]
theorem strsOf_all : ∀ {ds : List D}, (∀ d, d ∈ ds → ∃ x, d = .str x) → ∃ xs, ds = xs.map D.str ∧ strsOf ds = some xs
  | [], _ => ⟨[], rfl, rfl⟩
  | d :: r, h => by
    obtain ⟨x, rfl⟩ := h d List.mem_cons_self
    obtain ⟨xs, e1, e2⟩ := strsOf_all (fun d m => h d (List.mem_cons_of_mem _ m))
    exact ⟨x :: xs, by rw [e1]; rfl, by simp [strsOf, e2]⟩
theorem intsOf_map (xs : List Int) : intsOf (xs.map D.int) = some xs := by
  induction xs with
  | nil => rfl
  | cons x r ih => simp [intsOf, ih]
theorem joinOk_of {sep : Str} {xs : List Str} {B : Nat} (hB : ∀ x, x ∈ xs → x.length ≤ B) (h : xs.length * B + xs.length * sep.length ≤ 16777216) : JoinOk sep xs = true := by
  unfold JoinOk
  rw [StrLaws.joinFits hB h]; rfl
theorem joinL_length (c : Nat) {B : Nat} : ∀ (as : List (List Nat)), (∀ a, a ∈ as → a.length ≤ B) → (joinL c as).length ≤ as.length * (B + 1)
  | [], _ => by simp [joinL]
  | [a], h => by
    have := h a List.mem_cons_self
    simp only [joinL, List.length_cons, List.length_nil]; omega
  | a :: b :: r, h => by
    have h1 := h a List.mem_cons_self
    have h2 := joinL_length c (b :: r) (fun x m => h x (List.mem_cons_of_mem _ m))
    simp only [joinL, List.length_append, List.length_cons] at h2 ⊢
    rw [Nat.succ_mul]
    omega
theorem empty_eq : Str.ofString "" = ⟨#[]⟩ := rfl
theorem nl_eq : Str.ofString "\n" = ⟨#[10]⟩ := rfl
theorem cl_join0 : ∀ xs : List Str, cl (Str.join ⟨#[]⟩ xs) = (xs.map cl).flatten
  | [] => rfl
  | [x] => by simp [Str.join]
  | x :: y :: r => by
    have := cl_join0 (y :: r)
    show cl (x ++ ⟨#[]⟩ ++ Str.join ⟨#[]⟩ (y :: r)) = _
    rw [cl_append, cl_append, this]
    simp [cl]
theorem filter_all {α : Type} (l : List α) : l.filter (fun _ => true) = l := List.filter_eq_self.mpr fun _ _ => rfl
theorem rngL_mem {a s : Int} {n : Nat} {d : D} (h : d ∈ rngL a s n) : ∃ j : Nat, j < n ∧ d = .int (a + j * s) := by
  simp only [rngL, List.mem_map, List.mem_range] at h
  obtain ⟨j, hj, rfl⟩ := h
  exact ⟨j, hj, rfl⟩
theorem rngL_len {a s : Int} {n : Nat} : (rngL a s n).length = n := by simp [rngL]
end Mine

/- part P3 -/
set_option Elab.async false
set_option linter.unusedVariables false
namespace Mine
open PySem PyProof.Rows PySem.Builtin.Str

section
variable {st : St} {a b : Int} {x y : Str} {Q : D → St → Prop}
theorem W_add_int : W (pAdd (.int a) (.int b)) st Q ↔ Q (.int (a + b)) st := W_ret1
theorem W_add_str : W (pAdd (.str x) (.str y)) st Q ↔ x.length + y.length ≤ sizeLine ∧ Q (.str (x ++ y)) st := W_addS
theorem W_add_ref {k l : Nat} : W (pAdd (.ref k) (.ref l)) st Q ↔ ∃ ds es, st.sto[k]? = some (.list ds) ∧ st.sto[l]? = some (.list es) ∧ ds.length + es.length ≤ sizeLine ∧ Q (.ref st.sto.length) ⟨st.loc, st.sto ++ [.list (ds ++ es)]⟩ := by
  unfold W pAdd
  constructor
  · rintro ⟨a, st', e, q⟩
    dsimp only at e
    split at e
    · rename_i d1 d2 h1 h2
      split at e
      · cases e; exact ⟨d1, d2, h1, h2, by assumption, q⟩
      · cases e
    · cases e
  · rintro ⟨d1, d2, h1, h2, h3, q⟩
    exact ⟨_, _, by simp only [h1, h2, h3, if_true, allocL], q⟩
theorem W_add_tup {ds es : List D} : W (pAdd (.tup ds) (.tup es)) st Q ↔ (ds.isEmpty = false ∧ es.isEmpty = false ∧ ds.length + es.length ≤ sizeLine) ∧ Q (.tup (ds ++ es)) st := by unfold pAdd; rw [W_guard, W_ret1]
theorem W_mul_int : W (pMul (.int a) (.int b)) st Q ↔ (small64 a || small64 b) = true ∧ Q (.int (a * b)) st := W_mulI
theorem W_mul_str : W (pMul (.str x) (.int a)) st Q ↔ (inLong a = true ∧ x.length * a.toNat ≤ 16777216) ∧ Q (.str ⟨(repL a x.cps.toList).toArray⟩) st := by unfold pMul; rw [W_guard, W_ret1]
theorem W_eq_int : W (pEq1 (.int a) (.int b)) st Q ↔ Q (.bool (a == b)) st := W_ret1
theorem W_ne_int : W (pNe1 (.int a) (.int b)) st Q ↔ Q (.bool (a != b)) st := W_ret1
theorem W_eq_str : W (pEq1 (.str x) (.str y)) st Q ↔ Q (.bool (cl x == cl y)) st := W_ret1
theorem W_ne_str : W (pNe1 (.str x) (.str y)) st Q ↔ Q (.bool (cl x != cl y)) st := W_ret1
theorem W_eq_bool {p q : Bool} : W (pEq1 (.bool p) (.bool q)) st Q ↔ Q (.bool (p == q)) st := W_ret1
theorem W_ltS : W (pLt (.str x) (.str y)) st Q ↔ Q (.bool (decide (cl x < cl y))) st := W_ret1
theorem W_gtS : W (pGt (.str x) (.str y)) st Q ↔ Q (.bool (decide (cl y < cl x))) st := W_ret1
theorem W_is_bool {p q : Bool} : W (pIs (.bool p) (.bool q)) st Q ↔ Q (.bool (p == q)) st := W_ret1
theorem W_ends : W (pEndswith x [.str y]) st Q ↔ Q (.bool (Txt.endswith x y)) st := W_ret1
theorem W_sliceS {m : Mn D} {lo hi : Option (Mn D)} : W (sliceM m lo hi) st Q ↔ W m st fun d st1 => W (partM lo) st1 fun l st2 => W (partM hi) st2 fun h st3 => W (pSlice d l h) st3 Q := by
  unfold sliceM
  simp only [W_bnd, W_ret1]
theorem W_part_none {Q : Option Int → St → Prop} : W (partM none) st Q ↔ Q none st := W_ret1
theorem W_part_some {m : Mn D} {Q : Option Int → St → Prop} : W (partM (some m)) st Q ↔ W m st fun d st1 => W (asInt d) st1 Q := by unfold partM; rw [W_bnd]
theorem W_asInt {Q : Option Int → St → Prop} : W (asInt (.int a)) st Q ↔ Q (some a) st := W_ret1
theorem W_cut_str {l h : Option Int} : W (pSlice (.str x) l h) st Q ↔ x.length ≤ sizeLine ∧ Q (.str ⟨(cutL l h (cl x)).toArray⟩) st := by unfold pSlice; dsimp only; rw [W_guard, W_ret1]; rfl
theorem W_cut_ref {k : Nat} {l h : Option Int} : W (pSlice (.ref k) l h) st Q ↔ ∃ ds, st.sto[k]? = some (.list ds) ∧ ds.length ≤ sizeLine ∧ Q (.ref st.sto.length) ⟨st.loc, st.sto ++ [.list (cutL l h ds)]⟩ := by
  unfold W pSlice
  constructor
  · rintro ⟨a, st', e, q⟩
    dsimp only at e
    split at e
    · rename_i d1 h1
      split at e
      · cases e; exact ⟨d1, h1, by assumption, q⟩
      · cases e
    · cases e
  · rintro ⟨d1, h1, h3, q⟩
    exact ⟨_, _, by simp only [h1, h3, if_true, allocL], q⟩
theorem W_listM {ms : Mn (List D)} : W (listM ms) st Q ↔ W ms st fun ds st1 => ds.length ≤ sizeLine ∧ Q (.ref st1.sto.length) ⟨st1.loc, st1.sto ++ [.list ds]⟩ := by
  unfold listM
  simp only [W_bnd, W_guard, W_allocL]
theorem W_tupM {ms : Mn (List D)} : W (tupM ms) st Q ↔ W ms st fun ds st1 => ds.length ≤ sizeLine ∧ Q (.tup ds) st1 := by
  unfold tupM
  simp only [W_bnd, W_guard, W_ret1]
theorem W_idxR {k : Nat} {i : Int} (h0 : 0 ≤ i) {ds : List D} (hk : st.sto[k]? = some (.list ds)) (h1 : i < ds.length) (h2 : ds.length ≤ 2 ^ 62) : W (pIdx (.ref k) (.int i)) st Q ↔ Q (ds[i.toNat]'(by omega)) st := by
  have hi : inLong i = true := inLong_iff.mpr ⟨by omega, by omega⟩
  have hs : seqIndex? i ds.length = some i.toNat := StrLaws.seqIndex_nonneg h0 h1
  have hlt : i.toNat < ds.length := by omega
  unfold W pIdx
  dsimp only
  rw [hk]
  simp only [hi, if_true, hs, Option.bind_some, List.getElem?_eq_getElem hlt, optM, ret1]
  constructor
  · rintro ⟨d, st', e, q⟩; cases e; exact q
  · intro q; exact ⟨_, _, rfl, q⟩
theorem W_idxT {i : Int} {ds : List D} (h0 : 0 ≤ i) (h1 : i < ds.length) (h2 : ds.length ≤ 2 ^ 62) : W (pIdx (.tup ds) (.int i)) st Q ↔ Q (ds[i.toNat]'(by omega)) st := by
  have hi : inLong i = true := inLong_iff.mpr ⟨by omega, by omega⟩
  have hs : seqIndex? i ds.length = some i.toNat := StrLaws.seqIndex_nonneg h0 h1
  have hlt : i.toNat < ds.length := by omega
  unfold pIdx
  rw [W_guard, W_optM]
  simp only [hi, true_and, hs, Option.bind_some, List.getElem?_eq_getElem hlt, Option.some.injEq, exists_eq_left']
end

/-- a loop that looks for what is not ok -/
theorem W_forM_search {tgt : D → Loc → Option Loc} {g : Sto → Prop} {body : Mn Fl} {Q : Fl → St → Prop} (A : Loc → Prop) (ok : D → Bool) (r : D) {σ₀ : Sto} (hg : ∀ σ, Ext σ₀ σ → g σ) : ∀ (ds : List D) (loc : Loc) (σ : Sto),
    (∀ d, d ∈ ds → ∀ loc σ, A loc → Ext σ₀ σ → ∃ loc', tgt d loc = some loc' ∧ W body ⟨loc', σ⟩ (fun fl st' => A st'.loc ∧ Ext σ st'.sto ∧ fl = if ok d = true then .next else .ret r)) → A loc → Ext σ₀ σ →
    (∀ loc' σ', A loc' → Ext σ σ' → Q (if ds.all ok = true then .next else .ret r) ⟨loc', σ'⟩) → W (forM tgt g body ds) ⟨loc, σ⟩ Q
  | [], loc, σ, _, hA, hx, hQ => ⟨.next, ⟨loc, σ⟩, by simp only [forM, hg σ hx, if_true], hQ loc σ hA (.refl _)⟩
  | d :: rest, loc, σ, h, hA, hx, hQ => by
    obtain ⟨loc', e1, fl, ⟨l2, σ2⟩, e2, hA2, hx2, rfl⟩ := h d List.mem_cons_self loc σ hA hx
    cases hk : ok d with
    | true =>
      simp only [hk, if_true] at e2
      obtain ⟨fl, st', e3, q⟩ := W_forM_search A ok r hg rest l2 σ2 (fun d m => h d (List.mem_cons_of_mem _ m)) hA2 (hx.trans hx2) (Q := Q) fun l3 σ3 hA3 hx3 => by
        have := hQ l3 σ3 hA3 (hx2.trans hx3)
        simpa [hk] using this
      exact ⟨fl, st', by simp only [forM, hg σ hx, if_true, e1, e2]; exact e3, q⟩
    | false =>
      simp only [hk, Bool.false_eq_true, if_false] at e2
      refine ⟨.ret r, ⟨l2, σ2⟩, by simp only [forM, hg σ hx, if_true, e1, e2], ?_⟩
      have := hQ l2 σ2 hA2 hx2
      simpa [hk] using this
end Mine

/- part Q02 -/
set_option Elab.async false
set_option linter.unusedVariables false
namespace Mine
theorem splitL_nil (c : Nat) : splitL c [] = [[]] := rfl
theorem splitL_eq (c : Nat) (r : List Nat) : splitL c (c :: r) = [] :: splitL c r := by simp [splitL]
theorem splitL_other {c x : Nat} (h : x ≠ c) (r : List Nat) : ∃ a s, splitL c r = a :: s ∧ splitL c (x :: r) = (x :: a) :: s := by
  cases e : splitL c r with
  | nil => exact absurd e (splitL_ne c r)
  | cons a s => exact ⟨a, s, rfl, by simp [splitL, h, e]⟩
/-- no blank stands right before a line feed -/
def noAdj : List Nat → Bool
  | [] => true
  | [_] => true
  | x :: y :: r => !(x == 32 && y == 10) && noAdj (y :: r)
theorem last_cons2 {x y : Nat} {r : List Nat} : (x :: y :: r).getLast? = (y :: r).getLast? := by simp [List.getLast?_cons]
theorem ends_noAdj : ∀ l : List Nat, (splitL 10 l).all (fun p => p.getLast? != some 32) = (noAdj l && l.getLast? != some 32)
  | [] => rfl
  | [x] => by
    by_cases h : x = 10
    · subst h; rfl
    · obtain ⟨a, s, e1, e2⟩ := splitL_other h []
      cases e1
      rw [e2]
      simp [noAdj]
  | x :: y :: r => by
    have ih := ends_noAdj (y :: r)
    by_cases h : x = 10
    · subst h
      rw [splitL_eq, List.all_cons, ih, last_cons2]
      simp [noAdj]
    · obtain ⟨a, s, e1, e2⟩ := splitL_other h (y :: r)
      rw [e2]
      rw [e1] at ih
      rw [last_cons2]
      simp only [noAdj, List.all_cons] at ih ⊢
      by_cases hy : y = 10
      · subst hy
        rw [splitL_eq] at e1
        cases e1
        have ih' : List.all (splitL 10 r) (fun p => p.getLast? != some 32) = (noAdj (10 :: r) && (10 :: r).getLast? != some 32) := ih
        rw [ih']
        by_cases hx : x = 32
        · subst hx; simp
        · have h1 : (some x != some 32) = true := by simp [bne, hx]
          have h2 : (x == 32) = false := beq_false_of_ne hx
          simp only [List.getLast?_singleton, h1, h2, Bool.false_and, Bool.not_false, Bool.true_and]
      · obtain ⟨a', s', e3, e4⟩ := splitL_other hy r
        rw [e4] at e1
        cases e1
        have h2 : (y == 10) = false := beq_false_of_ne hy
        rw [last_cons2, ih, h2]
        simp
theorem splitL_all {p : Nat → Bool} : ∀ l : List Nat, (splitL 10 l).all (fun q => q.all p) = l.all (fun c => c == 10 || p c)
  | [] => rfl
  | x :: r => by
    have ih := splitL_all (p := p) r
    by_cases h : x = 10
    · subst h
      rw [splitL_eq, List.all_cons, ih]
      simp
    · obtain ⟨a, s, e1, e2⟩ := splitL_other h r
      rw [e1] at ih
      rw [e2, List.all_cons, List.all_cons, List.all_cons, ← ih, List.all_cons]
      have h2 : (x == 10) = false := beq_false_of_ne h
      rw [h2]
      simp [Bool.and_assoc]
def badAt (l : List Nat) (k : Nat) : Bool := l[k]? == some 9 || (l[k]? == some 10 && (decide (0 < k) && l[k - 1]? == some 32))
theorem noAdj_at : ∀ (l : List Nat), noAdj l = true ↔ ∀ k, l[k]? = some 32 → l[k+1]? ≠ some 10
  | [] => by simp [noAdj]
  | [x] => by
    simp only [noAdj, true_iff]
    intro k hk
    cases k <;> simp
  | x :: y :: r => by
    have ih := noAdj_at (y :: r)
    simp only [noAdj, Bool.and_eq_true, ih]
    constructor
    · rintro ⟨h1, h2⟩ k hk
      cases k with
      | zero => simp at hk h1 ⊢; rcases h1 with h1 | h1 <;> first | exact absurd hk h1 | exact h1
      | succ k => exact h2 k (by simpa using hk)
    · intro h
      refine ⟨?_, fun k hk => ?_⟩
      · have := h 0
        simp at this ⊢
        by_cases hx : x = 32
        · exact .inr (this hx)
        · exact .inl hx
      · exact h (k + 1) (by simpa using hk)
theorem badAt_all (l : List Nat) : (List.range l.length).all (fun k => !badAt l k) = (noAdj l && l.all (fun c => c != 9)) := by
  rw [Bool.eq_iff_iff, List.all_eq_true, Bool.and_eq_true, noAdj_at, List.all_eq_true]
  constructor
  · intro h
    refine ⟨fun k hk hk1 => ?_, fun c hc => ?_⟩
    · have hlt : k + 1 < l.length := (List.getElem?_eq_some_iff.mp hk1).1
      have := h (k + 1) (List.mem_range.mpr hlt)
      simp [badAt, hk, hk1] at this
    · obtain ⟨k, hk, rfl⟩ := List.getElem_of_mem hc
      have := h k (List.mem_range.mpr hk)
      simp [badAt, List.getElem?_eq_getElem hk] at this
      simp [this.1]
  · rintro ⟨h1, h2⟩ k hk
    have hk' := List.mem_range.mp hk
    have h3 := h2 _ (List.getElem_mem hk')
    simp [badAt, List.getElem?_eq_getElem hk'] at h3 ⊢
    refine ⟨h3, ?_⟩
    by_cases h10 : l[k] = 10
    · cases k with
      | zero => exact .inr (.inl rfl)
      | succ j => exact .inr (.inr fun hp => h1 j (by simpa using hp) (by rw [List.getElem?_eq_getElem hk', h10]))
    · exact .inl h10
/-- what is_good says of a text -/
def goodP (l : List Nat) : Bool := if decide ((l.length : Int) > 200) || l.getLast? == some 10 then false else (splitL 10 l).all (fun p => p.getLast? != some 32 && p.all (fun c => decide (32 ≤ c) && decide (c ≤ 126)))
/-- what the law says of it -/
def goodQ (l : List Nat) : Bool := if decide ((l.length : Int) > 200) || (l.getLast? == some 10 || l.getLast? == some 32) then false else (List.range l.length).all (fun k => !badAt l k)
def mySign (c : Nat) : Bool := c == 9 || c == 10 || (decide (32 ≤ c) && decide (c ≤ 126))
theorem all_and {α : Type} (l : List α) (p q : α → Bool) : l.all (fun x => p x && q x) = (l.all p && l.all q) := by
  induction l with
  | nil => rfl
  | cons x r ih => simp only [List.all_cons, ih]; cases p x <;> cases q x <;> simp
theorem good_eq {l : List Nat} (h : l.all mySign = true) : goodP l = goodQ l := by
  have hs : l.all (fun c => c == 10 || (decide (32 ≤ c) && decide (c ≤ 126))) = l.all (fun c => c != 9) := by
    rw [Bool.eq_iff_iff, List.all_eq_true, List.all_eq_true]
    rw [List.all_eq_true] at h
    constructor
    · intro g c m
      have := g c m
      simp at this ⊢
      omega
    · intro g c m
      have h1 := g c m
      have h2 := h c m
      simp [mySign] at h1 h2 ⊢
      omega
  unfold goodP goodQ
  rw [all_and, ends_noAdj, splitL_all, hs, badAt_all]
  have hb : (l.getLast? != some 32) = !(l.getLast? == some 32) := rfl
  rw [hb]
  cases decide ((l.length : Int) > 200) <;> cases l.getLast? == some 10 <;> cases l.getLast? == some 32 <;> simp
theorem cut_last {l : List Nat} {c : Nat} : (cutL (some (-1)) none l == [c]) = (l.getLast? == some c) := by
  rcases List.eq_nil_or_concat l with rfl | ⟨r, x, rfl⟩
  · rfl
  · have e : cutL (some (-1)) none (r ++ [x]) = [x] := by
      have h1 : clipI (some (-1)) 0 ((r ++ [x]).length : Int) = (r.length : Int) := by simp [clipI]; omega
      unfold cutL
      rw [h1]
      simp [clipI]
    rw [List.concat_eq_append, e]
    simp
end Mine

/- part H02 -/
set_option Elab.async false
set_option maxRecDepth 100000
set_option maxHeartbeats 8000000
namespace Mine
open_top hd02 for PySem.Challenge.rw_uf030034_02
end Mine

/- part L02 -/
set_option Elab.async false
set_option linter.unusedVariables false
set_option maxRecDepth 100000
set_option maxHeartbeats 2000000
namespace Mine
open PySem PySem.W PyProof.Rows
abbrev pw : Program := PySem.Challenge.pw_uf030034_02
-- _law_at: 0 _law_script, 1 _law_k
noncomputable def d__law_at : Mn Fl := (seqM (ifM (cmpM pLt (pvar 1) (bnd (consM (pvar 0) nilM) pLen)) (seqM (retM (binM pIdx (pvar 0) (pvar 1)))
  (ret1 .next)) (ret1 .next))
  (seqM (retM (ret1 (.int 0)))
  (ret1 .next)))
noncomputable def F__law_at : List D → Mn D := mkFn [0, 1] d__law_at
def tbl__law_at : List Str := [Str.ofString "_law_script", Str.ofString "_law_k"]
theorem ss__law_at {G : Gd} {P : Params} (L : Lay G (Mine.hd02.heap_39 P)) : SSs G ⟨namesAt pw 5, tbl__law_at, 0⟩ (bodyAt pw 5) d__law_at :=
  (ss_cons (ss_if (sb_cmp cmp_lt (se_local rfl (by kernel_rfl) (by kernel_rfl)) (se_bcall (L.bui (by kernel_rfl) (by boot_by_name) (by kernel_rfl)) (by kernel_rfl) (by kernel_rfl) bf_len (sa_cons (se_local rfl (by kernel_rfl) (by kernel_rfl)) sa_nil (fun _ => rfl)) (fun _ => rfl) (fun _ => rfl)) rfl) (ss_cons (ss_return (se_sub (se_local rfl (by kernel_rfl) (by kernel_rfl)) (se_local rfl (by kernel_rfl) (by kernel_rfl)) (fun _ _ => rfl)))
  ss_nil) ss_nil)
  (ss_cons (ss_return se_int)
  ss_nil))
theorem sf__law_at {G : Gd} {P : Params} (L : Lay G (Mine.hd02.heap_39 P)) : SF G 1 35 F__law_at :=
  sf_of (xs := [Str.ofString "_law_script", Str.ofString "_law_k"]) (fnIs_of L (by kernel_rfl) (by kernel_rfl) (bind2 (by intros; kernel_rfl))) (by kernel_rfl) (by decide +kernel) rfl (ss__law_at L)
-- _law_changed: 0 _law_text, 1 _law_way, 2 _law_number, 3 _law_at_here
noncomputable def d__law_changed : Mn Fl := (seqM (ifM (cmpM pEq1 (pvar 1) (ret1 (.int 1))) (seqM (bnd (binM pMod (pvar 2) (binM pAdd (bnd (consM (pvar 0) nilM) pLen) (ret1 (.int 1)))) (setvar 3))
  (seqM (retM (binM pAdd (binM pAdd (sliceM (pvar 0) none (some (pvar 3))) (ret1 (.str (Str.ofString "\t")))) (sliceM (pvar 0) (some (pvar 3)) none)))
  (ret1 .next))) (ret1 .next))
  (seqM (ifM (cmpM pEq1 (pvar 1) (ret1 (.int 2))) (seqM (retM (binM pAdd (pvar 0) (binM pMul (ret1 (.str (Str.ofString "x"))) (bnd (consM (ret1 (.int 0)) (consM (binM pSub (binM pAdd (ret1 (.int 199)) (binM pMod (pvar 2) (ret1 (.int 3)))) (bnd (consM (pvar 0) nilM) pLen)) nilM)) pMax))))
  (ret1 .next)) (ret1 .next))
  (seqM (ifM (cmpM pEq1 (pvar 1) (ret1 (.int 3))) (seqM (retM (binM pAdd (pvar 0) (binM pIdx (listM (consM (ret1 (.str (Str.ofString " "))) (consM (ret1 (.str (Str.ofString "\n"))) (consM (ret1 (.str (Str.ofString "\n\n"))) nilM)))) (binM pMod (pvar 2) (ret1 (.int 3))))))
  (ret1 .next)) (ret1 .next))
  (seqM (retM (pvar 0))
  (ret1 .next)))))
noncomputable def F__law_changed : List D → Mn D := mkFn [0, 1, 2] d__law_changed
def tbl__law_changed : List Str := [Str.ofString "_law_text", Str.ofString "_law_way", Str.ofString "_law_number", Str.ofString "_law_at_here"]
theorem ss__law_changed {G : Gd} {P : Params} (L : Lay G (Mine.hd02.heap_39 P)) : SSs G ⟨namesAt pw 8, tbl__law_changed, 0⟩ (bodyAt pw 8) d__law_changed :=
  (ss_cons (ss_if (sb_cmp cmp_eq1 (se_local rfl (by kernel_rfl) (by kernel_rfl)) se_int rfl) (ss_cons (ss_assign rfl (by kernel_rfl) (se_bin bin_mod (se_local rfl (by kernel_rfl) (by kernel_rfl)) (se_bin bin_add (se_bcall (L.bui (by kernel_rfl) (by boot_by_name) (by kernel_rfl)) (by kernel_rfl) (by kernel_rfl) bf_len (sa_cons (se_local rfl (by kernel_rfl) (by kernel_rfl)) sa_nil (fun _ => rfl)) (fun _ => rfl) (fun _ => rfl)) se_int)) (fun _ => rfl))
  (ss_cons (ss_return (se_bin bin_add (se_bin bin_add (se_slice (se_local rfl (by kernel_rfl) (by kernel_rfl)) so_none (so_some (se_local rfl (by kernel_rfl) (by kernel_rfl)))) se_str) (se_slice (se_local rfl (by kernel_rfl) (by kernel_rfl)) (so_some (se_local rfl (by kernel_rfl) (by kernel_rfl))) so_none)))
  ss_nil)) ss_nil)
  (ss_cons (ss_if (sb_cmp cmp_eq1 (se_local rfl (by kernel_rfl) (by kernel_rfl)) se_int rfl) (ss_cons (ss_return (se_bin bin_add (se_local rfl (by kernel_rfl) (by kernel_rfl)) (se_bin bin_mul se_str (se_bcall (L.bui (by kernel_rfl) (by boot_by_name) (by kernel_rfl)) (by kernel_rfl) (by kernel_rfl) bf_max (sa_cons se_int (sa_cons (se_bin bin_sub (se_bin bin_add se_int (se_bin bin_mod (se_local rfl (by kernel_rfl) (by kernel_rfl)) se_int)) (se_bcall (L.bui (by kernel_rfl) (by boot_by_name) (by kernel_rfl)) (by kernel_rfl) (by kernel_rfl) bf_len (sa_cons (se_local rfl (by kernel_rfl) (by kernel_rfl)) sa_nil (fun _ => rfl)) (fun _ => rfl) (fun _ => rfl))) sa_nil (fun _ => rfl)) (fun _ => rfl)) (fun _ => rfl) (fun _ => rfl)))))
  ss_nil) ss_nil)
  (ss_cons (ss_if (sb_cmp cmp_eq1 (se_local rfl (by kernel_rfl) (by kernel_rfl)) se_int rfl) (ss_cons (ss_return (se_bin bin_add (se_local rfl (by kernel_rfl) (by kernel_rfl)) (se_sub (se_list (sa_cons se_str (sa_cons se_str (sa_cons se_str sa_nil (fun _ => rfl)) (fun _ => rfl)) (fun _ => rfl))) (se_bin bin_mod (se_local rfl (by kernel_rfl) (by kernel_rfl)) se_int) (fun _ _ => rfl))))
  ss_nil) ss_nil)
  (ss_cons (ss_return (se_local rfl (by kernel_rfl) (by kernel_rfl)))
  ss_nil))))
theorem sf__law_changed {G : Gd} {P : Params} (L : Lay G (Mine.hd02.heap_39 P)) : SF G 1 54 F__law_changed :=
  sf_of (xs := [Str.ofString "_law_text", Str.ofString "_law_way", Str.ofString "_law_number"]) (fnIs_of L (by kernel_rfl) (by kernel_rfl) (bind3 (by intros; kernel_rfl))) (by kernel_rfl) (by decide +kernel) rfl (ss__law_changed L)
-- _law_good: 0 _law_text, 1 _law_k
noncomputable def d__law_good : Mn Fl := (seqM (ifM (orM (cmpM pGt (bnd (consM (pvar 0) nilM) pLen) (ret1 (.int 200))) (orM (cmpM pEq1 (sliceM (pvar 0) (some (bnd (ret1 (.int 1)) pNeg)) none) (ret1 (.str (Str.ofString "\n")))) (cmpM pEq1 (sliceM (pvar 0) (some (bnd (ret1 (.int 1)) pNeg)) none) (ret1 (.str (Str.ofString " ")))))) (seqM (retM (ret1 (.bool false)))
  (ret1 .next)) (ret1 .next))
  (seqM (bnd (bnd (consM (bnd (consM (pvar 0) nilM) pLen) nilM) pRange) fun src => forM (nameT 1) src.g (seqM (ifM (orM (cmpM pEq1 (binM pIdx (pvar 0) (pvar 1)) (ret1 (.str (Str.ofString "\t")))) (andM (cmpM pEq1 (binM pIdx (pvar 0) (pvar 1)) (ret1 (.str (Str.ofString "\n")))) (andM (cmpM pGt (pvar 1) (ret1 (.int 0))) (cmpM pEq1 (binM pIdx (pvar 0) (binM pSub (pvar 1) (ret1 (.int 1)))) (ret1 (.str (Str.ofString " "))))))) (seqM (retM (ret1 (.bool false)))
  (ret1 .next)) (ret1 .next))
  (ret1 .next)) src.ds)
  (seqM (retM (ret1 (.bool true)))
  (ret1 .next))))
noncomputable def F__law_good : List D → Mn D := mkFn [0] d__law_good
def tbl__law_good : List Str := [Str.ofString "_law_text", Str.ofString "_law_k"]
theorem ss__law_good {G : Gd} {P : Params} (L : Lay G (Mine.hd02.heap_39 P)) : SSs G ⟨namesAt pw 7, tbl__law_good, 0⟩ (bodyAt pw 7) d__law_good :=
  (ss_cons (ss_if (sb_bool (sbs_or (sb_cmp cmp_gt (se_bcall (L.bui (by kernel_rfl) (by boot_by_name) (by kernel_rfl)) (by kernel_rfl) (by kernel_rfl) bf_len (sa_cons (se_local rfl (by kernel_rfl) (by kernel_rfl)) sa_nil (fun _ => rfl)) (fun _ => rfl) (fun _ => rfl)) se_int rfl) (sbs_or (sb_cmp cmp_eq1 (se_slice (se_local rfl (by kernel_rfl) (by kernel_rfl)) (so_some (se_neg se_int)) so_none) se_str rfl) (sbs_or1 (sb_cmp cmp_eq1 (se_slice (se_local rfl (by kernel_rfl) (by kernel_rfl)) (so_some (se_neg se_int)) so_none) se_str rfl))))) (ss_cons (ss_return se_bool)
  ss_nil) ss_nil)
  (ss_cons (ss_for (si_tcall (L.bui (by kernel_rfl) (by boot_by_name) (by kernel_rfl)) (by kernel_rfl) (by kernel_rfl) ts_range (sa_cons (se_bcall (L.bui (by kernel_rfl) (by boot_by_name) (by kernel_rfl)) (by kernel_rfl) (by kernel_rfl) bf_len (sa_cons (se_local rfl (by kernel_rfl) (by kernel_rfl)) sa_nil (fun _ => rfl)) (fun _ => rfl) (fun _ => rfl)) sa_nil (fun _ => rfl)) (fun _ => rfl) (fun _ => rfl)) trivial (st_name rfl (by kernel_rfl)) (ss_cons (ss_if (sb_bool (sbs_or (sb_cmp cmp_eq1 (se_sub (se_local rfl (by kernel_rfl) (by kernel_rfl)) (se_local rfl (by kernel_rfl) (by kernel_rfl)) (fun _ _ => rfl)) se_str rfl) (sbs_or1 (sb_bool (sbs_and (sb_cmp cmp_eq1 (se_sub (se_local rfl (by kernel_rfl) (by kernel_rfl)) (se_local rfl (by kernel_rfl) (by kernel_rfl)) (fun _ _ => rfl)) se_str rfl) (sbs_and (sb_cmp cmp_gt (se_local rfl (by kernel_rfl) (by kernel_rfl)) se_int rfl) (sbs_and1 (sb_cmp cmp_eq1 (se_sub (se_local rfl (by kernel_rfl) (by kernel_rfl)) (se_bin bin_sub (se_local rfl (by kernel_rfl) (by kernel_rfl)) se_int) (fun _ _ => rfl)) se_str rfl)))))))) (ss_cons (ss_return se_bool)
  ss_nil) ss_nil)
  ss_nil) (fun _ _ => rfl))
  (ss_cons (ss_return se_bool)
  ss_nil)))
theorem sf__law_good {G : Gd} {P : Params} (L : Lay G (Mine.hd02.heap_39 P)) : SF G 1 47 F__law_good :=
  sf_of (xs := [Str.ofString "_law_text"]) (fnIs_of L (by kernel_rfl) (by kernel_rfl) (bind1 (by intros; kernel_rfl))) (by kernel_rfl) (by decide +kernel) rfl (ss__law_good L)
-- _law_piece: 0 _law_number, 1 _law_some, 2 _law_start, 3 _law_k
noncomputable def d__law_piece : Mn Fl := (seqM (bnd (ret1 (.str (Str.ofString " !\"#$&'()*+,-./0123456789:;<=>?@ABCDEFGHIJKLMNOPQRSTUVWXYZ[\\]^_`"))) (setvar 1))
  (seqM (bnd (binM pAdd (pvar 1) (ret1 (.str (Str.ofString "abcdefghijklmnopqrstuvwxyz{|}~")))) (setvar 1))
  (seqM (bnd (binM pDiv (pvar 0) (ret1 (.int 10))) (setvar 2))
  (seqM (retM (bnd (ret1 (.str (Str.ofString ""))) (strM fun x => bnd (consM (bnd (bnd (consM (binM pMod (pvar 0) (ret1 (.int 10))) nilM) pRange) (compD [3] (nameT 3) (ret1 true) (binM pIdx (pvar 1) (binM pMod (binM pAdd (pvar 2) (binM pMul (pvar 3) (binM pAdd (ret1 (.int 1)) (binM pMod (binM pDiv (pvar 2) (ret1 (.int 94))) (ret1 (.int 93)))))) (ret1 (.int 94)))))) nilM) (pJoin x))))
  (ret1 .next)))))
noncomputable def F__law_piece : List D → Mn D := mkFn [0] d__law_piece
def tbl__law_piece : List Str := [Str.ofString "_law_number", Str.ofString "_law_some", Str.ofString "_law_start", Str.ofString "_law_k"]
theorem ss__law_piece {G : Gd} {P : Params} (L : Lay G (Mine.hd02.heap_39 P)) : SSs G ⟨namesAt pw 6, tbl__law_piece, 0⟩ (bodyAt pw 6) d__law_piece :=
  (ss_cons (ss_assignC rfl (by kernel_rfl) se_str (fun _ _ => rfl))
  (ss_cons (ss_assignC rfl (by kernel_rfl) (se_bin bin_add (se_cell rfl (.inl (by kernel_rfl)) (by kernel_rfl) (by kernel_rfl)) se_str) (fun _ _ => rfl))
  (ss_cons (ss_assignC rfl (by kernel_rfl) (se_bin bin_div (se_local rfl (by kernel_rfl) (by kernel_rfl)) se_int) (fun _ _ => rfl))
  (ss_cons (ss_return (se_smeth sm_join se_str (sa_cons (se_comp (compSt_of (by kernel_rfl)) (si_tcall (L.bui (by kernel_rfl) (by boot_by_name) (by kernel_rfl)) (by kernel_rfl) (by kernel_rfl) ts_range (sa_cons (se_bin bin_mod (se_local rfl (by kernel_rfl) (by kernel_rfl)) se_int) sa_nil (fun _ => rfl)) (fun _ => rfl) (fun _ => rfl)) trivial (st_name rfl (by kernel_rfl)) tst_nil (se_sub (se_cell rfl (.inr (by kernel_rfl)) (by kernel_rfl) (by kernel_rfl)) (se_bin bin_mod (se_bin bin_add (se_cell rfl (.inr (by kernel_rfl)) (by kernel_rfl) (by kernel_rfl)) (se_bin bin_mul (se_local rfl (by kernel_rfl) (by kernel_rfl)) (se_bin bin_add se_int (se_bin bin_mod (se_bin bin_div (se_cell rfl (.inr (by kernel_rfl)) (by kernel_rfl) (by kernel_rfl)) se_int) se_int)))) se_int) (fun _ _ => rfl)) (fun _ _ => rfl)) sa_nil (fun _ => rfl)) base_const (fun _ => rfl) (fun _ => rfl) (fun _ => rfl) rfl))
  ss_nil))))
theorem sf__law_piece {G : Gd} {P : Params} (L : Lay G (Mine.hd02.heap_39 P)) : SF G 1 40 F__law_piece :=
  sf_of (xs := [Str.ofString "_law_number"]) (fnIs_of L (by kernel_rfl) (by kernel_rfl) (bind1 (by intros; kernel_rfl))) (by kernel_rfl) (by decide +kernel) rfl (ss__law_piece L)
-- lines_of: 0 text
noncomputable def d_lines_of : Mn Fl := (seqM (retM (bnd (pvar 0) (strM fun x => bnd (consM (ret1 (.str (Str.ofString "\n"))) nilM) (pSplit x))))
  (ret1 .next))
noncomputable def F_lines_of : List D → Mn D := mkFn [0] d_lines_of
def tbl_lines_of : List Str := [Str.ofString "text"]
theorem ss_lines_of {G : Gd} {P : Params} (L : Lay G (Mine.hd02.heap_39 P)) : SSs G ⟨namesAt pw 2, tbl_lines_of, 0⟩ (bodyAt pw 2) d_lines_of :=
  (ss_cons (ss_return (se_smeth sm_split (se_local rfl (by kernel_rfl) (by kernel_rfl)) (sa_cons se_str sa_nil (fun _ => rfl)) base_name (fun _ => rfl) (fun _ => rfl) (fun _ => rfl) rfl))
  ss_nil)
theorem sf_lines_of {G : Gd} {P : Params} (L : Lay G (Mine.hd02.heap_39 P)) : SF G 1 21 F_lines_of :=
  sf_of (xs := [Str.ofString "text"]) (fnIs_of L (by kernel_rfl) (by kernel_rfl) (bind1 (by intros; kernel_rfl))) (by kernel_rfl) (by decide +kernel) rfl (ss_lines_of L)
-- is_good: 0 text, 1 line, 2 sign
noncomputable def d_is_good : Mn Fl := (seqM (ifM (orM (notM (bnd (bnd (pvar 0) (pIsi "str")) truthyD)) (orM (cmpM pGt (bnd (consM (pvar 0) nilM) pLen) (ret1 (.int 200))) (bnd (bnd (pvar 0) (strM fun x => bnd (consM (ret1 (.str (Str.ofString "\n"))) nilM) (pEndswith x))) truthyD))) (seqM (retM (ret1 (.bool false)))
  (ret1 .next)) (ret1 .next))
  (seqM (bnd (bnd (bnd (consM (pvar 0) nilM) F_lines_of) srcOf) fun src => forM (nameT 1) src.g (seqM (ifM (bnd (bnd (pvar 1) (strM fun x => bnd (consM (ret1 (.str (Str.ofString " "))) nilM) (pEndswith x))) truthyD) (seqM (retM (ret1 (.bool false)))
  (ret1 .next)) (ret1 .next))
  (seqM (bnd (bnd (pvar 1) srcOf) fun src => forM (nameT 2) src.g (seqM (ifM (orM (cmpM pLt (pvar 2) (ret1 (.str (Str.ofString " ")))) (cmpM pGt (pvar 2) (ret1 (.str (Str.ofString "~"))))) (seqM (retM (ret1 (.bool false)))
  (ret1 .next)) (ret1 .next))
  (ret1 .next)) src.ds)
  (ret1 .next))) src.ds)
  (seqM (retM (ret1 (.bool true)))
  (ret1 .next))))
noncomputable def F_is_good : List D → Mn D := mkFn [0] d_is_good
def tbl_is_good : List Str := [Str.ofString "text", Str.ofString "line", Str.ofString "sign"]
theorem ss_is_good {G : Gd} {P : Params} (L : Lay G (Mine.hd02.heap_39 P)) : SSs G ⟨namesAt pw 3, tbl_is_good, 1⟩ (bodyAt pw 3) d_is_good :=
  (ss_cons (ss_if (sb_bool (sbs_or (sb_not (sb_val (se_isi tyF_str (L.bui (by kernel_rfl) (by boot_by_name) (by kernel_rfl)) (by kernel_rfl) (L.bui (by kernel_rfl) (by boot_by_name) (by kernel_rfl)) (by kernel_rfl) (by kernel_rfl) (se_local rfl (by kernel_rfl) (by kernel_rfl)) (fun _ => rfl)) (fun _ _ => rfl))) (sbs_or (sb_cmp cmp_gt (se_bcall (L.bui (by kernel_rfl) (by boot_by_name) (by kernel_rfl)) (by kernel_rfl) (by kernel_rfl) bf_len (sa_cons (se_local rfl (by kernel_rfl) (by kernel_rfl)) sa_nil (fun _ => rfl)) (fun _ => rfl) (fun _ => rfl)) (se_globI (L.globInt (by kernel_rfl)) (by kernel_rfl) (by kernel_rfl)) rfl) (sbs_or1 (sb_val (se_smeth sm_endswith (se_local rfl (by kernel_rfl) (by kernel_rfl)) (sa_cons se_str sa_nil (fun _ => rfl)) base_name (fun _ => rfl) (fun _ => rfl) (fun _ => rfl) rfl) (fun _ _ => rfl)))))) (ss_cons (ss_return se_bool)
  ss_nil) ss_nil)
  (ss_cons (ss_for (si_val (se_call (L.glob (by kernel_rfl)) (by kernel_rfl) (by kernel_rfl) (L.fd (by kernel_rfl)) (sf_lines_of L) (by decide) (sa_cons (se_local rfl (by kernel_rfl) (by kernel_rfl)) sa_nil (fun _ => rfl)) (fun _ => rfl))) trivial (st_name rfl (by kernel_rfl)) (ss_cons (ss_if (sb_val (se_smeth sm_endswith (se_local rfl (by kernel_rfl) (by kernel_rfl)) (sa_cons se_str sa_nil (fun _ => rfl)) base_name (fun _ => rfl) (fun _ => rfl) (fun _ => rfl) rfl) (fun _ _ => rfl)) (ss_cons (ss_return se_bool)
  ss_nil) ss_nil)
  (ss_cons (ss_for (si_val (se_local rfl (by kernel_rfl) (by kernel_rfl))) trivial (st_name rfl (by kernel_rfl)) (ss_cons (ss_if (sb_bool (sbs_or (sb_cmp cmp_lt (se_local rfl (by kernel_rfl) (by kernel_rfl)) se_str rfl) (sbs_or1 (sb_cmp cmp_gt (se_local rfl (by kernel_rfl) (by kernel_rfl)) se_str rfl)))) (ss_cons (ss_return se_bool)
  ss_nil) ss_nil)
  ss_nil) (fun _ _ => rfl))
  ss_nil)) (fun _ _ => rfl))
  (ss_cons (ss_return se_bool)
  ss_nil)))
theorem sf_is_good {G : Gd} {P : Params} (L : Lay G (Mine.hd02.heap_39 P)) : SF G 2 28 F_is_good :=
  sf_of (xs := [Str.ofString "text"]) (fnIs_of L (by kernel_rfl) (by kernel_rfl) (bind1 (by intros; kernel_rfl))) (by kernel_rfl) (by decide +kernel) rfl (ss_is_good L)
-- law: 0 _law_script, 1 _law_found, 2 _law_pieces, 3 _law_number, 4 _law_at_here, 5 _law_text, 6 _law_k
noncomputable def d_law : Mn Fl := (seqM (ifM (cmpM pEq1 (binM pMod (bnd (consM (pvar 0) (consM (ret1 (.int 0)) nilM)) F__law_at) (ret1 (.int 9))) (ret1 (.int 8))) (seqM (bnd (bnd (consM (binM pIdx (listM (consM (ret1 (.int 7)) (consM (ret1 .none) (consM (ret1 (.bool true)) (consM (listM (consM (ret1 (.str (Str.ofString "a"))) nilM)) (consM (tupM (consM (ret1 (.str (Str.ofString "a"))) (consM (ret1 (.str (Str.ofString "b"))) nilM))) (consM (ret1 (.int 0)) nilM))))))) (binM pMod (bnd (consM (pvar 0) (consM (ret1 (.int 1)) nilM)) F__law_at) (ret1 (.int 6)))) nilM) F_is_good) (setvar 1))
  (seqM (retM (binM pIs (pvar 1) (ret1 (.bool false))))
  (ret1 .next))) (ret1 .next))
  (seqM (bnd (bnd (bnd (consM (binM pAdd (ret1 (.int 1)) (binM pMod (binM pDiv (bnd (consM (pvar 0) (consM (ret1 (.int 0)) nilM)) F__law_at) (ret1 (.int 9))) (ret1 (.int 5)))) nilM) pRange) (compD [6] (nameT 6) (ret1 true) (bnd (consM (bnd (consM (pvar 0) (consM (binM pAdd (ret1 (.int 3)) (pvar 6)) nilM)) F__law_at) nilM) F__law_piece))) (setvar 2))
  (seqM (bnd (bnd (consM (pvar 0) (consM (ret1 (.int 2)) nilM)) F__law_at) (setvar 3))
  (seqM (ifM (cmpM pEq1 (binM pMod (binM pDiv (bnd (consM (pvar 0) (consM (ret1 (.int 1)) nilM)) F__law_at) (ret1 (.int 4))) (ret1 (.int 3))) (ret1 (.int 1))) (seqM (bnd (binM pMod (pvar 3) (bnd (consM (pvar 2) nilM) pLen)) (setvar 4))
  (seqM (bnd (binM pAdd (binM pAdd (sliceM (pvar 2) none (some (pvar 4))) (listM (consM (binM pAdd (binM pIdx (pvar 2) (pvar 4)) (ret1 (.str (Str.ofString " ")))) nilM))) (sliceM (pvar 2) (some (binM pAdd (pvar 4) (ret1 (.int 1)))) none)) (setvar 2))
  (ret1 .next))) (ret1 .next))
  (seqM (bnd (bnd (consM (bnd (ret1 (.str (Str.ofString "\n"))) (strM fun x => bnd (consM (pvar 2) nilM) (pJoin x))) (consM (binM pMod (bnd (consM (pvar 0) (consM (ret1 (.int 1)) nilM)) F__law_at) (ret1 (.int 4))) (consM (pvar 3) nilM))) F__law_changed) (setvar 5))
  (seqM (bnd (bnd (consM (pvar 5) nilM) F_is_good) (setvar 1))
  (seqM (retM (andV (bnd (pvar 1) (pIsi "bool")) (binM pEq1 (pvar 1) (bnd (consM (pvar 5) nilM) F__law_good))))
  (ret1 .next))))))))
noncomputable def F_law : List D → Mn D := mkFn [0] d_law
def tbl_law : List Str := [Str.ofString "_law_script", Str.ofString "_law_found", Str.ofString "_law_pieces", Str.ofString "_law_number", Str.ofString "_law_at_here", Str.ofString "_law_text", Str.ofString "_law_k"]
theorem ss_law {G : Gd} {P : Params} (L : Lay G (Mine.hd02.heap_39 P)) : SSs G ⟨namesAt pw 9, tbl_law, 2⟩ (bodyAt pw 9) d_law :=
  (ss_cons (ss_if (sb_cmp cmp_eq1 (se_bin bin_mod (se_call (L.glob (by kernel_rfl)) (by kernel_rfl) (by kernel_rfl) (L.fd (by kernel_rfl)) (sf__law_at L) (by decide) (sa_cons (se_cell rfl (.inl (by kernel_rfl)) (by kernel_rfl) (by kernel_rfl)) (sa_cons se_int sa_nil (fun _ => rfl)) (fun _ => rfl)) (fun _ => rfl)) se_int) se_int rfl) (ss_cons (ss_assign rfl (by kernel_rfl) (se_call (L.glob (by kernel_rfl)) (by kernel_rfl) (by kernel_rfl) (L.fd (by kernel_rfl)) (sf_is_good L) (by decide) (sa_cons (se_sub (se_list (sa_cons se_int (sa_cons se_none (sa_cons se_bool (sa_cons (se_list (sa_cons se_str sa_nil (fun _ => rfl))) (sa_cons (se_tuple (sa_cons se_str (sa_cons se_str sa_nil (fun _ => rfl)) (fun _ => rfl))) (sa_cons se_int sa_nil (fun _ => rfl)) (fun _ => rfl)) (fun _ => rfl)) (fun _ => rfl)) (fun _ => rfl)) (fun _ => rfl))) (se_bin bin_mod (se_call (L.glob (by kernel_rfl)) (by kernel_rfl) (by kernel_rfl) (L.fd (by kernel_rfl)) (sf__law_at L) (by decide) (sa_cons (se_cell rfl (.inl (by kernel_rfl)) (by kernel_rfl) (by kernel_rfl)) (sa_cons se_int sa_nil (fun _ => rfl)) (fun _ => rfl)) (fun _ => rfl)) se_int) (fun _ _ => rfl)) sa_nil (fun _ => rfl)) (fun _ => rfl)) (fun _ => rfl))
  (ss_cons (ss_return (se_cmp cmp_is (se_local rfl (by kernel_rfl) (by kernel_rfl)) se_bool rfl))
  ss_nil)) ss_nil)
  (ss_cons (ss_assign_comp rfl (by kernel_rfl) (compSt_of (by kernel_rfl)) (si_tcall (L.bui (by kernel_rfl) (by boot_by_name) (by kernel_rfl)) (by kernel_rfl) (by kernel_rfl) ts_range (sa_cons (se_bin bin_add se_int (se_bin bin_mod (se_bin bin_div (se_call (L.glob (by kernel_rfl)) (by kernel_rfl) (by kernel_rfl) (L.fd (by kernel_rfl)) (sf__law_at L) (by decide) (sa_cons (se_cell rfl (.inl (by kernel_rfl)) (by kernel_rfl) (by kernel_rfl)) (sa_cons se_int sa_nil (fun _ => rfl)) (fun _ => rfl)) (fun _ => rfl)) se_int) se_int)) sa_nil (fun _ => rfl)) (fun _ => rfl) (fun _ => rfl)) trivial (st_name rfl (by kernel_rfl)) tst_nil (se_call (L.glob (by kernel_rfl)) (by kernel_rfl) (by kernel_rfl) (L.fd (by kernel_rfl)) (sf__law_piece L) (by decide) (sa_cons (se_call (L.glob (by kernel_rfl)) (by kernel_rfl) (by kernel_rfl) (L.fd (by kernel_rfl)) (sf__law_at L) (by decide) (sa_cons (se_cell rfl (.inr (by kernel_rfl)) (by kernel_rfl) (by kernel_rfl)) (sa_cons (se_bin bin_add se_int (se_local rfl (by kernel_rfl) (by kernel_rfl))) sa_nil (fun _ => rfl)) (fun _ => rfl)) (fun _ => rfl)) sa_nil (fun _ => rfl)) (fun _ => rfl)) (fun _ _ => rfl) (swaps_yes rfl (by kernel_rfl)))
  (ss_cons (ss_assign rfl (by kernel_rfl) (se_call (L.glob (by kernel_rfl)) (by kernel_rfl) (by kernel_rfl) (L.fd (by kernel_rfl)) (sf__law_at L) (by decide) (sa_cons (se_cell rfl (.inl (by kernel_rfl)) (by kernel_rfl) (by kernel_rfl)) (sa_cons se_int sa_nil (fun _ => rfl)) (fun _ => rfl)) (fun _ => rfl)) (fun _ => rfl))
  (ss_cons (ss_if (sb_cmp cmp_eq1 (se_bin bin_mod (se_bin bin_div (se_call (L.glob (by kernel_rfl)) (by kernel_rfl) (by kernel_rfl) (L.fd (by kernel_rfl)) (sf__law_at L) (by decide) (sa_cons (se_cell rfl (.inl (by kernel_rfl)) (by kernel_rfl) (by kernel_rfl)) (sa_cons se_int sa_nil (fun _ => rfl)) (fun _ => rfl)) (fun _ => rfl)) se_int) se_int) se_int rfl) (ss_cons (ss_assign rfl (by kernel_rfl) (se_bin bin_mod (se_local rfl (by kernel_rfl) (by kernel_rfl)) (se_bcall (L.bui (by kernel_rfl) (by boot_by_name) (by kernel_rfl)) (by kernel_rfl) (by kernel_rfl) bf_len (sa_cons (se_local rfl (by kernel_rfl) (by kernel_rfl)) sa_nil (fun _ => rfl)) (fun _ => rfl) (fun _ => rfl))) (fun _ => rfl))
  (ss_cons (ss_assign rfl (by kernel_rfl) (se_bin bin_add (se_bin bin_add (se_slice (se_local rfl (by kernel_rfl) (by kernel_rfl)) so_none (so_some (se_local rfl (by kernel_rfl) (by kernel_rfl)))) (se_list (sa_cons (se_bin bin_add (se_sub (se_local rfl (by kernel_rfl) (by kernel_rfl)) (se_local rfl (by kernel_rfl) (by kernel_rfl)) (fun _ _ => rfl)) se_str) sa_nil (fun _ => rfl)))) (se_slice (se_local rfl (by kernel_rfl) (by kernel_rfl)) (so_some (se_bin bin_add (se_local rfl (by kernel_rfl) (by kernel_rfl)) se_int)) so_none)) (fun _ => rfl))
  ss_nil)) ss_nil)
  (ss_cons (ss_assign rfl (by kernel_rfl) (se_call (L.glob (by kernel_rfl)) (by kernel_rfl) (by kernel_rfl) (L.fd (by kernel_rfl)) (sf__law_changed L) (by decide) (sa_cons (se_smeth sm_join se_str (sa_cons (se_local rfl (by kernel_rfl) (by kernel_rfl)) sa_nil (fun _ => rfl)) base_const (fun _ => rfl) (fun _ => rfl) (fun _ => rfl) rfl) (sa_cons (se_bin bin_mod (se_call (L.glob (by kernel_rfl)) (by kernel_rfl) (by kernel_rfl) (L.fd (by kernel_rfl)) (sf__law_at L) (by decide) (sa_cons (se_cell rfl (.inl (by kernel_rfl)) (by kernel_rfl) (by kernel_rfl)) (sa_cons se_int sa_nil (fun _ => rfl)) (fun _ => rfl)) (fun _ => rfl)) se_int) (sa_cons (se_local rfl (by kernel_rfl) (by kernel_rfl)) sa_nil (fun _ => rfl)) (fun _ => rfl)) (fun _ => rfl)) (fun _ => rfl)) (fun _ => rfl))
  (ss_cons (ss_assign rfl (by kernel_rfl) (se_call (L.glob (by kernel_rfl)) (by kernel_rfl) (by kernel_rfl) (L.fd (by kernel_rfl)) (sf_is_good L) (by decide) (sa_cons (se_local rfl (by kernel_rfl) (by kernel_rfl)) sa_nil (fun _ => rfl)) (fun _ => rfl)) (fun _ => rfl))
  (ss_cons (ss_return (se_boolop (svs_and (se_isi tyF_bool (L.bui (by kernel_rfl) (by boot_by_name) (by kernel_rfl)) (by kernel_rfl) (L.bui (by kernel_rfl) (by boot_by_name) (by kernel_rfl)) (by kernel_rfl) (by kernel_rfl) (se_local rfl (by kernel_rfl) (by kernel_rfl)) (fun _ => rfl)) (svs_one (se_cmp cmp_eq1 (se_local rfl (by kernel_rfl) (by kernel_rfl)) (se_call (L.glob (by kernel_rfl)) (by kernel_rfl) (by kernel_rfl) (L.fd (by kernel_rfl)) (sf__law_good L) (by decide) (sa_cons (se_local rfl (by kernel_rfl) (by kernel_rfl)) sa_nil (fun _ => rfl)) (fun _ => rfl)) rfl)))))
  ss_nil)))))))
theorem sf_law {G : Gd} {P : Params} (L : Lay G (Mine.hd02.heap_39 P)) : SF G 3 59 F_law :=
  sf_of (xs := [Str.ofString "_law_script"]) (fnIs_of L (by kernel_rfl) (by kernel_rfl) (bind1 (by intros; kernel_rfl))) (by kernel_rfl) (by decide +kernel) rfl (ss_law L)
end Mine

/- part P02 -/
set_option Elab.async false
set_option linter.unusedVariables false
set_option linter.unusedSimpArgs false
set_option maxRecDepth 10000
namespace Mine
open PySem PyProof.Rows PySem.Builtin.Str

theorem W_at {ns : List Int} {k : Int} {st : St} {Q : D → St → Prop} (h0 : 0 ≤ k) (hk : k < 2 ^ 63) (hl : ns.length < 2 ^ 62) (hQ : Q (.int (ns.getD k.toNat 0)) st) : W (F__law_at [.scr ns, .int k]) st Q := by
  refine W_mkFn rfl ?_
  simp only [d__law_at, W_seqM, W_ifM, W_bnd, W_pvar, bindP, upd_at, Nat.reduceBEq, BEq.rfl, cond_true, cond_false, W_ret1, W_lenN, W_ltI, W_truthy_bool, thn_ret, thn_next, W_idxN, decide_eq_true_eq, Option.some.injEq, exists_eq_left']
  refine ⟨hl, ?_⟩
  by_cases h : k < ns.length
  · rw [if_pos h]
    have hlt : k.toNat < ns.length := by omega
    refine ⟨⟨h0, hk⟩, _, List.getElem?_eq_getElem hlt, ?_⟩
    rw [List.getD_eq_getElem?_getD, List.getElem?_eq_getElem hlt] at hQ
    exact hQ
  · rw [if_neg h]
    rw [List.getD_eq_getElem?_getD, List.getElem?_eq_none (by omega)] at hQ
    exact hQ

def some94 : Str := Str.ofString " !\"#$&'()*+,-./0123456789:;<=>?@ABCDEFGHIJKLMNOPQRSTUVWXYZ[\\]^_`" ++ Str.ofString "abcdefghijklmnopqrstuvwxyz{|}~"
theorem some94_len : some94.length = 94 := by decide +kernel
def plain (c : Nat) : Bool := decide (32 ≤ c) && decide (c ≤ 126)
theorem some94_ok : (cl some94).all plain = true := by decide +kernel
theorem len_a : (Str.ofString " !\"#$&'()*+,-./0123456789:;<=>?@ABCDEFGHIJKLMNOPQRSTUVWXYZ[\\]^_`").length = 64 := by decide +kernel
theorem len_b : (Str.ofString "abcdefghijklmnopqrstuvwxyz{|}~").length = 30 := by decide +kernel
theorem fmod_range {a b : Int} (h : 0 < b) : 0 ≤ a.fmod b ∧ a.fmod b < b := ⟨Int.fmod_nonneg_of_pos a h, Int.fmod_lt_of_pos a h⟩
theorem small64_of {a : Int} (h : -1000000 < a) (h2 : a < 1000000) : small64 a = true := by simp only [small64, Bool.and_eq_true, decide_eq_true_eq]; omega

theorem W_piece {n : Int} {st : St} {Q : D → St → Prop} (hQ : ∀ x j, (cl x).all plain = true → x.length ≤ 9 → Q (.str x) ⟨st.loc, st.sto ++ j⟩) : W (F__law_piece [.int n]) st Q := by
  refine W_mkFn rfl ?_
  have hm := fmod_range (a := n) (b := 10) (by decide)
  simp only [d__law_piece, W_seqM, W_ifM, W_bnd, W_pvar, bindP, W_setvar, upd_at, Nat.reduceBEq, BEq.rfl, cond_true, cond_false, W_ret1, W_add_str, W_mod, W_div, W_truthy_bool, thn_ret, thn_next, Option.some.injEq, exists_eq_left', len_a, len_b, W_strM, W_range1]
  refine ⟨by decide, ⟨by decide, by decide⟩, by decide, okR_iff.mpr ⟨by omega, by omega⟩, ?_⟩
  generalize n.fdiv 10 = start
  generalize hsize : n.fmod 10 = size at hm
  refine W_compD (fun _ => true) (fun _ x _ => ∃ c, x = .str ⟨#[c]⟩ ∧ plain c = true) (fun l => l 1 = some (.str some94) ∧ l 2 = some (.int start)) ?_ (fun _ _ _ _ _ h => h) (fun _ _ => trivial) ?_ ?_ ?_
  · show (rngL _ _ _).length ≤ sizeLine
    rw [rngL_len]
    have : (200 : Nat) ≤ sizeLine := by decide
    omega
  · exact ⟨rfl, rfl⟩
  · intro d hd l σ' hA hx
    obtain ⟨j, hj, rfl⟩ := rngL_mem hd
    refine ⟨_, rfl, ⟨by simp only [upd_at, Nat.reduceBEq, cond_false]; exact hA.1, by simp only [upd_at, Nat.reduceBEq, cond_false]; exact hA.2⟩, ?_⟩
    simp only [W_bnd, W_pvar, W_ret1, upd_at, Nat.reduceBEq, BEq.rfl, cond_true, cond_false, hA.1, hA.2, Option.some.injEq, exists_eq_left', W_add_int, W_mod, W_div, W_mul_int, true_and]
    refine ⟨.refl _, fun _ => ⟨⟨by decide, by decide⟩, by decide, ?_, by decide, ?_⟩⟩
    · rw [Bool.or_eq_true]; left
      exact small64_of (by omega) (by omega)
    · have hr := fmod_range (a := start + (0 + ↑j * 1) * (1 + (start.fdiv 94).fmod 93)) (b := 94) (by decide)
      refine (W_idxS hr.1 (by rw [some94_len]; exact hr.2) (by rw [some94_len]; decide)).mpr ?_
      refine ⟨rfl, .refl _, _, rfl, ?_⟩
      exact List.all_eq_true.mp some94_ok _ (Array.getElem_mem_toList (xs := some94.cps) (i := (start + (0 + ↑j * 1) * (1 + (start.fdiv 94).fmod 93)).fmod 94 |>.toNat) (by show _ < some94.length; rw [some94_len]; omega))
  · intro xs σ' hx r
    obtain ⟨ys, e1, e2⟩ := strsOf_all (ds := xs) (fun d m => by
      obtain ⟨i, hi, e⟩ := List.getElem_of_mem m
      obtain ⟨b, _, c, hc, _⟩ := r.get' i d (by rw [List.getElem?_eq_getElem hi, e])
      exact ⟨_, hc⟩)
    have hys : ∀ y, y ∈ ys → ∃ c, y = ⟨#[c]⟩ ∧ plain c = true := fun y m => by
      have m' : D.str y ∈ xs := by rw [e1]; exact List.mem_map.mpr ⟨y, m, rfl⟩
      obtain ⟨i, hi, e⟩ := List.getElem_of_mem m'
      obtain ⟨b, _, c, hc, hn⟩ := r.get' i _ (by rw [List.getElem?_eq_getElem hi, e])
      cases hc
      exact ⟨c, rfl, hn⟩
    have hlen : ys.length ≤ 9 := by
      have := r.length
      rw [e1, filter_all, rngL_len] at this
      simp at this
      omega
    obtain ⟨j, rfl⟩ := hx
    rw [W_join]
    refine ⟨xs, ys, by simp, e2, ?_, ?_⟩
    · refine joinOk_of (B := 1) (fun y m => ?_) ?_
      · obtain ⟨c, rfl, _⟩ := hys y m
        exact Nat.le_refl 1
      · show ys.length * 1 + ys.length * 0 ≤ _
        omega
    · have hf : cl (Str.join (Str.ofString "") ys) = (ys.map cl).flatten := by rw [empty_eq]; exact cl_join0 ys
      have hone : ∀ (zs : List Str), (∀ y, y ∈ zs → ∃ c, y = ⟨#[c]⟩ ∧ plain c = true) → (zs.map cl).flatten.all plain = true ∧ (zs.map cl).flatten.length = zs.length := by
        intro zs
        induction zs with
        | nil => intro _; simp
        | cons z r ih =>
          intro h
          obtain ⟨c, rfl, hc⟩ := h z List.mem_cons_self
          obtain ⟨i1, i2⟩ := ih (fun y m => h y (List.mem_cons_of_mem _ m))
          simp only [List.map_cons, List.flatten_cons, cl]
          refine ⟨?_, ?_⟩
          · rw [List.all_append, Bool.and_eq_true]
            exact ⟨by simp [hc], i1⟩
          · simp only [List.length_append, i2, List.length_cons]; simp; omega
      obtain ⟨i1, i2⟩ := hone ys hys
      have := hQ (Str.join (Str.ofString "") ys) (j ++ [.list xs]) (by rw [hf]; exact i1) (by rw [← cl_length, hf, i2]; exact hlen)
      simpa using this

theorem W_lines {x : Str} {st : St} {Q : D → St → Prop} (hx : x.length + 2 ≤ sizeLine) (h : Q (.ref st.sto.length) ⟨st.loc, st.sto ++ [.list ((Txt.split x ⟨#[10]⟩).map D.str)]⟩) : W (F_lines_of [.str x]) st Q := by
  refine W_mkFn rfl ?_
  simp only [d_lines_of, W_seqM, W_bnd, W_pvar, bindP, upd_at, Nat.reduceBEq, BEq.rfl, cond_true, cond_false, W_ret1, thn_ret, thn_next, Option.some.injEq, exists_eq_left', W_strM, nl_eq]
  exact W_split1 hx h

theorem ends_last (x : Str) (c : Nat) : Txt.endswith x ⟨#[c]⟩ = ((cl x).getLast? == some c) := by
  unfold Txt.endswith
  rw [StrLaws.subAt_eq]
  have hl : (⟨#[c]⟩ : Str).length = 1 := rfl
  have hx : x.length = (cl x).length := (cl_length x).symm
  rw [hl, hx]
  show (decide (0 + 1 ≤ (cl x).length) && List.take 1 (List.drop ((cl x).length - 1) (cl x)) == [c]) = _
  generalize cl x = l
  rcases List.eq_nil_or_concat l with rfl | ⟨r, y, rfl⟩
  · rfl
  · simp

theorem W_lt1 {a b : Nat} {st : St} {Q : D → St → Prop} : W (pLt (.str ⟨#[a]⟩) (.str ⟨#[b]⟩)) st Q ↔ Q (.bool (decide (a < b))) st := by
  rw [W_ltS]
  rw [show decide (cl (⟨#[a]⟩ : Str) < cl ⟨#[b]⟩) = decide (a < b) from decide_eq_decide.mpr (by simp [cl, List.cons_lt_cons_iff])]
theorem W_gt1 {a b : Nat} {st : St} {Q : D → St → Prop} : W (pGt (.str ⟨#[a]⟩) (.str ⟨#[b]⟩)) st Q ↔ Q (.bool (decide (b < a))) st := by
  rw [W_gtS]
  rw [show decide (cl (⟨#[b]⟩ : Str) < cl ⟨#[a]⟩) = decide (b < a) from decide_eq_decide.mpr (by simp [cl, List.cons_lt_cons_iff])]

def okSign (d : D) : Bool := match d with
  | .str y => (cl y).all plain
  | _ => true
def okLine (d : D) : Bool := match d with
  | .str y => (cl y).getLast? != some 32 && (cl y).all plain
  | _ => true
theorem okSign_one (c : Nat) : okSign (.str ⟨#[c]⟩) = plain c := by simp [okSign, cl]
theorem W_is_good {x : Str} {st : St} {Q : D → St → Prop} (hx : x.length ≤ 1000) (h : ∀ j, Q (.bool (goodP (cl x))) ⟨st.loc, st.sto ++ j⟩) : W (F_is_good [.str x]) st Q := by
  refine W_mkFn rfl ?_
  simp only [d_is_good, W_seqM, W_ifM, W_orM, W_notM, W_bnd, W_pvar, bindP, upd_at, Nat.reduceBEq, BEq.rfl, cond_true, cond_false, W_ret1, W_isi, tyD, subB, W_truthy_bool, W_lenS, W_gtI, W_strM, W_ends, thn_ret, thn_next, Option.some.injEq, exists_eq_left', nl_eq, ends_last]
  simp only [show ("str" == "str") = true from rfl, Bool.true_or, Bool.not_true, Bool.false_eq_true, if_false]
  refine ⟨by omega, ?_⟩
  have hgp : goodP (cl x) = if decide ((x.length : Int) > 200) || (cl x).getLast? == some 10 then false else (splitL 10 (cl x)).all (fun p => p.getLast? != some 32 && p.all plain) := by unfold goodP; rw [cl_length]; rfl
  cases h1 : decide ((x.length : Int) > 200) with
  | true =>
    rw [h1] at hgp
    simp only [if_true, Bool.true_or] at hgp ⊢
    rw [hgp] at h
    simpa using h []
  | false =>
    cases h2 : ((cl x).getLast? == some 10) with
    | true =>
      rw [h1, h2] at hgp
      simp only [if_true, Bool.false_or, Bool.false_eq_true, if_false] at hgp ⊢
      rw [hgp] at h
      simpa using h []
    | false =>
      rw [h1, h2] at hgp
      simp only [Bool.false_or, Bool.false_eq_true, if_false] at hgp ⊢
      refine W_lines (by have : (1002 : Nat) ≤ sizeLine := (by decide); omega) ?_
      rw [W_srcR]
      refine ⟨(Txt.split x ⟨#[10]⟩).map D.str, by simp, ?_⟩
      refine W_forM_search (fun _ => True) okLine (.bool false) (fun σ hxx => hxx.get (by simp)) _ _ _ ?_ trivial (.refl _) ?_
      · intro d hd l σ _ hxx
        obtain ⟨y, hy, rfl⟩ := List.mem_map.mp hd
        refine ⟨_, rfl, ?_⟩
        simp only [W_seqM, W_ifM, W_bnd, W_pvar, upd_at, Nat.reduceBEq, BEq.rfl, cond_true, cond_false, W_ret1, W_truthy_bool, W_strM, W_ends, thn_ret, thn_next, Option.some.injEq, exists_eq_left', show Str.ofString " " = ⟨#[32]⟩ from rfl, ends_last]
        cases h3 : ((cl y).getLast? == some 32) with
        | true =>
          have h5 : okLine (.str y) = false := by simp [okLine, bne, h3]
          simp only [if_true]
          exact ⟨trivial, .refl _, by rw [h5]; rfl⟩
        | false =>
          have h5 : okLine (.str y) = (cl y).all plain := by simp [okLine, bne, h3]
          rw [h5]
          simp only [Bool.false_eq_true, if_false]
          rw [W_srcS]
          refine W_forM_search (fun l => True) okSign (.bool false) (fun _ _ => trivial) _ _ _ ?_ trivial (.refl _) ?_
          · intro d hd l σ _ hxx
            obtain ⟨c, hc, rfl⟩ := List.mem_map.mp hd
            refine ⟨_, rfl, ?_⟩
            rw [okSign_one]
            simp only [W_seqM, W_ifM, W_orM, W_bnd, W_pvar, upd_at, Nat.reduceBEq, BEq.rfl, cond_true, cond_false, W_ret1, W_truthy_bool, W_lt1, W_gt1, thn_ret, thn_next, Option.some.injEq, exists_eq_left', show Str.ofString " " = ⟨#[32]⟩ from rfl, show Str.ofString "~" = ⟨#[126]⟩ from rfl]
            by_cases c1 : c < 32
            · rw [decide_eq_true c1]
              simp only [if_true]
              refine ⟨trivial, .refl _, ?_⟩
              rw [if_neg (by simp [plain]; omega)]
            · rw [decide_eq_false c1]
              simp only [Bool.false_eq_true, if_false]
              by_cases c2 : 126 < c
              · rw [decide_eq_true c2]
                simp only [if_true]
                refine ⟨trivial, .refl _, ?_⟩
                rw [if_neg (by simp [plain]; omega)]
              · rw [decide_eq_false c2]
                simp only [Bool.false_eq_true, if_false]
                refine ⟨trivial, .refl _, ?_⟩
                rw [if_pos (by simp [plain]; omega)]
          · intro l' σ' _ hx'
            have e : (signs y).all okSign = (cl y).all plain := by
              unfold signs
              rw [List.all_map]
              show (cl y).all (fun c => okSign (.str ⟨#[c]⟩)) = _
              congr 1
              funext c
              exact okSign_one c
            show thn _ _ (if (signs y).all okSign = true then Fl.next else Fl.ret (D.bool false)) _
            rw [e]
            by_cases h4 : (cl y).all plain = true
            · simp only [h4, if_true, thn_next, W_ret1]
              exact ⟨trivial, hx', by simp⟩
            · simp only [h4, if_false, thn_ret]
              exact ⟨trivial, hx', by simp⟩
      · intro l' σ' _ hx'
        have e : ((Txt.split x ⟨#[10]⟩).map D.str).all okLine = goodP (cl x) := by
          rw [hgp, ← cl_split, List.all_map, List.all_map]
          rfl
        show thn _ _ (if ((Txt.split x ⟨#[10]⟩).map D.str).all okLine = true then Fl.next else Fl.ret (D.bool false)) _
        rw [e]
        obtain ⟨j, rfl⟩ := hx'
        have hh := h ([.list ((Txt.split x ⟨#[10]⟩).map D.str)] ++ j)
        by_cases h4 : goodP (cl x) = true
        · rw [h4] at hh
          rw [if_pos h4]
          simp only [thn_next, W_bnd, W_ret1, W_seqM, thn_ret]
          simpa using hh
        · rw [if_neg h4]
          rw [Bool.not_eq_true] at h4
          rw [h4] at hh
          simp only [thn_ret]
          simpa using hh

theorem W_is_good_no {d : D} {T : String} {st : St} {Q : D → St → Prop} (ht : tyD d st.sto = some T) (hs : subB T "str" = false) (h : Q (.bool false) st) : W (F_is_good [d]) st Q := by
  refine W_mkFn rfl ?_
  simp only [d_is_good, W_seqM, W_ifM, W_orM, W_notM, W_bnd, W_pvar, bindP, upd_at, Nat.reduceBEq, BEq.rfl, cond_true, cond_false, W_ret1, W_isi, ht, hs, W_truthy_bool, thn_ret, thn_next, Option.some.injEq, exists_eq_left', Bool.not_false, if_true]
  exact h
def okAt (l : List Nat) (d : D) : Bool := match d with
  | .int j => !badAt l j.toNat
  | _ => true
theorem W_good {x : Str} {st : St} {Q : D → St → Prop} (hx : x.length ≤ 1000) (h : ∀ j, Q (.bool (goodQ (cl x))) ⟨st.loc, st.sto ++ j⟩) : W (F__law_good [.str x]) st Q := by
  have hsl : (1000 : Nat) ≤ sizeLine := by decide
  refine W_mkFn rfl ?_
  have hcut : ∀ c : Nat, (cl (⟨(cutL (some (-1)) none (cl x)).toArray⟩ : Str) == [c]) = ((cl x).getLast? == some c) := fun c => by rw [cl_mk]; exact cut_last
  simp only [d__law_good, W_seqM, W_ifM, W_orM, W_bnd, W_pvar, bindP, upd_at, Nat.reduceBEq, BEq.rfl, cond_true, cond_false, W_ret1, W_truthy_bool, W_lenS, W_gtI, W_sliceS, W_part_some, W_part_none, W_neg, W_asInt, W_cut_str, W_eq_str, thn_ret, thn_next, Option.some.injEq, exists_eq_left', nl_eq, show Str.ofString " " = ⟨#[32]⟩ from rfl]
  simp only [show cl (⟨#[10]⟩ : Str) = [10] from rfl, show cl (⟨#[32]⟩ : Str) = [32] from rfl, hcut]
  refine ⟨by omega, ?_⟩
  have hgq : goodQ (cl x) = if decide ((x.length : Int) > 200) || ((cl x).getLast? == some 10 || (cl x).getLast? == some 32) then false else (List.range x.length).all (fun k => !badAt (cl x) k) := by unfold goodQ; rw [cl_length]
  cases h1 : decide ((x.length : Int) > 200) with
  | true =>
    rw [h1] at hgq
    simp only [if_true, Bool.true_or] at hgq ⊢
    rw [hgq] at h
    simpa using h []
  | false =>
    simp only [Bool.false_eq_true, if_false]
    refine ⟨by omega, ?_⟩
    cases h2 : ((cl x).getLast? == some 10) with
    | true =>
      rw [h1, h2] at hgq
      simp only [if_true, Bool.false_or, Bool.true_or] at hgq ⊢
      rw [hgq] at h
      simpa using h []
    | false =>
      simp only [Bool.false_eq_true, if_false]
      refine ⟨by omega, ?_⟩
      cases h3 : ((cl x).getLast? == some 32) with
      | true =>
        rw [h1, h2, h3] at hgq
        simp only [if_true, Bool.false_or] at hgq ⊢
        rw [hgq] at h
        simpa using h []
      | false =>
        rw [h1, h2, h3] at hgq
        simp only [Bool.false_or, Bool.false_eq_true, if_false] at hgq ⊢
        refine ⟨by omega, ?_⟩
        rw [W_range1]
        refine ⟨okR_iff.mpr ⟨by omega, by omega⟩, ?_⟩
        refine W_forM_search (fun l => l 0 = some (.str x)) (okAt (cl x)) (.bool false) (fun _ _ => trivial) _ _ _ ?_ rfl (.refl _) ?_
        · intro d hd l σ hA hxx
          obtain ⟨j, hj, rfl⟩ := rngL_mem hd
          have hj' : j < x.length := by omega
          have ej : (0 : Int) + ↑j * 1 = ↑j := by omega
          rw [ej]
          have hat : ∀ i : Nat, i < x.length → ∃ c, (cl x)[i]? = some c ∧ ∀ (st : St) (Q : D → St → Prop), Q (.str ⟨#[c]⟩) st → W (pIdx (.str x) (.int i)) st Q := fun i hi => by
            have hi' : i < x.cps.size := hi
            refine ⟨x.cps[i], by simp [cl, hi'], fun st Q q => ?_⟩
            refine (W_idxS (by omega) (by omega) (by omega)).mpr ?_
            simpa using q
          obtain ⟨c, ec, hc⟩ := hat j hj'
          refine ⟨_, rfl, ?_⟩
          simp only [W_seqM, W_ifM, W_orM, W_andM, W_bnd, W_pvar, upd_at, Nat.reduceBEq, BEq.rfl, cond_true, cond_false, W_ret1, hA, Option.some.injEq, exists_eq_left']
          refine hc _ _ ?_
          simp only [W_eq_str, W_truthy_bool, W_bnd, W_pvar, W_ret1, upd_at, Nat.reduceBEq, BEq.rfl, cond_true, cond_false, hA, Option.some.injEq, exists_eq_left', show cl (Str.ofString "\t") = [9] from rfl, show cl (⟨#[c]⟩ : Str) = [c] from rfl]
          have hb : ∀ a b : Nat, (([a] : List Nat) == [b]) = (a == b) := fun a b => by simp
          rw [hb]
          have hbad : badAt (cl x) j = (c == 9 || (c == 10 && (decide (0 < j) && (cl x)[j - 1]? == some 32))) := by
            unfold badAt
            rw [ec]
            rfl
          have hok : okAt (cl x) (.int j) = !badAt (cl x) j := rfl
          rw [hok, hbad]
          by_cases c9 : c = 9
          · subst c9
            simp only [BEq.rfl, if_true, thn_ret, Bool.true_or, Bool.not_true, Bool.false_eq_true, if_false]
            exact ⟨hA, .refl _, trivial⟩
          · rw [beq_false_of_ne c9]
            simp only [Bool.false_eq_true, if_false, Bool.false_or]
            refine hc _ _ ?_
            simp only [W_eq_str, W_truthy_bool, W_bnd, W_pvar, W_ret1, upd_at, Nat.reduceBEq, BEq.rfl, cond_true, cond_false, hA, Option.some.injEq, exists_eq_left', show cl (Str.ofString "\n") = [10] from rfl, show cl (⟨#[c]⟩ : Str) = [c] from rfl, W_gtI, W_sub, nl_eq, show cl (⟨#[10]⟩ : Str) = [10] from rfl]
            rw [hb]
            by_cases c10 : c = 10
            · subst c10
              simp only [BEq.rfl, if_true, Bool.true_and]
              by_cases j0 : 0 < j
              · rw [decide_eq_true (show (j : Int) > 0 by omega), decide_eq_true j0]
                simp only [if_true, Bool.true_and]
                obtain ⟨c', ec', hc'⟩ := hat (j - 1) (by omega)
                rw [show (j : Int) - 1 = ((j - 1 : Nat) : Int) by omega]
                refine hc' _ _ ?_
                simp only [W_eq_str, W_truthy_bool, W_bnd, W_pvar, W_ret1, show cl (⟨#[c']⟩ : Str) = [c'] from rfl, show cl (⟨#[32]⟩ : Str) = [32] from rfl]
                rw [hb, ec']
                by_cases c32 : c' = 32
                · subst c32
                  simp only [BEq.rfl, if_true, thn_ret, Bool.not_true, Bool.false_eq_true, if_false]
                  exact ⟨hA, .refl _, trivial⟩
                · have e2 : (some c' == some 32) = false := by simp [c32]
                  rw [beq_false_of_ne c32, e2]
                  simp only [Bool.false_eq_true, if_false, thn_next, W_ret1, Bool.not_false, if_true]
                  exact ⟨hA, .refl _, trivial⟩
              · rw [decide_eq_false (show ¬ (j : Int) > 0 by omega), decide_eq_false j0]
                simp only [Bool.false_eq_true, if_false, Bool.false_and, thn_next, W_ret1, Bool.not_false, if_true]
                exact ⟨hA, .refl _, trivial⟩
            · rw [beq_false_of_ne c10]
              simp only [Bool.false_eq_true, if_false, Bool.false_and, thn_next, W_ret1, Bool.not_false, if_true]
              exact ⟨hA, .refl _, trivial⟩
        · intro l' σ' _ hx'
          have e : (rngL 0 1 (x.length : Int).toNat).all (okAt (cl x)) = goodQ (cl x) := by
            rw [hgq]
            unfold rngL
            rw [List.all_map, Int.toNat_natCast]
            congr 1
            funext j
            show (!badAt (cl x) ((0 : Int) + ↑j * 1).toNat) = _
            rw [show ((0 : Int) + ↑j * 1).toNat = j by omega]
          show thn _ _ (if (rngL 0 1 (x.length : Int).toNat).all (okAt (cl x)) = true then Fl.next else Fl.ret (D.bool false)) _
          rw [e]
          obtain ⟨j, rfl⟩ := hx'
          have hh := h j
          by_cases h4 : goodQ (cl x) = true
          · rw [h4] at hh
            rw [if_pos h4]
            simp only [thn_next, W_bnd, W_ret1, W_seqM, thn_ret]
            exact hh
          · rw [if_neg h4]
            rw [Bool.not_eq_true] at h4
            rw [h4] at hh
            simp only [thn_ret]
            exact hh
end Mine

/- part R02 -/
set_option Elab.async false
set_option linter.unusedVariables false
set_option linter.unusedSimpArgs false
set_option maxRecDepth 10000
namespace Mine
open PySem PyProof.Rows PySem.Builtin.Str

theorem all_cut {α : Type} {p : α → Bool} {l : List α} (lo hi : Option Int) (h : l.all p = true) : (cutL lo hi l).all p = true := by
  rw [List.all_eq_true] at h ⊢
  intro x m
  unfold cutL at m
  exact h x (List.mem_of_mem_drop (List.mem_of_mem_take m))
theorem cut_mem {α : Type} {l : List α} {lo hi : Option Int} {x : α} (m : x ∈ cutL lo hi l) : x ∈ l := by
  unfold cutL at m
  exact List.mem_of_mem_drop (List.mem_of_mem_take m)
theorem rep_all {p : Nat → Bool} {c : Nat} (n : Int) (h : p c = true) : (repL n [c]).all p = true := by
  unfold repL
  rw [List.all_eq_true]
  intro x m
  obtain ⟨l, ml, mx⟩ := List.mem_flatten.mp m
  rw [List.eq_of_mem_replicate ml] at mx
  rw [List.mem_singleton.mp mx]; exact h
theorem rep_len {c : Nat} (n : Int) : (repL n [c]).length = n.toNat := by
  unfold repL
  simp
theorem cl_app_all {p : Nat → Bool} {x y : Str} (hx : (cl x).all p = true) (hy : (cl y).all p = true) : (cl (x ++ y)).all p = true := by
  rw [cl_append, List.all_append, hx, hy]; rfl
theorem len_app (x y : Str) : (x ++ y).length = x.length + y.length := by
  rw [← cl_length, cl_append, List.length_append, cl_length, cl_length]
theorem len_mk (l : List Nat) : (⟨l.toArray⟩ : Str).length = l.length := by rw [← cl_length, cl_mk]

theorem W_changed {x : Str} {w n : Int} {st : St} {Q : D → St → Prop} (hx : (cl x).all mySign = true) (hl : x.length ≤ 150) (h : ∀ y j, (cl y).all mySign = true → y.length ≤ 400 → Q (.str y) ⟨st.loc, st.sto ++ j⟩) : W (F__law_changed [.str x, .int w, .int n]) st Q := by
  have hsl : (1000 : Nat) ≤ sizeLine := by decide
  have h0 : ∀ y, (cl y).all mySign = true → y.length ≤ 400 → Q (.str y) st := fun y a b => by simpa using h y [] a b
  refine W_mkFn rfl ?_
  simp only [d__law_changed, W_seqM, W_ifM, W_bnd, W_pvar, bindP, upd_at, Nat.reduceBEq, BEq.rfl, cond_true, cond_false, W_ret1, W_truthy_bool, W_eq_int, thn_ret, thn_next, Option.some.injEq, exists_eq_left']
  by_cases w1 : w = 1
  · subst w1
    have hm := fmod_range (a := n) (b := (x.length : Int) + 1) (by omega)
    simp only [BEq.rfl, if_true, W_lenS, W_add_int, W_mod, W_setvar, thn_next, upd_at, Nat.reduceBEq, cond_true, cond_false, W_seqM, W_bnd, W_pvar, W_ret1, W_sliceS, W_part_some, W_part_none, W_asInt, W_cut_str, W_add_str, Option.some.injEq, exists_eq_left', thn_ret]
    have l1 : (⟨(cutL none (some (n.fmod (↑x.length + 1))) (cl x)).toArray⟩ : Str).length ≤ x.length := by rw [len_mk, ← cl_length]; exact cutL_length _ _ _
    have l2 : (⟨(cutL (some (n.fmod (↑x.length + 1))) none (cl x)).toArray⟩ : Str).length ≤ x.length := by rw [len_mk, ← cl_length]; exact cutL_length _ _ _
    have l3 : (Str.ofString "\t").length = 1 := rfl
    refine ⟨by omega, by omega, by omega, by omega, by omega, by rw [len_app]; omega, ?_⟩
    refine h0 _ ?_ (by rw [len_app, len_app]; omega)
    refine cl_app_all (cl_app_all ?_ ?_) ?_
    · rw [cl_mk]; exact all_cut _ _ hx
    · rfl
    · rw [cl_mk]; exact all_cut _ _ hx
  · rw [beq_false_of_ne w1]
    simp only [Bool.false_eq_true, if_false]
    by_cases w2 : w = 2
    · subst w2
      have hm := fmod_range (a := n) (b := 3) (by decide)
      simp only [BEq.rfl, if_true, W_lenS, W_add_int, W_mod, W_sub, W_max2, W_mul_str, thn_next, upd_at, Nat.reduceBEq, cond_true, cond_false, W_bnd, W_pvar, W_ret1, W_add_str, Option.some.injEq, exists_eq_left', thn_ret]
      have l3 : (Str.ofString "x").length = 1 := rfl
      have e3 : (Str.ofString "x").cps.toList = [120] := rfl
      rw [e3]
      have l4 : (⟨(repL (max 0 (199 + n.fmod 3 - ↑x.length)) [120]).toArray⟩ : Str).length = (max 0 (199 + n.fmod 3 - ↑x.length)).toNat := (len_mk _).trans (rep_len _)
      refine ⟨by decide, by omega, ⟨inLong_iff.mpr ⟨by omega, by omega⟩, by rw [l3]; omega⟩, by omega, ?_⟩
      refine h0 _ (cl_app_all hx ?_) (by rw [len_app]; omega)
      rw [cl_mk]
      exact rep_all _ rfl
    · rw [beq_false_of_ne w2]
      simp only [Bool.false_eq_true, if_false]
      by_cases w3 : w = 3
      · subst w3
        have hm := fmod_range (a := n) (b := 3) (by decide)
        simp only [BEq.rfl, if_true, W_mod, W_listM, thn_next, upd_at, Nat.reduceBEq, cond_true, cond_false, W_bnd, W_pvar, W_ret1, Option.some.injEq, exists_eq_left', thn_ret]
        refine ⟨by decide, by decide, ?_⟩
        refine (W_idxR hm.1 (ds := [.str (Str.ofString " "), .str (Str.ofString "\n"), .str (Str.ofString "\n\n")]) (by simp) hm.2 (by decide)).mpr ?_
        have hz : n.fmod 3 = 0 ∨ n.fmod 3 = 1 ∨ n.fmod 3 = 2 := by omega
        have ha : ∀ y : Str, (cl y).all mySign = true → y.length ≤ 2 → W (pAdd (.str x) (.str y)) ⟨bindP emptyL [0, 1, 2] [.str x, .int 3, .int n], st.sto ++ [.list [.str (Str.ofString " "), .str (Str.ofString "\n"), .str (Str.ofString "\n\n")]]⟩ (fun d st' => Q d ⟨st.loc, st'.sto⟩) := fun y a b => by
          rw [W_add_str]
          exact ⟨by omega, h _ _ (cl_app_all hx a) (by rw [len_app]; omega)⟩
        rcases hz with hz | hz | hz <;> simp only [hz]
        · exact ha (Str.ofString " ") rfl (by decide)
        · exact ha (Str.ofString "\n") rfl (by decide)
        · exact ha (Str.ofString "\n\n") rfl (by decide)
      · rw [beq_false_of_ne w3]
        simp only [Bool.false_eq_true, if_false]
        exact h0 x hx (by omega)

theorem plain_my {l : List Nat} (h : l.all plain = true) : l.all mySign = true := by
  rw [List.all_eq_true] at h ⊢
  intro c m
  have := h c m
  unfold plain at this
  unfold mySign
  simp at this ⊢
  omega
theorem joinL_all {p : Nat → Bool} {c : Nat} (hc : p c = true) : ∀ (as : List (List Nat)), (∀ a, a ∈ as → a.all p = true) → (joinL c as).all p = true
  | [], _ => rfl
  | [a], h => h a List.mem_cons_self
  | a :: b :: r, h => by
    have := joinL_all hc (b :: r) fun x m => h x (List.mem_cons_of_mem _ m)
    simp only [joinL, List.all_append, List.all_cons, hc, this, h a List.mem_cons_self, Bool.and_self]

def Pcs (ps : List Str) : Prop := ∀ p, p ∈ ps → (cl p).all plain = true ∧ p.length ≤ 10
theorem map_cut (lo hi : Option Int) (ps : List Str) : cutL lo hi (ps.map D.str) = (cutL lo hi ps).map D.str := by
  unfold cutL
  rw [List.length_map, List.map_take, List.map_drop]

theorem pure02 (ns : List Int) (hn : ns.length ≤ 63) : ∃ σ', F_law [.scr ns] ⟨emptyL, []⟩ = .ok (.bool true) ⟨emptyL, σ'⟩ := by
  suffices h : W (F_law [.scr ns]) ⟨emptyL, []⟩ (fun d st' => d = .bool true ∧ st'.loc = emptyL) by
    obtain ⟨d, ⟨l, σ'⟩, e, rfl, hl⟩ := h
    cases hl
    exact ⟨σ', e⟩
  refine W_mkFn rfl ?_
  have hl62 : ns.length < 2 ^ 62 := by omega
  have hsl : (1000 : Nat) ≤ sizeLine := by decide
  unfold d_law
  rw [W_seqM]
  simp only [W_ifM, W_bnd, W_pvar, bindP, upd_at, Nat.reduceBEq, BEq.rfl, cond_true, cond_false, W_ret1, Option.some.injEq, exists_eq_left']
  refine W_at (by decide) (by decide) hl62 ?_
  simp only [W_mod, W_ret1, W_eq_int, W_truthy_bool]
  refine ⟨by decide, ?_⟩
  generalize hA : ns.getD (Int.toNat 0) 0 = a0
  by_cases c8 : a0.fmod 9 = 8
  · rw [if_pos (by simpa using c8)]
    simp only [W_seqM, W_bnd, W_ret1, W_pvar, W_listM, W_tupM, W_mod, upd_at, Nat.reduceBEq, BEq.rfl, cond_true, cond_false, Option.some.injEq, exists_eq_left']
    refine ⟨by show 1 ≤ sizeLine; omega, by show 2 ≤ sizeLine; omega, by show 6 ≤ sizeLine; omega, ?_⟩
    refine W_at (by decide) (by decide) hl62 ?_
    rw [W_mod]
    refine ⟨by decide, ?_⟩
    generalize hB : ns.getD (Int.toNat 1) 0 = a1
    have hm := fmod_range (a := a1) (b := 6) (by decide)
    refine (W_idxR hm.1 (ds := [.int 7, .none, .bool true, .ref 0, .tup [.str (Str.ofString "a"), .str (Str.ofString "b")], .int 0]) (by simp) hm.2 (by decide)).mpr ?_
    have hz : a1.fmod 6 = 0 ∨ a1.fmod 6 = 1 ∨ a1.fmod 6 = 2 ∨ a1.fmod 6 = 3 ∨ a1.fmod 6 = 4 ∨ a1.fmod 6 = 5 := by omega
    refine W.mono (Q := fun b _ => b = .bool false) ?_ fun b st' e => ?_
    · rcases hz with hz | hz | hz | hz | hz | hz <;> simp only [hz]
      · exact W_is_good_no (T := "int") rfl rfl rfl
      · exact W_is_good_no (T := "NoneType") rfl rfl rfl
      · exact W_is_good_no (T := "bool") rfl rfl rfl
      · exact W_is_good_no (T := "list") rfl rfl rfl
      · exact W_is_good_no (T := "tuple") rfl rfl rfl
      · exact W_is_good_no (T := "int") rfl rfl rfl
    · subst e
      simp only [W_setvar, thn_next, W_seqM, W_bnd, W_pvar, W_ret1, upd_at, Nat.reduceBEq, BEq.rfl, cond_true, cond_false, Option.some.injEq, exists_eq_left', W_is_bool, thn_ret]
      exact ⟨trivial, trivial⟩
  · rw [if_neg (by simpa using c8)]
    rw [thn_next, W_seqM]
    simp only [W_bnd, W_pvar, W_ret1, upd_at, Nat.reduceBEq, BEq.rfl, cond_true, cond_false, Option.some.injEq, exists_eq_left']
    refine W_at (by decide) (by decide) hl62 ?_
    simp only [W_div, W_mod, W_add_int, W_range1]
    rw [hA]
    generalize hv : (a0.fdiv 9).fmod 5 = v
    have hv' := fmod_range (a := a0.fdiv 9) (b := 5) (by decide)
    rw [hv] at hv'
    refine ⟨⟨by decide, by decide⟩, by decide, okR_iff.mpr ⟨by omega, by omega⟩, ?_⟩
    refine W_compD (fun _ => true) (fun d p _ => ∃ x, p = .str x ∧ (cl x).all plain = true ∧ x.length ≤ 9) (fun l => l 0 = some (.scr ns)) (by show (rngL _ _ _).length ≤ _; rw [rngL_len]; omega) (fun _ _ _ _ _ h => h) (fun _ _ => trivial) rfl ?_ ?_
    · intro d hd l σ' hA hx
      obtain ⟨j, hj, rfl⟩ := rngL_mem hd
      refine ⟨_, rfl, by simp only [upd_at, Nat.reduceBEq, cond_false]; exact hA, ?_⟩
      simp only [W_bnd, W_pvar, W_ret1, upd_at, Nat.reduceBEq, BEq.rfl, cond_true, cond_false, hA, Option.some.injEq, exists_eq_left', W_add_int, true_and]
      refine ⟨.refl _, fun _ => W_at (by omega) (by omega) hl62 ?_⟩
      exact W_piece fun x jj h1 h2 => ⟨rfl, .app _ _, x, rfl, h1, h2⟩
    · intro xs σ₁ hx r
      rw [filter_all] at r
      obtain ⟨ps, rfl, hst⟩ := strsOf_all (ds := xs) (fun d m => by
        obtain ⟨i, hi, e⟩ := List.getElem_of_mem m
        obtain ⟨b, _, x, hx, _⟩ := r.get' i d (by rw [List.getElem?_eq_getElem hi, e])
        exact ⟨x, hx⟩)
      have hps : ∀ p, p ∈ ps → (cl p).all plain = true ∧ p.length ≤ 9 := fun p m => by
        obtain ⟨i, hi, e⟩ := List.getElem_of_mem (List.mem_map.mpr ⟨p, m, rfl⟩ : D.str p ∈ ps.map D.str)
        obtain ⟨b, _, x, hx, h⟩ := r.get' i _ (by rw [List.getElem?_eq_getElem hi, e])
        cases hx
        exact h
      have hlen : ps.length = (1 + v).toNat := by have := r.length; rw [rngL_len] at this; simpa using this
      clear r hst hx
      rw [W_setvar, thn_next, W_seqM]
      simp only [W_bnd, W_pvar, W_ret1, upd_at, Nat.reduceBEq, BEq.rfl, cond_true, cond_false, Option.some.injEq, exists_eq_left']
      refine W_at (by decide) (by decide) hl62 ?_
      rw [W_setvar, thn_next, W_seqM]
      generalize hC : ns.getD (Int.toNat 2) 0 = nb
      refine W.mono (Q := fun fl st' => fl = .next ∧ st'.loc 0 = some (.scr ns) ∧ st'.loc 3 = some (.int nb) ∧ ∃ k qs, st'.loc 2 = some (.ref k) ∧ st'.sto[k]? = some (.list (qs.map D.str)) ∧ Pcs qs ∧ qs.length ≤ 11) ?_ ?_
      · simp only [W_ifM, W_bnd, W_pvar, W_ret1, upd_at, Nat.reduceBEq, BEq.rfl, cond_true, cond_false, Option.some.injEq, exists_eq_left']
        refine W_at (by decide) (by decide) hl62 ?_
        simp only [W_div, W_mod, W_ret1, W_eq_int, W_truthy_bool]
        refine ⟨⟨by decide, by decide⟩, by decide, ?_⟩
        have gk : (σ₁ ++ [PO.list (ps.map D.str)])[σ₁.length]? = some (.list (ps.map D.str)) := by simp
        by_cases c1 : ((ns.getD (Int.toNat 1) 0).fdiv 4).fmod 3 = 1
        · rw [if_pos (by simpa using c1)]
          have hpl : 0 < (ps.length : Int) := by omega
          have hm := fmod_range (a := nb) (b := (ps.length : Int)) hpl
          simp only [W_seqM, W_bnd, W_pvar, W_ret1, upd_at, Nat.reduceBEq, BEq.rfl, cond_true, cond_false, Option.some.injEq, exists_eq_left', W_lenR, gk, PO.list.injEq, List.length_map, W_mod, W_setvar, thn_next, W_sliceS, W_part_some, W_part_none, W_asInt, W_cut_ref]
          refine ⟨by omega, by omega, by omega, ?_⟩
          generalize hat : nb.fmod (ps.length : Int) = ah at hm
          have g2 : ∀ j : Sto, (σ₁ ++ [PO.list (ps.map D.str)] ++ j)[σ₁.length]? = some (.list (ps.map D.str)) := fun j => by simp
          have hlt : ah.toNat < ps.length := by omega
          simp only [W_listM, W_bnd, W_pvar, W_ret1, upd_at, Nat.reduceBEq, BEq.rfl, cond_true, cond_false, Option.some.injEq, exists_eq_left']
          refine (W_idxR hm.1 (ds := ps.map D.str) (by simp) (by rw [List.length_map]; exact hm.2) (by rw [List.length_map]; omega)).mpr ?_
          rw [List.getElem_map, W_add_str]
          have hp := hps _ (List.getElem_mem hlt)
          have l1 : (Str.ofString " ").length = 1 := rfl
          refine ⟨by omega, ?_⟩
          have lc1 := cutL_length none (some ah) (ps.map D.str)
          have lc2 := cutL_length (some (ah + 1)) none (ps.map D.str)
          rw [List.length_map] at lc1 lc2
          refine ⟨by show 1 ≤ sizeLine; omega, ?_⟩
          rw [W_add_ref]
          refine ⟨cutL none (some ah) (ps.map D.str), [.str (ps[ah.toNat] ++ Str.ofString " ")], by simp, by simp, by simp only [List.length_cons, List.length_nil]; omega, ?_⟩
          simp only [upd_at, Nat.reduceBEq, BEq.rfl, cond_true, cond_false, Option.some.injEq, exists_eq_left', W_add_int, W_asInt, W_cut_ref, W_ret1, W_bnd, W_pvar, W_part_none]
          refine ⟨ps.map D.str, by simp, by rw [List.length_map]; omega, ?_⟩
          rw [W_add_ref]
          refine ⟨cutL none (some ah) (ps.map D.str) ++ [.str (ps[ah.toNat] ++ Str.ofString " ")], cutL (some (ah + 1)) none (ps.map D.str), by simp, by simp, by simp only [List.length_append, List.length_cons, List.length_nil]; omega, ?_⟩
          refine ⟨trivial, rfl, rfl, _, cutL none (some ah) ps ++ [ps[ah.toNat] ++ Str.ofString " "] ++ cutL (some (ah + 1)) none ps, rfl, by simp [map_cut], ?_, ?_⟩
          · intro p m
            rcases List.mem_append.mp m with m | m
            · rcases List.mem_append.mp m with m | m
              · have := hps p (cut_mem m); exact ⟨this.1, by omega⟩
              · rw [List.mem_singleton.mp m]
                exact ⟨cl_app_all hp.1 rfl, by rw [len_app]; omega⟩
            · have := hps p (cut_mem m); exact ⟨this.1, by omega⟩
          · have a1 := cutL_length none (some ah) ps
            have a2 := cutL_length (some (ah + 1)) none ps
            simp only [List.length_append, List.length_cons, List.length_nil]
            omega
        · rw [if_neg (by simpa using c1)]
          exact ⟨trivial, rfl, rfl, _, ps, rfl, gk, fun p m => ⟨(hps p m).1, by have := (hps p m).2; omega⟩, by omega⟩
      · rintro fl ⟨l, σ⟩ ⟨rfl, h0, h3, k, qs, h2, gk, hq, hql⟩
        replace h0 : l 0 = _ := h0
        replace h2 : l 2 = _ := h2
        replace h3 : l 3 = _ := h3
        replace gk : σ[k]? = _ := gk
        rw [thn_next, W_seqM]
        simp only [W_bnd, W_pvar, W_ret1, W_strM, h2, Option.some.injEq, exists_eq_left', W_join]
        have hjl : (Str.join ⟨#[10]⟩ qs).length ≤ 121 := by
          rw [← cl_length, cl_join]
          refine Nat.le_trans (joinL_length 10 (B := 10) (qs.map cl) (fun a m => ?_)) ?_
          · obtain ⟨p, mp, rfl⟩ := List.mem_map.mp m
            rw [cl_length]; exact (hq p mp).2
          · rw [List.length_map]; omega
        have hja : (cl (Str.join ⟨#[10]⟩ qs)).all mySign = true := by
          rw [cl_join]
          refine joinL_all rfl _ fun a m => ?_
          obtain ⟨p, mp, rfl⟩ := List.mem_map.mp m
          exact plain_my (hq p mp).1
        rw [nl_eq]
        refine ⟨qs.map D.str, qs, gk, strsOf_map qs, ?_, ?_⟩
        · refine joinOk_of (B := 10) (fun y m => (hq y m).2) ?_
          show qs.length * 10 + qs.length * 1 ≤ _
          omega
        simp only [h0, h3, Option.some.injEq, exists_eq_left']
        refine W_at (by decide) (by decide) hl62 ?_
        simp only [W_mod, W_pvar, h3, Option.some.injEq, exists_eq_left']
        refine ⟨by decide, ?_⟩
        refine W_changed hja (by omega) fun y j hy hyl => ?_
        rw [W_setvar, thn_next, W_seqM]
        simp only [W_bnd, W_pvar, W_ret1, upd_at, Nat.reduceBEq, BEq.rfl, cond_true, cond_false, Option.some.injEq, exists_eq_left']
        refine W_is_good (by omega) fun j2 => ?_
        rw [W_setvar, thn_next, W_seqM]
        simp only [W_bnd, W_pvar, W_ret1, upd_at, Nat.reduceBEq, BEq.rfl, cond_true, cond_false, Option.some.injEq, exists_eq_left', W_andV, W_isi, tyD, subB, W_truthy_bool]
        simp only [show ("bool" == "bool") = true from rfl, Bool.true_or, if_true]
        refine W_good (by omega) fun j3 => ?_
        rw [W_eq_bool, thn_ret, good_eq hy]
        simp
end Mine

/- part E02 -/
set_option Elab.async false
set_option maxRecDepth 100000
set_option maxHeartbeats 8000000
namespace Mine
theorem t02 : PySem.Challenge.rw_uf030034_02.Holds := hd02 (by
  k_fill
  intro w s₀ s₁ mg mb G Y fa o pm cd doc dV kV ho hd hcd hD hmg hg args vals as hpre hlay hrd hwl hlo
  have KX := kIn_of Y
  refine Ground.open G ?_
  intro T B D TE TW
  wrow_args hpre hlay hrd hwl hlo
  have L : Lay ⟨PySem.Challenge.pw_uf030034_02, w, s₁.heap, s₁.os, s₁.gens⟩ (hd02.heap_39 w.params) := ⟨KX, ⟨mg, T.g⟩, ⟨mb, T.b, T.builtins⟩, T.nolimit⟩
  have hm : mg (Str.ofString "law") = some (.ref 59) := mg_of KX T.g (by kernel_rfl)
  exact law_ends (sf_law L) (by decide) (by rw [hmg] at hm; cases hm; rfl) (by assumption) (by assumption) hg (fun _ => rfl) (by kernel_rfl) (pure02 _ (by omega)))
end Mine

set_option maxRecDepth 100000 in
set_option maxHeartbeats 8000000 in
theorem PySem.Challenge.cw_uf030034_02_holds : PySem.Challenge.rw_uf030034_02.Holds := by
  exact Mine.t02
