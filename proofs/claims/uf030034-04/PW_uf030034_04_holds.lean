import PyProof.Rows.All
import Wide.All
import OpenK.AllK
import Wide.FinOn
import PyProof.Seq
import PyProof.Methods
import PyProof.TupleIter
import PyProof.SliceList
import PyProof.MeetsStr2
import PyProof.CallStr
import PyProof.Cells
import PyProof.StrWalks
import PyProof.CompFree
import PyProof.PureInt
import PyProof.Conv_int_bool
import PyProof.ListOps
import PyProof.DictKinds
import PyProof.DictTruth
import PyProof.DictRoadsH
import PyProof.EnumFor
import PyProof.EnumMake
import PyProof.IsRules
import PyProof.P3Eq
import PyProof.NeData
import PyProof.ExcArgs
import PyProof.ExcClass2
import PyProof.ExcBaseAll.ValueError
import PyProof.ExcClass3
import PyProof.RaisesMany
import PyProof.StrLaws
import PyProof.SliceStr2
import PyProof.StrOps
import PyProof.StrOps2
import PyProof.StrBlock
import PyProof.StrBlockI
import PyProof.StrBlockL
import PyProof.StrLawsChain
import PyProof.WalksMore
import PyProof.RangeFor
import PyProof.IsInstance
import PyProof.IsInstanceH
import PyProof.IsiNone
import PyProof.ListCopy
import PyProof.ListIndexNeg
import PyProof.ListMulRoad
import PyProof.WalkInts
import PyProof.RulesAs
import PyProof.NsDelKeeps
import PyProof.P3In
import PyProof.PvWalk
import PyProof.Rows.TupSub
import PyProof.ZipIter
import PyProof.Truth
import PyProof.StrCalls2
import PyProof.StrLawsOccR
import PyProof.Rows.Chain
import PyProof.Rows.Nodes
import PyProof.Rows.RuleB_floordiv
import PyProof.Rows.RuleB_mod
import PyProof.StrCalls3
import PyProof.Rows.StrTemp
import PyProof.Rows.ListMul
import PyProof.Rows.ListMulCarried
import PyProof.Rows.ListMulR
import PyProof.Rows.RuleC_bool
import PyProof.Rows.RuleN_abs
import PyProof.TupleOps
import PyProof.SeqI3
import PyProof.Rows.TupMore
import PyProof.Rows.StrPins
import PyProof.StrLawsTight
import PyProof.Rows.StrCut
import PyProof.Rows.TupTab
import PyProof.Rows.TupAdd
import PyProof.Rows.SortRuns
import PyProof.Rows.Range3
import Wide.BridgeG
import OpenK.TopRead
import OpenK.KWalk
import KE.KItem
import KE.KLam
import OpenK.KOwn
import KE.KIsAll
import KE.KSortTup
import KE.KTryMore
import PySem.Challenge.RW_uf030034_04
set_option Elab.async false
set_option linter.unusedVariables false
/- part A1 -/
section
set_option Elab.async false
set_option linter.unusedVariables false
namespace Mine
/-! small proofs of linear facts: a sum of the facts that is impossible -/
inductive LX where
  | v (i : Nat)
  | n (k : Nat)
  | a (x y : LX)
  | s (x y : LX)
  | m (k : Nat) (x : LX)
inductive LK where
  | le | lt | eq
structure LC where
  w : Int
  k : LK
  x : LX
  y : LX
noncomputable def atI : List Int → Nat → Int
  | [], _ => 0
  | x :: _, 0 => x
  | _ :: r, i + 1 => atI r i
noncomputable def atN : List Nat → Nat → Nat
  | [], _ => 0
  | x :: _, 0 => x
  | _ :: r, i + 1 => atN r i
noncomputable def LX.di (c : List Int) : LX → Int
  | .v i => atI c i
  | .n k => k
  | .a x y => x.di c + y.di c
  | .s x y => x.di c - y.di c
  | .m k x => k * x.di c
noncomputable def LX.dn (c : List Nat) : LX → Nat
  | .v i => atN c i
  | .n k => k
  | .a x y => x.dn c + y.dn c
  | .s x y => 0
  | .m k x => k * x.dn c
noncomputable def dot : List Int → List Int → Int
  | c :: cs, x :: xs => c * x + dot cs xs
  | _, _ => 0
noncomputable def addL : List Int → List Int → List Int
  | [], y => y
  | x, [] => x
  | a :: x, b :: y => (a + b) :: addL x y
noncomputable def mulL (k : Int) : List Int → List Int
  | [] => []
  | a :: x => (k * a) :: mulL k x
noncomputable def unitL : Nat → List Int
  | 0 => [1]
  | i + 1 => 0 :: unitL i
noncomputable def LX.lin : LX → List Int
  | .v i => 0 :: unitL i
  | .n k => [(k : Int)]
  | .a x y => addL x.lin y.lin
  | .s x y => addL x.lin (mulL (-1) y.lin)
  | .m k x => mulL k x.lin
theorem dot_nil (c : List Int) : dot c [] = 0 := by cases c <;> rfl
theorem dot_add : ∀ (x y c : List Int), dot (addL x y) c = dot x c + dot y c
  | [], y, c => by simp [addL, dot]
  | a :: x, [], c => by simp [addL, dot]
  | a :: x, b :: y, [] => by simp [dot_nil]
  | a :: x, b :: y, z :: c => by simp only [addL, dot, dot_add x y c, Int.add_mul]; omega
theorem dot_mul (k : Int) : ∀ (x c : List Int), dot (mulL k x) c = k * dot x c
  | [], c => by simp [mulL, dot]
  | a :: x, [] => by simp [dot_nil]
  | a :: x, z :: c => by simp only [mulL, dot, dot_mul k x c, Int.mul_add, Int.mul_assoc]
theorem dot_unit : ∀ (i : Nat) (c : List Int), dot (unitL i) c = atI c i
  | 0, [] => rfl
  | 0, z :: c => by simp [unitL, dot, atI]
  | i + 1, [] => rfl
  | i + 1, z :: c => by simp [unitL, dot, atI, dot_unit i c]
theorem lin_di (c : List Int) : ∀ x : LX, dot x.lin (1 :: c) = x.di c
  | .v i => by simp [LX.lin, dot, LX.di, dot_unit]
  | .n k => by simp [LX.lin, dot, LX.di]
  | .a x y => by simp only [LX.lin, LX.di, dot_add, lin_di c x, lin_di c y]
  | .s x y => by simp only [LX.lin, LX.di, dot_add, dot_mul, lin_di c x, lin_di c y]; omega
  | .m k x => by simp only [LX.lin, LX.di, dot_mul, lin_di c x]
noncomputable def noSub : LX → Bool
  | .a x y => noSub x && noSub y
  | .s _ _ => false
  | .m _ x => noSub x
  | _ => true
theorem at_cast : ∀ (c : List Nat) (i : Nat), atI (c.map fun (n : Nat) => (n : Int)) i = (atN c i : Int)
  | [], i => by simp [atI, atN]
  | x :: c, 0 => rfl
  | x :: c, i + 1 => at_cast c i
theorem di_cast (c : List Nat) : ∀ x : LX, noSub x = true → x.di (c.map fun (n : Nat) => (n : Int)) = (x.dn c : Int)
  | .v i, _ => at_cast c i
  | .n k, _ => rfl
  | .a x y, h => by
    simp only [noSub, Bool.and_eq_true] at h
    simp only [LX.di, LX.dn, di_cast c x h.1, di_cast c y h.2]; omega
  | .s _ _, h => by cases h
  | .m k x, h => by simp only [LX.di, LX.dn, di_cast c x h]; simp
noncomputable def LC.row (c : LC) : List Int := mulL c.w (addL (match c.k with
  | .lt => [-1]
  | _ => []) (addL c.y.lin (mulL (-1) c.x.lin)))
noncomputable def sumL : List LC → List Int
  | [] => []
  | c :: r => addL c.row (sumL r)
noncomputable def okW (c : LC) : Bool := match c.k with
  | .eq => true
  | _ => decide (0 ≤ c.w)
noncomputable def isNeg : List Int → Bool
  | [] => false
  | a :: r => decide (a < 0) && r.all (fun b => decide (b = 0))
noncomputable def chk (cs : List LC) : Bool := isNeg (sumL cs) && cs.all okW
noncomputable def chkN (cs : List LC) : Bool := chk cs && cs.all fun c => noSub c.x && noSub c.y
noncomputable def LC.holdsI (l : List Int) (c : LC) : Prop := match c.k with
  | .le => c.x.di l ≤ c.y.di l
  | .lt => c.x.di l < c.y.di l
  | .eq => c.x.di l = c.y.di l
noncomputable def LC.holdsN (l : List Nat) (c : LC) : Prop := match c.k with
  | .le => c.x.dn l ≤ c.y.dn l
  | .lt => c.x.dn l < c.y.dn l
  | .eq => c.x.dn l = c.y.dn l
noncomputable def impI (l : List Int) : List LC → Prop
  | [] => False
  | c :: r => c.holdsI l → impI l r
noncomputable def impN (l : List Nat) : List LC → Prop
  | [] => False
  | c :: r => c.holdsN l → impN l r
theorem dot_neg {r : List Int} (h : isNeg r = true) (l : List Int) : dot r (1 :: l) < 0 := by
  cases r with
  | nil => cases h
  | cons a r =>
    simp only [isNeg, Bool.and_eq_true, decide_eq_true_eq, List.all_eq_true] at h
    have z : ∀ (r l : List Int), (∀ b, b ∈ r → b = 0) → dot r l = 0 := by
      intro r
      induction r with
      | nil => intro l _; cases l <;> rfl
      | cons b r ih =>
        intro l hb
        cases l with
        | nil => rfl
        | cons z l => simp only [dot, hb b List.mem_cons_self, ih l fun b m => hb b (List.mem_cons_of_mem _ m)]; simp
    simp only [dot, z r l fun b m => h.2 b m]; omega
theorem row_nonneg {l : List Int} {c : LC} (h : c.holdsI l) (w : okW c = true) : 0 ≤ dot c.row (1 :: l) := by
  obtain ⟨k, kd, x, y⟩ := c
  unfold LC.row
  rw [dot_mul, dot_add, dot_add, dot_mul, lin_di, lin_di]
  dsimp only
  cases kd with
  | le =>
    have h : x.di l ≤ y.di l := h
    have w : 0 ≤ k := of_decide_eq_true w
    exact Int.mul_nonneg w (by show 0 ≤ dot [] _ + (_ + -1 * _); simp only [dot]; omega)
  | lt =>
    have h : x.di l < y.di l := h
    have w : 0 ≤ k := of_decide_eq_true w
    exact Int.mul_nonneg w (by show 0 ≤ dot [-1] _ + (_ + -1 * _); simp only [dot]; omega)
  | eq =>
    have h : x.di l = y.di l := h
    have : dot [] (1 :: l) + (y.di l + -1 * x.di l) = 0 := by simp only [dot]; omega
    show 0 ≤ k * (dot [] (1 :: l) + (y.di l + -1 * x.di l))
    rw [this]; simp
theorem impI_of {l : List Int} : ∀ (cs : List LC), ((∀ c, c ∈ cs → c.holdsI l) → False) → impI l cs
  | [], h => h fun _ m => nomatch m
  | c :: r, h => fun hc => impI_of r fun hr => h fun d m => by
    rcases List.mem_cons.mp m with rfl | m
    · exact hc
    · exact hr d m
theorem sum_nonneg {l : List Int} : ∀ (cs : List LC), (∀ c, c ∈ cs → c.holdsI l) → cs.all okW = true → 0 ≤ dot (sumL cs) (1 :: l)
  | [], _, _ => by simp [sumL, dot]
  | c :: r, h, w => by
    simp only [List.all_cons, Bool.and_eq_true] at w
    have := sum_nonneg r (fun c m => h c (List.mem_cons_of_mem _ m)) w.2
    have := row_nonneg (h c List.mem_cons_self) w.1
    simp only [sumL, dot_add]; omega
theorem linI (l : List Int) (cs : List LC) (h : chk cs = true) : impI l cs := impI_of cs fun hs => by
  simp only [chk, Bool.and_eq_true] at h
  exact Int.lt_irrefl _ (Int.lt_of_le_of_lt (sum_nonneg cs hs h.2) (dot_neg h.1 l))
theorem impN_of {l : List Nat} : ∀ (cs : List LC), ((∀ c, c ∈ cs → c.holdsN l) → False) → impN l cs
  | [], h => h fun _ m => nomatch m
  | c :: r, h => fun hc => impN_of r fun hr => h fun d m => by
    rcases List.mem_cons.mp m with rfl | m
    · exact hc
    · exact hr d m
theorem linN (l : List Nat) (cs : List LC) (h : chkN cs = true) : impN l cs := impN_of cs fun hs => by
  simp only [chkN, chk, Bool.and_eq_true, List.all_eq_true] at h
  refine Int.lt_irrefl _ (Int.lt_of_le_of_lt (sum_nonneg (l := l.map fun (n : Nat) => (n : Int)) cs (fun c m => ?_) (List.all_eq_true.mpr h.1.2)) (dot_neg h.1.1 _))
  have q := hs c m
  have n := h.2 c m
  obtain ⟨k, kd, x, y⟩ := c
  cases kd with
  | le =>
    have q : x.dn l ≤ y.dn l := q
    show x.di _ ≤ y.di _
    rw [di_cast l x n.1, di_cast l y n.2]; omega
  | lt =>
    have q : x.dn l < y.dn l := q
    show x.di _ < y.di _
    rw [di_cast l x n.1, di_cast l y n.2]; omega
  | eq =>
    have q : x.dn l = y.dn l := q
    show x.di _ = y.di _
    rw [di_cast l x n.1, di_cast l y n.2]; omega
theorem nLe {a b : Nat} (h : b < a → False) : a ≤ b := Nat.le_of_not_lt h
theorem nLt {a b : Nat} (h : b ≤ a → False) : a < b := Nat.lt_of_not_le h
theorem nEq {a b : Nat} (h1 : a < b → False) (h2 : b < a → False) : a = b := Nat.le_antisymm (nLe h2) (nLe h1)
theorem iLe {a b : Int} (h : b < a → False) : a ≤ b := Int.not_lt.mp h
theorem iLt {a b : Int} (h : b ≤ a → False) : a < b := Int.not_le.mp h
theorem iEq {a b : Int} (h1 : a < b → False) (h2 : b < a → False) : a = b := Int.le_antisymm (iLe h2) (iLe h1)
/-! facts of parts -/
theorem sub_hi (a b : Nat) : a - b ≤ a := Nat.sub_le a b
theorem sub_lo (a b : Nat) : a ≤ (a - b) + b := by omega
end Mine
namespace Mine
theorem sub_eq {a b : Nat} (h : b ≤ a) : (a - b) + b = a := Nat.sub_add_cancel h
noncomputable abbrev x0 : LX := .v 0
noncomputable abbrev x1 : LX := .v 1
noncomputable abbrev x2 : LX := .v 2
noncomputable abbrev x3 : LX := .v 3
noncomputable abbrev x4 : LX := .v 4
noncomputable abbrev x5 : LX := .v 5
noncomputable abbrev x6 : LX := .v 6
noncomputable abbrev x7 : LX := .v 7
noncomputable abbrev le1 (x y : LX) : LC := ⟨1, .le, x, y⟩
noncomputable abbrev lt1 (x y : LX) : LC := ⟨1, .lt, x, y⟩
noncomputable abbrev eq1 (x y : LX) : LC := ⟨1, .eq, x, y⟩
noncomputable abbrev qe1 (x y : LX) : LC := ⟨-1, .eq, x, y⟩
noncomputable abbrev leW (w : Int) (x y : LX) : LC := ⟨w, .le, x, y⟩
noncomputable abbrev ltW (w : Int) (x y : LX) : LC := ⟨w, .lt, x, y⟩
theorem c_le {a b : Nat} (h : a ≤ b) : (a : Int) ≤ (b : Int) := Int.ofNat_le.mpr h
theorem c_lt {a b : Nat} (h : a < b) : (a : Int) < (b : Int) := Int.ofNat_lt.mpr h
theorem c_eq {a b : Nat} (h : a = b) : (a : Int) = (b : Int) := congrArg _ h
theorem d_le {a b : Nat} (h : (a : Int) ≤ (b : Int)) : a ≤ b := Int.ofNat_le.mp h
theorem d_lt {a b : Nat} (h : (a : Int) < (b : Int)) : a < b := Int.ofNat_lt.mp h
theorem d_eq {a b : Nat} (h : (a : Int) = (b : Int)) : a = b := Int.ofNat.inj h
theorem tn_lo (x : Int) : x ≤ (x.toNat : Int) := Int.self_le_toNat x
theorem tn_eq {x : Int} (h : 0 ≤ x) : (x.toNat : Int) = x := Int.toNat_of_nonneg h
theorem cast_nn (n : Nat) : (0 : Int) ≤ (n : Int) := Int.natCast_nonneg n
end Mine

end

/- part F1 -/
section
set_option Elab.async false
set_option linter.unusedVariables false
namespace Mine
open PySem

/-! the heap never shrinks -/
theorem size_runs {M : Model} {Γ : Ctx} {p : Pos} {t : Sem Fin} {fs : List Frame} {s s' : Shared} {e : End} (h : Runs M Γ p t fs s e s') : s.heap.objs.size ≤ s'.heap.objs.size := by
  induction h <;> (try simp only [Shared.setGen, Heap.size_push, Heap.size_after_update] at *) <;> omega
theorem size_wakes {M : Model} {Γ : Ctx} {p : Pos} {g : Nat} {r : Resume} {s s' : Shared} {res : GenResult} (h : Wakes M Γ p g r s res s') : s.heap.objs.size ≤ s'.heap.objs.size := by
  unfold Wakes at h
  split at h
  · exact h.elim
  · split at h
    · obtain ⟨e₁, s₁, hr, _, _, rfl⟩ := h; exact (size_runs hr : (s.setGen g .running).heap.objs.size ≤ s₁.heap.objs.size)
    · rw [h.2]; exact Nat.le_refl _
    · rw [h.2]; exact Nat.le_refl _
  · obtain ⟨e₁, s₁, hr, _, _, rfl⟩ := h; exact (size_runs hr : (s.setGen g .running).heap.objs.size ≤ s₁.heap.objs.size)
  · rw [h.2]; exact Nat.le_refl _
  · rw [h.2]; exact Nat.le_refl _
theorem wp_size {α : Type} (M : Model) (Γ : Ctx) (n : Nat) (t : Sem α) : ∀ (Q : α → Pos → Shared → Prop) (E : Value → Pos → Shared → Prop) (p : Pos) (s : Shared), n ≤ s.heap.objs.size → Sem.wp M Γ t Q E p s →
    Sem.wp M Γ t (fun a p' s' => n ≤ s'.heap.objs.size ∧ Q a p' s') (fun e p' s' => n ≤ s'.heap.objs.size ∧ E e p' s') p s := by
  induction t with
  | pure a => intro Q E p s hn h; exact ⟨hn, h⟩
  | raise e => intro Q E p s hn h; exact ⟨hn, h⟩
  | unsupported _ => intro Q E p s _ h; exact h
  | finish _ => intro Q E p s _ h; exact h
  | rule _ k ih => intro Q E p s hn h; exact ih () Q E p s hn h
  | «at» p' k ih => intro Q E p s hn h; exact ih () Q E p' s hn h
  | load a _ k ih => intro Q E p s hn h; obtain ⟨o, ho, h⟩ := h; exact ⟨o, ho, ih o Q E p s hn h⟩
  | update a _ f k ih => intro Q E p s hn h; exact ⟨h.1, ih () Q E p _ (by rw [Heap.size_after_update]; exact hn) h.2⟩
  | loadIfAlive a k ih => intro Q E p s hn h; exact ih _ Q E p s hn h
  | point _ k ih => intro Q E p s hn h; exact ih () Q E p s hn h
  | register _ _ => intro Q E p s _ h; exact h
  | alloc o k ih => intro Q E p s hn h; exact ih _ Q E p _ (by rw [Heap.size_push]; exact nLe fun hzz => linN [_, _] [lt1 (.a x1 (.n 1)) x0, le1 x0 x1] (Eq.refl true) hzz hn) h
  | fresh k ih => intro Q E p s hn h; exact ih _ Q E p _ hn h
  | ask k ih => intro Q E p s hn h; exact ih _ Q E p s hn h
  | choose src m k ih => intro Q E p s hn h; exact ⟨h.1, ih _ Q E p _ hn h.2⟩
  | os q _ k ih => intro Q E p s hn h; exact ih _ Q E p _ hn h
  | call c hd _ _ k ih => intro Q E p s hn h; obtain ⟨r, s', hr, h⟩ := h; exact ⟨r, s', hr, ih r Q E p s' (Nat.le_trans hn (size_runs hr)) h⟩
  | handled own k ih => intro Q E p s hn h; exact ih _ Q E p s hn h
  | genState g k ih => intro Q E p s hn h; obtain ⟨st, hs, h⟩ := h; exact ⟨st, hs, ih _ Q E p s hn h⟩
  | newGen c k ih => intro Q E p s hn h; exact ih _ Q E p _ hn h
  | resume g r _ k ih => intro Q E p s hn h; obtain ⟨res, s', hw, h⟩ := h; exact ⟨res, s', hw, ih res Q E p s' (Nat.le_trans hn (size_wakes hw)) h⟩
  | yield _ _ _ _ => intro Q E p s _ h; exact h
  | stack k ih => intro Q E p s hn h; exact ih _ Q E p s hn h
  | fork _ _ => intro Q E p s _ h; exact h
  | thread k ih => intro Q E p s hn h; exact ih _ Q E p s hn h
  | await _ _ _ _ _ => intro Q E p s _ h; exact h
theorem wpAny_size {α : Type} {M : Model} {A : Around} {s : Shared} {t : Sem α} {Q : α → Shared → Prop} {E : Value → Shared → Prop} (h : wpAny M A t Q E s) :
    wpAny M A t (fun a s' => s.heap.objs.size ≤ s'.heap.objs.size ∧ Q a s') (fun e s' => s.heap.objs.size ≤ s'.heap.objs.size ∧ E e s') s :=
  fun Γ p hΓ => wp_size M Γ _ t _ _ p s (Nat.le_refl _) (h Γ p hΓ)

/-- pure values: lists and dicts are references into the pure store -/
inductive D where
  | none
  | bool (b : Bool)
  | int (i : Int)
  | str (s : Str)
  | tup (ds : List D)
  | ref (k : Nat)
  | scr (ns : List Int)
  | exc (c : Addr)

/-- objects of the pure store -/
inductive PO where
  | list (ds : List D)
  /-- keys alone: tuples of ints -/
  | dict (ks : List (List Int))
  /-- a tuple that the interpreter itself writes (zip's) -/
  | priv
  /-- the table in which the interpreter notes the code of a lambda; k: where that code lies -/
  | ctab (P : Addr) (l c : Nat) (q : Str) (k : Option Nat)
  | code (q : Str)

noncomputable abbrev Sto := List PO
noncomputable abbrev Loc := Nat → Option D
structure St where
  loc : Loc
  sto : Sto

inductive Out (α : Type) where
  | ok (a : α) (st : St)
  | exc (c : Addr) (st : St)
  | bot

noncomputable abbrev Mn (α : Type) := St → Out α

noncomputable def ret1 {α : Type} (a : α) : Mn α := fun st => .ok a st
noncomputable def bnd {α β : Type} (m : Mn α) (f : α → Mn β) : Mn β := fun st => match m st with
  | .ok a st' => f a st'
  | .exc c st' => .exc c st'
  | .bot => .bot
noncomputable def botM {α : Type} : Mn α := fun _ => .bot

inductive Fl where
  | next | brk | cont
  | ret (d : D)

/-! relations -/
inductive All2 {α β : Type} (R : α → β → Prop) : List α → List β → Prop
  | nil : All2 R [] []
  | cons {a b l l'} : R a b → All2 R l l' → All2 R (a :: l) (b :: l')

theorem All2.length {α β : Type} {R : α → β → Prop} {l : List α} {l' : List β} (h : All2 R l l') : l.length = l'.length := by
  induction h with
  | nil => rfl
  | cons _ _ ih => simp [ih]
theorem All2.mono {α β : Type} {R R' : α → β → Prop} (hm : ∀ a b, R a b → R' a b) {l : List α} {l' : List β} (h : All2 R l l') : All2 R' l l' := by
  induction h with
  | nil => exact .nil
  | cons x _ ih => exact .cons (hm _ _ x) ih
theorem All2.append {α β : Type} {R : α → β → Prop} {l₁ l₂ : List α} {l₁' l₂' : List β} (h : All2 R l₁ l₁') (g : All2 R l₂ l₂') : All2 R (l₁ ++ l₂) (l₁' ++ l₂') := by
  induction h with
  | nil => exact g
  | cons x _ ih => exact .cons x ih
theorem All2.get {α β : Type} {R : α → β → Prop} {l : List α} {l' : List β} (h : All2 R l l') : ∀ (i : Nat) (b : β), l'[i]? = some b → ∃ a, l[i]? = some a ∧ R a b := by
  induction h with
  | nil => intro i b e; simp at e
  | cons x _ ih =>
    intro i b e
    cases i with
    | zero => simp at e; subst e; exact ⟨_, by simp, x⟩
    | succ i => simp at e; obtain ⟨a, ha, r⟩ := ih i b e; exact ⟨a, by simpa using ha, r⟩
theorem All2.take {α β : Type} {R : α → β → Prop} {l : List α} {l' : List β} (h : All2 R l l') : ∀ n, All2 R (l.take n) (l'.take n) := by
  induction h with
  | nil => intro n; simp; exact .nil
  | cons x _ ih => intro n; cases n with
    | zero => simp; exact .nil
    | succ n => simp; exact .cons x (ih n)
theorem All2.drop {α β : Type} {R : α → β → Prop} {l : List α} {l' : List β} (h : All2 R l l') : ∀ n, All2 R (l.drop n) (l'.drop n) := by
  induction h with
  | nil => intro n; simp; exact .nil
  | cons x h ih => intro n; cases n with
    | zero => simp; exact .cons x h
    | succ n => simpa using ih n
theorem All2.reverse {α β : Type} {R : α → β → Prop} {l : List α} {l' : List β} (h : All2 R l l') : All2 R l.reverse l'.reverse := by
  induction h with
  | nil => exact .nil
  | cons x _ ih => simp only [List.reverse_cons]; exact ih.append (.cons x .nil)
theorem All2.set {α β : Type} {R : α → β → Prop} {l : List α} {l' : List β} (h : All2 R l l') {a : α} {b : β} (r : R a b) : ∀ i, All2 R (l.set i a) (l'.set i b) := by
  induction h with
  | nil => intro i; simp; exact .nil
  | cons x h ih => intro i; cases i with
    | zero => simp; exact .cons r h
    | succ i => simp; exact .cons x (ih i)

/-- the ground of one law's call: program, world, the heap before the call -/
structure Gd where
  prog : Program
  w : World
  h0 : Heap
  os0 : OsState
  gens0 : Array GenState


noncomputable abbrev lstO (vs : Array Value) (n : Nat) : Obj := { cls := .type "list", dict := none, data := .seq vs n, slots := #[] }
noncomputable abbrev tupO (vs : Array Value) (n : Nat) : Obj := { cls := .type "tuple", dict := none, data := .seq vs n, slots := #[] }
noncomputable def IsTupl (h : Heap) (a : Addr) (items : Array Value) : Prop := ∃ n, h.get? a = some (tupO items n)
noncomputable def IsLst (h : Heap) (a : Addr) (items : Array Value) : Prop := ∃ n, h.get? a = some (lstO items n)
theorem tup_ne_lst {vs vs' : Array Value} {n n' : Nat} : tupO vs n ≠ lstO vs' n' := fun h => by
  have := congrArg Obj.cls h
  simp at this
theorem IsLst.list {h : Heap} {a : Addr} {vs : Array Value} (x : IsLst h a vs) : h.IsList a vs := let ⟨n, e⟩ := x; ⟨_, e, rfl, n, rfl⟩
/-- an exception of the class c, with no attributes of its own -/
noncomputable def ExcO (o : Obj) (c : Addr) : Prop := o.cls = .ref c ∧ o.dict = none
noncomputable def IsExc (h : Heap) (a : Addr) (c : Addr) : Prop := ∃ o, h.get? a = some o ∧ ExcO o c ∧ ∃ vs, o.data = .fields vs
noncomputable def IsInts (vs : List Value) (ns : List Int) : Prop := All2 (fun v n => ∃ t, v = Value.int n t) vs ns

mutual
/-- v in heap h stands for d; ρ: where the store's objects lie -/
noncomputable def Rel (G : Gd) (h : Heap) (ρ : List Addr) : D → Value → Prop
  | .none, v => v = .none
  | .bool b, v => v = .bool b
  | .int i, v => ∃ t, v = .int i t
  | .str s, v => ∃ t, v = .str s t
  | .tup ds, v => ∃ a vs, v = .ref a ∧ a ∉ ρ ∧ IsTupl h a vs ∧ RelL G h ρ ds vs.toList
  | .ref k, v => ∃ a, v = .ref a ∧ ρ[k]? = some a
  | .scr ns, v => ∃ a vs, v = .ref a ∧ G.h0.IsList a vs ∧ IsInts vs.toList ns
  | .exc c, v => ∃ a, v = .ref a ∧ a ∉ ρ ∧ IsExc h a c
noncomputable def RelL (G : Gd) (h : Heap) (ρ : List Addr) : List D → List Value → Prop
  | [], vs => vs = []
  | d :: ds, vs => ∃ v r, vs = v :: r ∧ Rel G h ρ d v ∧ RelL G h ρ ds r
end

theorem RelL.all2 {G : Gd} {h : Heap} {ρ : List Addr} : ∀ {ds : List D} {vs : List Value}, RelL G h ρ ds vs → All2 (fun v d => Rel G h ρ d v) vs ds
  | [], vs, e => by simp only [RelL] at e; subst e; exact .nil
  | d :: ds, vs, e => by
    simp only [RelL] at e
    obtain ⟨v, r, rfl, h1, h2⟩ := e
    exact .cons h1 (RelL.all2 h2)
theorem RelL.of_all2 {G : Gd} {h : Heap} {ρ : List Addr} {ds : List D} {vs : List Value} (x : All2 (fun v d => Rel G h ρ d v) vs ds) : RelL G h ρ ds vs := by
  induction x with
  | nil => simp [RelL]
  | cons a _ ih => simp only [RelL]; exact ⟨_, _, rfl, a, ih⟩

/-- what keeps the meaning of values -/
structure Stb (h : Heap) (ρ : List Addr) (h' : Heap) (ρ' : List Addr) : Prop where
  pre : ∀ (k : Nat) (a : Addr), ρ[k]? = some a → ρ'[k]? = some a
  tup : ∀ a items, a ∉ ρ → IsTupl h a items → a ∉ ρ' ∧ IsTupl h' a items
  exc : ∀ a c, a ∉ ρ → IsExc h a c → a ∉ ρ' ∧ IsExc h' a c

mutual
theorem Rel.mono {G : Gd} {h h' : Heap} {ρ ρ' : List Addr} (S : Stb h ρ h' ρ') : ∀ (d : D) (v : Value), Rel G h ρ d v → Rel G h' ρ' d v
  | .none, _, e => e
  | .bool _, _, e => e
  | .int _, _, e => e
  | .str _, _, e => e
  | .tup ds, v, e => by
    simp only [Rel] at e ⊢
    obtain ⟨a, vs, e1, n, e2, e3⟩ := e
    obtain ⟨n', e2'⟩ := S.tup _ _ n e2
    exact ⟨a, vs, e1, n', e2', RelL.mono S ds _ e3⟩
  | .ref k, v, e => by
    simp only [Rel] at e ⊢
    obtain ⟨a, e1, e2⟩ := e
    exact ⟨a, e1, S.pre _ _ e2⟩
  | .scr _, _, e => by simp only [Rel] at e ⊢; exact e
  | .exc c, v, e => by
    simp only [Rel] at e ⊢
    obtain ⟨a, e1, n, e2⟩ := e
    exact ⟨a, e1, S.exc _ _ n e2⟩
theorem RelL.mono {G : Gd} {h h' : Heap} {ρ ρ' : List Addr} (S : Stb h ρ h' ρ') : ∀ (ds : List D) (vs : List Value), RelL G h ρ ds vs → RelL G h' ρ' ds vs
  | [], _, e => by simp only [RelL] at e ⊢; exact e
  | d :: ds, vs, e => by
    simp only [RelL] at e ⊢
    obtain ⟨v, r, e1, e2, e3⟩ := e
    exact ⟨v, r, e1, Rel.mono S d v e2, RelL.mono S ds r e3⟩
end

/-- a tuple of ints that is a key -/
noncomputable def KeyT (h : Heap) (a : Addr) (k : List Int) : Prop := ∃ vs, IsTupl h a vs ∧ IsInts vs.toList k
noncomputable abbrev keyKd (G : Gd) : HeapKind G.prog G.w (List Int) := tupleKind (intKind G.prog G.w)
noncomputable abbrev ctO (ps : Array Value) : Obj := { cls := .none, data := .fields ps }
noncomputable def IsCtab (h : Heap) (ρ : List Addr) (a : Addr) (l c : Nat) : Option Nat → Prop
  | none => h.get? a = some (ctO #[])
  | some k => ∃ c', ρ[k]? = some c' ∧ h.get? a = some (ctO #[rawInt l, rawInt c, .ref c'])
noncomputable def IsCodeO (h : Heap) (a : Addr) (q : Str) : Prop := ∃ o vs t, h.get? a = some o ∧ o.cls = .type "code" ∧ o.data = .fields vs ∧ vs[1]? = some (.str q t)

/-- a pair that an iterator keeps for itself -/
noncomputable def Prv (h : Heap) (a : Addr) : Prop := ∃ x y, h.get? a = some (tupO #[x, y] 0)
noncomputable def ObjRel (G : Gd) (h : Heap) (ρ : List Addr) (a : Addr) : PO → Prop
  | .list ds => ∃ vs, IsLst h a vs ∧ RelL G h ρ ds vs.toList
  | .dict ks => ∃ xs, h.DictOfH (keyKd G) a xs ∧ (a == sysModules) = false ∧ xs.map (·.1) = ks ∧ ∀ x, x ∈ xs → x.2.1 ∉ ρ ∧ KeyT h x.2.1 x.1
  | .priv => Prv h a
  | .ctab P l c _ k => a = P ∧ IsCtab h ρ a l c k
  | .code q => IsCodeO h a q

structure Inv (G : Gd) (s : Shared) (ρ : List Addr) (σ : Sto) : Prop where
  base : ∀ b o, G.h0.get? b = some o → s.heap.get? b = some o
  new : ∀ a, a ∈ ρ → G.h0.get? a = none
  nodup : ρ.Nodup
  len : ρ.length = σ.length
  sto : ∀ (k : Nat) (a : Addr) (o : PO), ρ[k]? = some a → σ[k]? = some o → ObjRel G s.heap ρ a o
  os : s.os = G.os0
  gens : s.gens = G.gens0

/-- the same object, but a frame's slots -/
noncomputable def SameObj (o o' : Obj) : Prop := o'.cls = o.cls ∧ o'.data = o.data ∧ o'.dict = o.dict ∧ ((∃ es n, o.data = .dict es n) ∨ o'.slots = o.slots)
theorem SameObj.refl (o : Obj) : SameObj o o := ⟨rfl, rfl, rfl, .inr rfl⟩
theorem SameObj.trans {a b c : Obj} (x : SameObj a b) (y : SameObj b c) : SameObj a c :=
  ⟨y.1.trans x.1, y.2.1.trans x.2.1, y.2.2.1.trans x.2.2.1, x.2.2.2.elim .inl fun e => y.2.2.2.elim (fun ⟨es, n, z⟩ => .inl ⟨es, n, x.2.1 ▸ z⟩) fun e' => .inr (e'.trans e)⟩
theorem SameObj.eq {o o' : Obj} (x : SameObj o o') (h : ∀ es n, o.data ≠ .dict es n) : o' = o := by
  obtain ⟨c, d, dt, sl⟩ := o
  obtain ⟨c', d', dt', sl'⟩ := o'
  obtain ⟨h1, h2, h3, h4⟩ := x
  simp only at h1 h2 h3 h4
  rcases h4 with ⟨es, n, z⟩ | h4
  · exact absurd z (h es n)
  · subst h1 h2 h3 h4; rfl

/-- from (h, ρ) to (h', ρ'): all but the store's objects and P stands, but for frames' slots -/
structure Ev (P : List Addr) (h : Heap) (ρ : List Addr) (h' : Heap) (ρ' : List Addr) : Prop where
  pre : ∀ (k : Nat) (a : Addr), ρ[k]? = some a → ρ'[k]? = some a
  keep : ∀ b o, h.get? b = some o → b ∉ ρ → b ∉ P → ∃ o', h'.get? b = some o' ∧ SameObj o o'
  newp : ∀ a, a ∈ ρ' → a ∈ ρ ∨ h.objs.size ≤ a
  size : h.objs.size ≤ h'.objs.size

theorem Ev.refl {P : List Addr} {h : Heap} {ρ : List Addr} : Ev P h ρ h ρ := ⟨fun _ _ e => e, fun _ o e _ _ => ⟨o, e, .refl o⟩, fun _ e => .inl e, Nat.le_refl _⟩
theorem Ev.notin' {P : List Addr} {h h' : Heap} {ρ ρ' : List Addr} (x : Ev P h ρ h' ρ') {b : Addr} (e : b < h.objs.size) (n : b ∉ ρ) : b ∉ ρ' :=
  fun m => (x.newp b m).elim n fun z => Nat.lt_irrefl _ (Nat.lt_of_lt_of_le e z)
theorem Ev.notin {P : List Addr} {h h' : Heap} {ρ ρ' : List Addr} (x : Ev P h ρ h' ρ') {b : Addr} {o : Obj} (e : h.get? b = some o) (n : b ∉ ρ) : b ∉ ρ' := x.notin' (Heap.lt_size e) n
theorem Ev.trans {P : List Addr} {h h₁ h₂ : Heap} {ρ ρ₁ ρ₂ : List Addr} (x : Ev P h ρ h₁ ρ₁) (y : Ev P h₁ ρ₁ h₂ ρ₂) : Ev P h ρ h₂ ρ₂ where
  pre k a e := y.pre k a (x.pre k a e)
  keep b o e n1 n2 := by
    obtain ⟨o', e', q⟩ := x.keep b o e n1 n2
    obtain ⟨o'', e'', q'⟩ := y.keep b o' e' (x.notin e n1) n2
    exact ⟨o'', e'', q.trans q'⟩
  newp a m := (y.newp a m).elim (fun m' => x.newp a m') fun z => .inr (Nat.le_trans x.size z)
  size := Nat.le_trans x.size y.size
theorem Ev.more {P P' : List Addr} {h h' : Heap} {ρ ρ' : List Addr} (x : Ev P h ρ h' ρ') (hs : ∀ p, p ∈ P → p ∈ P') : Ev P' h ρ h' ρ' :=
  ⟨x.pre, fun b o e n1 n2 => x.keep b o e n1 fun m => n2 (hs b m), x.newp, x.size⟩
theorem Ev.nil {P : List Addr} {h h' : Heap} {ρ ρ' : List Addr} (x : Ev [] h ρ h' ρ') : Ev P h ρ h' ρ' := x.more fun _ m => nomatch m
/-- what is not there yet at the start may be written -/
theorem Ev.less {P P' : List Addr} {h h' : Heap} {ρ ρ' : List Addr} (x : Ev P' h ρ h' ρ') (hs : ∀ p, p ∈ P' → p ∈ P ∨ h.objs.size ≤ p) : Ev P h ρ h' ρ' :=
  ⟨x.pre, fun b o e n1 n2 => x.keep b o e n1 fun m => (hs b m).elim n2 fun z => Nat.lt_irrefl _ (Nat.lt_of_lt_of_le (Heap.lt_size e) z), x.newp, x.size⟩

/-- P's objects are frames' dicts and cells -/
noncomputable def NT (h : Heap) (P : List Addr) : Prop := ∀ p, p ∈ P → ∃ o, h.get? p = some o ∧ ((∃ es n, o.data = .dict es n) ∨ (∃ v, o.data = .cell v) ∨ ∃ vs n, o = lstO vs n)
theorem NT.nil {h : Heap} : NT h [] := fun _ m => nomatch m

theorem nodup_getElem_inj {α : Type} {l : List α} (hn : l.Nodup) {i j : Nat} {a : α} (h1 : l[i]? = some a) (h2 : l[j]? = some a) : i = j := by
  obtain ⟨hi, e1⟩ := List.getElem?_eq_some_iff.mp h1
  obtain ⟨hj, e2⟩ := List.getElem?_eq_some_iff.mp h2
  rcases Nat.lt_trichotomy i j with q | q | q
  · exact absurd (e1.trans e2.symm) ((List.pairwise_iff_getElem.mp hn) i j hi hj q)
  · exact q
  · exact absurd (e2.trans e1.symm) ((List.pairwise_iff_getElem.mp hn) j i hj hi q)

theorem Inv.mem_lt {G : Gd} {s : Shared} {ρ : List Addr} {σ : Sto} (I : Inv G s ρ σ) {a : Addr} (m : a ∈ ρ) : a < s.heap.objs.size := by
  obtain ⟨k, hk, e⟩ := List.getElem_of_mem m
  have hk' : k < σ.length := by rw [← I.len]; exact hk
  have e1 : ρ[k]? = some a := by rw [List.getElem?_eq_getElem hk, e]
  have r := I.sto k a σ[k] e1 (List.getElem?_eq_getElem hk')
  cases q : σ[k] with
  | list ds =>
    rw [q] at r
    obtain ⟨vs, ⟨n, ho⟩, _⟩ := r
    exact Heap.lt_size ho
  | dict kvs =>
    rw [q] at r
    obtain ⟨xs, ⟨o, es, ep, ho, _⟩, _⟩ := r
    exact Heap.lt_size ho
  | priv =>
    rw [q] at r
    obtain ⟨x, y, ho⟩ := r
    exact Heap.lt_size ho
  | ctab PP l c qq kk =>
    rw [q] at r
    cases kk with
    | none => exact Heap.lt_size r.2
    | some kk => obtain ⟨_, c', _, ho⟩ := r; exact Heap.lt_size ho
  | code qq =>
    rw [q] at r
    obtain ⟨o, vs, t, ho, _⟩ := r
    exact Heap.lt_size ho

theorem Ev.stb {G : Gd} {s : Shared} {P : List Addr} {ρ : List Addr} {σ : Sto} {h' : Heap} {ρ' : List Addr} (x : Ev P s.heap ρ h' ρ') (_I : Inv G s ρ σ) (N : NT s.heap P) : Stb s.heap ρ h' ρ' where
  pre := x.pre
  tup a items n1 t := by
    obtain ⟨n, ho⟩ := t
    have n2 : a ∉ P := fun m => by
      obtain ⟨o', ho', z⟩ := N a m
      rw [ho] at ho'; cases ho'
      rcases z with ⟨_, _, z⟩ | ⟨_, z⟩ | ⟨_, _, z⟩
      · cases z
      · cases z
      · exact tup_ne_lst z
    obtain ⟨o', ho', q⟩ := x.keep a _ ho n1 n2
    rw [q.eq (fun _ _ z => by cases z)] at ho'
    exact ⟨x.notin ho n1, n, ho'⟩
  exc a c n1 t := by
    obtain ⟨o, ho, hc, vs, hd⟩ := t
    have n2 : a ∉ P := fun m => by
      obtain ⟨o', ho', z⟩ := N a m
      rw [ho] at ho'; cases ho'
      rcases z with ⟨_, _, z⟩ | ⟨_, z⟩ | ⟨_, _, z⟩
      · rw [hd] at z; cases z
      · rw [hd] at z; cases z
      · rw [z] at hd; cases hd
    obtain ⟨o', ho', q⟩ := x.keep a o ho n1 n2
    exact ⟨x.notin ho n1, o', ho', ⟨q.1.trans hc.1, q.2.2.1.trans hc.2⟩, vs, q.2.1.trans hd⟩

structure Frm (G : Gd) (tbl : List Str) (P : List Addr) (env : Env) (h : Heap) (ρ : List Addr) (loc : Loc) : Prop where
  kind : env.scope.kind = .function
  glob : env.globals = mainGlobals
  bi : env.builtins = builtinsNs
  ns : ∃ m, h.Ns env.locals m ∧ ∀ (i : Nat) (x : Str), tbl[i]? = some x → env.kindOf x = some .local → ∀ d, loc i = some d → ∃ v, m x = some v ∧ Rel G h ρ d v
  cell : ∀ (i : Nat) (x : Str), tbl[i]? = some x → (env.kindOf x = some .cell ∨ env.kindOf x = some .free) → ∃ c, env.cells.lookup x = some c ∧ ∃ ov, h.IsCell c ov ∧ ∀ d, loc i = some d → ∃ v, ov = some v ∧ Rel G h ρ d v
  cok : ∀ x c, env.cells.lookup x = some c → c ∉ ρ ∧ ∃ ov, h.IsCell c ov
  cinj : ∀ x y c, env.cells.lookup x = some c → env.cells.lookup y = some c → x = y
  lrho : env.locals ∉ ρ
  lP : env.locals ∈ P
  own : ∀ p, p ∈ P → G.h0.get? p = none ∧ (p = env.locals ∨ ∃ x, env.cells.lookup x = some p)
  tnd : tbl.Nodup

theorem Frm.nt {G : Gd} {tbl : List Str} {P : List Addr} {env : Env} {h : Heap} {ρ : List Addr} {loc : Loc} (F : Frm G tbl P env h ρ loc) : NT h P := by
  intro p m
  rcases (F.own p m).2 with rfl | ⟨x, e⟩
  · obtain ⟨mm, ⟨o, es, ep, ho, hd, _⟩, _⟩ := F.ns
    exact ⟨o, ho, .inl ⟨es, ep, hd⟩⟩
  · obtain ⟨_, ov, o, ho, hd⟩ := F.cok x p e
    exact ⟨o, ho, .inr (.inl ⟨ov, hd⟩)⟩

theorem ns_keep {P : List Addr} {h h' : Heap} {ρ ρ' : List Addr} (x : Ev P h ρ h' ρ') {L : Addr} {m : Str → Option Value} (n : h.Ns L m) (h1 : L ∉ ρ) (h2 : L ∉ P) : h'.Ns L m := by
  obtain ⟨o, es, ep, ho, hd, r⟩ := n
  obtain ⟨o', ho', q⟩ := x.keep L o ho h1 h2
  exact ⟨o', es, ep, ho', q.2.1.trans hd, r⟩
theorem cell_keep {P : List Addr} {h h' : Heap} {ρ ρ' : List Addr} (x : Ev P h ρ h' ρ') {c : Addr} {ov : Option Value} (n : h.IsCell c ov) (h1 : c ∉ ρ) (h2 : c ∉ P) : h'.IsCell c ov := by
  obtain ⟨o, ho, hd⟩ := n
  obtain ⟨o', ho', q⟩ := x.keep c o ho h1 h2
  exact ⟨o', ho', q.2.1.trans hd⟩

/-- a frame stands through what writes none of its own -/
theorem Frm.keep {G : Gd} {tbl : List Str} {P : List Addr} {env : Env} {s : Shared} {ρ : List Addr} {σ : Sto} {loc : Loc} {h' : Heap} {ρ' : List Addr} (F : Frm G tbl P env s.heap ρ loc) (I : Inv G s ρ σ) (x : Ev [] s.heap ρ h' ρ') :
    Frm G tbl P env h' ρ' loc where
  kind := F.kind
  glob := F.glob
  bi := F.bi
  ns := by
    obtain ⟨m, n, q⟩ := F.ns
    exact ⟨m, ns_keep x n F.lrho (fun m => nomatch m), fun i y e k d hd => let ⟨v, e1, e2⟩ := q i y e k d hd; ⟨v, e1, Rel.mono (x.stb I .nil) d v e2⟩⟩
  cell i y e k := by
    obtain ⟨c, e1, ov, n, q⟩ := F.cell i y e k
    exact ⟨c, e1, ov, cell_keep x n (F.cok y c e1).1 (fun m => nomatch m), fun d hd => let ⟨v, e1, e2⟩ := q d hd; ⟨v, e1, Rel.mono (x.stb I .nil) d v e2⟩⟩
  cok y c e := by
    obtain ⟨n, ov, o, ho, hd⟩ := F.cok y c e
    exact ⟨x.notin ho n, ov, cell_keep x ⟨o, ho, hd⟩ n (fun m => nomatch m)⟩
  cinj := F.cinj
  lrho := by
    obtain ⟨m, ⟨o, es, ep, ho, r⟩, q⟩ := F.ns
    exact x.notin ho F.lrho
  lP := F.lP
  own := F.own
  tnd := F.tnd

structure Room (n : Nat) (A : Around) : Prop where
  hd : A.handled = none
  depth : A.depth + n ≤ 900
  units : A.units + 10 * n ≤ 9000

theorem Room.le {n n' : Nat} {A : Around} (R : Room n A) (h : n' ≤ n) : Room n' A := ⟨R.hd, by have := R.depth; exact nLe fun hzz => linN [_, _, _] [lt1 (.n 900) (.a x1 x0), le1 x0 x2, le1 (.a x1 x2) (.n 900)] (Eq.refl true) hzz h this, by have := R.units; exact nLe fun hzz => linN [_, _, _] [lt1 (.n 9000) (.a x1 (.m 10 x0)), leW 10 x0 x2, le1 (.a x1 (.m 10 x2)) (.n 9000)] (Eq.refl true) hzz h this⟩

/-- the frames below: what the traceback of an exception looks at -/
noncomputable def FF (G : Gd) (h : Heap) (ρ : List Addr) (fs : List Env) : Prop :=
  ∀ e, e ∈ fs → e.scope.kind ≠ .module ∧ ∃ L o es n, e.frame = some L ∧ G.h0.get? L = none ∧ L ∉ ρ ∧ h.get? L = some o ∧ o.data = .dict es n
theorem FF.fun {G : Gd} {h : Heap} {ρ : List Addr} : ∀ {fs : List Env}, FF G h ρ fs → h.FunFrames G.h0 fs
  | [], _ => trivial
  | e :: r, x => by
    obtain ⟨hk, L, o, es, n, hf, h0, _, ho, hd⟩ := x e List.mem_cons_self
    exact ⟨hk, ⟨L, o, hf, h0, ho, fun vs z => by rw [hd] at z; cases z⟩, FF.fun fun e' m => x e' (List.mem_cons_of_mem _ m)⟩
structure Stk (G : Gd) (A : Around) (env : Env) (h : Heap) (ρ : List Addr) : Prop where
  fr : ∃ fenv outer L, A.frames = some (fenv :: outer) ∧ fenv.frame = some L ∧ env.frame = some L
  ff : ∀ fs, A.frames = some fs → FF G h ρ fs

theorem FF.keep {G : Gd} {h h' : Heap} {ρ ρ' : List Addr} (x : Ev [] h ρ h' ρ') {fs : List Env} (f : FF G h ρ fs) : FF G h' ρ' fs := fun e m => by
  obtain ⟨hk, L, o, es, n, hf, h0, hr, ho, hd⟩ := f e m
  obtain ⟨o', ho', q⟩ := x.keep L o ho hr (fun m => nomatch m)
  exact ⟨hk, L, o', es, n, hf, h0, x.notin ho hr, ho', q.2.1.trans hd⟩
theorem FF.keepF {G : Gd} {h h' : Heap} {ρ ρ' : List Addr} {tbl : List Str} {P : List Addr} {env : Env} {loc loc' : Loc} (x : Ev P h ρ h' ρ') (F : Frm G tbl P env h ρ loc) (F' : Frm G tbl P env h' ρ' loc') {fs : List Env} (f : FF G h ρ fs) : FF G h' ρ' fs := fun e m => by
  obtain ⟨hk, L, o, es, n, hf, h0, hr, ho, hd⟩ := f e m
  by_cases mp : L ∈ P
  · rcases (F.own L mp).2 with rfl | ⟨y, e'⟩
    · obtain ⟨mm, ⟨o', es', ep', ho', hd', _⟩, _⟩ := F'.ns
      exact ⟨hk, env.locals, o', es', ep', hf, h0, F'.lrho, ho', hd'⟩
    · obtain ⟨_, ov, o', ho', hd'⟩ := F.cok y L e'
      rw [ho] at ho'; cases ho'
      rw [hd] at hd'; cases hd'
  · obtain ⟨o', ho', q⟩ := x.keep L o ho hr mp
    exact ⟨hk, L, o', es, n, hf, h0, x.notin ho hr, ho', q.2.1.trans hd⟩

/-- an exception of an own class in flight, new since the heap had n objects -/
inductive FlyB (n : Nat) (h : Heap) (a : Addr) (vs : Array Value) : Prop
  | mk (T : Addr) (oT : Obj) (ts : Array Value) : vs[1]? = some (.ref T) → T ≠ a → n ≤ T → h.get? T = some oT → oT.cls = .type "traceback" → oT.data = .fields ts → (x : Value) → ts[3]? = some x → FlyB n h a vs
inductive Fly (n : Nat) (h : Heap) (_f : Option Addr) (a c : Addr) : Prop
  | mk : n ≤ a → (o : Obj) → (vs : Array Value) → h.get? a = some o → ExcO o c → o.data = .fields vs → 5 < vs.size → (vs[1]? = some .none ∨ FlyB n h a vs) → Fly n h _f a c

/-- names and their places; how deep calls may go -/
structure Cx where
  names : List (Str × NameKind)
  tbl : List Str
  lvl : Nat
  /-- in a handler -/
  inh : Bool
  /-- the code that runs -/
  code : Value
  qual : Str

structure RoomC (C : Cx) (A : Around) : Prop where
  hd : C.inh = false → A.handled = none
  depth : A.depth + C.lvl ≤ 900
  units : A.units + 10 * C.lvl ≤ 9000
theorem RoomC.room {C : Cx} {A : Around} (R : RoomC C A) (h : C.inh = false) : Room C.lvl A := ⟨R.hd h, R.depth, R.units⟩

structure Sees (names : List (Str × NameKind)) (env : Env) : Prop where
  loc : ∀ x, names.lookup x = some .local → env.kindOf x = some .local
  cell : ∀ x, names.lookup x = some .cell → env.kindOf x = some .cell
  free : ∀ x, names.lookup x = some .free → env.kindOf x = some .cell ∨ env.kindOf x = some .free
  glob : ∀ x, names.lookup x = some .globalImplicit → env.kindOf x = some .globalImplicit

structure Ok (G : Gd) (C : Cx) (A : Around) (P : List Addr) (env : Env) (s : Shared) (ρ : List Addr) (st : St) : Prop where
  room : RoomC C A
  sees : Sees C.names env
  inv : Inv G s ρ st.sto
  frm : Frm G C.tbl P env s.heap ρ st.loc
  stk : Stk G A env s.heap ρ
  code : C.code = .none ∨ env.code = C.code
  qual : C.code = .none ∨ env.qual = C.qual

inductive ExcE {α : Type} (G : Gd) (env : Env) (s : Shared) (ρ : List Addr) (st : St) (r : Out α) (x : Value) (s' : Shared) : Prop
  | mk (ρ' : List Addr) (c : Addr) (σ' : Sto) (a : Addr) : r = .exc c ⟨st.loc, σ'⟩ → Inv G s' ρ' σ' → Ev [] s.heap ρ s'.heap ρ' → x = .ref a → Fly s.heap.objs.size s'.heap env.frame a c → ExcE G env s ρ st r x s'

noncomputable abbrev Gd.M (G : Gd) : Model := model G.prog G.w

theorem Stk.step {G : Gd} {A : Around} {env : Env} {h h' : Heap} {ρ ρ' : List Addr} (S : Stk G A env h ρ) (x : Ev [] h ρ h' ρ') : Stk G A env h' ρ' := ⟨S.fr, fun fs e => (S.ff fs e).keep x⟩

theorem Ok.step {G : Gd} {C : Cx} {A : Around} {P : List Addr} {env : Env} {s : Shared} {ρ : List Addr} {st : St} (K : Ok G C A P env s ρ st) {s' : Shared} {ρ' : List Addr} {σ' : Sto}
    (I' : Inv G s' ρ' σ') (x : Ev [] s.heap ρ s'.heap ρ') : Ok G C A P env s' ρ' ⟨st.loc, σ'⟩ :=
  ⟨K.room, K.sees, I', K.frm.keep K.inv x, K.stk.step x, K.code, K.qual⟩

theorem Fly.from {n₀ n₁ : Nat} {h₂ : Heap} {f : Option Addr} {a c : Addr} (F : Fly n₁ h₂ f a c) (hk : n₀ ≤ n₁) : Fly n₀ h₂ f a c := by
  obtain ⟨h1, o, vs, e1, e2, e3, e4, e5⟩ := F
  exact ⟨Nat.le_trans hk h1, o, vs, e1, e2, e3, e4, e5.imp id fun ⟨T, oT, ts, q1, q2, q3, q4, q5, q6, q7, q8⟩ => ⟨T, oT, ts, q1, q2, Nat.le_trans hk q3, q4, q5, q6, q7, q8⟩⟩

theorem bnd_ne_bot {α β : Type} {m : Mn α} {f : α → Mn β} {st : St} (h : bnd m f st ≠ .bot) : m st ≠ .bot := fun e => h (by simp only [bnd, e])
end Mine

end

/- part F2 -/
section
set_option Elab.async false
set_option linter.unusedVariables false
namespace Mine
open PySem

section
variable {G : Gd} {C : Cx} {A : Around} {P : List Addr} {env : Env} {s : Shared} {ρ : List Addr} {σ : Sto} {st : St}

/-! growth: all that was is as it was -/
noncomputable def Grow (h h' : Heap) : Prop := ∀ b o, h.get? b = some o → h'.get? b = some o
theorem Grow.refl (h : Heap) : Grow h h := fun _ _ e => e
theorem Grow.trans {a b c : Heap} (x : Grow a b) (y : Grow b c) : Grow a c := fun k o e => y k o (x k o e)
theorem Grow.push (h : Heap) (o : Obj) : Grow h (h.push o) := fun _ _ e => Heap.get?_push_of_some o e
theorem size_push_le {h : Heap} {o : Obj} : h.objs.size ≤ (h.push o).objs.size := by rw [Heap.size_push]; omega
theorem Grow.ev {h h' : Heap} (g : Grow h h') (z : h.objs.size ≤ h'.objs.size) : Ev P h ρ h' ρ := ⟨fun _ _ e => e, fun b o e _ _ => ⟨o, g b o e, .refl o⟩, fun _ m => .inl m, z⟩
theorem Grow.stb {h h' : Heap} (g : Grow h h') : Stb h ρ h' ρ :=
  ⟨fun _ _ e => e, fun a _ n1 t => let ⟨n, ho⟩ := t; ⟨n1, n, g a _ ho⟩, fun a _ n1 t => let ⟨o, ho, r⟩ := t; ⟨n1, o, g a o ho, r⟩⟩
theorem Grow.ext {h h' : Heap} (g : Grow h h') {ρ' : List Addr} (hp : ∀ (k : Nat) (a : Addr), ρ[k]? = some a → ρ'[k]? = some a) (hn : ∀ a o, a ∉ ρ → h.get? a = some o → (o.cls = .type "tuple" ∨ ∃ c, o.cls = .ref c) → a ∉ ρ') : Stb h ρ h' ρ' :=
  ⟨hp, fun a _ n1 t => let ⟨n, ho⟩ := t; ⟨hn a _ n1 ho (.inl rfl), n, g a _ ho⟩, fun a _ n1 t => let ⟨o, ho, hc, r⟩ := t; ⟨hn a o n1 ho (.inr ⟨_, hc.1⟩), o, g a o ho, hc, r⟩⟩
theorem Grow.list {h h' : Heap} (g : Grow h h') {a : Addr} {vs : Array Value} (x : h.IsList a vs) : h'.IsList a vs := let ⟨o, ho, r⟩ := x; ⟨o, g a o ho, r⟩
theorem ints_kind {G : Gd} {vs : List Value} {k : List Int} (h : IsInts vs k) : ItemsAre (intKind G.prog G.w) k vs := by
  induction h with
  | nil => exact .nil
  | cons h _ ih => obtain ⟨t, rfl⟩ := h; exact .cons (by simp [intKind, Value.isInt]) ih
theorem KeyT.is {G : Gd} {h : Heap} {a : Addr} {k : List Int} (x : KeyT h a k) : (keyKd G).is h k a := let ⟨vs, ⟨n, e⟩, r⟩ := x; ⟨_, vs, n, e, rfl, rfl, ints_kind r⟩
theorem KeyT.mono {h h' : Heap} {ρ ρ' : List Addr} (S : Stb h ρ h' ρ') {a : Addr} {k : List Int} (n : a ∉ ρ) (x : KeyT h a k) : a ∉ ρ' ∧ KeyT h' a k := let ⟨vs, t, r⟩ := x; let ⟨n', t'⟩ := S.tup a vs n t; ⟨n', vs, t', r⟩
theorem ObjRel.mono {h h' : Heap} {ρ ρ' : List Addr} (S : Stb h ρ h' ρ') {a : Addr} (hk : ∀ o, h.get? a = some o → h'.get? a = some o) (hz : h.objs.size ≤ h'.objs.size) {o : PO} (x : ObjRel G h ρ a o) : ObjRel G h' ρ' a o := by
  cases o with
  | list ds =>
    obtain ⟨vs, ⟨n, ho⟩, r⟩ := x
    exact ⟨vs, ⟨n, hk _ ho⟩, RelL.mono S _ _ r⟩
  | dict kvs =>
    obtain ⟨xs, ⟨o, es, ep, ho, hx, hd, he, hi, hn⟩, hs, e, r⟩ := x
    have r' := fun x m => (r x m).2.mono S (r x m).1
    exact ⟨xs, ⟨o, es, ep, hk _ ho, hx, hd, he, fun x m => (r' x m).2.is, hn⟩, hs, e, r'⟩
  | priv =>
    obtain ⟨u, v, ho⟩ := x
    exact ⟨u, v, hk _ ho⟩
  | ctab PP l c q k =>
    cases k with
    | none => exact ⟨x.1, hk _ x.2⟩
    | some k => obtain ⟨e0, c', e, ho⟩ := x; exact ⟨e0, c', S.pre _ _ e, hk _ ho⟩
  | code q => obtain ⟨o, vs, t, ho, r⟩ := x; exact ⟨o, vs, t, hk _ ho, r⟩

theorem Inv.grow (I : Inv G s ρ σ) {h' : Heap} (g : Grow s.heap h') (z : s.heap.objs.size ≤ h'.objs.size) (t : Nat) : Inv G { s with heap := h', toks := t } ρ σ where
  base b o e := g b o (I.base b o e)
  new := I.new
  nodup := I.nodup
  len := I.len
  sto k a o e1 e2 := (I.sto k a o e1 e2).mono g.stb (fun o ho => g a o ho) z
  os := I.os
  gens := I.gens
theorem Inv.tok (I : Inv G s ρ σ) (t : Nat) : Inv G { s with toks := t } ρ σ := I.grow (Grow.refl _) (Nat.le_refl _) t

theorem Inv.size_notin (I : Inv G s ρ σ) : s.heap.objs.size ∉ ρ := fun m => Nat.lt_irrefl _ (I.mem_lt m)
theorem Inv.h0_le (I : Inv G s ρ σ) {a : Addr} (h : s.heap.objs.size ≤ a) : G.h0.get? a = none := by
  cases q : G.h0.get? a with
  | none => rfl
  | some o => exact absurd (Heap.lt_size (I.base _ _ q)) (Nat.not_lt.mpr h)
theorem Inv.h0_size (I : Inv G s ρ σ) : G.h0.get? s.heap.objs.size = none := I.h0_le (Nat.le_refl _)

theorem pre_append {α : Type} {ρ : List α} {a : α} : ∀ (k : Nat) (b : α), ρ[k]? = some b → (ρ ++ [a])[k]? = some b := fun k b e => by
  rw [List.getElem?_append_left (List.getElem?_eq_some_iff.mp e).1]; exact e

/-- an object that is there becomes one of the store's -/
theorem Inv.adopt (I : Inv G s ρ σ) {q : Addr} {p : PO} (h0 : G.h0.get? q = none) (hq : q ∉ ρ) (hnt : ∀ o, s.heap.get? q = some o → o.cls ≠ .type "tuple" ∧ ∀ c, o.cls ≠ .ref c)
    (hr : Stb s.heap ρ s.heap (ρ ++ [q]) → ObjRel G s.heap (ρ ++ [q]) q p) (t : Nat) : Inv G { s with toks := t } (ρ ++ [q]) (σ ++ [p]) ∧ Stb s.heap ρ s.heap (ρ ++ [q]) := by
  have S : Stb s.heap ρ s.heap (ρ ++ [q]) := (Grow.refl s.heap).ext pre_append fun a o n1 ho hc m => by
    rcases List.mem_append.mp m with m | m
    · exact n1 m
    · rw [List.mem_singleton.mp m] at ho
      rcases hc with hc | ⟨c, hc⟩
      · exact (hnt o ho).1 hc
      · exact (hnt o ho).2 c hc
  refine ⟨⟨I.base, fun a m => ?_, ?_, by simp [I.len], fun k a p' e1 e2 => ?_, I.os, I.gens⟩, S⟩
  · rcases List.mem_append.mp m with m | m
    · exact I.new a m
    · rw [List.mem_singleton.mp m]; exact h0
  · refine List.nodup_append.mpr ⟨I.nodup, by simp, fun a m b m' e => ?_⟩
    rw [List.mem_singleton.mp m'] at e
    exact hq (e ▸ m)
  · by_cases hk : k < ρ.length
    · rw [List.getElem?_append_left hk] at e1
      rw [List.getElem?_append_left (by rw [← I.len]; exact hk)] at e2
      exact (I.sto k a p' e1 e2).mono S (fun o' ho' => ho') (Nat.le_refl _)
    · have : k = ρ.length := by
        have := (List.getElem?_eq_some_iff.mp e1).1
        simp at this
        omega
      subst this
      simp at e1
      rw [I.len] at e2
      simp at e2
      subst e1 e2
      exact hr S
theorem ev_adopt {h h' : Heap} {ρ' : List Addr} {q : Addr} (x : Ev P h ρ h' ρ') (hq : h.objs.size ≤ q) : Ev P h ρ h' (ρ' ++ [q]) where
  pre k a e := pre_append k a (x.pre k a e)
  keep := x.keep
  newp a m := by
    rcases List.mem_append.mp m with m | m
    · exact x.newp a m
    · rw [List.mem_singleton.mp m]; exact .inr hq
  size := x.size

/-- a new object of the store -/
theorem Inv.alloc (I : Inv G s ρ σ) {o : Obj} {p : PO} (hnt : o.cls ≠ .type "tuple" ∧ ∀ c, o.cls ≠ .ref c) (hf : o.isFreed = false)
    (hr : Stb s.heap ρ (s.heap.push o) (ρ ++ [s.heap.objs.size]) → ObjRel G (s.heap.push o) (ρ ++ [s.heap.objs.size]) s.heap.objs.size p) (t : Nat) :
    Inv G { s with heap := s.heap.push o, toks := t } (ρ ++ [s.heap.objs.size]) (σ ++ [p]) ∧ (∀ P, Ev P s.heap ρ (s.heap.push o) (ρ ++ [s.heap.objs.size])) := by
  have g := Grow.push s.heap o
  have I1 := I.grow g size_push_le t
  have x1 : ∀ P, Ev P s.heap ρ (s.heap.push o) ρ := fun P => g.ev size_push_le
  have S0 : Stb s.heap ρ (s.heap.push o) ρ := g.stb
  have := I1.adopt (q := s.heap.objs.size) (p := p) I.h0_size I.size_notin (fun o' ho' => by
    have ho'' : (s.heap.push o).get? s.heap.objs.size = some o' := ho'
    rw [Heap.get?_push_size _ hf] at ho''; cases ho''; exact hnt) (fun S => hr ⟨S.pre, fun a vs n1 t => let ⟨n2, t2⟩ := S0.tup a vs n1 t; S.tup a vs n2 t2, fun a c n1 t => let ⟨n2, t2⟩ := S0.exc a c n1 t; S.exc a c n2 t2⟩) t
  exact ⟨this.1, fun P => ev_adopt (x1 P) (Nat.le_refl _)⟩

/-- an object of the store changes -/
theorem Inv.put (I : Inv G s ρ σ) {k : Nat} {a : Addr} {p : PO} {h' : Heap} (hk : ρ[k]? = some a) (hs : Heap.SameBut a s.heap h')
    (hr : Stb s.heap ρ h' ρ → ObjRel G h' ρ a p) (t : Nat) : Inv G { s with heap := h', toks := t } ρ (σ.set k p) ∧ ∀ P, Ev P s.heap ρ h' ρ := by
  have ha : a ∈ ρ := List.mem_of_getElem? hk
  have keep : ∀ b o, b ≠ a → s.heap.get? b = some o → h'.get? b = some o := fun b o n e => (hs.2 b n).trans e
  have hz : s.heap.objs.size ≤ h'.objs.size := Nat.le_of_eq hs.1.symm
  have S : Stb s.heap ρ h' ρ := ⟨fun _ _ e => e, fun b items n1 t => by
      obtain ⟨n, ho⟩ := t
      exact ⟨n1, n, keep b _ (fun e => n1 (e ▸ ha)) ho⟩, fun b c n1 t => by
      obtain ⟨o, ho, hc, vs, hd⟩ := t
      exact ⟨n1, o, keep b o (fun e => n1 (e ▸ ha)) ho, hc, vs, hd⟩⟩
  refine ⟨⟨fun b o e => keep b o (fun q => ?_) (I.base b o e), I.new, I.nodup, by simp [I.len], fun j b p' e1 e2 => ?_, I.os, I.gens⟩,
    fun P => ⟨fun _ _ e => e, fun b o e n _ => ⟨o, keep b o (fun q => n (q ▸ ha)) e, .refl o⟩, fun _ m => .inl m, hz⟩⟩
  · rw [q, I.new a ha] at e; cases e
  · by_cases hj : j = k
    · subst hj
      rw [hk] at e1; cases e1
      rw [List.getElem?_set_self (by rw [← I.len]; exact (List.getElem?_eq_some_iff.mp hk).1)] at e2
      cases e2
      exact hr S
    · rw [List.getElem?_set_ne (Ne.symm hj)] at e2
      have hb : b ≠ a := fun q => hj (nodup_getElem_inj I.nodup (q ▸ e1) hk)
      exact (I.sto j b p' e1 e2).mono S (fun o ho => keep b o hb ho) hz

/-- an iterator's object: new, of a built-in class, with fields -/
noncomputable def Itr (G : Gd) (h : Heap) (ρ : List Addr) (q : Addr) : Prop := G.h0.get? q = none ∧ q ∉ ρ ∧ ∃ o T vs, h.get? q = some o ∧ o.cls = .type T ∧ T ≠ "tuple" ∧ o.data = .fields vs
/-- all but S is as it was -/
noncomputable def Only (S : List Addr) (h h' : Heap) : Prop := (∀ b o, b ∉ S → h.get? b = some o → h'.get? b = some o) ∧ h.objs.size ≤ h'.objs.size ∧ ∀ q, q ∈ S → Prv h q → Prv h' q
theorem only1 {I : Addr} {h h' : Heap} (k : ∀ b o, b ≠ I → h.get? b = some o → h'.get? b = some o) (z : h.objs.size ≤ h'.objs.size) (np : ¬ Prv h I) : Only [I] h h' :=
  ⟨fun b o n e => k b o (fun q => n (by simp [q])) e, z, fun q m p => absurd (List.mem_singleton.mp m ▸ p) np⟩
theorem only_refl {S : List Addr} {h : Heap} : Only S h h := ⟨fun _ _ _ e => e, Nat.le_refl _, fun _ _ p => p⟩
theorem Itr.notPrv {h : Heap} {q : Addr} (i : Itr G h ρ q) : ¬ Prv h q := fun ⟨x, y, e⟩ => by
  obtain ⟨_, _, o, T, vs, ho, _, _, hd⟩ := i
  rw [e] at ho; cases ho; cases hd

/-- q may be written by an iterator's step: its own object, or a private tuple of the store -/
noncomputable def Own (G : Gd) (h : Heap) (ρ : List Addr) (σ : Sto) (q : Addr) : Prop := (Itr G h ρ q ∨ (G.h0.get? q = none ∧ q ∉ ρ ∧ ∃ vs, IsLst h q vs)) ∨ ∃ k : Nat, ρ[k]? = some q ∧ σ[k]? = some .priv

theorem Only.stb {S : List Addr} {h h' : Heap} (x : Only S h h') (i : ∀ q, q ∈ S → Own G h ρ σ q) : Stb h ρ h' ρ :=
  ⟨fun _ _ e => e, fun b items n1 t => by
      obtain ⟨n, ho⟩ := t
      refine ⟨n1, n, x.1 b _ (fun m => ?_) ho⟩
      rcases i b m with (⟨_, _, o', T, vs, ho', hc', hT, _⟩ | ⟨_, _, vs, nn, ho'⟩) | ⟨k, e, _⟩
      · rw [ho] at ho'; cases ho'
        cases hc'; exact hT rfl
      · rw [ho] at ho'; exact tup_ne_lst (Option.some.inj ho')
      · exact n1 (List.mem_of_getElem? e), fun b c n1 t => by
      obtain ⟨o, ho, hc, vs, hd⟩ := t
      refine ⟨n1, o, x.1 b o (fun m => ?_) ho, hc, vs, hd⟩
      rcases i b m with (⟨_, _, o', T, vs, ho', hc', hT, _⟩ | ⟨_, _, vs, nn, ho'⟩) | ⟨k, e, _⟩
      · rw [ho] at ho'; cases ho'
        rw [hc.1] at hc'; cases hc'
      · rw [ho] at ho'; cases ho'
        cases hc.1
      · exact n1 (List.mem_of_getElem? e)⟩

theorem Inv.only (I : Inv G s ρ σ) {S : List Addr} {h' : Heap} (x : Only S s.heap h') (i : ∀ q, q ∈ S → Own G s.heap ρ σ q) (t : Nat) : Inv G { s with heap := h', toks := t } ρ σ where
  base b o e := x.1 b o (fun m => by
    rcases i b m with (z | z) | ⟨k, z, _⟩
    · rw [z.1] at e; cases e
    · rw [z.1] at e; cases e
    · rw [I.new b (List.mem_of_getElem? z)] at e; cases e) (I.base b o e)
  new := I.new
  nodup := I.nodup
  len := I.len
  sto k a o e1 e2 := by
    by_cases m : a ∈ S
    · rcases i a m with (z | z) | ⟨k', z1, z2⟩
      · exact absurd (List.mem_of_getElem? e1) z.2.1
      · exact absurd (List.mem_of_getElem? e1) z.2.1
      · have := nodup_getElem_inj I.nodup e1 z1
        subst this
        rw [z2] at e2; cases e2
        exact x.2.2 a m (I.sto k a .priv e1 z2)
    · exact (I.sto k a o e1 e2).mono (x.stb i) (fun o ho => x.1 a o m ho) x.2.1
  os := I.os
  gens := I.gens

theorem Own.ne_dict {h : Heap} {q : Addr} (z : Own G h ρ σ q) (hr : q ∉ ρ) {o : Obj} (ho : h.get? q = some o) : (∀ es n, o.data ≠ .dict es n) ∧ ∀ v, o.data ≠ .cell v := by
  rcases z with (⟨_, _, o', T, vs, ho', _, _, hd'⟩ | ⟨_, _, vs, nn, ho'⟩) | ⟨k, e, _⟩
  · rw [ho] at ho'; cases ho'; rw [hd']; exact ⟨fun _ _ z => (by cases z), fun _ z => by cases z⟩
  · rw [ho] at ho'; cases ho'; exact ⟨fun _ _ z => (by cases z), fun _ z => by cases z⟩
  · exact absurd (List.mem_of_getElem? e) hr

theorem Frm.only {tbl : List Str} {loc : Loc} (F : Frm G tbl P env s.heap ρ loc) {S : List Addr} {h' : Heap} (x : Only S s.heap h') (i : ∀ q, q ∈ S → Own G s.heap ρ σ q) : Frm G tbl P env h' ρ loc where
  kind := F.kind
  glob := F.glob
  bi := F.bi
  ns := by
    obtain ⟨m, ⟨o, es, ep, ho, hd, r⟩, q⟩ := F.ns
    refine ⟨m, ⟨o, es, ep, x.1 _ o (fun mm => ?_) ho, hd, r⟩, fun i' y e k d hd => let ⟨v, e1, e2⟩ := q i' y e k d hd; ⟨v, e1, Rel.mono (x.stb i) d v e2⟩⟩
    exact ((i _ mm).ne_dict F.lrho ho).1 _ _ hd
  cell i' y e k := by
    obtain ⟨c, e1, ov, ⟨o, ho, hd⟩, q⟩ := F.cell i' y e k
    refine ⟨c, e1, ov, ⟨o, x.1 c o (fun mm => ?_) ho, hd⟩, fun d hd => let ⟨v, e1, e2⟩ := q d hd; ⟨v, e1, Rel.mono (x.stb i) d v e2⟩⟩
    exact ((i _ mm).ne_dict (F.cok y c e1).1 ho).2 _ hd
  cok y c e := by
    obtain ⟨n, ov, o, ho, hd⟩ := F.cok y c e
    refine ⟨n, ov, o, x.1 c o (fun mm => ?_) ho, hd⟩
    exact ((i _ mm).ne_dict n ho).2 _ hd
  cinj := F.cinj
  lrho := F.lrho
  lP := F.lP
  own := F.own
  tnd := F.tnd

theorem Stk.only (K : Stk G A env s.heap ρ) {S : List Addr} {h' : Heap} (x : Only S s.heap h') (i : ∀ q, q ∈ S → Own G s.heap ρ σ q) : Stk G A env h' ρ :=
  ⟨K.fr, fun fs e en m => by
    obtain ⟨hk, L, o, es, n, hf, h0, hr, ho, hd⟩ := K.ff fs e en m
    refine ⟨hk, L, o, es, n, hf, h0, hr, x.1 L o (fun mm => ?_) ho, hd⟩
    exact ((i _ mm).ne_dict hr ho).1 _ _ hd⟩

theorem Ok.only (K : Ok G C A P env s ρ st) {S : List Addr} {h' : Heap} (x : Only S s.heap h') (i : ∀ q, q ∈ S → Own G s.heap ρ st.sto q) (t : Nat) : Ok G C A P env { s with heap := h', toks := t } ρ st :=
  ⟨K.room, K.sees, K.inv.only x i t, K.frm.only x i, K.stk.only x i, K.code, K.qual⟩
theorem Ok.tok (K : Ok G C A P env s ρ st) (t : Nat) : Ok G C A P env { s with toks := t } ρ st := ⟨K.room, K.sees, K.inv.tok t, K.frm, K.stk, K.code, K.qual⟩
theorem Ok.grow (K : Ok G C A P env s ρ st) {h' : Heap} (g : Grow s.heap h') (z : s.heap.objs.size ≤ h'.objs.size) (t : Nat) : Ok G C A P env { s with heap := h', toks := t } ρ st := by
  have := K.step (K.inv.grow g z t) (Grow.ev (P := []) (ρ := ρ) g z)
  exact this

theorem Ev.only {hs h h' : Heap} {ρs : List Addr} (x : Ev P hs ρs h ρ) {S : List Addr} (y : Only S h h') (n : ∀ q, q ∈ S → hs.objs.size ≤ q ∨ q ∈ ρs) : Ev P hs ρs h' ρ where
  pre := x.pre
  keep b o e n1 n2 := by
    obtain ⟨o', e', q⟩ := x.keep b o e n1 n2
    exact ⟨o', y.1 b o' (fun m => (n b m).elim (fun z => Nat.lt_irrefl _ (Nat.lt_of_lt_of_le (Heap.lt_size e) z)) n1) e', q⟩
  newp := x.newp
  size := Nat.le_trans x.size y.2.1

theorem Itr.keep {h' : Heap} {ρ' : List Addr} {q : Addr} (i : Itr G s.heap ρ q) (x : Ev P s.heap ρ h' ρ') (F : NT s.heap P) : Itr G h' ρ' q ∧ h'.get? q = s.heap.get? q := by
  obtain ⟨h1, h2, o, T, vs, ho, hc, hT, hd⟩ := i
  obtain ⟨o', ho', e⟩ := x.keep q o ho h2 (fun m => by
    obtain ⟨o', ho', z⟩ := F q m
    rw [ho] at ho'; cases ho'
    rcases z with ⟨_, _, z⟩ | ⟨_, z⟩ | ⟨_, _, z⟩
    · rw [hd] at z; cases z
    · rw [hd] at z; cases z
    · rw [z] at hd; cases hd)
  have e' := e.eq (fun es n z => by rw [hd] at z; cases z)
  subst e'
  exact ⟨⟨h1, x.notin ho h2, o', T, vs, ho', hc, hT, hd⟩, ho'.trans ho.symm⟩
end
end Mine

end

/- part F3 -/
section
set_option Elab.async false
set_option linter.unusedVariables false
namespace Mine
open PySem PyProof.Rows

inductive OkE {α β : Type} (G : Gd) (s : Shared) (ρ : List Addr) (st : St) (R : Heap → List Addr → β → α → Prop) (r : Out β) (v : α) (s' : Shared) : Prop
  | mk (ρ' : List Addr) (d : β) (σ' : Sto) : r = .ok d ⟨st.loc, σ'⟩ → Inv G s' ρ' σ' → Ev [] s.heap ρ s'.heap ρ' → R s'.heap ρ' d v → OkE G s ρ st R r v s'
theorem OkE.elim {α β : Type} {G : Gd} {s s' : Shared} {ρ : List Addr} {st : St} {R : Heap → List Addr → β → α → Prop} {r : Out β} {v : α} {P : Prop} (q : OkE G s ρ st R r v s') (h : ∀ ρ' d σ', r = .ok d ⟨st.loc, σ'⟩ → Inv G s' ρ' σ' → Ev [] s.heap ρ s'.heap ρ' → R s'.heap ρ' d v → P) : P :=
  let ⟨ρ', d, σ', e, I, x, rr⟩ := q; h ρ' d σ' e I x rr
theorem OkE.tr {α β : Type} {G : Gd} {s s1 s' : Shared} {ρ ρ1 : List Addr} {st : St} {σ1 : Sto} {R : Heap → List Addr → β → α → Prop} {r : Out β} {v : α} (q : OkE G s1 ρ1 ⟨st.loc, σ1⟩ R r v s') (x : Ev [] s.heap ρ s1.heap ρ1) : OkE G s ρ st R r v s' :=
  let ⟨ρ', d, σ', e, I, x2, rr⟩ := q; ⟨ρ', d, σ', e, I, x.trans x2, rr⟩
theorem ExcE.imp {α β : Type} {G : Gd} {env : Env} {s s' : Shared} {ρ : List Addr} {st : St} {r : Out α} {r' : Out β} {x : Value} (q : ExcE G env s ρ st r x s') (h : ∀ c st', r = .exc c st' → r' = .exc c st') : ExcE G env s ρ st r' x s' :=
  let ⟨ρ', c, σ', a, e, q1, q2, q3, q4⟩ := q; ⟨ρ', c, σ', a, h _ _ e, q1, q2, q3, q4⟩
theorem ExcE.bnd {α β : Type} {G : Gd} {env : Env} {s s' : Shared} {ρ : List Addr} {st : St} {m : Mn α} {f : α → Mn β} {x : Value} (q : ExcE G env s ρ st (m st) x s') : ExcE G env s ρ st (bnd m f st) x s' := q.imp fun _ _ e => by simp only [Mine.bnd, e]
theorem ExcE.tr {α : Type} {G : Gd} {env : Env} {s s1 s' : Shared} {ρ ρ1 : List Addr} {st : St} {σ1 : Sto} {r : Out α} {x : Value} (q : ExcE G env s1 ρ1 ⟨st.loc, σ1⟩ r x s') (y : Ev [] s.heap ρ s1.heap ρ1) : ExcE G env s ρ st r x s' :=
  let ⟨ρ', c, σ', a, e, I, x2, ex, fl⟩ := q; ⟨ρ', c, σ', a, e, I, y.trans x2, ex, fl.from y.size⟩
/-- from this state the tree t does what m does, the results related by R -/
noncomputable def At {α β : Type} (G : Gd) (A : Around) (env : Env) (s : Shared) (ρ : List Addr) (st : St) (R : Heap → List Addr → β → α → Prop) (t : Sem α) (m : Mn β) : Prop :=
  m st ≠ .bot → wpAny G.M A t (OkE G s ρ st R (m st)) (ExcE G env s ρ st (m st)) s

noncomputable abbrev RV (G : Gd) : Heap → List Addr → D → Value → Prop := fun h ρ d v => Rel G h ρ d v
noncomputable abbrev RB : Heap → List Addr → Bool → Bool → Prop := fun _ _ b c => b = c
noncomputable abbrev RVs (G : Gd) : Heap → List Addr → List D → List Value → Prop := fun h ρ ds vs => RelL G h ρ ds vs

/-- an expression -/
structure SE (G : Gd) (C : Cx) (e : Expr) (m : Mn D) : Prop where
  run : ∀ A P env s ρ st, Ok G C A P env s ρ st → At G A env s ρ st (RV G) (eval e env) m
/-- a test -/
structure SB (G : Gd) (C : Cx) (e : Expr) (m : Mn Bool) : Prop where
  run : ∀ A P env s ρ st, Ok G C A P env s ρ st → At G A env s ρ st RB (isTrue e env (eval e env)) m
/-- arguments -/
structure SA (G : Gd) (C : Cx) (es : List Expr) (m : Mn (List D)) : Prop where
  run : ∀ A P env s ρ st pos, Ok G C A P env s ρ st → At G A env s ρ st (RVs G) (spliced (backTo pos (starEach es env))) m

section
variable {α β γ δ : Type} {G : Gd} {C : Cx} {A : Around} {P : List Addr} {env : Env} {s : Shared} {ρ : List Addr} {st : St}

theorem At.bind {R : Heap → List Addr → β → α → Prop} {R' : Heap → List Addr → δ → γ → Prop} {t : Sem α} {m : Mn β} {k : α → Sem γ} {f : β → Mn δ} (K : Ok G C A P env s ρ st) (h1 : At G A env s ρ st R t m)
    (h2 : ∀ v s' ρ' d σ', Ok G C A P env s' ρ' ⟨st.loc, σ'⟩ → Ev [] s.heap ρ s'.heap ρ' → R s'.heap ρ' d v → At G A env s' ρ' ⟨st.loc, σ'⟩ R' (k v) (f d)) :
    At G A env s ρ st R' (t >>= k) (bnd m f) := fun hb => by
  refine wpAny_bind (wpAny_mono (h1 (bnd_ne_bot hb)) (fun v s' q => ?_) fun x s' q => ?_)
  · refine OkE.elim q fun ρ' d σ' e I' x r => ?_
    have e' : bnd m f st = f d ⟨st.loc, σ'⟩ := by simp only [bnd, e]
    rw [e'] at hb ⊢
    refine wpAny_mono (h2 v s' ρ' d σ' (K.step I' x) x r hb) (fun w s'' q => ?_) fun w s'' q => ?_
    · exact OkE.tr q x
    · exact ExcE.tr q x
  · exact ExcE.bnd q
theorem At.hold {R : Heap → List Addr → β → α → Prop} {t : Sem α} {m : Mn β} {vs : List Value} (h : At G A env s ρ st R t m) : At G A env s ρ st R (holding vs t) m := fun hb => wpAny_holding (h hb)
theorem At.stand {R : Heap → List Addr → β → α → Prop} {t : Sem α} {m : Mn β} {p : Pos} (h : At G A env s ρ st R t m) : At G A env s ρ st R (standAt p >>= fun _ => t) m := fun hb => wpAny_bind (wpAny_standAt (h hb))
theorem At.ofEq {R : Heap → List Addr → β → α → Prop} {t t' : Sem α} {m : Mn β} (e : t = t') (h : At G A env s ρ st R t' m) : At G A env s ρ st R t m := e ▸ h
theorem At.pure {R : Heap → List Addr → β → α → Prop} {d : β} {v : α} (K : Ok G C A P env s ρ st) (h : R s.heap ρ d v) : At G A env s ρ st R (pure v) (ret1 d) := fun _ => wpAny_pure ⟨ρ, d, st.sto, rfl, K.inv, Ev.refl, h⟩
/-- a leaf: the tree ends in v, the heap only grown -/
theorem At.leaf {R : Heap → List Addr → β → α → Prop} {t : Sem α} {m : Mn β} (h : m st ≠ .bot → wpAny G.M A t (fun v s' => ∃ d, m st = .ok d st ∧ (∃ h' tk, s' = { s with heap := h', toks := tk } ∧ Grow s.heap h') ∧ R s'.heap ρ d v) (fun _ _ => False) s)
    (K : Ok G C A P env s ρ st) : At G A env s ρ st R t m := fun hb => by
  refine wpAny_mono (wpAny_size (h hb)) (fun v s' q => ?_) fun _ _ q => q.2.elim
  obtain ⟨z, d, e, ⟨h', tk, rfl, g⟩, r⟩ := q
  exact ⟨ρ, d, st.sto, e, K.inv.grow g z tk, g.ev z, r⟩
theorem Grow.same {s : Shared} {t : Nat} : ∃ h' tk, ({ s with toks := t } : Shared) = { s with heap := h', toks := tk } ∧ Grow s.heap h' := ⟨s.heap, t, rfl, .refl _⟩
theorem Grow.same0 {s : Shared} : ∃ h' tk, s = { s with heap := h', toks := tk } ∧ Grow s.heap h' := ⟨s.heap, s.toks, rfl, .refl _⟩
theorem At.map {R : Heap → List Addr → β → α → Prop} {R' : Heap → List Addr → δ → γ → Prop} {t : Sem α} {m : Mn β} {f : β → δ} {g : α → γ} (h : At G A env s ρ st R t m)
    (hr : ∀ h ρ d v, R h ρ d v → R' h ρ (f d) (g v)) : At G A env s ρ st R' (t >>= fun v => Pure.pure (g v)) (bnd m fun d => ret1 (f d)) := fun hb => by
  refine wpAny_bind (wpAny_mono (h (bnd_ne_bot hb)) (fun v s' q => ?_) fun x s' q => ?_)
  · refine OkE.elim q fun ρ' d σ' e I' x r => ?_
    exact wpAny_pure ⟨ρ', f d, σ', by simp only [bnd, e, ret1], I', x, hr _ _ _ _ r⟩
  · exact ExcE.bnd q
end

/-! values read -/
noncomputable def pvar (i : Nat) : Mn D := fun st => match st.loc i with
  | some d => .ok d st
  | none => .bot

section
variable {G : Gd} {C : Cx}

theorem se_int {i : Int} {k : Nat} {pos : Pos} : SE G C (.Constant (.int i) k pos) (ret1 (.int i)) := .mk <| fun A P env s ρ st K =>
  At.leaf (fun _ => wpAny_Constant_int ⟨_, rfl, Grow.same, ⟨_, rfl⟩⟩) K
theorem se_str {x : Str} {k : Nat} {pos : Pos} : SE G C (.Constant (.str x) k pos) (ret1 (.str x)) := .mk <| fun A P env s ρ st K =>
  At.leaf (fun _ => Calls.Constant_str ⟨_, rfl, Grow.same, ⟨_, rfl⟩⟩) K
theorem se_bool {b : Bool} {k : Nat} {pos : Pos} : SE G C (.Constant (.bool b) k pos) (ret1 (.bool b)) := .mk <| fun A P env s ρ st K => At.pure K rfl
theorem se_none {k : Nat} {pos : Pos} : SE G C (.Constant .none k pos) (ret1 .none) := .mk <| fun A P env s ρ st K => At.pure K rfl

theorem se_local {i : Nat} {x : Str} {pos : Pos} (hi : C.tbl[i]? = some x) (hx : C.names.lookup x = some .local) (hd : (x == ("__debug__" : Str)) = false) : SE G C (.Name x pos) (pvar i) := .mk <| fun A P env s ρ st K => by
  refine At.leaf (fun hb => ?_) K
  obtain ⟨m, n, q⟩ := K.frm.ns
  cases e : st.loc i with
  | none => exact absurd (by simp only [pvar, e]) hb
  | some d =>
    obtain ⟨v, e1, e2⟩ := q i x hi (K.sees.loc x hx) d e
    exact wpAny_Name (wpAny_loadName_local K.frm.kind (K.sees.loc x hx) n e1 ⟨d, by simp only [pvar, e], Grow.same0, e2⟩) hd
theorem se_cell {i : Nat} {x : Str} {pos : Pos} (hi : C.tbl[i]? = some x) (hx : C.names.lookup x = some .cell ∨ C.names.lookup x = some .free) (hd : (x == ("__debug__" : Str)) = false) (hn : (x == ("__classdict__" : Str)) = false) :
    SE G C (.Name x pos) (pvar i) := .mk <| fun A P env s ρ st K => by
  refine At.leaf (fun hb => ?_) K
  have hk := hx.elim (fun h => Or.inl (K.sees.cell x h)) (K.sees.free x)
  obtain ⟨c, e1, ov, n, q⟩ := K.frm.cell i x hi hk
  cases e : st.loc i with
  | none => exact absurd (by simp only [pvar, e]) hb
  | some d =>
    obtain ⟨v, rfl, e2⟩ := q d e
    refine wpAny_Name ?_ hd
    rcases hk with hk | hk
    · exact wpAny_loadName_cell K.frm.kind hk e1 n ⟨d, by simp only [pvar, e], Grow.same0, e2⟩
    · exact wpAny_loadName_free K.frm.kind hk e1 n ⟨d, by simp only [pvar, e], Grow.same0, e2⟩ hn
end

/-! binary operations -/
/-- a binary operation upon values -/
noncomputable def BinOk (G : Gd) (op : Operator) (f : D → D → Mn D) : Prop :=
  ∀ C A P env s ρ st d1 d2 v1 v2, Ok G C A P env s ρ st → Rel G s.heap ρ d1 v1 → Rel G s.heap ρ d2 v2 → At G A env s ρ st (RV G) (binaryOp op v1 v2) (f d1 d2)

section
variable {G : Gd} {C : Cx}
theorem At.operate {α : Type} {A : Around} {env : Env} {s : Shared} {ρ : List Addr} {st : St} {R : Heap → List Addr → α → Value → Prop} {t : Sem Value} {m : Mn α} {vs : List Value} (h : At G A env s ρ st R t m) :
    At G A env s ρ st R (operate vs t) m := fun hb Γ p hΓ => by rw [Sem.wp_operate]; exact h hb Γ p hΓ

theorem se_bin {l r : Expr} {op : Operator} {pos : Pos} {m1 m2 : Mn D} {f : D → D → Mn D} (ho : BinOk G op f) (h1 : SE G C l m1) (h2 : SE G C r m2) :
    SE G C (.BinOp l op r pos) (bnd m1 fun a => bnd m2 fun b => f a b) := .mk <| fun A P env s ρ st K => by
  show At G A env s ρ st (RV G) (do let a ← eval l env; let b ← holding [a] (eval r env); standAt pos; operate [a, b] (binaryOp op a b)) _
  refine At.bind K (h1.run A P env s ρ st K) fun v s' ρ' d σ' K' x r1 => ?_
  refine At.bind K' (h2.run A P env s' ρ' _ K').hold fun v2 s'' ρ'' d2 σ'' K'' x2 r2 => ?_
  exact At.stand (At.operate (ho C A P env s'' ρ'' _ d d2 v v2 K'' (Rel.mono (x2.stb K'.inv .nil) _ _ r1) r2))
end

/-- an operation upon two ints or two texts -/
noncomputable def op2 (f : Int → Int → Mn D) (g : Str → Str → Mn D) : D → D → Mn D
  | .int a, .int b => f a b
  | .str x, .str y => g x y
  | _, _ => botM
theorem op2_ne {f : Int → Int → Mn D} {g : Str → Str → Mn D} {d1 d2 : D} {st : St} (hb : op2 f g d1 d2 st ≠ .bot) : (∃ a b, d1 = .int a ∧ d2 = .int b) ∨ ∃ x y, d1 = .str x ∧ d2 = .str y := by
  unfold op2 at hb
  split at hb
  · exact .inl ⟨_, _, rfl, rfl⟩
  · exact .inr ⟨_, _, rfl, rfl⟩
  · exact absurd rfl hb
noncomputable def noS : Str → Str → Mn D := fun _ _ => botM
noncomputable def pSub : D → D → Mn D := op2 (fun a b => ret1 (.int (a - b))) noS
noncomputable def pDiv : D → D → Mn D := op2 (fun a b => if b ≠ 0 ∧ b.natAbs < 1073741824 then ret1 (.int (a.fdiv b)) else botM) noS
end Mine

end

/- part F4 -/
section
set_option Elab.async false
set_option linter.unusedVariables false
namespace Mine
open PySem PyProof.Rows

noncomputable def upd (loc : Loc) (i : Nat) (d : D) : Loc := fun j => if j = i then some d else loc j
noncomputable def setvar (i : Nat) (d : D) : Mn Fl := fun st => .ok .next ⟨upd st.loc i d, st.sto⟩

/-- may write all cells of its frame -/
noncomputable def Wr (env : Env) (P : List Addr) : Prop := ∀ x c, env.cells.lookup x = some c → c ∈ P

noncomputable def FlR (G : Gd) (h : Heap) (ρ : List Addr) : Fl → Flow → Prop
  | .next, f => f = .next
  | .brk, f => f = .brk
  | .cont, f => f = .cont
  | .ret d, f => ∃ v, f = .ret v ∧ Rel G h ρ d v

inductive OkT (G : Gd) (tbl : List Str) (P : List Addr) (env : Env) (s : Shared) (ρ : List Addr) (r : Out Fl) (f : Flow) (s' : Shared) : Prop
  | mk (ρ' : List Addr) (fl : Fl) (st' : St) : r = .ok fl st' → Inv G s' ρ' st'.sto → Ev P s.heap ρ s'.heap ρ' → Frm G tbl P env s'.heap ρ' st'.loc → FlR G s'.heap ρ' fl f → OkT G tbl P env s ρ r f s'
inductive ExcS (G : Gd) (tbl : List Str) (P : List Addr) (env : Env) (s : Shared) (ρ : List Addr) (r : Out Fl) (x : Value) (s' : Shared) : Prop
  | mk (ρ' : List Addr) (c : Addr) (st' : St) (a : Addr) : r = .exc c st' → Inv G s' ρ' st'.sto → Ev P s.heap ρ s'.heap ρ' → Frm G tbl P env s'.heap ρ' st'.loc → x = .ref a → Fly s.heap.objs.size s'.heap env.frame a c → ExcS G tbl P env s ρ r x s'
theorem ExcE.toS {α : Type} {G : Gd} {C : Cx} {A : Around} {P : List Addr} {env : Env} {s s' : Shared} {ρ : List Addr} {st : St} {m : Mn α} {f : α → Mn Fl} {x : Value} (K : Ok G C A P env s ρ st) (q : ExcE G env s ρ st (m st) x s') : ExcS G C.tbl P env s ρ (Mine.bnd m f st) x s' :=
  let ⟨ρ', c, σ', a, e, I', x', ex, fl⟩ := q; ⟨ρ', c, ⟨st.loc, σ'⟩, a, by simp only [Mine.bnd, e], I', x'.nil, K.frm.keep K.inv x', ex, fl⟩
noncomputable def AtS (G : Gd) (tbl : List Str) (A : Around) (P : List Addr) (env : Env) (s : Shared) (ρ : List Addr) (st : St) (t : Sem Flow) (m : Mn Fl) : Prop :=
  m st ≠ .bot → wpAny G.M A t (OkT G tbl P env s ρ (m st)) (ExcS G tbl P env s ρ (m st)) s

structure SS (G : Gd) (C : Cx) (t : Stmt) (m : Mn Fl) : Prop where
  run : ∀ A P env s ρ st, Ok G C A P env s ρ st → Wr env P → AtS G C.tbl A P env s ρ st (exec t env) m
structure SSs (G : Gd) (C : Cx) (t : List Stmt) (m : Mn Fl) : Prop where
  run : ∀ A P env s ρ st, Ok G C A P env s ρ st → Wr env P → AtS G C.tbl A P env s ρ st (execs t env) m

section
variable {G : Gd} {C : Cx} {A : Around} {P : List Addr} {env : Env} {s : Shared} {ρ : List Addr} {st : St} {σ : Sto}

theorem Ok.stepS (K : Ok G C A P env s ρ st) {s' : Shared} {ρ' : List Addr} {st' : St} (I' : Inv G s' ρ' st'.sto) (x : Ev P s.heap ρ s'.heap ρ') (F' : Frm G C.tbl P env s'.heap ρ' st'.loc) : Ok G C A P env s' ρ' st' :=
  ⟨K.room, K.sees, I', F', ⟨K.stk.fr, fun fs e => (K.stk.ff fs e).keepF x K.frm F'⟩, K.code, K.qual⟩

/-- one object of the frame's own is written -/
theorem wr_own (I : Inv G s ρ σ) {p : Addr} {h' : Heap} (hs : Heap.SameBut p s.heap h') (hp : p ∈ P) (h0 : G.h0.get? p = none) (hr : p ∉ ρ)
    (hn : ∃ o, s.heap.get? p = some o ∧ ((∃ es n, o.data = .dict es n) ∨ ∃ v, o.data = .cell v)) (t : Nat) :
    Inv G { s with heap := h', toks := t } ρ σ ∧ Ev P s.heap ρ h' ρ ∧ Stb s.heap ρ h' ρ := by
  have keep : ∀ b o, b ≠ p → s.heap.get? b = some o → h'.get? b = some o := fun b o n e => (hs.2 b n).trans e
  have hz : s.heap.objs.size ≤ h'.objs.size := Nat.le_of_eq hs.1.symm
  obtain ⟨op, hop, hd⟩ := hn
  have S : Stb s.heap ρ h' ρ := ⟨fun _ _ e => e, fun b items n1 t => by
      obtain ⟨n, ho⟩ := t
      refine ⟨n1, n, keep b _ (fun e => ?_) ho⟩
      rw [e, hop] at ho; cases ho
      rcases hd with ⟨_, _, z⟩ | ⟨_, z⟩ <;> (cases z), fun b c n1 t => by
      obtain ⟨o, ho, hc, vs, hd'⟩ := t
      refine ⟨n1, o, keep b o (fun e => ?_) ho, hc, vs, hd'⟩
      rw [e, hop] at ho; cases ho
      rw [hd'] at hd
      rcases hd with ⟨_, _, z⟩ | ⟨_, z⟩ <;> cases z⟩
  refine ⟨⟨fun b o e => keep b o (fun q => by rw [q, h0] at e; cases e) (I.base b o e), I.new, I.nodup, I.len, fun k a o e1 e2 => ?_, I.os, I.gens⟩, ⟨fun _ _ e => e, fun b o e n n2 => ⟨o, keep b o (fun q => n2 (q ▸ hp)) e, .refl o⟩, fun _ m => .inl m, hz⟩, S⟩
  exact (I.sto k a o e1 e2).mono S (fun o ho => keep a o (fun q => hr (q ▸ List.mem_of_getElem? e1)) ho) hz

theorem Frm.set_local {tbl : List Str} {loc : Loc} (F : Frm G tbl P env s.heap ρ loc) (I : Inv G s ρ σ) {i : Nat} {x : Str} {d : D} {v : Value} {m : Str → Option Value} {h' : Heap} (hi : tbl[i]? = some x) (hx : env.kindOf x = some .local)
    (hm : s.heap.Ns env.locals m) (q : ∀ (i : Nat) (x : Str), tbl[i]? = some x → env.kindOf x = some .local → ∀ d, loc i = some d → ∃ v, m x = some v ∧ Rel G s.heap ρ d v)
    (hn : h'.Ns env.locals (fun y => if y = x then some v else m y)) (hs : Heap.SameBut env.locals s.heap h') (r : Rel G s.heap ρ d v) (t : Nat) :
    Inv G { s with heap := h', toks := t } ρ σ ∧ Ev P s.heap ρ h' ρ ∧ Frm G tbl P env h' ρ (upd loc i d) := by
  have own := F.own _ F.lP
  obtain ⟨oL, esL, epL, hoL, hdL, rL⟩ := id hm
  obtain ⟨oN, esN, epN, hoN, hdN, rN⟩ := id hn
  obtain ⟨I', x', S⟩ := wr_own (P := P) I hs F.lP own.1 F.lrho ⟨oL, hoL, .inl ⟨esL, epL, hdL⟩⟩ t
  have cellne : ∀ y c, env.cells.lookup y = some c → c ≠ env.locals := fun y c e z => by
    obtain ⟨_, ov, o, ho, hd⟩ := F.cok y c e
    rw [z, hoL] at ho; cases ho
    rw [hdL] at hd; cases hd
  refine ⟨I', x', ⟨F.kind, F.glob, F.bi, ⟨_, hn, fun j y e k d' hd' => ?_⟩, fun j y e k => ?_, fun y c e => ?_, F.cinj, F.lrho, F.lP, F.own, F.tnd⟩⟩
  · by_cases hj : j = i
    · subst hj
      rw [hi] at e; cases e
      simp only [upd, if_true] at hd'
      cases hd'
      exact ⟨v, by simp, Rel.mono S _ _ r⟩
    · simp only [upd, hj, if_false] at hd'
      obtain ⟨v', e1, e2⟩ := q j y e k d' hd'
      have hy : y ≠ x := fun z => hj (nodup_getElem_inj F.tnd (z ▸ e) hi)
      exact ⟨v', by simp only [hy, if_false]; exact e1, Rel.mono S _ _ e2⟩
  · obtain ⟨c, e1, ov, n, qq⟩ := F.cell j y e k
    refine ⟨c, e1, ov, n.sameBut hs (cellne y c e1), fun d' hd' => ?_⟩
    have hj : j ≠ i := fun z => by
      subst z
      rw [hi] at e; cases e
      rw [hx] at k
      rcases k with k | k <;> cases k
    simp only [upd, hj, if_false] at hd'
    obtain ⟨v', e1, e2⟩ := qq d' hd'
    exact ⟨v', e1, Rel.mono S _ _ e2⟩
  · obtain ⟨n, ov, z⟩ := F.cok y c e
    exact ⟨n, ov, z.sameBut hs (cellne y c e)⟩

theorem Frm.set_cell {tbl : List Str} {loc : Loc} (F : Frm G tbl P env s.heap ρ loc) (I : Inv G s ρ σ) {i : Nat} {x : Str} {d : D} {v : Value} {c : Addr} {h' : Heap} (hi : tbl[i]? = some x) (hx : env.kindOf x = some .cell)
    (hc : env.cells.lookup x = some c) (hP : c ∈ P) (hn : h'.IsCell c (some v)) (hs : Heap.SameBut c s.heap h') (r : Rel G s.heap ρ d v) (t : Nat) :
    Inv G { s with heap := h', toks := t } ρ σ ∧ Ev P s.heap ρ h' ρ ∧ Frm G tbl P env h' ρ (upd loc i d) := by
  have own := F.own _ hP
  obtain ⟨n0, ov0, o0, ho0, hd0⟩ := F.cok x c hc
  obtain ⟨oN, hoN, hdN⟩ := id hn
  obtain ⟨I', x', S⟩ := wr_own (P := P) I hs hP own.1 n0 ⟨o0, ho0, .inr ⟨ov0, hd0⟩⟩ t
  obtain ⟨m, nm, q⟩ := F.ns
  have lne : env.locals ≠ c := fun z => by
    obtain ⟨oL, esL, epL, hoL, hdL, rL⟩ := nm
    rw [z, ho0] at hoL; cases hoL
    rw [hdL] at hd0; cases hd0
  refine ⟨I', x', ⟨F.kind, F.glob, F.bi, ⟨m, nm.sameBut hs lne, fun j y e k d' hd' => ?_⟩, fun j y e k => ?_, fun y c' e => ?_, F.cinj, F.lrho, F.lP, F.own, F.tnd⟩⟩
  · have hj : j ≠ i := fun z => by
      subst z
      rw [hi] at e; cases e
      rw [hx] at k; cases k
    simp only [upd, hj, if_false] at hd'
    obtain ⟨v', e1, e2⟩ := q j y e k d' hd'
    exact ⟨v', e1, Rel.mono S _ _ e2⟩
  · by_cases hj : j = i
    · subst hj
      rw [hi] at e; cases e
      refine ⟨c, hc, some v, hn, fun d' hd' => ?_⟩
      simp only [upd, if_true] at hd'
      cases hd'
      exact ⟨v, rfl, Rel.mono S _ _ r⟩
    · obtain ⟨c', e1, ov, n, qq⟩ := F.cell j y e k
      have hy : y ≠ x := fun z => hj (nodup_getElem_inj F.tnd (z ▸ e) hi)
      have hcc : c' ≠ c := fun z => hy (F.cinj y x c (z ▸ e1) hc)
      refine ⟨c', e1, ov, n.sameBut hs hcc, fun d' hd' => ?_⟩
      simp only [upd, hj, if_false] at hd'
      obtain ⟨v', e1, e2⟩ := qq d' hd'
      exact ⟨v', e1, Rel.mono S _ _ e2⟩
  · obtain ⟨n, ov, z⟩ := F.cok y c' e
    by_cases hcc : c' = c
    · subst hcc; exact ⟨n, _, hn⟩
    · exact ⟨n, ov, z.sameBut hs hcc⟩

/-- an expression first, then what it is for -/
theorem AtS.bind {α β : Type} {R : Heap → List Addr → β → α → Prop} {t : Sem α} {m : Mn β} {k : α → Sem Flow} {f : β → Mn Fl} (K : Ok G C A P env s ρ st) (h1 : At G A env s ρ st R t m)
    (h2 : ∀ v s' ρ' d σ', Ok G C A P env s' ρ' ⟨st.loc, σ'⟩ → Ev [] s.heap ρ s'.heap ρ' → R s'.heap ρ' d v → AtS G C.tbl A P env s' ρ' ⟨st.loc, σ'⟩ (k v) (f d)) :
    AtS G C.tbl A P env s ρ st (t >>= k) (bnd m f) := fun hb => by
  refine wpAny_bind (wpAny_mono (h1 (bnd_ne_bot hb)) (fun v s' q => ?_) fun x s' q => ?_)
  · refine OkE.elim q fun ρ' d σ' e I' x r => ?_
    have e' : bnd m f st = f d ⟨st.loc, σ'⟩ := by simp only [bnd, e]
    rw [e'] at hb ⊢
    refine wpAny_mono (h2 v s' ρ' d σ' (K.step I' x) x r hb) (fun w s'' q => ?_) fun w s'' q => ?_
    · obtain ⟨ρ'', fl, st'', e2, I'', x2, F2, r2⟩ := q
      exact ⟨ρ'', fl, st'', e2, I'', x.nil.trans x2, F2, r2⟩
    · obtain ⟨ρ'', c, st'', a, e2, I'', x2, F2, rfl, fl⟩ := q
      exact ⟨ρ'', c, st'', a, e2, I'', x.nil.trans x2, F2, rfl, fl.from x.size⟩
  · exact ExcE.toS K q
theorem AtS.stand {t : Sem Flow} {m : Mn Fl} {p : Pos} {tbl : List Str} (h : AtS G tbl A P env s ρ st t m) : AtS G tbl A P env s ρ st (standAt p >>= fun _ => t) m := fun hb => wpAny_bind (wpAny_standAt (h hb))

noncomputable def seqM (m1 m2 : Mn Fl) : Mn Fl := bnd m1 fun fl => match fl with
  | .next => m2
  | f => ret1 f
noncomputable def ifM (c : Mn Bool) (m1 m2 : Mn Fl) : Mn Fl := bnd c fun b => if b then m1 else m2

theorem ss_nil : SSs G C [] (ret1 .next) := .mk <| fun A P env s ρ st K W hb => wpAny_execs_nil ⟨ρ, .next, st, rfl, K.inv, Ev.refl, K.frm, rfl⟩
theorem ss_cons {t : Stmt} {ts : List Stmt} {m1 m2 : Mn Fl} (h1 : SS G C t m1) (h2 : SSs G C ts m2) : SSs G C (t :: ts) (seqM m1 m2) := .mk <| fun A P env s ρ st K W hb => by
  refine wpAny_execs_cons (wpAny_mono (h1.run A P env s ρ st K W (bnd_ne_bot hb)) (fun f s' q => ?_) fun x s' q => ?_)
  · obtain ⟨ρ', fl, st', e, I', x, F', r⟩ := q
    have K' := K.stepS I' x F'
    cases fl with
    | next =>
      have e' : seqM m1 m2 st = m2 st' := by simp only [seqM, bnd, e]
      cases (show f = .next from r)
      rw [e'] at hb ⊢
      refine wpAny_mono (h2.run A P env s' ρ' st' K' W hb) (fun w s'' q => ?_) fun w s'' q => ?_
      · obtain ⟨ρ'', fl, st'', e2, I'', x2, F2, r2⟩ := q
        exact ⟨ρ'', fl, st'', e2, I'', x.trans x2, F2, r2⟩
      · obtain ⟨ρ'', c, st'', a, e2, I'', x2, F2, rfl, fl⟩ := q
        exact ⟨ρ'', c, st'', a, e2, I'', x.trans x2, F2, rfl, fl.from x.size⟩
    | brk => cases (show f = .brk from r); exact ⟨ρ', .brk, st', by simp only [seqM, bnd, e, ret1], I', x, F', rfl⟩
    | cont => cases (show f = .cont from r); exact ⟨ρ', .cont, st', by simp only [seqM, bnd, e, ret1], I', x, F', rfl⟩
    | ret d =>
      obtain ⟨v, rfl, r⟩ := r
      exact ⟨ρ', .ret d, st', by simp only [seqM, bnd, e, ret1], I', x, F', v, rfl, r⟩
  · obtain ⟨ρ', c, st', a, e, I', x, F', rfl, fl⟩ := q
    exact ⟨ρ', c, st', a, by simp only [seqM, bnd, e], I', x, F', rfl, fl⟩

theorem ss_return {e : Expr} {pos : Pos} {m : Mn D} (h : SE G C e m) : SS G C (.Return (some e) pos) (bnd m fun d => ret1 (.ret d)) := .mk <| fun A P env s ρ st K W => by
  show AtS G C.tbl A P env s ρ st (do standAt pos; return .ret (← eval e env)) _
  refine AtS.stand (AtS.bind K (h.run A P env s ρ st K) fun v s' ρ' d σ' K' x r hb => ?_)
  exact wpAny_pure ⟨ρ', .ret d, _, rfl, K'.inv, Ev.refl, K'.frm, v, rfl, r⟩
theorem ss_pass {pos : Pos} : SS G C (.Pass pos) (ret1 .next) := .mk <| fun A P env s ρ st K W hb => wpAny_Pass ⟨ρ, .next, st, rfl, K.inv, Ev.refl, K.frm, rfl⟩
theorem ss_break {pos : Pos} : SS G C (.Break pos) (ret1 .brk) := .mk <| fun A P env s ρ st K W hb => wpAny_bind (wpAny_standAt (wpAny_pure ⟨ρ, .brk, st, rfl, K.inv, Ev.refl, K.frm, rfl⟩))
theorem ss_continue {pos : Pos} : SS G C (.Continue pos) (ret1 .cont) := .mk <| fun A P env s ρ st K W hb => wpAny_bind (wpAny_standAt (wpAny_pure ⟨ρ, .cont, st, rfl, K.inv, Ev.refl, K.frm, rfl⟩))
theorem ss_if {c : Expr} {b1 b2 : List Stmt} {pos : Pos} {mc : Mn Bool} {m1 m2 : Mn Fl} (hc : SB G C c mc) (h1 : SSs G C b1 m1) (h2 : SSs G C b2 m2) : SS G C (.If c b1 b2 pos) (ifM mc m1 m2) := .mk <| fun A P env s ρ st K W => by
  show AtS G C.tbl A P env s ρ st (do standAt pos; if ← isTrue c env (eval c env) then execs b1 env else execs b2 env) _
  refine AtS.stand (AtS.bind K (hc.run A P env s ρ st K) fun v s' ρ' d σ' K' x r => ?_)
  cases (show d = v from r)
  cases v with
  | true => exact h1.run A P env s' ρ' _ K' W
  | false => exact h2.run A P env s' ρ' _ K' W

/-- storing into a local name -/
theorem at_store {i : Nat} {x : Str} {d : D} {v : Value} (K : Ok G C A P env s ρ st) (hi : C.tbl[i]? = some x) (hx : C.names.lookup x = some .local) (r : Rel G s.heap ρ d v) {Q : Unit → Shared → Prop} {E : Value → Shared → Prop}
    (h : ∀ s', Inv G s' ρ st.sto → Ev P s.heap ρ s'.heap ρ → Frm G C.tbl P env s'.heap ρ (upd st.loc i d) → Q () s') : wpAny G.M A (storeName env x v) Q E s := by
  obtain ⟨m, n, q⟩ := K.frm.ns
  refine wpAny_storeName_local (K.sees.loc x hx) n (fun h' hn hs => ?_) (by rw [K.frm.kind]; rfl)
  obtain ⟨I', x', F'⟩ := K.frm.set_local K.inv hi (K.sees.loc x hx) n q hn hs r (s.toks + 1)
  exact h _ I' x' F'
theorem at_storeC {i : Nat} {x : Str} {d : D} {v : Value} (K : Ok G C A P env s ρ st) (W : Wr env P) (hi : C.tbl[i]? = some x) (hx : env.kindOf x = some .cell) (r : Rel G s.heap ρ d v) {Q : Unit → Shared → Prop} {E : Value → Shared → Prop}
    (h : ∀ s', Inv G s' ρ st.sto → Ev P s.heap ρ s'.heap ρ → Frm G C.tbl P env s'.heap ρ (upd st.loc i d) → Q () s') : wpAny G.M A (storeName env x v) Q E s := by
  obtain ⟨c, e1, ov, n, q⟩ := K.frm.cell i x hi (.inl hx)
  refine wpAny_storeName_cell K.frm.kind hx e1 n fun h' hn hs => ?_
  obtain ⟨I', x', F'⟩ := K.frm.set_cell K.inv hi hx e1 (W x c e1) hn hs r s.toks
  exact h _ I' x' F'

theorem ss_assign {i : Nat} {x : Str} {e : Expr} {np pos : Pos} {m : Mn D} (hi : C.tbl[i]? = some x) (hx : C.names.lookup x = some .local) (h : SE G C e m)
    (hs : ∀ env : Env, swapsWith e (some (.Name x np)) pos.line env = pure false) : SS G C (.Assign [.Name x np] e pos) (bnd m (setvar i)) := .mk <| fun A P env s ρ st K W hb => by
  refine wpAny_Assign_Name ?_ (hs env)
  refine wpAny_mono (h.run A P env s ρ st K (bnd_ne_bot hb)) (fun v s' q => ?_) fun x s' q => ?_
  · refine OkE.elim q fun ρ' d σ' e I' x' r => ?_
    have K' := K.step I' x'
    refine at_store K' hi hx r fun s'' I'' x'' F'' => ?_
    exact ⟨ρ', .next, ⟨upd st.loc i d, σ'⟩, by simp only [bnd, e, setvar], I'', x'.nil.trans x'', F'', rfl⟩
  · exact ExcE.toS K q
theorem ss_assignC {i : Nat} {x : Str} {e : Expr} {np pos : Pos} {m : Mn D} (hi : C.tbl[i]? = some x) (hx : C.names.lookup x = some .cell) (h : SE G C e m)
    (hs : ∀ env : Env, env.kindOf x = some .cell → swapsWith e (some (.Name x np)) pos.line env = pure false) : SS G C (.Assign [.Name x np] e pos) (bnd m (setvar i)) := .mk <| fun A P env s ρ st K W hb => by
  refine wpAny_Assign_Name ?_ (hs env (K.sees.cell x hx))
  refine wpAny_mono (h.run A P env s ρ st K (bnd_ne_bot hb)) (fun v s' q => ?_) fun x s' q => ?_
  · refine OkE.elim q fun ρ' d σ' e I' x' r => ?_
    have K' := K.step I' x'
    refine at_storeC K' W hi (K.sees.cell x hx) r fun s'' I'' x'' F'' => ?_
    exact ⟨ρ', .next, ⟨upd st.loc i d, σ'⟩, by simp only [bnd, e, setvar], I'', x'.nil.trans x'', F'', rfl⟩
  · exact ExcE.toS K q
end
end Mine

end

/- part F5 -/
section
set_option Elab.async false
set_option linter.unusedVariables false
namespace Mine
open PySem PyProof.Rows

/-- what notes of a flying exception may change: exceptions and tracebacks that are new, frames' slots -/
noncomputable def NoteCh (G : Gd) (n : Nat) (ρ : List Addr) (h h' : Heap) : Prop :=
  (∀ b o, h.get? b = some o → (n ≤ b ∧ ((∃ vs, o.data = .fields vs) ∧ (o.cls = .type "traceback" ∨ ∃ c, o.cls = .ref c)) ∧ ∃ o', h'.get? b = some o' ∧ (o'.cls = o.cls ∧ o'.dict = o.dict) ∧ ∃ vs, o'.data = .fields vs) ∨
    ∃ o', h'.get? b = some o' ∧ SameObj o o' ∧ (G.h0.get? b ≠ none ∨ b ∈ ρ → o' = o)) ∧ h.objs.size ≤ h'.objs.size
section
variable {G : Gd} {C : Cx} {A : Around} {P : List Addr} {env : Env} {s : Shared} {ρ ρs : List Addr} {σ : Sto} {n : Nat} {hs h h' h'' : Heap} {tbl : List Str} {loc : Loc}

theorem dict_mapFields (o : Obj) (g : Array Value → Array Value) : (Obj.mapFields g o).dict = o.dict := by
  unfold Obj.mapFields; split <;> rfl
theorem NoteCh.refl : NoteCh G n ρ h h := ⟨fun b o e => .inr ⟨o, e, .refl o, fun _ => rfl⟩, Nat.le_refl _⟩
theorem NoteCh.trans (x : NoteCh G n ρ h h') (y : NoteCh G n ρ h' h'') : NoteCh G n ρ h h'' := ⟨fun b o e => by
  rcases x.1 b o e with ⟨n, ⟨⟨vs, hd⟩, hc⟩, o', e', c', vs', d'⟩ | ⟨o', e', q, z⟩
  · rcases y.1 b o' e' with ⟨_, _, o'', e'', c'', d''⟩ | ⟨o'', e'', q, _⟩
    · exact .inl ⟨n, ⟨⟨vs, hd⟩, hc⟩, o'', e'', ⟨c''.1.trans c'.1, c''.2.trans c'.2⟩, d''⟩
    · exact .inl ⟨n, ⟨⟨vs, hd⟩, hc⟩, o'', e'', ⟨q.1.trans c'.1, q.2.2.1.trans c'.2⟩, vs', q.2.1.trans d'⟩
  · rcases y.1 b o' e' with ⟨n, ⟨⟨vs, hd⟩, hc⟩, o'', e'', c'', d''⟩ | ⟨o'', e'', q', z'⟩
    · exact .inl ⟨n, ⟨⟨vs, q.2.1 ▸ hd⟩, q.1 ▸ hc⟩, o'', e'', ⟨c''.1.trans q.1, c''.2.trans q.2.2.1⟩, d''⟩
    · exact .inr ⟨o'', e'', q.trans q', fun n => (z' n).trans (z n)⟩, Nat.le_trans x.2 y.2⟩
theorem NoteCh.grow (g : Grow h h') (z : h.objs.size ≤ h'.objs.size) : NoteCh G n ρ h h' := ⟨fun b o e => .inr ⟨o, g b o e, .refl o, fun _ => rfl⟩, z⟩
theorem NoteCh.slots {S : List Addr} (x : Heap.SlotsOnly S h h') (f : ∀ b, b ∈ S → (G.h0.get? b = none ∧ b ∉ ρ) ∧ ∃ o es n, h.get? b = some o ∧ o.data = .dict es n) : NoteCh G n ρ h h' := ⟨fun b o e => by
  by_cases m : b ∈ S
  · obtain ⟨⟨h0, hr⟩, o', es, n, e', hd⟩ := f b m
    rw [e] at e'; cases e'
    obtain ⟨sl, e''⟩ := x.2.2 b o e
    exact .inr ⟨_, e'', ⟨rfl, rfl, rfl, .inl ⟨es, n, hd⟩⟩, fun z => z.elim (absurd h0) fun m => absurd m hr⟩
  · exact .inr ⟨o, (x.2.1 b m).trans e, .refl o, fun _ => rfl⟩, Nat.le_of_eq x.1.symm⟩
theorem NoteCh.fields {q : Addr} {o : Obj} {vs : Array Value} {g : Array Value → Array Value} (e : h.get? q = some o) (hd : o.data = .fields vs) (hc : o.cls = .type "traceback" ∨ ∃ c, o.cls = .ref c) (hn : n ≤ q) :
    NoteCh G n ρ h (h.update q (Obj.mapFields g)) := ⟨fun b o' e' => by
  by_cases m : b = q
  · subst m
    rw [e] at e'; cases e'
    have hd' := Obj.data_mapFields hd g
    exact .inl ⟨hn, ⟨⟨vs, hd⟩, hc⟩, _, Heap.get?_update_self _ e (Obj.isFreed_of_fields hd'), ⟨Obj.cls_mapFields .., dict_mapFields ..⟩, _, hd'⟩
  · exact .inr ⟨o', (Heap.get?_update_other h _ (Ne.symm m)).trans e', .refl _, fun _ => rfl⟩, by rw [Heap.size_after_update]; exact Nat.le_refl _⟩

theorem NoteCh.stb (x : NoteCh G n ρ h h') : Stb h ρ h' ρ := ⟨fun _ _ e => e, fun a items n1 t => by
    obtain ⟨n, e⟩ := t
    rcases x.1 a _ e with ⟨_, ⟨⟨vs, hd⟩, _⟩, _⟩ | ⟨o', e', q, _⟩
    · cases hd
    · rw [q.eq (fun _ _ z => by cases z)] at e'; exact ⟨n1, n, e'⟩, fun a c n1 t => by
    obtain ⟨o, e, hc, vs, hd⟩ := t
    rcases x.1 a o e with ⟨_, _, o', e', c', d'⟩ | ⟨o', e', q, _⟩
    · exact ⟨n1, o', e', ⟨c'.1.trans hc.1, c'.2.trans hc.2⟩, d'⟩
    · exact ⟨n1, o', e', ⟨q.1.trans hc.1, q.2.2.1.trans hc.2⟩, vs, q.2.1.trans hd⟩⟩
theorem NoteCh.ns (x : NoteCh G n ρ h h') {L : Addr} {m : Str → Option Value} (n : h.Ns L m) : h'.Ns L m := by
  obtain ⟨o, es, ep, e, hd, r⟩ := n
  rcases x.1 L o e with ⟨_, ⟨⟨vs, hd'⟩, _⟩, _⟩ | ⟨o', e', q, _⟩
  · rw [hd] at hd'; cases hd'
  · exact ⟨o', es, ep, e', q.2.1.trans hd, r⟩
theorem NoteCh.cell (x : NoteCh G n ρ h h') {c : Addr} {ov : Option Value} (n : h.IsCell c ov) : h'.IsCell c ov := by
  obtain ⟨o, e, hd⟩ := n
  rcases x.1 c o e with ⟨_, ⟨⟨vs, hd'⟩, _⟩, _⟩ | ⟨o', e', q, _⟩
  · rw [hd] at hd'; cases hd'
  · exact ⟨o', e', q.2.1.trans hd⟩
theorem NoteCh.inv (x : NoteCh G n ρ s.heap h') (I : Inv G s ρ σ) (hb : ∀ b, n ≤ b → G.h0.get? b = none) (t : Nat) : Inv G { s with heap := h', toks := t } ρ σ where
  base b o e := by
    rcases x.1 b o (I.base b o e) with ⟨n, _⟩ | ⟨o', e', q, z⟩
    · rw [hb b n] at e; cases e
    · rw [z (.inl (by rw [e]; intro z; cases z))] at e'; exact e'
  new := I.new
  nodup := I.nodup
  len := I.len
  sto k a p e1 e2 := by
    have r := I.sto k a p e1 e2
    cases p with
    | list ds =>
      obtain ⟨vs, ⟨n, e⟩, r⟩ := r
      rcases x.1 a _ e with ⟨_, ⟨⟨vs, hd⟩, _⟩, _⟩ | ⟨o', e', q, _⟩
      · cases hd
      · rw [q.eq (fun _ _ z => by cases z)] at e'
        exact ⟨vs, ⟨n, e'⟩, RelL.mono x.stb _ _ r⟩
    | dict kvs =>
      obtain ⟨xs, ⟨o, es, ep, ho, hx, hd, he, hi, hn⟩, hs, e, r⟩ := r
      rcases x.1 a _ ho with ⟨_, ⟨⟨vs, hd'⟩, _⟩, _⟩ | ⟨o', e', _, q⟩
      · rw [hd] at hd'; cases hd'
      · rw [q (.inr (List.mem_of_getElem? e1))] at e'
        have r' := fun y m => (r y m).2.mono x.stb (r y m).1
        exact ⟨xs, ⟨o, es, ep, e', hx, hd, he, fun y m => (r' y m).2.is, hn⟩, hs, e, r'⟩
    | priv =>
      obtain ⟨u, v, e⟩ := r
      rcases x.1 a _ e with ⟨_, ⟨⟨vs, hd⟩, _⟩, _⟩ | ⟨o', e', q, _⟩
      · cases hd
      · rw [q.eq (fun _ _ z => by cases z)] at e'
        exact ⟨u, v, e'⟩
    | ctab PP l c q k =>
      have old : ∀ ps, s.heap.get? a = some (ctO ps) → h'.get? a = some (ctO ps) := fun ps e => by
        rcases x.1 a _ e with ⟨_, ⟨_, hc⟩, _⟩ | ⟨o', e', _, q⟩
        · rcases hc with hc | ⟨c, hc⟩ <;> cases hc
        · rw [q (.inr (List.mem_of_getElem? e1))] at e'; exact e'
      cases k with
      | none => exact ⟨r.1, old _ r.2⟩
      | some k => obtain ⟨e0, c', e, ho⟩ := r; exact ⟨e0, c', e, old _ ho⟩
    | code q =>
      obtain ⟨o, vs, t, e, hc, r⟩ := r
      rcases x.1 a _ e with ⟨_, ⟨_, hc'⟩, _⟩ | ⟨o', e', _, q⟩
      · rw [hc] at hc'
        rcases hc' with hc' | ⟨c, hc'⟩
        · simp at hc'
        · cases hc'
      · rw [q (.inr (List.mem_of_getElem? e1))] at e'; exact ⟨o, vs, t, e', hc, r⟩
  os := I.os
  gens := I.gens
theorem NoteCh.frm (x : NoteCh G n ρ h h') (F : Frm G tbl P env h ρ loc) : Frm G tbl P env h' ρ loc where
  kind := F.kind
  glob := F.glob
  bi := F.bi
  ns := by
    obtain ⟨m, n, q⟩ := F.ns
    exact ⟨m, x.ns n, fun i y e k d hd => let ⟨v, e1, e2⟩ := q i y e k d hd; ⟨v, e1, Rel.mono x.stb d v e2⟩⟩
  cell i y e k := by
    obtain ⟨c, e1, ov, n, q⟩ := F.cell i y e k
    exact ⟨c, e1, ov, x.cell n, fun d hd => let ⟨v, e1, e2⟩ := q d hd; ⟨v, e1, Rel.mono x.stb d v e2⟩⟩
  cok y c e := by
    obtain ⟨n, ov, z⟩ := F.cok y c e
    exact ⟨n, ov, x.cell z⟩
  cinj := F.cinj
  lrho := F.lrho
  lP := F.lP
  own := F.own
  tnd := F.tnd
theorem NoteCh.ff (x : NoteCh G n ρ h h') {fs : List Env} (f : FF G h ρ fs) : FF G h' ρ fs := fun e m => by
  obtain ⟨hk, L, o, es, n, hf, h0, hr, ho, hd⟩ := f e m
  rcases x.1 L o ho with ⟨_, ⟨⟨vs, hd'⟩, _⟩, _⟩ | ⟨o', e', q, _⟩
  · rw [hd] at hd'; cases hd'
  · exact ⟨hk, L, o', es, n, hf, h0, hr, e', q.2.1.trans hd⟩
theorem NoteCh.stk (x : NoteCh G n ρ h h') (S : Stk G A env h ρ) : Stk G A env h' ρ := ⟨S.fr, fun fs e => x.ff (S.ff fs e)⟩
theorem NoteCh.ev (x : NoteCh G hs.objs.size ρ h h') (y : Ev P hs ρs h ρ) : Ev P hs ρs h' ρ where
  pre := y.pre
  keep b o e n1 n2 := by
    obtain ⟨o', e', q⟩ := y.keep b o e n1 n2
    rcases x.1 b o' e' with ⟨n, _⟩ | ⟨o'', e'', q', _⟩
    · exact absurd (Heap.lt_size e) (Nat.not_lt.mpr n)
    · exact ⟨o'', e'', q.trans q'⟩
  newp := y.newp
  size := Nat.le_trans y.size x.2
end

/-- in flight with a traceback whose mark is x -/
inductive FlyT (n : Nat) (h : Heap) (x : Value) (a c : Addr) : Prop
  | mk : n ≤ a → (o : Obj) → (vs : Array Value) → (T : Addr) → (oT : Obj) → (ts : Array Value) → h.get? a = some o → ExcO o c → o.data = .fields vs → 5 < vs.size → vs[1]? = some (.ref T) → T ≠ a → n ≤ T →
    h.get? T = some oT → oT.cls = .type "traceback" → oT.data = .fields ts → ts[3]? = some x → FlyT n h x a c
theorem FlyT.fly {n : Nat} {h : Heap} {x : Value} {a c : Addr} {f : Option Addr} (F : FlyT n h x a c) : Fly n h f a c := by
  obtain ⟨h1, o, vs, T, oT, ts, e1, e2, e3, e4, e5, e6, e7, e8, e9, e10, e11⟩ := F
  exact ⟨h1, o, vs, e1, e2, e3, e4, .inr ⟨T, oT, ts, e5, e6, e7, e8, e9, e10, x, e11⟩⟩

section
variable {G : Gd} {C : Cx} {A : Around} {P : List Addr} {env : Env} {s : Shared} {ρ ρs : List Addr} {σ : Sto} {n : Nat} {hs : Heap}

theorem frameOf_ok {E : Value → Shared → Prop} {Q : Value → Shared → Prop} (S : Stk G A env s.heap ρ)
    (h : ∀ L h', env.frame = some L → NoteCh G n ρ s.heap h' → (∀ b o, s.heap.get? b = some o → (∀ es n, o.data ≠ .dict es n) → h'.get? b = some o) → Q (.ref L) { s with heap := h' }) : wpAny G.M A (PySem.frameOf env) Q E s := by
  obtain ⟨fenv, outer, L, hA, hf, he⟩ := S.fr
  unfold PySem.frameOf
  refine wpAny_bind (wpAny_frameEnvs hA ?_)
  have hdw : ((fenv :: outer).dropWhile fun x => x.frame != env.frame) = fenv :: outer := by simp [List.dropWhile, hf, he]
  rw [hdw]
  unfold frameObject
  have hF := S.ff _ hA
  refine wpAny_bind (wpAny_bind (wpAny_readyFrames_fun hF.fun fun h₁ hs₁ => wpAny_pure ?_))
  rw [hf]
  have inS : ∀ b, b ∈ (fenv :: outer).filterMap (·.frame) → (G.h0.get? b = none ∧ b ∉ ρ) ∧ ∃ o es n, s.heap.get? b = some o ∧ o.data = .dict es n := fun b m => by
    obtain ⟨e, me, eb⟩ := List.mem_filterMap.mp m
    obtain ⟨_, L', o, es, n, hf', h0, hr, ho, hd⟩ := hF e me
    rw [eb] at hf'; cases hf'
    exact ⟨⟨h0, hr⟩, o, es, n, ho, hd⟩
  refine wpAny_pure (h L h₁ he (NoteCh.slots hs₁ inS) fun b o e hn => ?_)
  refine (hs₁.2.1 b fun m => ?_).trans e
  obtain ⟨_, o', es, n, e', hd⟩ := inS b m
  rw [e] at e'; cases e'
  exact hn es n hd

theorem note_fly {E : Value → Shared → Prop} {Q : Unit → Shared → Prop} {a c : Addr} (S : Stk G A env s.heap ρ) (F : Fly n s.heap env.frame a c) (hlt : n ≤ s.heap.objs.size)
    (h : ∀ L h', env.frame = some L → NoteCh G n ρ s.heap h' → FlyT n h' (rawInt L) a c → Q () { s with heap := h' }) : wpAny G.M A (noteFrame (.ref a) env) Q E s := by
  obtain ⟨fenv, outer, L, hA, hf, he⟩ := id S.fr
  obtain ⟨hna, o, vs, ho, hc, hd, hsz, tb⟩ := F
  unfold noteFrame
  simp only [he]
  -- what is laid behind the head
  have rest : ∀ (h₁ : Heap) (head : Value) (vs₁ : Array Value) (o₁ : Obj), NoteCh G n ρ s.heap h₁ → h₁.get? a = some o₁ → ExcO o₁ c → o₁.data = .fields vs₁ → 5 < vs₁.size →
      wpAny G.M A (PySem.frameOf env >>= fun fr => entryPlaceOf L (head != .none) >>= fun pl => EntryCells.newEntry head fr .none (rawInt L) .none pl >>= fun b => setField (.ref a) 1 b) Q E { s with heap := h₁ } := by
    intro h₁ head vs₁ o₁ N1 ho₁ hc₁ hd₁ hsz₁
    refine wpAny_bind (frameOf_ok (n := n) (s := { s with heap := h₁ }) (N1.stk S) fun L' h₂ hL' N2 ex => ?_)
    refine wpAny_bind (wpAny_entryPlaceOf fun pl hpl => ?_)
    unfold EntryCells.newEntry newFields
    refine wpAny_bind (wpAny_newObj_type ?_ (hpl.sizeOk5 _ _ _ _ _))
    have ho₂ : h₂.get? a = some o₁ := ex a o₁ ho₁ (fun _ _ z => by rw [hd₁] at z; cases z)
    have e₃ := Heap.get?_push_of_some (h := h₂) { cls := .type "traceback", dict := none, data := .fields ([head, .ref L', .none, rawInt L, .none] ++ (if pl.isEmpty then List.replicate 6 Value.none else pl)).toArray } ho₂
    refine wpAny_setField e₃ hd₁ (by exact nLt fun hzz => linN [_] [le1 x0 (.n 1), lt1 (.n 5) x0] (Eq.refl true) hzz hsz₁) ?_
    have hTa : h₂.objs.size ≠ a := Nat.ne_of_gt (Heap.lt_size ho₂)
    have hd₃ := Obj.data_mapFields hd₁ (·.setIfInBounds 1 (Value.ref h₂.objs.size))
    have e₄ := Heap.get?_update_self (Obj.mapFields (·.setIfInBounds 1 (Value.ref h₂.objs.size))) e₃ (Obj.isFreed_of_fields hd₃)
    have eT := (Heap.get?_update_other (h₂.push { cls := .type "traceback", dict := none, data := .fields ([head, .ref L', .none, rawInt L, .none] ++ (if pl.isEmpty then List.replicate 6 Value.none else pl)).toArray })
      (Obj.mapFields (·.setIfInBounds 1 (Value.ref h₂.objs.size))) (Ne.symm hTa)).trans (Heap.get?_push_size h₂ rfl)
    have hnT : n ≤ h₂.objs.size := Nat.le_trans hlt (Nat.le_trans N1.2 N2.2)
    refine h L _ he ((N1.trans N2).trans ((NoteCh.grow (Grow.push _ _) size_push_le).trans (NoteCh.fields e₃ hd₁ (.inr ⟨c, hc₁.1⟩) hna))) ?_
    exact ⟨hna, _, _, h₂.objs.size, _, _, e₄, ⟨(Obj.cls_mapFields ..).trans hc₁.1, (dict_mapFields ..).trans hc₁.2⟩, hd₃, by simp; exact nLt fun hzz => linN [_] [le1 x0 (.n 5), lt1 (.n 5) x0] (Eq.refl true) hzz hsz₁, by simp [show 1 < vs₁.size by exact nLt fun hzz => linN [_] [le1 x0 (.n 1), lt1 (.n 5) x0] (Eq.refl true) hzz hsz₁], hTa, hnT, eT, rfl, rfl, by simp⟩
  rcases tb with tb | ⟨T, oT, ts, t1, t2, t3, t4, t5, t6, x, t7⟩
  · refine wpAny_bind (wpAny_field ho hd tb ?_)
    rw [if_neg (by decide)]
    exact rest s.heap .none vs o .refl ho hc hd hsz
  · refine wpAny_bind (wpAny_field ho hd t1 ?_)
    rw [if_pos (show (Value.ref T != Value.none) = true from by simp)]
    refine wpAny_bind (wpAny_field t4 t6 t7 ?_)
    have hT3 : 3 < ts.size := (Array.getElem?_eq_some_iff.mp t7).1
    by_cases hx : (x == rawInt L) = true
    · rw [if_pos hx]
      have hx' : x = rawInt L := beq_iff_eq.mp hx
      subst hx'
      exact wpAny_pure (h L s.heap he .refl ⟨hna, o, vs, T, oT, ts, ho, hc, hd, hsz, t1, t2, t3, t4, t5, t6, t7⟩)
    · rw [if_neg hx]
      refine wpAny_bind (wpAny_setField t4 t6 hT3 ?_)
      exact rest _ (.ref T) vs o (NoteCh.fields t4 t6 (.inl t5) t3) ((Heap.get?_update_other _ _ t2).trans ho) hc hd hsz

theorem flight_fly {E : Value → Shared → Prop} {Q : Unit → Shared → Prop} {a c : Addr} {x : Value} {fr : Option Addr} (F : FlyT n s.heap x a c)
    (h : ∀ h', NoteCh G n ρ s.heap h' → FlyT n h' (fr.elim .none fun f => rawInt f) a c → Q () { s with heap := h' }) : wpAny G.M A (setFlight (.ref a) fr) Q E s := by
  obtain ⟨hna, o, vs, T, oT, ts, ho, hc, hd, hsz, t1, t2, t3, t4, t5, t6, t7⟩ := F
  have hT3 : 3 < ts.size := (Array.getElem?_eq_some_iff.mp t7).1
  unfold setFlight
  refine wpAny_bind (wpAny_field ho hd t1 ?_)
  rw [if_pos (show (Value.ref T != Value.none) = true from by simp)]
  refine wpAny_setField t4 t6 hT3 ?_
  have hd₃ := Obj.data_mapFields t6 (·.setIfInBounds 3 (fr.elim Value.none fun f => rawInt f))
  refine h _ (NoteCh.fields t4 t6 (.inl t5) t3) ⟨hna, o, vs, T, _, _, (Heap.get?_update_other _ _ t2).trans ho, hc, hd, hsz, t1, t2, t3,
    Heap.get?_update_self _ t4 (Obj.isFreed_of_fields hd₃), (Obj.cls_mapFields ..).trans t5, hd₃, by simp [hT3]⟩

theorem leave_fly {E : Value → Shared → Prop} {Q : Unit → Shared → Prop} {a c : Addr} (S : Stk G A env s.heap ρ) (F : Fly n s.heap env.frame a c) (hlt : n ≤ s.heap.objs.size)
    (h : ∀ h', NoteCh G n ρ s.heap h' → FlyT n h' .none a c → Q () { s with heap := h' }) : wpAny G.M A (leaving env (.ref a)) Q E s := by
  unfold leaving
  refine wpAny_bind (note_fly S F hlt fun L h' hL N T => ?_)
  exact flight_fly (s := { s with heap := h' }) (fr := none) T fun h'' N' T' => h h'' (N.trans N') T'

variable {tbl : List Str} {st' : St}
/-- an exception met in a turn of a loop is noted -/
theorem noted_ok {R : Result → Shared → Prop} {a c : Addr} (S : Stk G A env s.heap ρ) (F : Fly hs.objs.size s.heap env.frame a c) (I : Inv G s ρ st'.sto) (x : Ev P hs ρs s.heap ρ) (Fm : Frm G tbl P env s.heap ρ st'.loc) (hb : ∀ b, hs.objs.size ≤ b → G.h0.get? b = none)
    (h : ∀ L s', Inv G s' ρ st'.sto → Ev P hs ρs s'.heap ρ → Frm G tbl P env s'.heap ρ st'.loc → Stk G A env s'.heap ρ → env.frame = some L → FlyT hs.objs.size s'.heap (rawInt L) a c → R (.error (.ref a)) s') :
    notedBy G.M A env (fun e s' => R (.error e) s') (.ref a) s :=
  note_fly S F x.size fun L h' hL N T => h L _ (N.inv I hb s.toks) (N.ev x) (N.frm Fm) (N.stk S) hL T
theorem back_ok {E : Value → Shared → Prop} {L a c : Addr} (S : Stk G A env s.heap ρ) (hL : env.frame = some L) (T : FlyT hs.objs.size s.heap (rawInt L) a c) (I : Inv G s ρ st'.sto) (x : Ev P hs ρs s.heap ρ) (Fm : Frm G tbl P env s.heap ρ st'.loc) (hb : ∀ b, hs.objs.size ≤ b → G.h0.get? b = none)
    (h : ∀ s', Inv G s' ρ st'.sto → Ev P hs ρs s'.heap ρ → Frm G tbl P env s'.heap ρ st'.loc → Fly hs.objs.size s'.heap env.frame a c → E (.ref a) s') : cameBackBy G.M A env E (.ref a) s := by
  unfold cameBackBy
  obtain ⟨hna, o, vs, T', oT, ts, ho, hc, hd, hsz, t1, t2, t3, t4, t5, t6, t7⟩ := id T
  refine wpAny_bind (wpAny_field ho hd t1 ?_)
  rw [if_neg (by simp)]
  refine flight_fly (fr := env.frame) T fun h' N T => h _ (N.inv I hb s.toks) (N.ev x) (N.frm Fm) T.fly
end
end Mine

end

/- part F6 -/
section
set_option Elab.async false
set_option linter.unusedVariables false
namespace Mine
open PySem PyProof.Rows

noncomputable def bindP : Loc → List Nat → List D → Loc
  | loc, p :: ps, d :: ds => bindP (upd loc p d) ps ds
  | loc, _, _ => loc
noncomputable def emptyL : Loc := fun _ => none

noncomputable def mkFn (ps : List Nat) (body : Mn Fl) : List D → Mn D := fun ds st =>
  if ds.length = ps.length then
    match body ⟨bindP emptyL ps ds, st.sto⟩ with
    | .ok (.ret d) st' => .ok d ⟨st.loc, st'.sto⟩
    | .ok _ st' => .ok .none ⟨st.loc, st'.sto⟩
    | .exc c st' => .exc c ⟨st.loc, st'.sto⟩
    | .bot => .bot
  else .bot

/-- the frames below stand -/
noncomputable def Bel (G : Gd) (A : Around) (h : Heap) (ρ : List Addr) : Prop := (∃ fs, A.frames = some fs) ∧ ∀ fs, A.frames = some fs → FF G h ρ fs

/-- the function at a does what F does -/
noncomputable def SF (G : Gd) (n : Nat) (a : Addr) (F : List D → Mn D) : Prop :=
  ∀ A env s ρ st ds vs, Room n A → Inv G s ρ st.sto → Bel G A s.heap ρ → RelL G s.heap ρ ds vs → At G A env s ρ st (RV G) (call (.ref a) vs) (F ds)

/-- the same, from one state -/
noncomputable def SFat (G : Gd) (n : Nat) (a : Addr) (F : List D → Mn D) (s : Shared) (ρ : List Addr) (σ : Sto) : Prop :=
  ∀ A env loc ds vs, Room n A → Inv G s ρ σ → Bel G A s.heap ρ → RelL G s.heap ρ ds vs → At G A env s ρ ⟨loc, σ⟩ (RV G) (call (.ref a) vs) (F ds)
theorem SF.at {G : Gd} {n : Nat} {a : Addr} {F : List D → Mn D} (h : SF G n a F) (s : Shared) (ρ : List Addr) (σ : Sto) : SFat G n a F s ρ σ := fun A env loc ds vs => h A env s ρ ⟨loc, σ⟩ ds vs

theorem cellsFrom_mem : ∀ (names : List (Str × NameKind)) (n : Nat) (acc : List (Str × Addr)) (x : Str), ((x, NameKind.cell) ∈ names ∨ (acc.lookup x).isSome = true) → ((cellsFrom n names acc).lookup x).isSome = true
  | [], n, acc, x, h => by rcases h with h | h; cases h; exact h
  | (y, k) :: r, n, acc, x, h => by
    unfold cellsFrom
    split
    · refine cellsFrom_mem r _ _ x ?_
      rcases h with h | h
      · rcases List.mem_cons.mp h with e | m
        · cases e; right; simp [List.lookup]
        · exact .inl m
      · right
        simp only [List.lookup]
        split
        · rfl
        · exact h
    · rename_i hk
      refine cellsFrom_mem r _ _ x ?_
      rcases h with h | h
      · rcases List.mem_cons.mp h with e | m
        · cases e; simp at hk
        · exact .inl m
      · exact .inr h

/-- what a frame's two maps hold of the pure locals -/
noncomputable def MapsOk (G : Gd) (tbl : List Str) (kindOf : Str → Option NameKind) (h : Heap) (ρ : List Addr) (m cm : Str → Option Value) (loc : Loc) : Prop :=
  ∀ (i : Nat) (x : Str), tbl[i]? = some x → ∀ d, loc i = some d → (kindOf x = some .local → ∃ v, m x = some v ∧ Rel G h ρ d v) ∧ ((kindOf x = some .cell ∨ kindOf x = some .free) → ∃ v, cm x = some v ∧ Rel G h ρ d v)

theorem maps_bind {G : Gd} {tbl : List Str} {kindOf : Str → Option NameKind} {h : Heap} {ρ : List Addr} (tnd : tbl.Nodup) : ∀ (is : List Nat) (xs : List Str) (ds : List D) (vs : List Value) (m cm : Str → Option Value) (loc : Loc),
    All2 (fun (i : Nat) x => tbl[i]? = some x) is xs → RelL G h ρ ds vs → ds.length = is.length → MapsOk G tbl kindOf h ρ m cm loc →
    MapsOk G tbl kindOf h ρ (bindL kindOf (xs.zip vs) m) (bindC kindOf (xs.zip vs) cm) (bindP loc is ds)
  | [], _, ds, vs, m, cm, loc, .nil, r, hl, M => by
    cases ds with
    | nil => simp only [RelL] at r; subst r; exact M
    | cons _ _ => simp at hl
  | i :: is, x :: xs, ds, vs, m, cm, loc, .cons hx hxs, r, hl, M => by
    cases ds with
    | nil => simp at hl
    | cons d ds =>
      simp only [RelL] at r
      obtain ⟨v, vr, rfl, r1, r2⟩ := r
      simp only [List.zip_cons_cons, bindL, bindC, bindP]
      refine maps_bind tnd is xs ds vr _ _ _ hxs r2 (by simpa using hl) fun j y hy d' hd' => ?_
      by_cases hj : j = i
      · subst hj
        rw [hx] at hy; cases hy
        simp only [upd, if_true] at hd'
        cases hd'
        refine ⟨fun k => ⟨v, by simp [k], r1⟩, fun k => ⟨v, ?_, r1⟩⟩
        have : ¬ kindOf x = some .local := fun z => by rw [z] at k; rcases k with k | k <;> cases k
        simp [this]
      · simp only [upd, hj, if_false] at hd'
        have hne : y ≠ x := fun z => hj (nodup_getElem_inj tnd (z ▸ hy) hx)
        obtain ⟨q1, q2⟩ := M j y hy d' hd'
        refine ⟨fun k => ?_, fun k => ?_⟩
        · obtain ⟨v', e1, e2⟩ := q1 k
          refine ⟨v', ?_, e2⟩
          split
          · simp [hne, e1]
          · exact e1
        · obtain ⟨v', e1, e2⟩ := q2 k
          refine ⟨v', ?_, e2⟩
          split
          · exact e1
          · simp [hne, e1]

structure FnIs (G : Gd) (a : Addr) (fd : FuncData) (body : List Stmt) (xs : List Str) : Prop where
  obj : ∃ o, G.h0.get? a = some o ∧ o.data = .func fd
  body : fd.body = .stmts body
  glob : fd.globals = mainGlobals
  clo : fd.closure = []
  bi : fd.builtins = builtinsNs
  code : G.h0.CodeRec fd.code fd.qualname
  lim : G.h0.NoLimit
  kind : fd.scope.kind = .function
  co : fd.scope.isCoroutine = false
  gen : fd.scope.isGenerator = false
  bind : ∀ vs : List Value, vs.length = xs.length → bindArgs fd ⟨vs, []⟩ = pure (xs.zip vs)
  par : ∀ x, x ∈ xs → fd.scope.names.lookup x = some .local ∨ fd.scope.names.lookup x = some .cell
  nofree : ∀ x, x ∈ fd.scope.names → x.2 ≠ .free

theorem codeRec_grow {h h' : Heap} (g : Grow h h') {c : Value} {q : Str} (x : h.CodeRec c q) : h'.CodeRec c q := by
  obtain ⟨c, oc, vs, tq, hc, hoc, hdc, hq⟩ := x
  exact ⟨c, oc, vs, tq, hc, g _ _ hoc, hdc, hq⟩

theorem lookup_zip_mem {xs : List Str} {vs : List Value} : ∀ p, p ∈ xs.zip vs → p.1 ∈ xs := fun p m => (List.of_mem_zip m).1

theorem sf_body {G : Gd} {a : Addr} {fd : FuncData} {body : List Stmt} {xs : List Str} {is : List Nat} {tbl : List Str} {n : Nat} {m : Mn Fl} (Fi : FnIs G a fd body xs) (tnd : tbl.Nodup)
    (hi : All2 (fun (i : Nat) x => tbl[i]? = some x) is xs) (hb : SSs G ⟨fd.scope.names, tbl, n, false, fd.code, fd.qualname ++ ".<locals>."⟩ body m) : SF G (n + 1) a (mkFn is m) := by
  intro A env₀ s ρ st ds vs R I B r hbot
  have hlen : ds.length = is.length := by
    cases h : decide (ds.length = is.length) with
    | true => exact of_decide_eq_true h
    | false => exact absurd (by unfold mkFn; simp only [of_decide_eq_false h, if_false]) hbot
  have hvl : vs.length = xs.length := by rw [r.all2.length, hlen, hi.length]
  obtain ⟨o, ho, hdata⟩ := Fi.obj
  have g0 : Grow G.h0 s.heap := I.base
  refine wpAny_call (codeAny_call_cells (fd := fd) (binds := xs.zip vs) (by have := R.depth; show A.depth < 1000; exact nLt fun hzz => linN [_, _] [le1 (.n 1000) x0, le1 (.a x0 (.a x1 (.n 1))) (.n 900), le1 (.n 0) x1] (Eq.refl true) hzz this (Nat.zero_le _)) (I.base _ _ ho) hdata (Fi.lim.keeps g0) (codeRec_grow g0 Fi.code) Fi.body (Fi.bind vs hvl) Fi.clo
    (fun p m => ?_) (fun s₁ X => ?_) Fi.co Fi.gen Fi.kind)
  · rcases Fi.par p.1 (lookup_zip_mem p m) with h | h
    · exact .inl h
    · exact .inr ⟨h, cellsFrom_mem _ _ _ _ (.inl (mem_of_lookup h))⟩
  generalize hE : callEnvC fd s.heap.objs.size a = env at X ⊢
  have eloc : env.locals = s.heap.objs.size := by rw [← hE]; rfl
  have escope : env.scope = fd.scope := by rw [← hE]; rfl
  have ekind : ∀ x, env.kindOf x = fd.scope.names.lookup x := fun x => by unfold Env.kindOf; rw [escope]
  have eframe : env.frame = some env.locals := by rw [← hE]; rfl
  have ecells : env.cells = cellsFrom (s.heap.objs.size + 1) fd.scope.names [] := by rw [← hE]; rfl
  obtain ⟨h₁, tk, hs₁⟩ := X.toInCall.same
  have g1 : Grow s.heap s₁.heap := X.toInCall.keep
  have z1 : s.heap.objs.size ≤ s₁.heap.objs.size := by
    obtain ⟨oL, _, _, hoL, _⟩ := X.toInCall.ns
    have := Heap.lt_size hoL
    rw [eloc] at this; exact Nat.le_of_lt this
  have I₁ : Inv G s₁ ρ st.sto := by
    have := I.grow (h' := h₁) (by rw [hs₁] at g1; exact g1) (by rw [hs₁] at z1; exact z1) tk
    rw [hs₁]; exact this
  have hcell_size : ∀ x c, env.cells.lookup x = some c → s.heap.objs.size < c := fun x c e => eloc ▸ X.above x c (mem_of_lookup e)
  have hM : MapsOk G tbl env.kindOf s₁.heap ρ (bindL env.kindOf (xs.zip vs) fun _ => none) (bindC env.kindOf (xs.zip vs) fun _ => none) (bindP emptyL is ds) :=
    maps_bind tnd is xs ds vs _ _ _ hi (RelL.mono g1.stb _ _ r) hlen fun i x _ d hd => by cases hd
  have Wp : Wr env (env.locals :: env.cells.filterMap fun p => env.cells.lookup p.1) := fun x c e => List.mem_cons_of_mem _ (List.mem_filterMap.mpr ⟨(x, c), mem_of_lookup e, e⟩)
  have Pp : ∀ p, p ∈ (env.locals :: env.cells.filterMap fun p => env.cells.lookup p.1) → s.heap.objs.size ≤ p ∧ (p = env.locals ∨ ∃ x, env.cells.lookup x = some p) := fun p mp => by
    rcases List.mem_cons.mp mp with rfl | mp
    · exact ⟨by rw [eloc]; exact Nat.le_refl _, .inl rfl⟩
    · obtain ⟨⟨x, c⟩, mc, e⟩ := List.mem_filterMap.mp mp
      exact ⟨Nat.le_of_lt (hcell_size x p e), .inr ⟨x, e⟩⟩
  generalize hP : (env.locals :: env.cells.filterMap fun p => env.cells.lookup p.1) = P at Wp Pp
  have Fm : Frm G tbl P env s₁.heap ρ (bindP emptyL is ds) := {
    kind := by rw [escope]; exact Fi.kind
    glob := by rw [← hE]; exact Fi.glob
    bi := by rw [← hE]; exact Fi.bi
    ns := ⟨_, X.toInCall.ns, fun i x e k d hd => (hM i x e d hd).1 k⟩
    cell := fun i x e k => by
      have hk : (x, NameKind.cell) ∈ fd.scope.names := by
        rcases k with k | k
        · rw [ekind] at k; exact mem_of_lookup k
        · rw [ekind] at k; exact absurd rfl (Fi.nofree _ (mem_of_lookup k))
      obtain ⟨c, hc⟩ := Option.isSome_iff_exists.mp (cellsFrom_mem fd.scope.names (s.heap.objs.size + 1) [] x (.inl hk))
      rw [← ecells] at hc
      exact ⟨c, hc, _, X.cell x c hc, fun d hd => (hM i x e d hd).2 k⟩
    cok := fun x c e => ⟨fun mm => Nat.lt_asymm (I.mem_lt mm) (hcell_size x c e), _, X.cell x c e⟩
    cinj := fun x y c e1 e2 => name_of_addr X.apart (mem_of_lookup e1) (mem_of_lookup e2)
    lrho := by rw [eloc]; exact I.size_notin
    lP := by rw [← hP]; exact List.mem_cons_self
    own := fun p mp => ⟨I.h0_le (Pp p mp).1, (Pp p mp).2⟩
    tnd := tnd }
  obtain ⟨fs, hfs⟩ := B.1
  have hfr : (A.deeper env).frames = some (env :: fs) := Around.frames_deeper hfs
  have hff : FF G s₁.heap ρ (env :: fs) := fun e me => by
    rcases List.mem_cons.mp me with rfl | me
    · obtain ⟨mm, n, _⟩ := Fm.ns
      obtain ⟨oL, es, ep, hoL, hdL, _⟩ := n
      exact ⟨by rw [escope, Fi.kind]; decide, e.locals, oL, es, ep, eframe, by rw [eloc]; exact I.h0_size, Fm.lrho, hoL, hdL⟩
    · exact (B.2 fs hfs).keep (Grow.ev g1 z1) e me
  have K : Ok G ⟨fd.scope.names, tbl, n, false, fd.code, fd.qualname ++ ".<locals>."⟩ (A.deeper env) P env s₁ ρ ⟨bindP emptyL is ds, st.sto⟩ := {
    room := ⟨fun _ => R.hd, by have := R.depth; show A.depth + 1 + n ≤ 900; exact nLe fun hzz => linN [_, _] [lt1 (.n 900) (.a (.a x0 (.n 1)) x1), le1 (.a x0 (.a x1 (.n 1))) (.n 900)] (Eq.refl true) hzz this, by have := R.units; show A.units + 3 + 10 * n ≤ 9000; exact nLe fun hzz => linN [_, _] [lt1 (.n 9000) (.a (.a x0 (.n 3)) (.m 10 x1)), le1 (.a x0 (.m 10 (.a x1 (.n 1)))) (.n 9000)] (Eq.refl true) hzz this⟩
    sees := ⟨fun x h => (ekind x).trans h, fun x h => (ekind x).trans h, fun x h => .inr ((ekind x).trans h), fun x h => (ekind x).trans h⟩
    inv := I₁
    frm := Fm
    stk := ⟨⟨env, fs, env.locals, hfr, eframe, eframe⟩, fun fs' e => by rw [hfr] at e; cases e; exact hff⟩
    code := .inr (by rw [← hE]; rfl)
    qual := .inr (by rw [← hE]; rfl) }
  have hnb : m ⟨bindP emptyL is ds, st.sto⟩ ≠ .bot := fun z => hbot (by unfold mkFn; simp only [hlen, if_true, z])
  have back : ∀ {s' : Shared} {ρ' : List Addr}, Ev P s₁.heap ρ s'.heap ρ' → Ev [] s.heap ρ s'.heap ρ' := fun x =>
    ((Grow.ev g1 z1).trans x).less fun p mp => .inr (Pp p mp).1
  refine wpAny_mono (hb.run (A.deeper env) P env s₁ ρ _ K Wp hnb) (fun f s' q => ?_) fun x s' q => ?_
  · obtain ⟨ρ', fl, st', e, I', x, F', rr⟩ := q
    cases fl with
    | next => cases (show f = .next from rr); exact ⟨ρ', .none, st'.sto, by unfold mkFn; simp only [hlen, if_true, e], I', back x, rfl⟩
    | brk => cases (show f = .brk from rr); exact ⟨ρ', .none, st'.sto, by unfold mkFn; simp only [hlen, if_true, e], I', back x, rfl⟩
    | cont => cases (show f = .cont from rr); exact ⟨ρ', .none, st'.sto, by unfold mkFn; simp only [hlen, if_true, e], I', back x, rfl⟩
    | ret d =>
      obtain ⟨v, rfl, rr⟩ := rr
      exact ⟨ρ', d, st'.sto, by unfold mkFn; simp only [hlen, if_true, e], I', back x, rr⟩
  · obtain ⟨ρ', c, st', a', e, I', x, F', rfl, fl⟩ := q
    have K' := K.stepS I' x F'
    refine leave_fly (n := s₁.heap.objs.size) K'.stk fl x.size fun h'' N T => ?_
    refine ⟨ρ', c, st'.sto, a', by unfold mkFn; simp only [hlen, if_true, e], N.inv I' (fun b z => I₁.h0_le z) s'.toks, back (N.ev x), rfl, ?_⟩
    exact T.fly.from z1
end Mine

end

/- part F7 -/
section
set_option Elab.async false
set_option linter.unusedVariables false
namespace Mine
open PySem PyProof.Rows

noncomputable def GlobIs (G : Gd) (x : Str) (v : Value) : Prop := ∃ mg, G.h0.Ns mainGlobals mg ∧ mg x = some v
noncomputable def BuiIs (G : Gd) (x : Str) (v : Value) : Prop := ∃ mg mb, G.h0.Ns mainGlobals mg ∧ mg x = none ∧ G.h0.Ns builtinsNs mb ∧ mb x = some v

section
variable {G : Gd} {C : Cx} {A : Around} {P : List Addr} {env : Env} {s : Shared} {ρ : List Addr} {st : St}

theorem name_glob {x : Str} {v : Value} {pos : Pos} (K : Ok G C A P env s ρ st) (hg : GlobIs G x v) (hn : C.names.lookup x = some .globalImplicit) (hd : (x == ("__debug__" : Str)) = false) {Q : Value → Shared → Prop} {E : Value → Shared → Prop} (h : Q v s) :
    wpAny G.M A (eval (.Name x pos) env) Q E s := by
  obtain ⟨mg, n, e⟩ := hg
  refine Calls.Name_function_global K.frm.kind (K.sees.glob x hn) (Calls.loadGlobal_global (mg := mg) ?_ e h) hd
  rw [K.frm.glob]; exact n.keeps K.inv.base
theorem name_bui {x : Str} {v : Value} {pos : Pos} (K : Ok G C A P env s ρ st) (hg : BuiIs G x v) (hn : C.names.lookup x = some .globalImplicit) (hd : (x == ("__debug__" : Str)) = false) {Q : Value → Shared → Prop} {E : Value → Shared → Prop} (h : Q v s) :
    wpAny G.M A (eval (.Name x pos) env) Q E s := by
  obtain ⟨mg, mb, n, e, n', e'⟩ := hg
  refine Calls.Name_function_global K.frm.kind (K.sees.glob x hn) (Calls.loadGlobal_builtin (mg := mg) (mb := mb) ?_ e ?_ e' h) hd
  · rw [K.frm.glob]; exact n.keeps K.inv.base
  · rw [K.frm.bi]; exact n'.keeps K.inv.base

theorem se_globInt {x : Str} {i : Int} {t : Tok} {pos : Pos} (hg : GlobIs G x (.int i t)) (hn : C.names.lookup x = some .globalImplicit) (hd : (x == ("__debug__" : Str)) = false) : SE G C (.Name x pos) (ret1 (.int i)) := .mk <| fun A P env s ρ st K =>
  At.leaf (fun _ => name_glob K hg hn hd ⟨_, rfl, Grow.same0, ⟨_, rfl⟩⟩) K

theorem sa_nil : SA G C [] (ret1 []) := .mk <| fun A P env s ρ st pos K => At.pure K (by show RelL _ _ _ _ _; simp [RelL])
theorem sa_cons {e : Expr} {es : List Expr} {m : Mn D} {ms : Mn (List D)} (he : SE G C e m) (hs : SA G C es ms) (hst : ∀ env, starEach (e :: es) env = (false, eval e env) :: starEach es env) :
    SA G C (e :: es) (bnd m fun d => bnd ms fun ds => ret1 (d :: ds)) := .mk <| fun A P env s ρ st pos K => by
  rw [hst]
  show At G A env s ρ st (RVs G) (eval e env >>= fun v => pure [v] >>= fun here => holding here (spliced (backTo pos (starEach es env))) >>= fun r => pure (here ++ r)) _
  refine At.bind K (he.run A P env s ρ st K) fun v s' ρ' d σ' K' x r => ?_
  refine At.ofEq (t' := holding [v] (spliced (backTo pos (starEach es env))) >>= fun r => pure ([v] ++ r)) rfl ?_
  refine At.bind K' (hs.run A P env s' ρ' _ pos K').hold fun vs s'' ρ'' ds σ'' K'' x2 r2 => ?_
  refine At.pure K'' ?_
  show RelL _ _ _ _ _
  simp only [RelL]
  exact ⟨v, vs, rfl, Rel.mono (x2.stb K'.inv .nil) _ _ r, r2⟩

theorem Ok.bel (K : Ok G C A P env s ρ st) : Bel G A s.heap ρ := ⟨let ⟨f, o, _, h, _⟩ := K.stk.fr; ⟨f :: o, h⟩, K.stk.ff⟩

/-- a call of the text's own def -/
theorem se_call {f : Str} {a : Addr} {n : Nat} {F : List D → Mn D} {e : Expr} {es : List Expr} {ms : Mn (List D)} {np pos : Pos} (hg : GlobIs G f (.ref a)) (hn : C.names.lookup f = some .globalImplicit) (hd : (f == ("__debug__" : Str)) = false)
    (hfd : ∃ o fd, G.h0.get? a = some o ∧ o.data = .func fd) (hF : SF G n a F) (hC : C.inh = false) (hl : n ≤ C.lvl) (hs : SA G C (e :: es) ms) (hst : ∀ env, starEach (e :: es) env = (false, eval e env) :: starEach es env) :
    SE G C (.Call (.Name f np) (e :: es) [] pos) (bnd ms F) := .mk <| fun A P env s ρ st K hb => by
  show wpAny G.M A (eval (.Name f np) env >>= fun fv => callWith pos fv [] (backTo pos (starEach (e :: es) env)) []) _ _ s
  refine wpAny_bind (name_glob K hg hn hd ?_)
  obtain ⟨o, fd, ho, hfdd⟩ := hfd
  refine Calls.callWith_function (o := o) (fd := fd) ?_
  have hev : backTo pos (starEach (e :: es) env) = (false, eval e env) :: backTo pos (starEach es env) := by rw [hst]; rfl
  have h1 := hs.run A P env s ρ st pos K (bnd_ne_bot hb)
  rw [hev] at h1 ⊢
  refine Calls.evalArgs_plain (wpAny_mono h1 (fun vs s' q => ?_) fun x s' q => ?_)
  · refine OkE.elim q fun ρ' ds σ' e' I' x' r => ?_
    refine ⟨⟨I'.base _ _ ho, hfdd⟩, ?_⟩
    have K' := K.step I' x'
    have e2 : bnd ms F st = F ds ⟨st.loc, σ'⟩ := by simp only [bnd, e']
    rw [e2] at hb ⊢
    refine wpAny_mono (hF A env s' ρ' ⟨st.loc, σ'⟩ ds vs ((K.room.room hC).le hl) I' K'.bel r hb) (fun w s'' q => ?_) fun w s'' q => ?_
    · exact OkE.tr q x'
    · exact ExcE.tr q x'
  · exact ExcE.bnd q

/-- what a built-in function does with plain positional arguments -/
noncomputable def BF (G : Gd) (id : String) (F : List D → Mn D) : Prop :=
  ∀ C A P env s ρ st ds vs, C.inh = false → Ok G C A P env s ρ st → RelL G s.heap ρ ds vs → At G A env s ρ st (RV G) (call (.builtin id) vs) (F ds)
theorem se_bcall {f : Str} {id : String} {F : List D → Mn D} {e : Expr} {es : List Expr} {ms : Mn (List D)} {np pos : Pos} (hg : BuiIs G f (.builtin id)) (hn : C.names.lookup f = some .globalImplicit) (hd : (f == ("__debug__" : Str)) = false)
    (hC : C.inh = false) (hF : BF G id F) (hs : SA G C (e :: es) ms) (hst : ∀ env, starEach (e :: es) env = (false, eval e env) :: starEach es env) (hpl : ∀ env, (backTo pos (starEach es env)).any (·.1) = false) :
    SE G C (.Call (.Name f np) (e :: es) [] pos) (bnd ms F) := .mk <| fun A P env s ρ st K hb => by
  show wpAny G.M A (eval (.Name f np) env >>= fun fv => callWith pos fv [] (backTo pos (starEach (e :: es) env)) []) _ _ s
  refine wpAny_bind (name_bui K hg hn hd ?_)
  have hev : backTo pos (starEach (e :: es) env) = (false, eval e env) :: backTo pos (starEach es env) := by rw [hst]; rfl
  have h1 := hs.run A P env s ρ st pos K (bnd_ne_bot hb)
  rw [hev] at h1 ⊢
  refine Calls.callWith_builtin (by show (false || _) = false; rw [Bool.false_or]; exact hpl env) (Calls.evalArgs_plain (wpAny_mono h1 (fun vs s' q => ?_) fun x s' q => ?_))
  · refine OkE.elim q fun ρ' ds σ' e' I' x' r => ?_
    have K' := K.step I' x'
    have e2 : bnd ms F st = F ds ⟨st.loc, σ'⟩ := by simp only [bnd, e']
    rw [e2] at hb ⊢
    refine wpAny_mono (hF C A P env s' ρ' ⟨st.loc, σ'⟩ ds vs hC K' r hb) (fun w s'' q => ?_) fun w s'' q => ?_
    · exact OkE.tr q x'
    · exact ExcE.tr q x'
  · exact ExcE.bnd q
end
end Mine

end

/- part F8 -/
section
set_option Elab.async false
set_option linter.unusedVariables false
namespace Mine
open PySem PyProof.Rows

/-- an iterator at I: T rem: what it will yet give; Md v rem: it has just given v -/
structure Itx (G : Gd) (I : Addr) (S : List Addr) (tg : Expr → Prop) (g : Sto → Prop) (T : List D → Heap → List Addr → Sto → Prop) (Md : Value → List D → Heap → List Addr → Sto → Prop) : Prop where
  own : ∀ rem h ρ σ, T rem h ρ σ → ∀ q, q ∈ S → Own G h ρ σ q
  ownM : ∀ v rem h ρ σ, Md v rem h ρ σ → ∀ q, q ∈ S → Own G h ρ σ q
  keep : ∀ (P : List Addr) rem s ρ σ s' ρ' σ', T rem s.heap ρ σ → Inv G s ρ σ → Inv G s' ρ' σ' → Ev P s.heap ρ s'.heap ρ' → NT s.heap P → g σ' → T rem s'.heap ρ' σ'
  next : ∀ (A : Around) s ρ σ rem (Q : Option Value → Shared → Prop) (E : Value → Shared → Prop), A.handled = none → Inv G s ρ σ → T rem s.heap ρ σ →
    (rem = [] → ∀ h' tk, Only S s.heap h' → Q none { s with heap := h', toks := tk }) →
    (∀ d rest, rem = d :: rest → ∀ v h' tk, Only S s.heap h' → Rel G h' ρ d v → Md v rest h' ρ σ → Q (some v) { s with heap := h', toks := tk }) → wpAny G.M A (pyNext (.ref I)) Q E s
  go : ∀ (A : Around) s ρ σ tgt v rest (Q : Unit → Shared → Prop) (E : Value → Shared → Prop), tg tgt → Inv G s ρ σ → Md v rest s.heap ρ σ →
    (∀ h', Only S s.heap h' → T rest h' ρ σ → Q () { s with heap := h' }) → wpAny G.M A (letOwnedTupleGo tgt (.ref I) v) Q E s

/-- an iterator is its own iterator -/
noncomputable def ItSelf (G : Gd) (I : Addr) (T : List D → Heap → List Addr → Sto → Prop) : Prop :=
  ∀ (A : Around) s ρ σ rem (Q : Value → Shared → Prop) (E : Value → Shared → Prop), A.handled = none → T rem s.heap ρ σ → Q (.ref I) s → wpAny G.M A (pyIter (.ref I)) Q E s

/-- storing into a target -/
structure ST (G : Gd) (C : Cx) (b : Bool) (t : Expr) (f : D → Loc → Option Loc) : Prop where
  run : ∀ A P env s ρ st d v loc' (Q : Unit → Shared → Prop) (E : Value → Shared → Prop), Ok G C A P env s ρ st → (b = true → Wr env P) → Rel G s.heap ρ d v → f d st.loc = some loc' →
    (∀ s', Inv G s' ρ st.sto → Ev P s.heap ρ s'.heap ρ → Frm G C.tbl P env s'.heap ρ loc' → Q () s') → wpAny G.M A (assign t env v) Q E s

open Classical in
/-- a loop over ds, the source guarded by g -/
noncomputable def forM (tgt : D → Loc → Option Loc) (g : Sto → Prop) (body : Mn Fl) : List D → Mn Fl
  | [] => fun st => if g st.sto then .ok .next st else .bot
  | d :: rest => fun st => if g st.sto then
      match tgt d st.loc with
      | none => .bot
      | some loc' => match body ⟨loc', st.sto⟩ with
        | .ok .next st' => forM tgt g body rest st'
        | .ok .cont st' => forM tgt g body rest st'
        | .ok .brk st' => .ok .next st'
        | .ok (.ret d) st' => .ok (.ret d) st'
        | .exc c st' => .exc c st'
        | .bot => .bot
    else .bot

/-- how a loop ends -/
inductive LoopO (G : Gd) (tbl : List Str) (P : List Addr) (env : Env) (hs : Heap) (ρs : List Addr) (r : Out Fl) (f : Flow) (s' : Shared) : Prop
  | mk (ρ' : List Addr) (fl : Fl) (st' : St) : r = .ok fl st' → Inv G s' ρ' st'.sto → Ev P hs ρs s'.heap ρ' → Frm G tbl P env s'.heap ρ' st'.loc → FlR G s'.heap ρ' fl f → LoopO G tbl P env hs ρs r f s'
inductive LoopX (G : Gd) (tbl : List Str) (A : Around) (P : List Addr) (env : Env) (hs : Heap) (ρs : List Addr) (r : Out Fl) (x : Value) (s' : Shared) : Prop
  | mk (ρ' : List Addr) (c : Addr) (st' : St) (a L : Addr) : r = .exc c st' → Inv G s' ρ' st'.sto → Ev P hs ρs s'.heap ρ' → Frm G tbl P env s'.heap ρ' st'.loc → Stk G A env s'.heap ρ' → x = .ref a → env.frame = some L → FlyT hs.objs.size s'.heap (rawInt L) a c → LoopX G tbl A P env hs ρs r x s'
noncomputable def LoopR (G : Gd) (tbl : List Str) (A : Around) (P : List Addr) (env : Env) (hs : Heap) (ρs : List Addr) (r : Out Fl) : Result → Shared → Prop
  | .ok f, s' => LoopO G tbl P env hs ρs r f s'
  | .error x, s' => LoopX G tbl A P env hs ρs r x s'

section
variable {G : Gd} {C : Cx} {A : Around} {P : List Addr} {env : Env}

theorem for_ok {I : Addr} {S : List Addr} {tg : Expr → Prop} {g : Sto → Prop} {T : List D → Heap → List Addr → Sto → Prop} {Md : Value → List D → Heap → List Addr → Sto → Prop} (X : Itx G I S tg g T Md)
    {target : Expr} {tf : D → Loc → Option Loc} {body : List Stmt} {m : Mn Fl} (hC : C.inh = false) (ht : tg target) (hT : ST G C true target tf) (hB : SSs G C body m) (W : Wr env P) {hs : Heap} {ρs : List Addr} (hb0 : ∀ b, hs.objs.size ≤ b → G.h0.get? b = none) :
    ∀ (ds : List D) (s : Shared) (ρ : List Addr) (st : St), Ok G C A P env s ρ st → T ds s.heap ρ st.sto → Ev P hs ρs s.heap ρ → (∀ q, q ∈ S → hs.objs.size ≤ q ∨ q ∈ ρs) → forM tf g m ds st ≠ .bot →
      codeAny G.M A (.forLoop target (.ref I) body [] env) (LoopR G C.tbl A P env hs ρs (forM tf g m ds st)) s := by
  intro ds
  induction ds with
  | nil =>
    intro s ρ st K hTT x hS hbot
    have hg : g st.sto := by
      by_cases h : g st.sto
      · exact h
      · exact absurd (by simp only [forM, h, if_false]) hbot
    refine codeAny_of_tree ?_
    show wpAny _ A ((forTurn target (.ref I) body [] env).onRaise (fun x => do noteFrame x env; theTreesLotGoes x)) _ _ s
    refine wpAny_noted ?_
    simp only [forTurn]
    refine wpAny_bind (wpAny_standAt (wpAny_bind (wpAny_onRaise (X.next A s ρ st.sto [] _ _ (K.room.hd hC) K.inv hTT (fun _ h' tk ho => ?_) (fun d rest e => by cases e)))))
    have K' := K.only ho (X.own _ _ _ _ hTT) tk
    refine wpAny_pure (And.intro rfl (codeAny_block (wpAny_execs_nil ⟨ρ, .next, st, ?_, K'.inv, x.only ho hS, K'.frm, rfl⟩)))
    simp only [forM, hg, if_true]
  | cons d rest ih =>
    intro s ρ st K hTT x hS hbot
    have hg : g st.sto := by
      by_cases h : g st.sto
      · exact h
      · exact absurd (by simp only [forM, h, if_false]) hbot
    refine codeAny_of_tree ?_
    show wpAny _ A ((forTurn target (.ref I) body [] env).onRaise (fun x => do noteFrame x env; theTreesLotGoes x)) _ _ s
    refine wpAny_noted ?_
    simp only [forTurn]
    refine wpAny_bind (wpAny_standAt (wpAny_bind (wpAny_onRaise (X.next A s ρ st.sto (d :: rest) _ _ (K.room.hd hC) K.inv hTT (fun e => by cases e) (fun d' rest' e v h' tk ho r hM => ?_)))))
    cases e
    have K₁ := K.only ho (X.own _ _ _ _ hTT) tk
    refine wpAny_bind (X.go A _ ρ st.sto target v rest _ _ ht K₁.inv hM fun h₂ ho₂ hT₂ => ?_)
    have K₂ := K₁.only ho₂ (X.ownM _ _ _ _ _ hM) tk
    have x₂ : Ev P hs ρs h₂ ρ := (x.only ho hS).only ho₂ hS
    have r₂ : Rel G h₂ ρ d v := Rel.mono (ho₂.stb (X.ownM _ _ _ _ _ hM)) d v r
    cases e1 : tf d st.loc with
    | none => exact absurd (by simp only [forM, hg, if_true, e1]) hbot
    | some loc' =>
      refine wpAny_bind (hT.run A P env { s with heap := h₂, toks := tk } ρ st d v loc' _ _ K₂ (fun _ => W) r₂ e1 fun s₃ I₃ x₃ F₃ => ?_)
      have K₃ : Ok G C A P env s₃ ρ ⟨loc', st.sto⟩ := K₂.stepS (st' := ⟨loc', st.sto⟩) I₃ x₃ F₃
      have hnb : m ⟨loc', st.sto⟩ ≠ .bot := fun z => hbot (by simp only [forM, hg, if_true, e1, z])
      have T₃ : T rest s₃.heap ρ st.sto := X.keep P rest { s with heap := h₂, toks := tk } ρ st.sto s₃ ρ st.sto hT₂ K₂.inv I₃ x₃ K₂.frm.nt hg
      refine wpAny_bind (wpAny_mono (hB.run A P env s₃ ρ _ K₃ W hnb) (fun f s₄ q => ?_) fun e s₄ q => ?_)
      · obtain ⟨ρ₄, fl, st₄, e2, I₄, x₄, F₄, r₄⟩ := q
        have K₄ := K₃.stepS I₄ x₄ F₄
        have xx : Ev P hs ρs s₄.heap ρ₄ := (x₂.trans x₃).trans x₄
        have hS' : ∀ q, q ∈ S → hs.objs.size ≤ q ∨ q ∈ ρs := hS
        have again : ∀ (_ : forM tf g m (d :: rest) st = forM tf g m rest st₄), codeAny G.M A (.forLoop target (.ref I) body [] env) (LoopR G C.tbl A P env hs ρs (forM tf g m (d :: rest) st)) s₄ := fun e3 => by
          rw [e3] at hbot ⊢
          have hg₄ : g st₄.sto := by
            by_cases h : g st₄.sto
            · exact h
            · exact absurd (by cases rest <;> simp only [forM, h, if_false]) hbot
          exact ih s₄ ρ₄ st₄ K₄ (X.keep P rest s₃ ρ st.sto s₄ ρ₄ st₄.sto T₃ K₃.inv I₄ x₄ K₃.frm.nt hg₄) xx hS hbot
        cases fl with
        | next =>
          cases (show f = .next from r₄)
          exact wpAny_pure (And.intro rfl (again (by simp only [forM, hg, if_true, e1, e2])))
        | cont =>
          cases (show f = .cont from r₄)
          exact wpAny_pure (And.intro rfl (again (by simp only [forM, hg, if_true, e1, e2])))
        | brk =>
          cases (show f = .brk from r₄)
          exact wpAny_pure ⟨ρ₄, .next, st₄, by simp only [forM, hg, if_true, e1, e2], I₄, xx, F₄, rfl⟩
        | ret d' =>
          obtain ⟨v', rfl, r₄⟩ := r₄
          exact wpAny_pure ⟨ρ₄, .ret d', st₄, by simp only [forM, hg, if_true, e1, e2], I₄, xx, F₄, v', rfl, r₄⟩
      · obtain ⟨ρ₄, c, st₄, a, e2, I₄, x₄, F₄, rfl, fl⟩ := q
        have K₄ := K₃.stepS I₄ x₄ F₄
        have xx : Ev P hs ρs s₄.heap ρ₄ := (x₂.trans x₃).trans x₄
        refine noted_ok K₄.stk (fl.from (x₂.trans x₃).size) I₄ xx F₄ hb0 fun L s₅ I₅ x₅ F₅ S₅ hL fT => ?_
        exact ⟨ρ₄, c, st₄, a, L, by simp only [forM, hg, if_true, e1, e2], I₅, x₅, F₅, S₅, rfl, hL, fT⟩

structure Src where
  ds : List D
  g : Sto → Prop

/-- an iterator that is made -/
inductive SrcE (G : Gd) (s : Shared) (ρ : List Addr) (st : St) (tg : Expr → Prop) (r : Out Src) (it : Value) (s₂ : Shared) : Prop
  | mk (ρ' : List Addr) (src : Src) (σ' : Sto) (I : Addr) (S : List Addr) (T : List D → Heap → List Addr → Sto → Prop) (Md : Value → List D → Heap → List Addr → Sto → Prop) : r = .ok src ⟨st.loc, σ'⟩ → Inv G s₂ ρ' σ' →
    Ev [] s.heap ρ s₂.heap ρ' → it = .ref I → Itx G I S tg src.g T Md → ItSelf G I T → T src.ds s₂.heap ρ' σ' → (∀ q, q ∈ S → s.heap.objs.size ≤ q) → SrcE G s ρ st tg r it s₂
theorem SrcE.imp {G : Gd} {s s2 : Shared} {ρ : List Addr} {st : St} {tg : Expr → Prop} {r r' : Out Src} {it : Value} (q : SrcE G s ρ st tg r it s2) (h : ∀ d st', r = .ok d st' → r' = .ok d st') : SrcE G s ρ st tg r' it s2 :=
  let ⟨ρ', src, σ', I, S, T, Md, e, q1, q2, q3, q4, q5, q6, q7⟩ := q; ⟨ρ', src, σ', I, S, T, Md, h _ _ e, q1, q2, q3, q4, q5, q6, q7⟩
/-- the source of a loop -/
structure SI (G : Gd) (C : Cx) (e : Expr) (tg : Expr → Prop) (m : Mn Src) : Prop where
  run : ∀ A P env s ρ st, Ok G C A P env s ρ st → m st ≠ .bot → wpAny G.M A (eval e env) (fun x s₁ => wpAny G.M A (pyIter x) (SrcE G s ρ st tg (m st)) (ExcE G env s ρ st (m st)) s₁) (ExcE G env s ρ st (m st)) s

theorem ss_for {target iter : Expr} {body : List Stmt} {pos : Pos} {tg : Expr → Prop} {mi : Mn Src} {tf : D → Loc → Option Loc} {m : Mn Fl} (hC : C.inh = false) (hI : SI G C iter tg mi) (ht : tg target) (hT : ST G C true target tf) (hB : SSs G C body m)
    (hs : ∀ env x, foldedSetIterable iter env x = pure x) : SS G C (.For target iter body [] pos) (bnd mi fun src => forM tf src.g m src.ds) := .mk <| fun A P env s ρ st K W hb => by
  refine wpAny_For ?_ (hs env)
  refine wpAny_mono (hI.run A P env s ρ st K (bnd_ne_bot hb)) (fun x s₁ h₁ => wpAny_mono h₁ (fun it s₂ q => ?_) fun x s₂ q => ?_) fun x s₂ q => ?_
  · obtain ⟨ρ', src, σ', I, S, T, Md, e, I', x, rfl, X, _, hT0, hS⟩ := q
    have e' : bnd mi (fun src => forM tf src.g m src.ds) st = forM tf src.g m src.ds ⟨st.loc, σ'⟩ := by simp only [bnd, e]
    rw [e'] at hb ⊢
    have K' := K.step I' x
    refine codeAny_mono (for_ok X hC ht hT hB W (hs := s.heap) (ρs := ρ) (fun b z => K.inv.h0_le z) src.ds s₂ ρ' ⟨st.loc, σ'⟩ K' hT0 x.nil (fun q m => .inl (hS q m)) hb) fun r s' hr => ?_
    cases r with
    | ok f => obtain ⟨ρ'', fl, st'', e2, I'', x'', F'', r''⟩ := hr; exact ⟨ρ'', fl, st'', e2, I'', x'', F'', r''⟩
    | error ex =>
      obtain ⟨ρ'', c, st'', a, L, e2, I'', x'', F'', S'', rfl, hL, fT⟩ := hr
      exact back_ok S'' hL fT I'' x'' F'' (fun b z => K.inv.h0_le z) fun s₃ I₃ x₃ F₃ fl => ⟨ρ'', c, st'', a, e2, I₃, x₃, F₃, rfl, fl⟩
  · exact ExcE.toS K q
  · exact ExcE.toS K q

/-! targets -/
theorem st_name {i : Nat} {x : Str} {pos : Pos} {b : Bool} (hi : C.tbl[i]? = some x) (hx : C.names.lookup x = some .local) : ST G C b (.Name x pos) (fun d loc => some (upd loc i d)) := .mk <| fun A P env s ρ st d v loc' Q E K W r e h => by
  cases e
  exact wpAny_assign_Name (at_store K hi hx r h)
theorem st_nameC {i : Nat} {x : Str} {pos : Pos} (hi : C.tbl[i]? = some x) (hx : C.names.lookup x = some .cell) : ST G C true (.Name x pos) (fun d loc => some (upd loc i d)) := .mk <| fun A P env s ρ st d v loc' Q E K W r e h => by
  cases e
  exact wpAny_assign_Name (at_storeC K (W rfl) hi (K.sees.cell x hx) r h)

/-- several names in order -/
structure STs (G : Gd) (C : Cx) (b : Bool) (ts : List Expr) (f : List D → Loc → Option Loc) : Prop where
  run : ∀ A P env s ρ st ds vs loc' (Q : Unit → Shared → Prop) (E : Value → Shared → Prop), Ok G C A P env s ρ st → (b = true → Wr env P) → RelL G s.heap ρ ds vs → f ds st.loc = some loc' →
    (∀ s', Inv G s' ρ st.sto → Ev P s.heap ρ s'.heap ρ → Frm G C.tbl P env s'.heap ρ loc' → Q () s') → wpAny G.M A (assignInOrder ((assignEach ts env).map (·.2)) vs) Q E s
noncomputable def noneL : List D → Loc → Option Loc
  | [], loc => some loc
  | _, _ => none
noncomputable def consL (f : D → Loc → Option Loc) (g : List D → Loc → Option Loc) : List D → Loc → Option Loc
  | d :: ds, loc => (f d loc).bind (g ds)
  | [], _ => none
theorem sts_nil {b : Bool} : STs G C b [] noneL := .mk <| fun A P env s ρ st ds vs loc' Q E K W r e h => by
  cases ds with
  | nil =>
    simp only [RelL] at r; subst r
    simp only [noneL] at e; cases e
    exact wpAny_pure (h s K.inv Ev.refl K.frm)
  | cons _ _ => simp only [noneL] at e; cases e
theorem sts_cons {b : Bool} {t : Expr} {ts : List Expr} {f : D → Loc → Option Loc} {g : List D → Loc → Option Loc} (h1 : ST G C b t f) (h2 : STs G C b ts g) (hst : ∀ env, assignEach (t :: ts) env = (false, assign t env) :: assignEach ts env) :
    STs G C b (t :: ts) (consL f g) := .mk <| fun A P env s ρ st ds vs loc' Q E K W r e h => by
  cases ds with
  | nil => simp only [consL] at e; cases e
  | cons d ds =>
    simp only [RelL] at r
    obtain ⟨v, vr, rfl, r1, r2⟩ := r
    simp only [consL] at e
    obtain ⟨loc₁, e1, e2⟩ := Option.bind_eq_some_iff.mp e
    rw [hst]
    show wpAny G.M A (holding vr (assign t env v) >>= fun _ => assignInOrder ((assignEach ts env).map (·.2)) vr) Q E s
    refine wpAny_bind (wpAny_holding (h1.run A P env s ρ st d v loc₁ _ _ K W r1 e1 fun s₁ I₁ x₁ F₁ => ?_))
    have K₁ : Ok G C A P env s₁ ρ ⟨loc₁, st.sto⟩ := K.stepS (st' := ⟨loc₁, st.sto⟩) I₁ x₁ F₁
    exact h2.run A P env s₁ ρ ⟨loc₁, st.sto⟩ ds vr loc' Q E K₁ W (RelL.mono (x₁.stb K.inv K.frm.nt) _ _ r2) e2 fun s₂ I₂ x₂ F₂ => h s₂ I₂ (x₁.trans x₂) F₂

noncomputable def tupT (n : Nat) (f : List D → Loc → Option Loc) : D → Loc → Option Loc
  | .tup ds, loc => if ds.length = n then f ds loc else none
  | _, _ => none
theorem wpAny_szd {α : Type} {M : Model} {A : Around} {s : Shared} {t : Sem α} {Q : α → Shared → Prop} {E : Value → Shared → Prop} (h : wpAny M A t (fun a s' => s.heap.objs.size ≤ s'.heap.objs.size → Q a s') E s) : wpAny M A t Q E s :=
  wpAny_mono (wpAny_size h) (fun _ _ q => q.2 q.1) fun _ _ q => q.2
/-- what grows but for one new object -/
theorem grow_of_extBut {s : Shared} {h' : Heap} (x : Heap.ExtBut s.heap.objs.size s.heap h') : Grow s.heap h' := fun b o e => x b o (Nat.ne_of_lt (Heap.lt_size e)) e
theorem st_tuple {b : Bool} {ts : List Expr} {k n : Nat} {pos : Pos} {f : List D → Loc → Option Loc} (hC : C.inh = false) (h1 : STs G C b ts f) (hn : ∀ env, (assignEach ts env).length = n) (hst : ∀ env, (assignEach ts env).findIdx? (·.1) = none) :
    ST G C b (.Tuple ts k pos) (tupT n f) := .mk <| fun A P env s ρ st d v loc' Q E K W r e h => by
  cases d with
  | tup ds =>
    unfold tupT at e; dsimp only at e
    split at e
    · rename_i hl
      simp only [Rel] at r
      obtain ⟨a, vs, rfl, hna, ⟨nn, ho⟩, r⟩ := r
      have hlen : vs.size = ds.length := by have := r.all2.length; simpa using this
      show wpAny G.M A (standAt pos >>= fun _ => unpack (.ref a) (assignEach ts env)) Q E s
      refine wpAny_bind (wpAny_standAt ?_)
      unfold unpack
      rw [hst env, show (assignEach ts env).length = vs.size by rw [hn, hlen, hl]]
      refine wpAny_bind (wpAny_holding (wpAny_szd (wpAny_unpackItems_tuple (K.room.hd hC) (items := vs) ⟨_, ho, rfl, nn, rfl⟩ fun h' hx z => ?_)))
      have g := grow_of_extBut hx
      have K' := K.grow g z s.toks
      exact h1.run A P env { s with heap := h' } ρ st ds vs.toList loc' Q E K' W (RelL.mono g.stb _ _ r) e fun s₂ I₂ x₂ F₂ => h s₂ I₂ ((g.ev z).trans x₂) F₂
    · cases e
  | _ => unfold tupT at e; dsimp only at e; cases e
end
end Mine

end

/- part F9 -/
section
set_option Elab.async false
set_option linter.unusedVariables false
namespace Mine
open PySem PyProof.Rows

section
variable {G : Gd} {C : Cx} {A : Around} {P : List Addr} {env : Env} {s : Shared} {ρ : List Addr} {σ : Sto} {st : St}

noncomputable def plainIter (T : String) : Bool := !["enumerate", "zip", "dict_itemiterator", "dict_reverseitemiterator", "odict_iterator", "itertools.zip_longest", "itertools.pairwise"].contains T
theorem letGo_plain {I : Addr} {o : Obj} {T : String} {vs : Array Value} {tgt : Expr} {v : Value} {Q : Unit → Shared → Prop} {E : Value → Shared → Prop} (ho : s.heap.get? I = some o) (hc : o.cls = .type T) (hd : o.data = .fields vs) (hT : plainIter T = true) (h : Q () s) :
    wpAny G.M A (letOwnedTupleGo tgt (.ref I) v) Q E s := by
  have key : ∀ a : Addr, wpAny G.M A (do
      let o ← load I
      match o.cls, o.data with
      | .type n, .fields vs =>
        if ["enumerate", "zip", "dict_itemiterator", "dict_reverseitemiterator", "odict_iterator", "itertools.zip_longest", "itertools.pairwise"].contains n && vs[0]? == some (rawInt a) then
          rule "for.unpacks-the-owned-tuple"
          updateField I 0 .none
      | _, _ => pure ()) Q E s := fun a => by
    refine wpAny_bind (wpAny_load ho ?_)
    rw [hc, hd]
    simp only [plainIter, Bool.not_eq_true'] at hT
    simp only [hT, Bool.false_and, Bool.false_eq_true, if_false]
    exact wpAny_pure h
  unfold letOwnedTupleGo
  cases tgt <;> (try exact wpAny_pure h) <;> (cases v <;> (first | exact wpAny_pure h | exact key _))

theorem itr_new (I : Inv G s ρ σ) {T : String} {vs : Array Value} (hT : T ≠ "tuple") (t : Nat) : Itr G (s.heap.push { cls := .type T, data := .fields vs }) ρ s.heap.objs.size :=
  ⟨I.h0_size, I.size_notin, _, T, vs, Heap.get?_push_size _ rfl, rfl, hT, rfl⟩

theorem drop_cons {α : Type} {l : List α} {i : Nat} {d : α} {r : List α} (h : d :: r = l.drop i) : l[i]? = some d ∧ r = l.drop (i + 1) := by
  have h1 : l[i]? = some d := by
    have : (l.drop i)[0]? = some d := by rw [← h]; rfl
    simpa using this
  refine ⟨h1, ?_⟩
  have : (l.drop i).drop 1 = r := by rw [← h]; rfl
  rw [← this, List.drop_drop]
theorem drop_nil {α : Type} {l : List α} {i : Nat} (h : [] = l.drop i) : l.length ≤ i := by
  have := congrArg List.length h
  simp at this
  exact nLe fun hzz => linN [_, _, _] [lt1 x1 x0, qe1 (.n 0) x2, le1 x0 (.a x2 x1)] (Eq.refl true) hzz this (sub_lo _ _)

/-! a list of the store -/
noncomputable def TList (G : Gd) (I : Addr) (k : Nat) (ds : List D) : List D → Heap → List Addr → Sto → Prop := fun rem h ρ σ =>
  Itr G h ρ I ∧ σ[k]? = some (.list ds) ∧ ∃ a i, ρ[k]? = some a ∧ h.IsListIter I a i ∧ rem = ds.drop i
theorem itx_list {I : Addr} {k : Nat} {ds : List D} : Itx G I [I] (fun _ => True) (fun σ => σ[k]? = some (.list ds)) (TList G I k ds) (fun _ => TList G I k ds) where
  own rem h ρ σ t q m := by rw [List.mem_singleton.mp m]; exact .inl (.inl t.1)
  ownM v rem h ρ σ t q m := by rw [List.mem_singleton.mp m]; exact .inl (.inl t.1)
  keep P rem s ρ σ s' ρ' σ' t I0 I' x N g := by
    obtain ⟨it, e, a, i, e1, ⟨o, ho, hc, hd⟩, e3⟩ := t
    obtain ⟨it', z⟩ := it.keep x N
    exact ⟨it', g, a, i, x.pre k a e1, ⟨o, z.trans ho, hc, hd⟩, e3⟩
  next A s ρ σ rem Q E hh I0 t h1 h2 := by
    obtain ⟨it, e, a, i, e1, e2, e3⟩ := t
    obtain ⟨vs, hl, r⟩ := I0.sto k a (.list ds) e1 e
    have hne : a ≠ I := fun z => it.2.1 (z ▸ List.mem_of_getElem? e1)
    cases rem with
    | nil =>
      have hi : vs[i]? = none := by
        have := r.all2.length
        have h3 := drop_nil e3
        simp at this
        simp; exact nLe fun hzz => linN [_, _, _] [lt1 x1 x0, eq1 x0 x2, le1 x2 x1] (Eq.refl true) hzz this h3
      refine wpAny_szd (wpAny_pyNext_list_end hh e2 hl.list hi fun h' x z => ?_)
      exact h1 rfl h' s.toks (only1 (fun b o n e => x b o n e) z it.notPrv)
    | cons d rest =>
      obtain ⟨hd, hr⟩ := drop_cons e3
      obtain ⟨v, hv, rv⟩ := r.all2.get i d hd
      have hv' : vs[i]? = some v := by simpa using hv
      refine wpAny_pyNext_list_item e2 hl.list hv' fun h' hit' hs' => ?_
      have ho : Only [I] s.heap h' := only1 (fun b o n e => (hs'.2 b n).trans e) (Nat.le_of_eq hs'.1.symm) it.notPrv
      have S : Stb s.heap ρ h' ρ := ho.stb (σ := σ) fun q m => by rw [List.mem_singleton.mp m]; exact .inl (.inl it)
      obtain ⟨o', ho', hc', hd'⟩ := id hit'
      exact h2 d rest rfl v h' s.toks ho (Rel.mono S _ _ rv) ⟨⟨it.1, it.2.1, o', _, _, ho', hc', by decide, hd'⟩, e, a, i + 1, e1, hit', hr⟩
  go A s ρ σ tgt v rest Q E _ I0 t h := by
    obtain ⟨it, e, a, i, e1, e2, e3⟩ := id t
    obtain ⟨o, ho, hc, hd⟩ := e2
    exact letGo_plain ho hc hd (by decide) (h s.heap only_refl t)
theorem self_list {I : Addr} {k : Nat} {ds : List D} : ItSelf G I (TList G I k ds) := fun A s ρ σ rem Q E hh t h => by
  obtain ⟨it, e, a, i, e1, e2, e3⟩ := t
  exact wpAny_pyIter_listiter e2 h

/-! a tuple -/
noncomputable def TTup (G : Gd) (I t : Addr) (vs : Array Value) (ds : List D) : List D → Heap → List Addr → Sto → Prop := fun rem h ρ σ =>
  Itr G h ρ I ∧ t ∉ ρ ∧ IsTupl h t vs ∧ RelL G h ρ ds vs.toList ∧ ∃ i, h.IsTupleIter I t i ∧ rem = ds.drop i
theorem itx_tup {I t : Addr} {vs : Array Value} {ds : List D} : Itx G I [I] (fun _ => True) (fun _ => True) (TTup G I t vs ds) (fun _ => TTup G I t vs ds) where
  own rem h ρ σ t q m := by rw [List.mem_singleton.mp m]; exact .inl (.inl t.1)
  ownM v rem h ρ σ t q m := by rw [List.mem_singleton.mp m]; exact .inl (.inl t.1)
  keep P rem s ρ σ s' ρ' σ' tt I0 I' x N g := by
    obtain ⟨it, n, ht, r, i, ⟨o, ho, hc, hd⟩, e3⟩ := tt
    obtain ⟨it', z⟩ := it.keep x N
    have S := x.stb I0 N
    obtain ⟨n', ht'⟩ := S.tup t vs n ht
    exact ⟨it', n', ht', RelL.mono S _ _ r, i, ⟨o, z.trans ho, hc, hd⟩, e3⟩
  next A s ρ σ rem Q E hh I0 tt h1 h2 := by
    obtain ⟨it, n, ht, r, i, e2, e3⟩ := tt
    have htt : s.heap.IsTuple t vs := let ⟨n, e⟩ := ht; ⟨_, e, rfl, n, rfl⟩
    cases rem with
    | nil =>
      have hi : vs[i]? = none := by
        have := r.all2.length
        have h3 := drop_nil e3
        simp at this
        simp; exact nLe fun hzz => linN [_, _, _] [lt1 x1 x0, eq1 x0 x2, le1 x2 x1] (Eq.refl true) hzz this h3
      refine wpAny_szd (wpAny_pyNext_tuple_end hh e2 htt hi fun h' x z => ?_)
      exact h1 rfl h' s.toks (only1 (fun b o n e => x b o n e) z it.notPrv)
    | cons d rest =>
      obtain ⟨hd, hr⟩ := drop_cons e3
      obtain ⟨v, hv, rv⟩ := r.all2.get i d hd
      have hv' : vs[i]? = some v := by simpa using hv
      refine wpAny_pyNext_tuple_item e2 htt hv' fun h' hit' hs' => ?_
      have ho : Only [I] s.heap h' := only1 (fun b o n e => (hs'.2 b n).trans e) (Nat.le_of_eq hs'.1.symm) it.notPrv
      have S : Stb s.heap ρ h' ρ := ho.stb (σ := σ) fun q m => by rw [List.mem_singleton.mp m]; exact .inl (.inl it)
      obtain ⟨n', ht'⟩ := S.tup t vs n ht
      obtain ⟨o', ho', hc', hd'⟩ := id hit'
      exact h2 d rest rfl v h' s.toks ho (Rel.mono S _ _ rv) ⟨⟨it.1, it.2.1, o', _, _, ho', hc', by decide, hd'⟩, n', ht', RelL.mono S _ _ r, i + 1, hit', hr⟩
  go A s ρ σ tgt v rest Q E _ I0 tt h := by
    obtain ⟨it, n, ht, r, i, ⟨o, ho, hc, hd⟩, e3⟩ := id tt
    exact letGo_plain ho hc hd (by decide) (h s.heap only_refl tt)
theorem self_tup {I t : Addr} {vs : Array Value} {ds : List D} : ItSelf G I (TTup G I t vs ds) := fun A s ρ σ rem Q E hh tt h => by
  obtain ⟨it, n, ht, r, i, e2, e3⟩ := tt
  refine (Walks.tuple (prog := G.prog) (w := G.w) (A := A) hh I t (fun z => ?_) vs).self i s Q E ⟨e2, let ⟨nn, e⟩ := ht; ⟨_, e, rfl, nn, rfl⟩⟩ h
  obtain ⟨_, _, o, T, vs', ho, hc, hT, hd⟩ := it
  obtain ⟨nn, ho'⟩ := ht
  rw [z, ho] at ho'; cases ho'; cases hd

/-! a text's signs -/
noncomputable def signs (x : Str) : List D := x.cps.toList.map fun c => D.str ⟨#[c]⟩
noncomputable def strItT (x : Str) : String := if x.cps.all (· < 128) then "str_ascii_iterator" else "str_iterator"
noncomputable def TStr (G : Gd) (I : Addr) (x : Str) (tk : Tok) : List D → Heap → List Addr → Sto → Prop := fun rem h ρ σ =>
  Itr G h ρ I ∧ ∃ i, h.IsStrIter I (strItT x) x tk i ∧ rem = (signs x).drop i
theorem strItT_ne (x : Str) : strItT x ≠ "tuple" ∧ plainIter (strItT x) = true := by unfold strItT; split <;> decide
theorem next_str {I : Addr} {x : Str} {tk : Tok} {i : Nat} {Q : Option Value → Shared → Prop} {E : Value → Shared → Prop} (hh : A.handled = none) (hit : s.heap.IsStrIter I (strItT x) x tk i)
    (h1 : x.cps[i]? = none → ∀ h', Heap.ExtBut I s.heap h' → Q none { s with heap := h' })
    (h2 : ∀ c, x.cps[i]? = some c → ∀ h', h'.IsStrIter I (strItT x) x tk (i + 1) → Heap.SameBut I s.heap h' → Q (some (.str ⟨#[c]⟩ s.toks)) { s with heap := h', toks := s.toks + 1 }) : wpAny G.M A (pyNext (.ref I)) Q E s := by
  by_cases ha : x.cps.all (· < 128) = true
  · have hT : strItT x = "str_ascii_iterator" := by simp only [strItT, ha, if_true]
    rw [hT] at hit h2
    cases e : x.cps[i]? with
    | none => exact wpAny_pyNext_ascii_end hh hit e (h1 e)
    | some c => exact wpAny_pyNext_ascii_item hit e (h2 c e)
  · have hT : strItT x = "str_iterator" := by simp only [strItT, ha, if_false]; rfl
    rw [hT] at hit h2
    cases e : x.cps[i]? with
    | none => exact wpAny_pyNext_wide_end hh hit e (h1 e)
    | some c => exact wpAny_pyNext_wide_item hit e (h2 c e)
theorem itx_str {I : Addr} {x : Str} {tk : Tok} : Itx G I [I] (fun _ => True) (fun _ => True) (TStr G I x tk) (fun _ => TStr G I x tk) where
  own rem h ρ σ t q m := by rw [List.mem_singleton.mp m]; exact .inl (.inl t.1)
  ownM v rem h ρ σ t q m := by rw [List.mem_singleton.mp m]; exact .inl (.inl t.1)
  keep P rem s ρ σ s' ρ' σ' tt I0 I' x N g := by
    obtain ⟨it, i, ⟨o, ho, hc, hd⟩, e3⟩ := tt
    obtain ⟨it', z⟩ := it.keep x N
    exact ⟨it', i, ⟨o, z.trans ho, hc, hd⟩, e3⟩
  next A s ρ σ rem Q E hh I0 tt h1 h2 := by
    obtain ⟨it, i, e2, e3⟩ := tt
    refine wpAny_szd (next_str hh e2 (fun hi h' x z => ?_) (fun c hc h' hit' hs' z => ?_))
    · cases rem with
      | nil => exact h1 rfl h' s.toks (only1 (fun b o n e => x b o n e) z it.notPrv)
      | cons d rest =>
        obtain ⟨hd, hr⟩ := drop_cons e3
        simp [signs] at hd
        obtain ⟨c, hc, _⟩ := hd
        simp at hi
        have := (Array.getElem?_eq_some_iff.mp hc).1
        exact False.elim (linN [_, _] [le1 x0 x1, lt1 x1 x0] (Eq.refl true) hi this)
    · cases rem with
      | nil =>
        have := drop_nil e3
        have h3 := (Array.getElem?_eq_some_iff.mp hc).1
        simp [signs] at this
        exact False.elim (linN [_, _] [lt1 x0 x1, le1 x1 x0] (Eq.refl true) h3 this)
      | cons d rest =>
        obtain ⟨hd, hr⟩ := drop_cons e3
        simp [signs] at hd
        obtain ⟨c', hc', rfl⟩ := hd
        rw [hc] at hc'; cases hc'
        have ho : Only [I] s.heap h' := only1 (fun b o n e => (hs'.2 b n).trans e) (Nat.le_of_eq hs'.1.symm) it.notPrv
        obtain ⟨o', ho', hc', hd'⟩ := id hit'
        exact h2 _ rest rfl _ h' (s.toks + 1) ho (by simp only [Rel]; exact ⟨_, rfl⟩) ⟨⟨it.1, it.2.1, o', _, _, ho', hc', (strItT_ne _).1, hd'⟩, i + 1, hit', hr⟩
  go A s ρ σ tgt v rest Q E _ I0 tt h := by
    obtain ⟨it, i, ⟨o, ho, hc, hd⟩, e3⟩ := id tt
    exact letGo_plain ho hc hd (strItT_ne _).2 (h s.heap only_refl tt)
theorem self_str {I : Addr} {x : Str} {tk : Tok} : ItSelf G I (TStr G I x tk) := fun A s ρ σ rem Q E hh tt h => by
  obtain ⟨it, i, e2, e3⟩ := tt
  unfold strItT at e2
  split at e2
  · exact (Walks.strAscii (prog := G.prog) (w := G.w) (A := A) hh I x tk).self i s Q E e2 h
  · exact (Walks.strWide (prog := G.prog) (w := G.w) (A := A) hh I x tk).self i s Q E e2 h

/-! a range -/
noncomputable def rngL (a step : Int) (n : Nat) : List D := (List.range n).map fun (j : Nat) => D.int (a + j * step)
theorem rngL_zero {a step : Int} : rngL a step 0 = [] := rfl
theorem rngL_succ {a step : Int} {n : Nat} : rngL a step (n + 1) = .int a :: rngL (a + step) step n := by
  simp only [rngL, List.range_succ_eq_map, List.map_cons, List.map_map]
  refine congr (congrArg List.cons ?_) ?_
  · simp
  · refine List.map_congr_left fun j _ => ?_
    simp only [Function.comp]
    congr 1
    have : ((j.succ : Nat) : Int) = (j : Int) + 1 := by exact iEq (fun hzz => linI [_] [lt1 (.a x0 (.n 1)) (.a x0 (.n 1))] (Eq.refl true) hzz) (fun hzz => linI [_] [lt1 (.a x0 (.n 1)) (.a x0 (.n 1))] (Eq.refl true) hzz)
    rw [this, Int.add_mul]; exact iEq (fun hzz => linI [_, _, _] [lt1 (.a x0 (.a x1 (.m 1 x2))) (.a (.a x0 x2) x1)] (Eq.refl true) hzz) (fun hzz => linI [_, _, _] [lt1 (.a (.a x0 x2) x1) (.a x0 (.a x1 (.m 1 x2)))] (Eq.refl true) hzz)
noncomputable def TRng (G : Gd) (I : Addr) (step : Int) : List D → Heap → List Addr → Sto → Prop := fun rem h ρ σ => Itr G h ρ I ∧ ∃ (x : Int) (n : Nat), IsRangeIter h I x n step ∧ rem = rngL x step n
theorem itx_rng {I : Addr} {step : Int} : Itx G I [I] (fun _ => True) (fun _ => True) (TRng G I step) (fun _ => TRng G I step) where
  own rem h ρ σ t q m := by rw [List.mem_singleton.mp m]; exact .inl (.inl t.1)
  ownM v rem h ρ σ t q m := by rw [List.mem_singleton.mp m]; exact .inl (.inl t.1)
  keep P rem s ρ σ s' ρ' σ' tt I0 I' x N g := by
    obtain ⟨it, y, n, hr, e3⟩ := tt
    obtain ⟨it', z⟩ := it.keep x N
    exact ⟨it', y, n, z.trans hr, e3⟩
  next A s ρ σ rem Q E hh I0 tt h1 h2 := by
    obtain ⟨it, y, n, hr, e3⟩ := tt
    cases n with
    | zero =>
      rw [rngL_zero] at e3; subst e3
      refine wpAny_szd (wpAny_pyNext_range_end hh hr (by simp) fun h' x z => ?_)
      exact h1 rfl h' s.toks (only1 (fun b o n e => x b o n e) z it.notPrv)
    | succ n =>
      rw [rngL_succ] at e3; subst e3
      refine wpAny_pyNext_range_item hr (by exact iLt fun hzz => linI [(↑n)] [le1 (.a x0 (.n 1)) (.n 0), le1 (.n 0) x0] (Eq.refl true) hzz (cast_nn _)) fun h' hit' hs' => ?_
      have ho : Only [I] s.heap h' := only1 (fun b o n e => (hs'.2 b n).trans e) (Nat.le_of_eq hs'.1.symm) it.notPrv
      refine h2 _ _ rfl _ h' (s.toks + 1) ho (by simp only [Rel]; exact ⟨_, rfl⟩) ⟨⟨it.1, it.2.1, _, _, _, hit', rfl, by decide, rfl⟩, y + step, n, ?_, rfl⟩
      have : (((n + 1 : Nat) : Int) - 1) = (n : Int) := by exact iEq (fun hzz => linI [_] [lt1 (.s (.a x0 (.n 1)) (.n 1)) x0] (Eq.refl true) hzz) (fun hzz => linI [_] [lt1 x0 (.s (.a x0 (.n 1)) (.n 1))] (Eq.refl true) hzz)
      rw [this] at hit'; exact hit'
  go A s ρ σ tgt v rest Q E _ I0 tt h := by
    obtain ⟨it, y, n, hr, e3⟩ := id tt
    exact letGo_plain hr rfl rfl (by decide) (h s.heap only_refl tt)
theorem self_rng {I : Addr} {step : Int} : ItSelf G I (TRng G I step) := fun A s ρ σ rem Q E hh tt h => by
  obtain ⟨it, y, n, hr, e3⟩ := tt
  refine (Walks.range (prog := G.prog) (w := G.w) (A := A) hh I y step n).self 0 s Q E ?_ h
  simpa using hr

/-! the sources -/
noncomputable def srcOf : D → Mn Src
  | .ref k => fun st => match st.sto[k]? with
    | some (.list ds) => .ok ⟨ds, fun σ => σ[k]? = some (.list ds)⟩ st
    | _ => .bot
  | .tup ds => ret1 ⟨ds, fun _ => True⟩
  | .str x => ret1 ⟨signs x, fun _ => True⟩
  | _ => botM

/-- the iterator of a value -/
noncomputable def SrcAt (G : Gd) (A : Around) (env : Env) (s : Shared) (ρ : List Addr) (st : St) (tg : Expr → Prop) (v : Value) (m : Mn Src) : Prop :=
  m st ≠ .bot → wpAny G.M A (pyIter v) (SrcE G s ρ st tg (m st)) (ExcE G env s ρ st (m st)) s

theorem src_at {d : D} {v : Value} (K : Ok G C A P env s ρ st) (r : Rel G s.heap ρ d v) : SrcAt G A env s ρ st (fun _ => True) v (srcOf d) := fun hb => by
  cases d with
  | ref k =>
    simp only [Rel] at r
    obtain ⟨a, rfl, e1⟩ := r
    cases e : st.sto[k]? with
    | none => exact absurd (by unfold srcOf; simp only [e]) hb
    | some o =>
      cases o with
      | list ds =>
        obtain ⟨vs, hl, rr⟩ := K.inv.sto k a (.list ds) e1 e
        refine wpAny_pyIter_list hl.list ?_
        have g := Grow.push s.heap { cls := .type "list_iterator", data := .fields #[.ref a, .int 0 0] }
        exact ⟨ρ, ⟨ds, fun σ => σ[k]? = some (.list ds)⟩, st.sto, s.heap.objs.size, [s.heap.objs.size], TList G s.heap.objs.size k ds, fun _ => TList G s.heap.objs.size k ds, by unfold srcOf; simp only [e], K.inv.grow g size_push_le s.toks, g.ev size_push_le, rfl, itx_list, self_list,
          ⟨itr_new K.inv (by decide) 0, e, a, 0, e1, ⟨_, Heap.get?_push_size _ rfl, rfl, rfl⟩, rfl⟩, fun q m => by rw [List.mem_singleton.mp m]; exact Nat.le_refl _⟩
      | _ => exact absurd (by unfold srcOf; simp only [e]) hb
  | tup ds =>
    simp only [Rel] at r
    obtain ⟨a, vs, rfl, n, ht, rr⟩ := r
    have htt : s.heap.IsTuple a vs := let ⟨n, e⟩ := ht; ⟨_, e, rfl, n, rfl⟩
    refine wpAny_pyIter_tuple htt ?_
    have g := Grow.push s.heap { cls := .type "tuple_iterator", data := .fields #[.ref a, .int 0 0] }
    have S : Stb s.heap ρ _ ρ := g.stb
    obtain ⟨n', ht'⟩ := S.tup a vs n ht
    exact ⟨ρ, ⟨ds, fun _ => True⟩, st.sto, s.heap.objs.size, [s.heap.objs.size], TTup G s.heap.objs.size a vs ds, fun _ => TTup G s.heap.objs.size a vs ds, rfl, K.inv.grow g size_push_le s.toks, g.ev size_push_le, rfl, itx_tup, self_tup,
      ⟨itr_new K.inv (by decide) 0, n', ht', RelL.mono S _ _ rr, 0, ⟨_, Heap.get?_push_size _ rfl, rfl, rfl⟩, rfl⟩, fun q m => by rw [List.mem_singleton.mp m]; exact Nat.le_refl _⟩
  | str x =>
    simp only [Rel] at r
    obtain ⟨t, rfl⟩ := r
    have fin : ∀ T, strItT x = T → (SrcE G s ρ st (fun _ => True) (srcOf (.str x) st)) (.ref s.heap.objs.size) { s with heap := s.heap.push { cls := .type T, data := .fields #[.str x t, .int 0 0] } } := by
      rintro T rfl
      have g := Grow.push s.heap { cls := .type (strItT x), data := .fields #[.str x t, .int 0 0] }
      exact ⟨ρ, ⟨signs x, fun _ => True⟩, st.sto, s.heap.objs.size, [s.heap.objs.size], TStr G s.heap.objs.size x t, fun _ => TStr G s.heap.objs.size x t, rfl, K.inv.grow g size_push_le s.toks, g.ev size_push_le, rfl, itx_str, self_str,
        ⟨itr_new K.inv (strItT_ne x).1 0, 0, ⟨_, Heap.get?_push_size _ rfl, rfl, rfl⟩, rfl⟩, fun q m => by rw [List.mem_singleton.mp m]; exact Nat.le_refl _⟩
    cases ha : x.cps.all (· < 128) with
    | true => exact wpAny_pyIter_ascii ha (fin _ (by simp [strItT, ha]))
    | false => exact wpAny_pyIter_wide ha (fin _ (by simp [strItT, ha]))
  | _ => exact absurd rfl hb

theorem si_of {e : Expr} {tg : Expr → Prop} {m : Mn D} {f : D → Mn Src} (h : SE G C e m) (hf : ∀ A P env s ρ st d v, Ok G C A P env s ρ st → Rel G s.heap ρ d v → SrcAt G A env s ρ st tg v (f d)) : SI G C e tg (bnd m f) := .mk <| fun A P env s ρ st K hb => by
  refine wpAny_mono (h.run A P env s ρ st K (bnd_ne_bot hb)) (fun v s' q => ?_) fun x s' q => ?_
  · refine OkE.elim q fun ρ' d σ' e I' x r => ?_
    have e' : bnd m f st = f d ⟨st.loc, σ'⟩ := by simp only [bnd, e]
    rw [e'] at hb ⊢
    refine wpAny_mono (hf A P env s' ρ' _ d v (K.step I' x) r hb) (fun it s'' q => ?_) fun w s'' q => ?_
    · obtain ⟨ρ'', src, σ'', I, S, T, Md, e2, I'', x2, rfl, X, X', T0, hS⟩ := q
      exact ⟨ρ'', src, σ'', I, S, T, Md, e2, I'', x.trans x2, rfl, X, X', T0, fun q m => Nat.le_trans x.size (hS q m)⟩
    · exact ExcE.tr q x
  · exact ExcE.bnd q
theorem si_val {e : Expr} {m : Mn D} (h : SE G C e m) : SI G C e (fun _ => True) (bnd m srcOf) := si_of h fun A P env s ρ st d v K r => src_at K r
end
end Mine

end

/- part F10 -/
section
set_option Elab.async false
set_option linter.unusedVariables false
namespace Mine
open PySem PyProof.Rows

/-! the closure of a comprehension's block -/
noncomputable def closL (env : Env) : List (Str × NameKind) → List (Str × Addr) → List (Str × Addr)
  | [], acc => acc
  | (x, k) :: r, acc => if k == .free then (match env.cells.lookup x with
      | some c => closL env r ((x, c) :: acc)
      | none => closL env r acc) else closL env r acc

theorem closure_forIn (env : Env) (f : Str × NameKind → List (Str × Addr) → Sem (ForInStep (List (Str × Addr))))
    (hf : ∀ x k cs, f (x, k) cs = if k == .free then (do let a ← cellOf env x; pure (.yield ((x, a) :: cs))) else pure (.yield cs)) : ∀ (names : List (Str × NameKind)) (acc : List (Str × Addr)), (∀ x, (x, NameKind.free) ∈ names → (env.cells.lookup x).isSome = true) →
    (forIn names acc f : Sem (List (Str × Addr))) = pure (closL env names acc)
  | [], acc, _ => rfl
  | (x, k) :: r, acc, h => by
    rw [List.forIn_cons, hf]
    have ih := fun acc => closure_forIn env f hf r acc fun y m => h y (List.mem_cons_of_mem _ m)
    cases hk : k == NameKind.free with
    | true =>
      have hk' : k = .free := beq_iff_eq.mp hk
      obtain ⟨c, hc⟩ := Option.isSome_iff_exists.mp (h x (by rw [hk']; exact List.mem_cons_self))
      simp only [if_true, closL, hc, cellOf, hk]
      exact ih ((x, c) :: acc)
    | false =>
      simp only [hk, closL, Bool.false_eq_true, if_false]
      exact ih acc
theorem closureFor_eq {scope : Scope} {env : Env} (h : ∀ x, (x, NameKind.free) ∈ scope.names → (env.cells.lookup x).isSome = true) : closureFor scope env = pure (closL env scope.names []) := by
  simp only [closureFor]
  rw [closure_forIn env _ (fun x k cs => by cases hk : k == NameKind.free <;> simp [hk]) scope.names [] h]
  rfl
theorem closL_sub (env : Env) : ∀ (names : List (Str × NameKind)) (acc : List (Str × Addr)), (∀ p, p ∈ acc → env.cells.lookup p.1 = some p.2) → ∀ p, p ∈ closL env names acc → env.cells.lookup p.1 = some p.2
  | [], acc, h, p, m => h p m
  | (x, k) :: r, acc, h, p, m => by
    unfold closL at m
    split at m
    · split at m
      · rename_i c hc
        refine closL_sub env r _ (fun q mq => ?_) p m
        rcases List.mem_cons.mp mq with rfl | mq
        · exact hc
        · exact h q mq
      · exact closL_sub env r acc h p m
    · exact closL_sub env r acc h p m
theorem closL_mem (env : Env) : ∀ (names : List (Str × NameKind)) (acc : List (Str × Addr)) (x : Str) (c : Addr), env.cells.lookup x = some c → ((x, NameKind.free) ∈ names ∨ (x, c) ∈ acc) → (x, c) ∈ closL env names acc
  | [], acc, x, c, _, h => h.elim (fun z => nomatch z) id
  | (y, k) :: r, acc, x, c, e, h => by
    unfold closL
    split
    · rename_i hk
      split
      · rename_i c' hc'
        refine closL_mem env r _ x c e ?_
        rcases h with h | h
        · rcases List.mem_cons.mp h with z | z
          · cases z; rw [e] at hc'; cases hc'; exact .inr List.mem_cons_self
          · exact .inl z
        · exact .inr (List.mem_cons_of_mem _ h)
      · rename_i hc'
        refine closL_mem env r _ x c e ?_
        rcases h with h | h
        · rcases List.mem_cons.mp h with z | z
          · cases z; rw [e] at hc'; cases hc'
          · exact .inl z
        · exact .inr h
    · rename_i hk
      refine closL_mem env r _ x c e ?_
      rcases h with h | h
      · rcases List.mem_cons.mp h with z | z
        · cases z; simp at hk
        · exact .inl z
      · exact .inr h
theorem lookup_isSome_of_mem {α : Type} : ∀ (l : List (Str × α)) (x : Str) (c : α), (x, c) ∈ l → (l.lookup x).isSome = true
  | [], _, _, h => nomatch h
  | p :: r, x, c, h => by
    simp only [List.lookup]
    split
    · rfl
    · rcases List.mem_cons.mp h with e | m
      · rename_i q; rw [← e] at q; simp at q
      · exact lookup_isSome_of_mem r x c m
theorem closL_lookup {env : Env} {names : List (Str × NameKind)} {x : Str} {c : Addr} (h : (closL env names []).lookup x = some c) : env.cells.lookup x = some c :=
  closL_sub env names [] (fun _ m => nomatch m) (x, c) (mem_of_lookup h)
theorem closL_has {env : Env} {names : List (Str × NameKind)} {x : Str} {c : Addr} (hm : (x, NameKind.free) ∈ names) (h : env.cells.lookup x = some c) : (closL env names []).lookup x = some c := by
  obtain ⟨c', e⟩ := Option.isSome_iff_exists.mp (lookup_isSome_of_mem _ _ _ (closL_mem env names [] x c h (.inl hm)))
  have := closL_lookup e
  rw [h] at this; cases this; exact e

theorem lookup_map_snd {α β : Type} (f : Str × α → Str × β) (hf : ∀ p, (f p).1 = p.1) : ∀ (l : List (Str × α)) (x : Str), (l.map f).lookup x = (l.lookup x).map fun k => (f (x, k)).2
  | [], _ => rfl
  | (y, k) :: r, x => by
    have hk := hf (y, k)
    simp only [List.map_cons]
    rw [show f (y, k) = ((f (y, k)).1, (f (y, k)).2) from rfl, hk]
    simp only [List.lookup]
    cases e : x == y with
    | true => simp only; rw [beq_iff_eq.mp e]; rfl
    | false => simp only; exact lookup_map_snd f hf r x
theorem relabel_lookup {scope : Scope} {env : Env} (x : Str) : (relabel scope env).names.lookup x = (scope.names.lookup x).map fun k => if (k == NameKind.free && env.scope.kind == .function && env.kindOf x == some .cell) then NameKind.cell else k := by
  show (scope.names.map _).lookup x = _
  rw [lookup_map_snd _ (fun p => by dsimp only; split <;> rfl)]
  cases scope.names.lookup x with
  | none => rfl
  | some k => simp only [Option.map_some]; congr 1; split <;> rfl

open Classical in
/-- what a comprehension collects -/
noncomputable def compM (tgt : D → Loc → Option Loc) (g : Sto → Prop) (test : Mn Bool) (elt : Mn D) : List D → List D → Mn (List D)
  | [], acc => fun st => if g st.sto then .ok acc st else .bot
  | d :: rest, acc => fun st => if g st.sto then
      match tgt d st.loc with
      | none => .bot
      | some loc' => match test ⟨loc', st.sto⟩ with
        | .ok true st' => (match elt st' with
          | .ok x st'' => compM tgt g test elt rest (acc ++ [x]) st''
          | .exc c st'' => .exc c st''
          | .bot => .bot)
        | .ok false st' => compM tgt g test elt rest acc st'
        | .exc c st' => .exc c st'
        | .bot => .bot
    else .bot

/-- the tests of a comprehension -/
structure STst (G : Gd) (C : Cx) (ifs : List Expr) (m : Mn Bool) : Prop where
  run : ∀ A P env s ρ st, Ok G C A P env s ρ st →
  At G A env s ρ st RB (forIn ifs true fun c r => if r = true then do let ok ← isTrue c env (eval c env); pure (ForInStep.yield ok) else pure (ForInStep.yield r)) m
theorem tst_nil {G : Gd} {C : Cx} : STst G C [] (ret1 true) := .mk <| fun A P env s ρ st K => At.pure K rfl
theorem tst_one {G : Gd} {C : Cx} {c : Expr} {m : Mn Bool} (h : SB G C c m) : STst G C [c] m := .mk <| fun A P env s ρ st K hb => wpAny_tests_one (h.run A P env s ρ st K hb)

noncomputable def clearL (is : List Nat) (loc : Loc) : Loc := fun i => if is.contains i then none else loc i

section
variable {G : Gd} {C C' : Cx} {A : Around} {P : List Addr} {env : Env}

/-- how the block of a comprehension ends: s the state at its start -/
inductive CompO (G : Gd) (tbl : List Str) (cenv : Env) (hs : Heap) (ρs : List Addr) (q : Addr) (r : Out (List D)) (s' : Shared) : Prop
  | mk (ρ' : List Addr) (xs : List D) (st' : St) (vs : Array Value) : r = .ok xs st' → Inv G s' ρ' st'.sto → Ev [cenv.locals] hs ρs s'.heap ρ' → Frm G tbl [cenv.locals] cenv s'.heap ρ' st'.loc → q ∉ ρ' → IsLst s'.heap q vs → RelL G s'.heap ρ' xs vs.toList → CompO G tbl cenv hs ρs q r s'
inductive CompX (G : Gd) (tbl : List Str) (A : Around) (cenv : Env) (hs : Heap) (ρs : List Addr) (r : Out (List D)) (x : Value) (s' : Shared) : Prop
  | mk (ρ' : List Addr) (c : Addr) (st' : St) (a L : Addr) : r = .exc c st' → Inv G s' ρ' st'.sto → Ev [cenv.locals] hs ρs s'.heap ρ' → Frm G tbl [cenv.locals] cenv s'.heap ρ' st'.loc → Stk G A cenv s'.heap ρ' → x = .ref a → cenv.frame = some L → FlyT hs.objs.size s'.heap (rawInt L) a c → CompX G tbl A cenv hs ρs r x s'
noncomputable def CompR (G : Gd) (tbl : List Str) (A : Around) (cenv : Env) (hs : Heap) (ρs : List Addr) (q : Addr) (r : Out (List D)) : Result → Shared → Prop
  | .ok _, s' => CompO G tbl cenv hs ρs q r s'
  | .error x, s' => CompX G tbl A cenv hs ρs r x s'

theorem comp_ok {I : Addr} {S : List Addr} {tg : Expr → Prop} {g : Sto → Prop} {T : List D → Heap → List Addr → Sto → Prop} {Md : Value → List D → Heap → List Addr → Sto → Prop} (X : Itx G I S tg g T Md)
    {elt target iter : Expr} {ifs : List Expr} {scope : Scope} {pos : Pos} {tf : D → Loc → Option Loc} {mt : Mn Bool} {me : Mn D} {cenv : Env} {q : Addr}
    (hC : C'.inh = false) (ht : tg target) (hT : ST G C' false target tf) (hTs : STst G C' ifs mt) (hE : SE G C' elt me) {hs : Heap} {ρs : List Addr} (hb0 : ∀ b, hs.objs.size ≤ b → G.h0.get? b = none) (hq : hs.objs.size ≤ q) (hS : ∀ q', q' ∈ S → hs.objs.size ≤ q' ∨ q' ∈ ρs) (hqS : q ∉ S) (hqC : q ≠ cenv.locals) :
    ∀ (ds acc : List D) (s : Shared) (ρ : List Addr) (st : St) (vs : Array Value), Ok G C' A [cenv.locals] cenv s ρ st → T ds s.heap ρ st.sto → Ev [cenv.locals] hs ρs s.heap ρ → q ∉ ρ → IsLst s.heap q vs → RelL G s.heap ρ acc vs.toList →
      acc.length + ds.length ≤ sizeLine → compM tf g mt me ds acc st ≠ .bot →
      codeAny G.M A (.compLoop (.ListComp elt [⟨target, iter, ifs, 0⟩] scope pos) 0 (.ref I) (.ref q) cenv) (CompR G C'.tbl A cenv hs ρs q (compM tf g mt me ds acc st)) s := by
  intro ds
  induction ds with
  | nil =>
    intro acc s ρ st vs K hTT x hqr hl r hz hbot
    have hg : g st.sto := by
      by_cases h : g st.sto
      · exact h
      · exact absurd (by simp only [compM, h, if_false]) hbot
    refine codeAny_of_tree ?_
    show wpAny _ A ((compTurn (.ListComp elt [⟨target, iter, ifs, 0⟩] scope pos) 0 (.ref I) (.ref q) cenv).onRaise (fun x => do noteFrame x cenv; theTreesLotGoes x)) _ _ s
    refine wpAny_noted ?_
    rw [compTurn_list]
    refine wpAny_bind (wpAny_standAt (wpAny_bind (X.next A s ρ st.sto [] _ _ (K.room.hd hC) K.inv hTT (fun _ h' tk ho => ?_) (fun d rest e => by cases e))))
    have K' := K.only ho (X.own _ _ _ _ hTT) tk
    have Sb := ho.stb (X.own _ _ _ _ hTT)
    obtain ⟨n, hl⟩ := hl
    exact wpAny_pure ⟨ρ, acc, st, vs, by simp only [compM, hg, if_true], K'.inv, x.only ho hS, K'.frm, hqr, ⟨n, ho.1 q _ hqS hl⟩, RelL.mono Sb _ _ r⟩
  | cons d rest ih =>
    intro acc s ρ st vs K hTT x hqr hl r hz hbot
    have hg : g st.sto := by
      by_cases h : g st.sto
      · exact h
      · exact absurd (by simp only [compM, h, if_false]) hbot
    refine codeAny_of_tree ?_
    show wpAny _ A ((compTurn (.ListComp elt [⟨target, iter, ifs, 0⟩] scope pos) 0 (.ref I) (.ref q) cenv).onRaise (fun x => do noteFrame x cenv; theTreesLotGoes x)) _ _ s
    refine wpAny_noted ?_
    rw [compTurn_list]
    refine wpAny_bind (wpAny_standAt (wpAny_bind (X.next A s ρ st.sto (d :: rest) _ _ (K.room.hd hC) K.inv hTT (fun e => by cases e) (fun d' rest' e v h' tk ho rv hM => ?_))))
    cases e
    have K₁ := K.only ho (X.own _ _ _ _ hTT) tk
    refine wpAny_bind (X.go A _ ρ st.sto target v rest _ _ ht K₁.inv hM fun h₂ ho₂ hT₂ => ?_)
    have K₂ := K₁.only ho₂ (X.ownM _ _ _ _ _ hM) tk
    have x₂ : Ev [cenv.locals] hs ρs h₂ ρ := (x.only ho hS).only ho₂ hS
    have rv₂ : Rel G h₂ ρ d v := Rel.mono (ho₂.stb (X.ownM _ _ _ _ _ hM)) d v rv
    have hl₂ : IsLst h₂ q vs := let ⟨n, e⟩ := hl; ⟨n, ho₂.1 q _ hqS (ho.1 q _ hqS e)⟩
    have r₂ : RelL G h₂ ρ acc vs.toList := RelL.mono (ho₂.stb (X.ownM _ _ _ _ _ hM)) _ _ (RelL.mono (ho.stb (X.own _ _ _ _ hTT)) _ _ r)
    -- the list being filled stands through what writes neither the store nor the list
    have keepq : ∀ {h h' : Heap} {ρ₁ ρ₂ : List Addr}, Ev [cenv.locals] h ρ₁ h' ρ₂ → q ∉ ρ₁ → IsLst h q vs → q ∉ ρ₂ ∧ IsLst h' q vs := fun xx nq ⟨n, e⟩ => by
      obtain ⟨o', e', sm⟩ := xx.keep q _ e nq (fun m => hqC (List.mem_singleton.mp m))
      rw [sm.eq (fun _ _ z => by cases z)] at e'
      exact ⟨xx.notin e nq, n, e'⟩
    cases e1 : tf d st.loc with
    | none => exact absurd (by simp only [compM, hg, if_true, e1]) hbot
    | some loc' =>
      refine wpAny_bind (hT.run A [cenv.locals] cenv { s with heap := h₂, toks := tk } ρ st d v loc' _ _ K₂ (fun z => by cases z) rv₂ e1 fun s₃ I₃ x₃ F₃ => ?_)
      have K₃ : Ok G C' A [cenv.locals] cenv s₃ ρ ⟨loc', st.sto⟩ := K₂.stepS (st' := ⟨loc', st.sto⟩) I₃ x₃ F₃
      obtain ⟨hqr₃, hl₃⟩ := keepq x₃ hqr hl₂
      have r₃ : RelL G s₃.heap ρ acc vs.toList := RelL.mono (x₃.stb K₂.inv K₂.frm.nt) _ _ r₂
      have T₃ : T rest s₃.heap ρ st.sto := X.keep _ rest { s with heap := h₂, toks := tk } ρ st.sto s₃ ρ st.sto hT₂ K₂.inv I₃ x₃ K₂.frm.nt hg
      have hnb : mt ⟨loc', st.sto⟩ ≠ .bot := fun z => hbot (by simp only [compM, hg, if_true, e1, z])
      have exf : ∀ {s₄ : Shared} {ρ₄ : List Addr} {c : Addr} {st₄ : St} {a : Addr}, Ok G C' A [cenv.locals] cenv s₄ ρ₄ st₄ → Ev [cenv.locals] hs ρs s₄.heap ρ₄ → Fly hs.objs.size s₄.heap cenv.frame a c → compM tf g mt me (d :: rest) acc st = .exc c st₄ →
          notedBy G.M A cenv (fun e s' => CompR G C'.tbl A cenv hs ρs q (compM tf g mt me (d :: rest) acc st) (.error e) s') (.ref a) s₄ := fun K₄ x₄ fl e2 =>
        noted_ok K₄.stk fl K₄.inv x₄ K₄.frm hb0 fun L s₅ I₅ x₅ F₅ S₅ hL fT => ⟨_, _, _, _, L, e2, I₅, x₅, F₅, S₅, rfl, hL, fT⟩
      refine wpAny_bind (wpAny_mono (hTs.run A [cenv.locals] cenv s₃ ρ _ K₃ hnb) (fun ok s₄ qq => ?_) fun e s₄ qq => ?_)
      · obtain ⟨ρ₄, b, σ₄, e2, I₄, x₄, rb⟩ := qq
        cases (show b = ok from rb)
        have K₄ := K₃.step I₄ x₄
        obtain ⟨hqr₄, hl₄⟩ := keepq x₄.nil hqr₃ hl₃
        have r₄ : RelL G s₄.heap ρ₄ acc vs.toList := RelL.mono (x₄.stb K₃.inv .nil) _ _ r₃
        have xx₄ : Ev [cenv.locals] hs ρs s₄.heap ρ₄ := (x₂.trans x₃).trans x₄.nil
        cases ok with
        | false =>
          have e3 : compM tf g mt me (d :: rest) acc st = compM tf g mt me rest acc ⟨loc', σ₄⟩ := by simp only [compM, hg, if_true, e1, e2]
          rw [e3] at hbot ⊢
          have hg₄ : g σ₄ := by
            by_cases h : g σ₄
            · exact h
            · exact absurd (by cases rest <;> simp only [compM, h, if_false]) hbot
          exact wpAny_pure (And.intro rfl (ih acc s₄ ρ₄ ⟨loc', σ₄⟩ vs K₄ (X.keep [] rest s₃ ρ st.sto s₄ ρ₄ σ₄ T₃ K₃.inv I₄ x₄ .nil hg₄) xx₄ hqr₄ hl₄ r₄ (by simp at hz; exact nLe fun hzz => linN [_, _, _] [lt1 x2 (.a x0 x1), le1 (.a x0 (.a x1 (.n 1))) x2] (Eq.refl true) hzz hz) hbot))
        | true =>
          have hnb2 : me ⟨loc', σ₄⟩ ≠ .bot := fun z => hbot (by simp only [compM, hg, if_true, e1, e2, z])
          refine wpAny_bind (wpAny_bind (wpAny_mono (hE.run A [cenv.locals] cenv s₄ ρ₄ _ K₄ hnb2) (fun y s₅ qq => ?_) fun e s₅ qq => ?_))
          · obtain ⟨ρ₅, dy, σ₅, e4, I₅, x₅, ry⟩ := qq
            have K₅ := K₄.step I₅ x₅
            obtain ⟨hqr₅, hl₅⟩ := keepq x₅.nil hqr₄ hl₄
            have r₅ : RelL G s₅.heap ρ₅ acc vs.toList := RelL.mono (x₅.stb K₄.inv .nil) _ _ r₄
            have xx₅ : Ev [cenv.locals] hs ρs s₅.heap ρ₅ := xx₄.trans x₅.nil
            have e3 : compM tf g mt me (d :: rest) acc st = compM tf g mt me rest (acc ++ [dy]) ⟨loc', σ₅⟩ := by simp only [compM, hg, if_true, e1, e2, e4]
            rw [e3] at hbot ⊢
            have hg₅ : g σ₅ := by
              by_cases h : g σ₅
              · exact h
              · exact absurd (by cases rest <;> simp only [compM, h, if_false]) hbot
            have hsz : vs.size ≤ sizeLine := by
              have := r.all2.length
              simp at this hz
              exact nLe fun hzz => linN [_, _, _, _] [lt1 x0 x1, le1 (.a x2 (.a x3 (.n 1))) x0, eq1 x1 x2, le1 (.n 0) x3] (Eq.refl true) hzz hz this (Nat.zero_le _)
            obtain ⟨n₅, hl₅'⟩ := id hl₅
            refine wpAny_bind ?_
            -- the append
            refine call_meets slot_list_append hl₅.list.typeIs entry_list_append (args_list_append _ _) (S := fun _ R s => s.heap.get? q = some (lstO vs n₅) ∧ R (.ok (.ret .none)) { s with heap := s.heap.update q (Obj.mapSeq (·.push y)) }) ?_ ⟨hl₅', ?_⟩
            · refine .of_wp fun prog w A R s h => ?_
              show wpAny _ _ (updateSeq q (·.push y) >>= fun _ => ret .none) _ _ s
              exact wpAny_bind (wpAny_updateSeq h.1 rfl (wpAny_pure ⟨.none, rfl, h.2⟩))
            have hnew : (s₅.heap.update q (Obj.mapSeq (·.push y))).get? q = some (lstO (vs.push y) (n₅ + 1)) := by
              rw [Heap.get?_update_self _ hl₅' rfl]
              simp [Obj.mapSeq]
            have hsame : Heap.SameBut q s₅.heap (s₅.heap.update q (Obj.mapSeq (·.push y))) := Heap.SameBut.update ..
            have ho6 : Only [q] s₅.heap (s₅.heap.update q (Obj.mapSeq (·.push y))) := only1 (fun b o n e => (hsame.2 b n).trans e) (Nat.le_of_eq hsame.1.symm) (fun ⟨u, v, z⟩ => by rw [hl₅'] at z; exact tup_ne_lst (Option.some.inj z).symm)
            have own6 : ∀ q', q' ∈ [q] → Own G s₅.heap ρ₅ σ₅ q' := fun q' m => by rw [List.mem_singleton.mp m]; exact .inl (.inr ⟨hb0 q hq, hqr₅, vs, hl₅⟩)
            have K₆ := K₅.only ho6 own6 s₅.toks
            have S₆ := ho6.stb own6
            have T₅ : T rest s₅.heap ρ₅ σ₅ := X.keep [] rest s₃ ρ st.sto s₅ ρ₅ σ₅ T₃ K₃.inv I₅ (x₄.trans x₅) .nil hg₅
            have x6 : Ev [q] s₅.heap ρ₅ (s₅.heap.update q (Obj.mapSeq (·.push y))) ρ₅ := ⟨fun _ _ e => e, fun b o e _ n => ⟨o, ho6.1 b o n e, .refl o⟩, fun _ m => .inl m, ho6.2.1⟩
            have nt6 : NT s₅.heap [q] := fun p m => by rw [List.mem_singleton.mp m]; exact ⟨_, hl₅', .inr (.inr ⟨_, _, rfl⟩)⟩
            have T₆ := X.keep [q] rest s₅ ρ₅ σ₅ _ ρ₅ σ₅ T₅ I₅ K₆.inv x6 nt6 hg₅
            refine wpAny_pure (wpAny_pure (And.intro rfl (ih (acc ++ [dy]) _ ρ₅ ⟨loc', σ₅⟩ (vs.push y) K₆ T₆ (xx₅.only ho6 (fun q' m => .inl (by rw [List.mem_singleton.mp m]; exact hq))) hqr₅ ⟨_, hnew⟩ ?_ (by simp at hz ⊢; exact nLe fun hzz => linN [_, _, _] [lt1 x2 (.a (.a x0 (.n 1)) x1), le1 (.a x0 (.a x1 (.n 1))) x2] (Eq.refl true) hzz hz) hbot)))
            rw [Array.toList_push]
            exact RelL.of_all2 ((RelL.mono S₆ _ _ r₅).all2.append (.cons (Rel.mono S₆ _ _ ry) .nil))
          · obtain ⟨ρ₅, c, σ₅, a, e4, I₅, x₅, rfl, fl⟩ := qq
            exact exf (K₄.step I₅ x₅) (xx₄.trans x₅.nil) (fl.from xx₄.size) (by simp only [compM, hg, if_true, e1, e2, e4])
      · obtain ⟨ρ₄, c, σ₄, a, e2, I₄, x₄, rfl, fl⟩ := qq
        exact exf (K₃.step I₄ x₄) ((x₂.trans x₃).trans x₄.nil) (fl.from (x₂.trans x₃).size) (by simp only [compM, hg, if_true, e1, e2])
end
end Mine

end

/- part F11 -/
section
set_option Elab.async false
set_option linter.unusedVariables false
namespace Mine
open PySem PyProof.Rows

open Classical in
noncomputable def compD (cls : List Nat) (tf : D → Loc → Option Loc) (mt : Mn Bool) (me : Mn D) (src : Src) : Mn D := fun st =>
  if src.ds.length ≤ sizeLine then
    match compM tf src.g mt me src.ds [] ⟨clearL cls st.loc, st.sto⟩ with
    | .ok xs st' => .ok (.ref st'.sto.length) ⟨st.loc, st'.sto ++ [.list xs]⟩
    | .exc c st' => .exc c ⟨st.loc, st'.sto⟩
    | .bot => .bot
  else .bot

/-- what is to be looked at in a comprehension's block -/
structure CompSt (C : Cx) (scope : Scope) (cls : List Nat) : Prop where
  kind : scope.kind = .function
  nocell : ∀ x, x ∈ scope.names → x.2 ≠ .cell
  nl : ∀ x, x ∈ scope.names → x.2 = .local → scope.names.lookup x.1 = some .local
  free : ∀ x, x ∈ scope.names → x.2 = .free → (C.names.lookup x.1 = some .cell ∨ C.names.lookup x.1 = some .free) ∧ x.1 ∈ C.tbl
  cls : ∀ (i : Nat) x, C.tbl[i]? = some x → scope.names.lookup x = some .local → cls.contains i = true

section
variable {G : Gd} {C : Cx} {A : Around} {P : List Addr} {env : Env} {s : Shared} {ρ : List Addr} {st : St}


/-- the comprehension as a whole: what it gives is handed to the rest -/
theorem comp_core {elt target iter : Expr} {ifs : List Expr} {scope : Scope} {pos cpos : Pos} {cls : List Nat} {tg : Expr → Prop} {mi : Mn Src} {tf : D → Loc → Option Loc} {mt : Mn Bool} {me : Mn D}
    (hC : C.inh = false) (hS : CompSt C scope cls) (hI : SI G C iter tg mi) (ht : tg target) (hT : ST G ⟨scope.names, C.tbl, C.lvl, C.inh, C.code, C.qual⟩ false target tf) (hTs : STst G ⟨scope.names, C.tbl, C.lvl, C.inh, C.code, C.qual⟩ ifs mt) (hE : SE G ⟨scope.names, C.tbl, C.lvl, C.inh, C.code, C.qual⟩ elt me)
    (hs : ∀ env x, foldedSetIterable iter env x = pure x) (K : Ok G C A P env s ρ st) (hb : bnd mi (compD cls tf mt me) st ≠ .bot) {use : Option (Value → Sem Unit)} {Q : Value → Shared → Prop} {E : Value → Shared → Prop}
    (hQ : ∀ (s' : Shared) (ρ' : List Addr) (d : D) (σ' : Sto) (v : Value) (C0 : Addr), bnd mi (compD cls tf mt me) st = .ok d ⟨st.loc, σ'⟩ → Inv G s' ρ' σ' → Ev [] s.heap ρ s'.heap ρ' → Rel G s'.heap ρ' d v → s.heap.objs.size ≤ C0 → C0 ∉ ρ' → (∃ m, s'.heap.Ns C0 m) →
      match use with
      | none => ∀ h', Heap.SameBut C0 s'.heap h' → Q v { s' with heap := h' }
      | some u => wpAny G.M A (u v) (fun _ s'' => ∃ m, s''.heap.Ns C0 m ∧ ∀ h', Heap.SameBut C0 s''.heap h' → Q .none { s'' with heap := h' }) E s')
    (hX : ∀ x s', ExcE G env s ρ st (bnd mi (compD cls tf mt me) st) x s' → E x s') :
    wpAny G.M A (comprehension (.ListComp elt [⟨target, iter, ifs, 0⟩] scope pos) scope env cpos (newList []) false (eval iter env) use) Q E s := by
  have hclos : closureFor scope env = pure (closL env scope.names []) := closureFor_eq fun x m => by
    obtain ⟨hk, mt⟩ := hS.free (x, .free) m rfl
    obtain ⟨i, hi, e⟩ := List.getElem_of_mem mt
    have hk' : env.kindOf x = some .cell ∨ env.kindOf x = some .free := hk.elim (fun h => .inl (K.sees.cell x h)) (K.sees.free x)
    obtain ⟨c, hc, _⟩ := K.frm.cell i x (by rw [List.getElem?_eq_getElem hi, e]) hk'
    rw [hc]; rfl
  refine wpAny_comprehension_free rfl (hs env) hclos hS.kind hS.nl ?_
  refine wpAny_mono (hI.run A P env s ρ st K (bnd_ne_bot hb)) (fun x s₁ h₁ => wpAny_mono h₁ (fun it s₂ q => ?_) fun x s₂ q => ?_) fun x s₂ q => ?_
  rotate_left
  · exact hX _ _ (ExcE.bnd q)
  · exact hX _ _ (ExcE.bnd q)
  obtain ⟨ρ₂, src, σ₂, Ia, S, T, Md, e, I₂, x₂, rfl, X, Xs, hT0, hSn⟩ := q
  have e' : bnd mi (compD cls tf mt me) st = compD cls tf mt me src ⟨st.loc, σ₂⟩ := by simp only [bnd, e]
  have K₂ := K.step I₂ x₂
  have hlen : src.ds.length ≤ sizeLine := by
    by_cases h : src.ds.length ≤ sizeLine
    · exact h
    · exact absurd (by rw [e']; simp only [compD, h, if_false]) hb
  have hnb : compM tf src.g mt me src.ds [] ⟨clearL cls st.loc, σ₂⟩ ≠ .bot := fun z => hb (by rw [e']; simp only [compD, hlen, if_true, z])
  -- the list to be filled
  refine wpAny_newObj_type ?_ (by size_fits)
  -- the block's frame
  refine wpAny_newFunctionEnv hS.nocell (fun x m => nomatch m) (fun h₄ hn₄ hs₄ => ?_) hS.kind
  generalize hq0 : s₂.heap.objs.size = q at *
  have hC0 : (s₂.heap.push { cls := .type "list", data := .seq #[] }).objs.size = q + 1 := by rw [Heap.size_push, hq0]
  rw [hC0] at hn₄ hs₄ ⊢
  generalize hC1 : q + 1 = C0 at *
  have hqC : q < C0 := hC1 ▸ Nat.lt_succ_self q
  have g₄ : Grow s₂.heap h₄ := fun b o ho => by
    have hb : b < q := hq0 ▸ Heap.lt_size ho
    exact (hs₄.2 b (Nat.ne_of_lt (Nat.lt_trans hb hqC))).trans (Heap.get?_push_of_some _ (Heap.get?_push_of_some _ ho))
  have z₄ : s₂.heap.objs.size ≤ h₄.objs.size := by rw [hs₄.1, Heap.size_push, Heap.size_push]; exact Nat.le_add_right _ 2
  have hlq : IsLst h₄ q #[] := by
    refine ⟨0, (hs₄.2 q (Nat.ne_of_lt hqC)).trans (Heap.get?_push_of_some _ ?_)⟩
    rw [← hq0]; exact Heap.get?_push_size _ rfl
  have I₄ : Inv G { s₂ with heap := h₄ } ρ₂ σ₂ := I₂.grow g₄ z₄ s₂.toks
  have x₄ : Ev [] s₂.heap ρ₂ h₄ ρ₂ := g₄.ev z₄
  have lt₂ : ∀ {a : Addr}, a ∈ ρ₂ → a < q := fun m => hq0 ▸ I₂.mem_lt m
  have hC0n : C0 ∉ ρ₂ := fun m => Nat.lt_asymm (lt₂ m) hqC
  have hqn : q ∉ ρ₂ := fun m => Nat.lt_irrefl _ (lt₂ m)
  -- the block's environment
  generalize hE0 : newEnv scope C0 env.globals (closL env scope.names []) env.qual none .none (some env) builtinsNs = ce
  have hcl0 : ce.locals = C0 := by rw [← hE0]; rfl
  generalize hcenv : ({ ce with scope := relabel scope env } : Env) = cenv
  have eloc : cenv.locals = C0 := by rw [← hcenv]; exact hcl0
  have ekind : ∀ x, cenv.kindOf x = (scope.names.lookup x).map fun k => if (k == NameKind.free && env.scope.kind == .function && env.kindOf x == some .cell) then NameKind.cell else k := fun x => by
    rw [← hcenv]; exact relabel_lookup x
  have ecells : cenv.cells = closL env scope.names [] := by rw [← hcenv, ← hE0]; rfl
  have eframe : cenv.frame = env.frame := by rw [← hcenv, ← hE0]; rfl
  have ecode : cenv.code = env.code := by rw [← hcenv, ← hE0]; rfl
  have equal : cenv.qual = env.qual := by rw [← hcenv, ← hE0]; rfl
  have kfree : ∀ x, cenv.kindOf x = some .cell ∨ cenv.kindOf x = some .free → scope.names.lookup x = some .free := fun x h => by
    rw [ekind] at h
    cases q : scope.names.lookup x with
    | none => rw [q] at h; rcases h with h | h <;> cases h
    | some k =>
      rw [q] at h
      cases k with
      | free => rfl
      | cell => exact absurd rfl (hS.nocell _ (mem_of_lookup q))
      | _ => rcases h with h | h <;> cases h
  have kloc : ∀ x, cenv.kindOf x = some .local → scope.names.lookup x = some .local := fun x h => by
    rw [ekind] at h
    cases q : scope.names.lookup x with
    | none => rw [q] at h; cases h
    | some k =>
      rw [q] at h
      simp only [Option.map_some] at h
      split at h
      · cases h
      · exact h
  have F₄ : Frm G C.tbl [cenv.locals] cenv h₄ ρ₂ (clearL cls st.loc) := {
    kind := by rw [← hcenv]; exact hS.kind
    glob := by rw [← hcenv, ← hE0]; exact K.frm.glob
    bi := by rw [← hcenv, ← hE0]; exact K.frm.bi
    ns := ⟨_, by rw [eloc]; exact hn₄, fun i x e k d hd => by
      have := hS.cls i x e (kloc x k)
      simp only [clearL, this, if_true] at hd; cases hd⟩
    cell := fun i x e k => by
      have kf := kfree x k
      have ko := (hS.free (x, .free) (mem_of_lookup kf) rfl).1
      have hk' : env.kindOf x = some .cell ∨ env.kindOf x = some .free := ko.elim (fun h => .inl (K.sees.cell x h)) (K.sees.free x)
      obtain ⟨c, hc, ov, n, qq⟩ := (K₂.frm.keep K₂.inv x₄).cell i x e hk'
      refine ⟨c, by rw [ecells]; exact closL_has (mem_of_lookup kf) hc, ov, n, fun d hd => qq d ?_⟩
      simp only [clearL] at hd
      split at hd
      · cases hd
      · exact hd
    cok := fun x c e => by rw [ecells] at e; exact (K₂.frm.keep K₂.inv x₄).cok x c (closL_lookup e)
    cinj := fun x y c e1 e2 => by rw [ecells] at e1 e2; exact K.frm.cinj x y c (closL_lookup e1) (closL_lookup e2)
    lrho := by rw [eloc]; exact hC0n
    lP := List.mem_singleton.mpr rfl
    own := fun p m => ⟨by rw [List.mem_singleton.mp m, eloc]; exact I₂.h0_le (by rw [hq0]; exact Nat.le_of_lt hqC), .inl (List.mem_singleton.mp m)⟩
    tnd := K.frm.tnd }
  have K₄ : Ok G ⟨scope.names, C.tbl, C.lvl, C.inh, C.code, C.qual⟩ A [cenv.locals] cenv { s₂ with heap := h₄ } ρ₂ ⟨clearL cls st.loc, σ₂⟩ := {
    room := ⟨K.room.hd, K.room.depth, K.room.units⟩
    sees := {
      loc := fun x h => by rw [ekind, h]; rfl
      cell := fun x h => absurd rfl (hS.nocell _ (mem_of_lookup h))
      free := fun x h => by
        rw [ekind, h]
        simp only [Option.map_some]
        split
        · exact .inl rfl
        · exact .inr rfl
      glob := fun x h => by rw [ekind, h]; rfl }
    inv := I₄
    frm := F₄
    stk := ⟨let ⟨fe, o, L, h1, h2, h3⟩ := K.stk.fr; ⟨fe, o, L, h1, h2, eframe.trans h3⟩, (K₂.stk.step x₄).ff⟩
    code := K.code.imp id ecode.trans
    qual := K.qual.imp id equal.trans }
  have T₄ : T src.ds h₄ ρ₂ σ₂ := X.keep [] src.ds s₂ ρ₂ σ₂ { s₂ with heap := h₄ } ρ₂ σ₂ hT0 I₂ I₄ x₄ .nil (by
    by_cases h : src.g σ₂
    · exact h
    · exact absurd (by cases src.ds <;> simp only [compM, h, if_false]) hnb)
  have b0 : ∀ b, s.heap.objs.size ≤ b → G.h0.get? b = none := fun b z => K.inv.h0_le z
  have hsq : s.heap.objs.size ≤ q := hq0 ▸ x₂.size
  have hqS : q ∉ S := fun m => by
    rcases X.own _ _ _ _ hT0 q m with (⟨_, _, o, _, _, ho, _⟩ | ⟨_, _, vs, n, ho⟩) | ⟨k, ek, _⟩
    · exact absurd (Heap.lt_size ho) (by rw [hq0]; exact Nat.lt_irrefl _)
    · exact absurd (Heap.lt_size ho) (by rw [hq0]; exact Nat.lt_irrefl _)
    · exact hqn (List.mem_of_getElem? ek)
  have xs₄ : Ev [cenv.locals] s.heap ρ h₄ ρ₂ := (x₂.trans x₄).nil
  have loop : codeAny G.M A (.compLoop (.ListComp elt [⟨target, iter, ifs, 0⟩] scope pos) 0 (.ref Ia) (.ref q) cenv) (compPost G.M A E use Q (.ref q) ce.locals) { s₂ with heap := h₄ } := by
    refine codeAny_mono (comp_ok (C' := ⟨scope.names, C.tbl, C.lvl, C.inh, C.code, C.qual⟩) X hC ht hT hTs hE (hs := s.heap) (ρs := ρ) b0 hsq (fun q' m => .inl (hSn q' m)) hqS (by rw [eloc]; exact Nat.ne_of_lt hqC) src.ds [] _ ρ₂ ⟨clearL cls st.loc, σ₂⟩ #[] K₄ T₄ xs₄ hqn hlq (by simp [RelL]) (by simpa using hlen) hnb) fun r s' hr => ?_
    rw [hcl0]
    have hC0s : s.heap.objs.size ≤ C0 := Nat.le_trans hsq (Nat.le_of_lt hqC)
    cases r with
    | ok f =>
      obtain ⟨ρ', xs, st', vs, e3, I', x', F', hq', hl', r'⟩ := hr
      obtain ⟨n', hl''⟩ := id hl'
      obtain ⟨mm, nm, _⟩ := F'.ns
      rw [eloc] at nm
      have ad := I'.adopt (q := q) (p := .list xs) (b0 q hsq) hq' (fun o ho => by rw [hl''] at ho; cases ho; exact ⟨by simp, fun c z => by cases z⟩)
        (fun S => ⟨vs, hl', RelL.mono S _ _ r'⟩) s'.toks
      have ev : Ev [] s.heap ρ s'.heap (ρ' ++ [q]) := ev_adopt (x'.less fun p m => .inr (by rw [List.mem_singleton.mp m, eloc]; exact hC0s)) hsq
      have rel : Rel G s'.heap (ρ' ++ [q]) (.ref st'.sto.length) (.ref q) := by
        simp only [Rel]
        exact ⟨q, rfl, by rw [← I'.len]; simp⟩
      have hn0 : C0 ∉ ρ' ++ [q] := fun m => by
        rcases List.mem_append.mp m with m | m
        · exact (eloc ▸ F'.lrho) m
        · exact Nat.ne_of_gt hqC (List.mem_singleton.mp m)
      have fin := hQ s' (ρ' ++ [q]) (.ref st'.sto.length) (st'.sto ++ [.list xs]) (.ref q) C0 (by rw [e']; simp only [compD, hlen, if_true, e3]) ad.1 ev rel hC0s hn0 ⟨mm, nm⟩
      cases use with
      | none => exact ⟨mm, nm, fin⟩
      | some u => exact fin
    | error x =>
      obtain ⟨ρ', c, st', a, L, e3, I', x', F', S', rfl, hL, fT⟩ := hr
      obtain ⟨mm, nm, _⟩ := F'.ns
      rw [eloc] at nm
      have main : ∃ m, s'.heap.Ns C0 m ∧ ∀ h', Heap.SameBut C0 s'.heap h' → ∀ cenv : Env, cenv.locals = C0 → wpAny G.M A (passOn "comprehension.variables-let-go" (.ref a) cenv : Sem Value) (fun _ _ => False) E { s' with heap := h' } := by
        refine ⟨mm, nm, fun h' hsb cenv' _ => ?_⟩
        obtain ⟨oC, es, ep, hoC, hdC, _⟩ := id nm
        obtain ⟨I'', x'', S''⟩ := wr_own (P := [C0]) I' hsb (List.mem_singleton.mpr rfl) (b0 C0 hC0s) (eloc ▸ F'.lrho) ⟨oC, hoC, .inl ⟨es, ep, hdC⟩⟩ s'.toks
        obtain ⟨hna, o, vs, T', oT, ts, ho, hc, hd, hsz, t1, t2, t3, t4, t5, t6, t7⟩ := fT
        have ne : ∀ (b : Addr) (ob : Obj) (vs : Array Value), s'.heap.get? b = some ob → ob.data = .fields vs → b ≠ C0 := fun b ob vs e hd z => by
          rw [z, hoC] at e; cases e
          rw [hdC] at hd; cases hd
        have ho' : h'.get? a = some o := (hsb.2 a (ne a o vs ho hd)).trans ho
        have fT' : FlyT s.heap.objs.size h' (rawInt L) a c := ⟨hna, o, vs, T', oT, ts, ho', hc, hd, hsz, t1, t2, t3, (hsb.2 T' (ne T' oT ts t4 t6)).trans t4, t5, t6, t7⟩
        unfold PySem.passOn
        refine wpAny_bind (wpAny_field (s := { s' with heap := h' }) ho' hd t1 ?_)
        rw [if_neg (by simp)]
        refine wpAny_bind (flight_fly (ρ := ρ') (s := { s' with heap := h' }) (G := G) (fr := cenv'.frame) fT' fun h'' N T => ?_)
        refine wpAny_throw (hX _ _ ?_)
        have xall : Ev [] s.heap ρ h' ρ' := (x'.trans (eloc.symm ▸ x'')).less fun p m => .inr (by rw [List.mem_singleton.mp m, eloc]; exact hC0s)
        exact ⟨ρ', c, st'.sto, a, by rw [e']; simp only [compD, hlen, if_true, e3], N.inv I'' b0 s'.toks, N.ev xall, rfl, T.fly⟩
      cases use <;> exact main
  refine codeAny_compStart_list loop (Xs A { s₂ with heap := h₄ } ρ₂ σ₂ src.ds _ _ (K.room.hd hC) T₄ loop)

theorem se_comp {elt target iter : Expr} {ifs : List Expr} {scope : Scope} {pos : Pos} {cls : List Nat} {tg : Expr → Prop} {mi : Mn Src} {tf : D → Loc → Option Loc} {mt : Mn Bool} {me : Mn D}
    (hC : C.inh = false) (hS : CompSt C scope cls) (hI : SI G C iter tg mi) (ht : tg target) (hT : ST G ⟨scope.names, C.tbl, C.lvl, C.inh, C.code, C.qual⟩ false target tf) (hTs : STst G ⟨scope.names, C.tbl, C.lvl, C.inh, C.code, C.qual⟩ ifs mt) (hE : SE G ⟨scope.names, C.tbl, C.lvl, C.inh, C.code, C.qual⟩ elt me)
    (hs : ∀ env x, foldedSetIterable iter env x = pure x) : SE G C (.ListComp elt [⟨target, iter, ifs, 0⟩] scope pos) (bnd mi (compD cls tf mt me)) := .mk <| fun A P env s ρ st K hb => by
  show wpAny G.M A (comprehension (.ListComp elt [⟨target, iter, ifs, 0⟩] scope pos) scope env iter.pos (newList []) false (eval iter env) none) _ _ s
  refine comp_core hC hS hI ht hT hTs hE hs K hb (fun s' ρ' d σ' v C0 e I' x r hC0 hn ⟨m, nm⟩ => ?_) fun _ _ z => z
  intro h' hsb
  obtain ⟨oC, es, ep, hoC, hdC, _⟩ := id nm
  obtain ⟨I'', x'', S''⟩ := wr_own (P := [C0]) I' hsb (List.mem_singleton.mpr rfl) (K.inv.h0_le hC0) hn ⟨oC, hoC, .inl ⟨es, ep, hdC⟩⟩ s'.toks
  exact ⟨ρ', d, σ', e, I'', (x.nil.trans x'').less fun p m => .inr (by rw [List.mem_singleton.mp m]; exact hC0), Rel.mono S'' _ _ r⟩

/-- a name bound to a comprehension: the store stands ahead of the block's end -/
theorem ss_assign_comp {i : Nat} {x : Str} {np : Pos} {elt target iter : Expr} {ifs : List Expr} {scope : Scope} {cpos pos : Pos} {cls : List Nat} {tg : Expr → Prop} {mi : Mn Src} {tf : D → Loc → Option Loc} {mt : Mn Bool} {me : Mn D}
    (hi : C.tbl[i]? = some x) (hx : C.names.lookup x = some .local)
    (hC : C.inh = false) (hS : CompSt C scope cls) (hI : SI G C iter tg mi) (ht : tg target) (hT : ST G ⟨scope.names, C.tbl, C.lvl, C.inh, C.code, C.qual⟩ false target tf) (hTs : STst G ⟨scope.names, C.tbl, C.lvl, C.inh, C.code, C.qual⟩ ifs mt) (hE : SE G ⟨scope.names, C.tbl, C.lvl, C.inh, C.code, C.qual⟩ elt me)
    (hs : ∀ env x, foldedSetIterable iter env x = pure x)
    (hsw : ∀ env : Env, env.kindOf x = some .local → env.blockKind = .function → swapsWith (.ListComp elt [⟨target, iter, ifs, 0⟩] scope cpos) (some (.Name x np)) pos.line env = pure true) :
    SS G C (.Assign [.Name x np] (.ListComp elt [⟨target, iter, ifs, 0⟩] scope cpos) pos) (bnd (bnd mi (compD cls tf mt me)) (setvar i)) := .mk <| fun A P env s ρ st K W hb => by
  have hbk : env.blockKind = .function := by unfold Env.blockKind; rw [K.frm.kind]; rfl
  rw [exec_Assign_Name_used (env := env) x np _ pos (hsw env (K.sees.loc x hx) hbk)]
  refine wpAny_bind (wpAny_standAt ?_)
  show wpAny G.M A ((comprehension (.ListComp elt [⟨target, iter, ifs, 0⟩] scope cpos) scope env iter.pos (newList []) false (eval iter env) (some (assign (.Name x np) env)) >>= fun _ => pure ()) >>= fun _ => pure Flow.next) _ _ s
  refine wpAny_bind (wpAny_bind ?_)
  refine comp_core hC hS hI ht hT hTs hE hs K (bnd_ne_bot hb) (fun s' ρ' d σ' v C0 e I' x' r hC0 hn ⟨m, nm⟩ => ?_) fun ex s' z => ?_
  · have K' := K.step I' x'
    obtain ⟨oC, es, ep, hoC, hdC, rC⟩ := id nm
    have hCP : C0 ∉ P := fun m => by
      rcases (K.frm.own C0 m).2 with z | ⟨y, z⟩
      · obtain ⟨_, n, _⟩ := K.frm.ns
        exact absurd n.lt (by rw [← z]; exact Nat.not_lt.mpr hC0)
      · obtain ⟨_, ov, o, ho, _⟩ := K.frm.cok y C0 z
        exact absurd (Heap.lt_size ho) (Nat.not_lt.mpr hC0)
    refine wpAny_assign_Name (at_store K' hi hx r fun s'' I'' x'' F'' => ⟨m, ns_keep x'' nm hn hCP, fun h' hsb => ?_⟩)
    have nm'' := ns_keep x'' nm hn hCP
    obtain ⟨oC', es', ep', hoC', hdC', _⟩ := id nm''
    obtain ⟨I3, x3, S3⟩ := wr_own (P := C0 :: P) I'' hsb List.mem_cons_self (K.inv.h0_le hC0) hn ⟨oC', hoC', .inl ⟨es', ep', hdC'⟩⟩ s''.toks
    have ev : Ev P s.heap ρ h' ρ' := ((x'.nil.trans (x''.more fun p m => List.mem_cons_of_mem _ m)).trans x3).less fun p m => by
      rcases List.mem_cons.mp m with rfl | m
      · exact .inr hC0
      · exact .inl m
    have F3 : Frm G C.tbl P env h' ρ' (upd st.loc i d) := by
      -- the block's dict is no object of this frame's
      refine ⟨F''.kind, F''.glob, F''.bi, ?_, fun j y e k => ?_, fun y c e => ?_, F''.cinj, F''.lrho, F''.lP, F''.own, F''.tnd⟩
      · obtain ⟨m, n, q⟩ := F''.ns
        exact ⟨m, n.sameBut hsb (fun z => hCP (z ▸ F''.lP)), fun j y e k d hd => let ⟨v, e1, e2⟩ := q j y e k d hd; ⟨v, e1, Rel.mono S3 _ _ e2⟩⟩
      · obtain ⟨c, e1, ov, n, q⟩ := F''.cell j y e k
        exact ⟨c, e1, ov, n.sameBut hsb (fun z => hCP (z ▸ W y c e1)), fun d hd => let ⟨v, e1, e2⟩ := q d hd; ⟨v, e1, Rel.mono S3 _ _ e2⟩⟩
      · obtain ⟨n, ov, z⟩ := F''.cok y c e
        exact ⟨n, ov, z.sameBut hsb (fun z => hCP (z ▸ W y c e))⟩
    exact wpAny_pure (wpAny_pure ⟨ρ', .next, ⟨upd st.loc i d, σ'⟩, by rw [bnd, e]; rfl, I3, ev, F3, rfl⟩)
  · obtain ⟨ρ', c, σ', a, e, I', x', rfl, fl⟩ := z
    exact ⟨ρ', c, ⟨st.loc, σ'⟩, a, by rw [bnd, e], I', x'.nil, K.frm.keep K.inv x', rfl, fl⟩
end
end Mine

end

/- part F12 -/
section
set_option Elab.async false
set_option linter.unusedVariables false
namespace Mine
open PySem PyProof.Rows

noncomputable def truthyD : D → Mn Bool
  | .bool b => ret1 b
  | .int i => ret1 (i != 0)
  | .none => ret1 false
  | .str x => if x.length ≤ sizeLine then ret1 (x.length != 0) else botM
  | _ => botM

theorem if_app {α : Type} {c : Prop} [Decidable c] {f g : Mn α} {st : St} (h : c) : (if c then f else g) st = f st := by rw [if_pos h]
theorem ifn_app {α : Type} {c : Prop} [Decidable c] {f g : Mn α} {st : St} (h : ¬ c) : (if c then f else g) st = g st := by rw [if_neg h]

noncomputable def notM (m : Mn Bool) : Mn Bool := bnd m fun b => ret1 (!b)
noncomputable def andM (m n : Mn Bool) : Mn Bool := bnd m fun b => if b then n else ret1 false
noncomputable def orM (m n : Mn Bool) : Mn Bool := bnd m fun b => if b then ret1 true else n
/-- `and` | `or` as values -/
noncomputable def andV (m n : Mn D) : Mn D := bnd m fun d => bnd (truthyD d) fun b => if b then n else ret1 d
noncomputable def orV (m n : Mn D) : Mn D := bnd m fun d => bnd (truthyD d) fun b => if b then ret1 d else n
noncomputable def notV (m : Mn D) : Mn D := bnd m fun d => bnd (truthyD d) fun b => ret1 (.bool (!b))
section
variable {G : Gd} {C : Cx} {A : Around} {P : List Addr} {env : Env} {s : Shared} {ρ : List Addr} {st : St}

theorem at_truthy {d : D} {v : Value} (K : Ok G C A P env s ρ st) (r : Rel G s.heap ρ d v) : At G A env s ρ st RB (truthy v) (truthyD d) := by
  refine At.leaf (fun hb => ?_) K
  cases d with
  | bool b => cases r; exact wpAny_truthy_bool ⟨b, rfl, Grow.same0, rfl⟩
  | int i => simp only [Rel] at r; obtain ⟨t, rfl⟩ := r; exact PySem.P.truthy_int ⟨_, rfl, Grow.same0, rfl⟩
  | none => cases r; exact truthy_none ⟨_, rfl, Grow.same0, rfl⟩
  | str x =>
    simp only [Rel] at r; obtain ⟨t, rfl⟩ := r
    have hz : x.length ≤ sizeLine := by
      by_cases h : x.length ≤ sizeLine
      · exact h
      · exact absurd (ifn_app h) hb
    refine PySem.P.truthy_str (by rw [sizeLine_eq] at hz; omega) ⟨x.length != 0, if_app hz, Grow.same, ?_⟩
    show (x.length != 0) = ((x.length : Int) != 0)
    cases h : x.length with
    | zero => rfl
    | succ n => simp [bne]; exact fun hzz => linI [_] [eq1 (.a x0 (.n 1)) (.n 0), le1 (.n 0) x0] (Eq.refl true) hzz (cast_nn _)
  | _ => exact absurd rfl hb

theorem sb_val {e : Expr} {m : Mn D} (h : SE G C e m) (he : ∀ env whole, isTrue e env whole = (do let v ← whole; standAt e.pos; holding [v] (truthy v))) : SB G C e (bnd m truthyD) := .mk <| fun A P env s ρ st K => by
  rw [he]
  refine At.bind K (h.run A P env s ρ st K) fun v s' ρ' d σ' K' x r => ?_
  exact At.stand (At.hold (at_truthy K' r))
theorem sb_not {e : Expr} {pos : Pos} {m : Mn Bool} (h : SB G C e m) : SB G C (.UnaryOp .Not e pos) (notM m) := .mk <| fun A P env s ρ st K => by
  show At G A env s ρ st RB (isTrue e env (eval e env) >>= fun b => pure (!b)) _
  exact At.map (h.run A P env s ρ st K) fun _ _ d v r => by cases r; rfl

/-- the parts of an `and` | `or` as tests -/
structure SBs (G : Gd) (C : Cx) (op : BoolOp) (es : List Expr) (m : Mn Bool) : Prop where
  run : ∀ A P env s ρ st, Ok G C A P env s ρ st → At G A env s ρ st RB (allTrue op es env) m
theorem sbs_and1 {e : Expr} {m : Mn Bool} (h : SB G C e m) : SBs G C .And [e] m := .mk <| fun A P env s ρ st K hb => by
  show wpAny G.M A (isTrue e env (eval e env) >>= fun b => match BoolOp.And, b with | .And, false => pure false | .Or, true => pure true | _, _ => allTrue .And [] env) _ _ s
  refine wpAny_bind (wpAny_mono (h.run A P env s ρ st K hb) (fun b s' q => ?_) fun _ _ q => q)
  cases b <;> exact wpAny_pure q
theorem sbs_or1 {e : Expr} {m : Mn Bool} (h : SB G C e m) : SBs G C .Or [e] m := .mk <| fun A P env s ρ st K hb => by
  show wpAny G.M A (isTrue e env (eval e env) >>= fun b => match BoolOp.Or, b with | .And, false => pure false | .Or, true => pure true | _, _ => allTrue .Or [] env) _ _ s
  refine wpAny_bind (wpAny_mono (h.run A P env s ρ st K hb) (fun b s' q => ?_) fun _ _ q => q)
  cases b <;> exact wpAny_pure q
theorem sbs_and {e : Expr} {es : List Expr} {m n : Mn Bool} (h : SB G C e m) (h2 : SBs G C .And es n) : SBs G C .And (e :: es) (andM m n) := .mk <| fun A P env s ρ st K => by
  show At G A env s ρ st RB (isTrue e env (eval e env) >>= fun b => match BoolOp.And, b with | .And, false => pure false | .Or, true => pure true | _, _ => allTrue .And es env) _
  refine At.bind K (h.run A P env s ρ st K) fun v s' ρ' d σ' K' x r => ?_
  cases (show d = v from r)
  cases v with
  | false => exact At.pure K' rfl
  | true => exact h2.run A P env s' ρ' _ K'
theorem sbs_or {e : Expr} {es : List Expr} {m n : Mn Bool} (h : SB G C e m) (h2 : SBs G C .Or es n) : SBs G C .Or (e :: es) (orM m n) := .mk <| fun A P env s ρ st K => by
  show At G A env s ρ st RB (isTrue e env (eval e env) >>= fun b => match BoolOp.Or, b with | .And, false => pure false | .Or, true => pure true | _, _ => allTrue .Or es env) _
  refine At.bind K (h.run A P env s ρ st K) fun v s' ρ' d σ' K' x r => ?_
  cases (show d = v from r)
  cases v with
  | false => exact h2.run A P env s' ρ' _ K'
  | true => exact At.pure K' rfl
theorem sb_bool {op : BoolOp} {es : List Expr} {pos : Pos} {m : Mn Bool} (h : SBs G C op es m) : SB G C (.BoolOp op es pos) m := .mk <| fun A P env s ρ st K => h.run A P env s ρ st K

/-- the parts of an `and` | `or` as values -/
structure SVs (G : Gd) (C : Cx) (op : BoolOp) (es : List Expr) (m : Mn D) : Prop where
  run : ∀ A P env s ρ st pos, Ok G C A P env s ρ st → At G A env s ρ st (RV G) (boolOp pos op (evalEach es env)) m
theorem svs_one {op : BoolOp} {e : Expr} {m : Mn D} (h : SE G C e m) : SVs G C op [e] m := .mk <| fun A P env s ρ st pos K => h.run A P env s ρ st K
theorem svs_and {e e' : Expr} {es : List Expr} {m n : Mn D} (h : SE G C e m) (h2 : SVs G C .And (e' :: es) n) : SVs G C .And (e :: e' :: es) (andV m n) := .mk <| fun A P env s ρ st pos K => by
  show At G A env s ρ st (RV G) (eval e env >>= fun v => standAt pos >>= fun _ => holding [v] (truthy v) >>= fun t => match BoolOp.And, t with | .And, false | .Or, true => pure v | _, _ => boolOp pos .And (evalEach (e' :: es) env)) _
  refine At.bind K (h.run A P env s ρ st K) fun v s' ρ' d σ' K' x r => ?_
  refine At.stand (At.bind K' (At.hold (at_truthy K' r)) fun t s'' ρ'' b σ'' K'' x2 rb => ?_)
  cases (show b = t from rb)
  cases t with
  | false => exact At.pure K'' (Rel.mono (x2.stb K'.inv .nil) _ _ r)
  | true => exact h2.run A P env s'' ρ'' _ pos K''
theorem svs_or {e e' : Expr} {es : List Expr} {m n : Mn D} (h : SE G C e m) (h2 : SVs G C .Or (e' :: es) n) : SVs G C .Or (e :: e' :: es) (orV m n) := .mk <| fun A P env s ρ st pos K => by
  show At G A env s ρ st (RV G) (eval e env >>= fun v => standAt pos >>= fun _ => holding [v] (truthy v) >>= fun t => match BoolOp.Or, t with | .And, false | .Or, true => pure v | _, _ => boolOp pos .Or (evalEach (e' :: es) env)) _
  refine At.bind K (h.run A P env s ρ st K) fun v s' ρ' d σ' K' x r => ?_
  refine At.stand (At.bind K' (At.hold (at_truthy K' r)) fun t s'' ρ'' b σ'' K'' x2 rb => ?_)
  cases (show b = t from rb)
  cases t with
  | false => exact h2.run A P env s'' ρ'' _ pos K''
  | true => exact At.pure K'' (Rel.mono (x2.stb K'.inv .nil) _ _ r)
theorem se_boolop {op : BoolOp} {es : List Expr} {pos : Pos} {m : Mn D} (h : SVs G C op es m) : SE G C (.BoolOp op es pos) m := .mk <| fun A P env s ρ st K => h.run A P env s ρ st pos K
theorem se_not {e : Expr} {pos : Pos} {m : Mn D} (h : SE G C e m) : SE G C (.UnaryOp .Not e pos) (notV m) := .mk <| fun A P env s ρ st K => by
  show At G A env s ρ st (RV G) (eval e env >>= fun v => standAt pos >>= fun _ => holding [v] (unaryOp .Not v)) _
  refine At.bind K (h.run A P env s ρ st K) fun v s' ρ' d σ' K' x r => ?_
  refine At.stand (At.hold (fun hb => ?_))
  refine not_of (wpAny_mono (at_truthy K' r (bnd_ne_bot hb)) (fun c s'' q => ?_) fun ex s'' q => ?_)
  · refine OkE.elim q fun ρ'' b σ'' e I'' x'' rb => ?_
    cases (show b = c from rb)
    exact ⟨ρ'', .bool (!c), σ'', by simp only [bnd, e, ret1], I'', x'', rfl⟩
  · exact ExcE.bnd q
theorem se_ifexp {c e1 e2 : Expr} {pos : Pos} {mc : Mn Bool} {m1 m2 : Mn D} (hc : SB G C c mc) (h1 : SE G C e1 m1) (h2 : SE G C e2 m2) : SE G C (.IfExp c e1 e2 pos) (bnd mc fun b => if b then m1 else m2) := .mk <| fun A P env s ρ st K => by
  show At G A env s ρ st (RV G) (isTrue c env (eval c env) >>= fun b => if b then eval e1 env else eval e2 env) _
  refine At.bind K (hc.run A P env s ρ st K) fun v s' ρ' d σ' K' x r => ?_
  cases (show d = v from r)
  cases v with
  | true => exact h1.run A P env s' ρ' _ K'
  | false => exact h2.run A P env s' ρ' _ K'

theorem at_release {α β : Type} {R : Heap → List Addr → β → α → Prop} {t : Sem α} {m : Mn β} {vs ks : List Value} (h : At G A env s ρ st R t m) : At G A env s ρ st R (release vs ks >>= fun _ => t) m := fun hb => wpAny_bind (wpAny_release' (h hb))

/-! comparisons -/
noncomputable def CmpOk (G : Gd) (op : CmpOp) (f : D → D → Mn D) : Prop :=
  ∀ C A P env s ρ st d1 d2 v1 v2, Ok G C A P env s ρ st → Rel G s.heap ρ d1 v1 → Rel G s.heap ρ d2 v2 → At G A env s ρ st (RV G) (compareOp op v1 v2) (f d1 d2)

theorem se_cmp {l r : Expr} {op : CmpOp} {pos : Pos} {m1 m2 : Mn D} {f : D → D → Mn D} (ho : CmpOk G op f) (h1 : SE G C l m1) (h2 : SE G C r m2) (hm : behindInMarks op r = false) :
    SE G C (.Compare l [op] [r] pos) (bnd m1 fun a => bnd m2 fun b => f a b) := .mk <| fun A P env s ρ st K => by
  show At G A env s ρ st (RV G) (eval l env >>= fun a => holding [a] (markedBehindIn op r (eval r env)) >>= fun b => standAt pos >>= fun _ => operate [a, b] (compareOp op a b)) _
  rw [markedBehindIn_of_false hm]
  refine At.bind K (h1.run A P env s ρ st K) fun v s' ρ' d σ' K' x r1 => ?_
  refine At.bind K' (h2.run A P env s' ρ' _ K').hold fun v2 s'' ρ'' d2 σ'' K'' x2 r2 => ?_
  exact At.stand (At.operate (ho C A P env s'' ρ'' _ d d2 v v2 K'' (Rel.mono (x2.stb K'.inv .nil) _ _ r1) r2))
theorem sb_cmp {l r : Expr} {op : CmpOp} {pos : Pos} {m1 m2 : Mn D} {f : D → D → Mn D} (ho : CmpOk G op f) (h1 : SE G C l m1) (h2 : SE G C r m2) (hm : behindInMarks op r = false) :
    SB G C (.Compare l [op] [r] pos) (bnd m1 fun a => bnd m2 fun b => bnd (f a b) truthyD) := .mk <| fun A P env s ρ st K => by
  show At G A env s ρ st RB (eval l env >>= fun a => holding [a] (markedBehindIn op r (eval r env)) >>= fun b => standAt pos >>= fun _ => operate [a, b] (compareOp op a b) >>= fun c => holding [c] (truthy c)) _
  rw [markedBehindIn_of_false hm]
  refine At.bind K (h1.run A P env s ρ st K) fun v s' ρ' d σ' K' x r1 => ?_
  refine At.bind K' (h2.run A P env s' ρ' _ K').hold fun v2 s'' ρ'' d2 σ'' K'' x2 r2 => ?_
  refine At.stand (At.bind K'' (At.operate (ho C A P env s'' ρ'' _ d d2 v v2 K'' (Rel.mono (x2.stb K'.inv .nil) _ _ r1) r2)) fun c s₃ ρ₃ dc σ₃ K₃ x3 rc => ?_)
  exact At.hold (at_truthy K₃ rc)
/-- a chain of two comparisons -/
theorem sb_cmp2 {l r q : Expr} {op op' : CmpOp} {pos : Pos} {m1 m2 m3 : Mn D} {f g : D → D → Mn D} (ho : CmpOk G op f) (ho' : CmpOk G op' g) (h1 : SE G C l m1) (h2 : SE G C r m2) (h3 : SE G C q m3) (hm : lastMarks [op, op'] [r, q] = false) :
    SB G C (.Compare l [op, op'] [r, q] pos) (bnd m1 fun a => bnd m2 fun b => bnd (f a b) fun c => bnd (truthyD c) fun t => if t then (bnd m3 fun c => bnd (g b c) truthyD) else ret1 false) := .mk <| fun A P env s ρ st K => by
  show At G A env s ρ st RB (eval l env >>= fun a => testChain pos a [op, op'] (markedEach [op, op'] [r, q] [eval r env, eval q env])) _
  rw [markedEach_of_false _ _ _ hm]
  refine At.bind K (h1.run A P env s ρ st K) fun v s' ρ' d σ' K' x r1 => ?_
  show At G A env s' ρ' _ RB (holding [v] (eval r env) >>= fun rv => standAt pos >>= fun _ => holding [v, rv] (compareOp op v rv) >>= fun c => release [v, rv] [c] >>= fun _ => holding [c, rv] (truthy c) >>= fun t => if t then (holding [rv] (eval q env) >>= fun qv => standAt pos >>= fun _ => operate [rv, qv] (compareOp op' rv qv) >>= fun c => holding [c] (truthy c)) else pure false) _
  refine At.bind K' (h2.run A P env s' ρ' _ K').hold fun v2 s'' ρ'' d2 σ'' K'' x2 r2 => ?_
  refine At.stand (At.bind K'' (At.hold (ho C A P env s'' ρ'' _ d d2 v v2 K'' (Rel.mono (x2.stb K'.inv .nil) _ _ r1) r2)) fun c s₃ ρ₃ dc σ₃ K₃ x3 rc => ?_)
  refine at_release (At.bind K₃ (At.hold (at_truthy K₃ rc)) fun t s₄ ρ₄ b σ₄ K₄ x4 rb => ?_)
  cases (show b = t from rb)
  cases t with
  | false => exact At.pure K₄ rfl
  | true =>
    refine At.bind K₄ (h3.run A P env s₄ ρ₄ _ K₄).hold fun v3 s₅ ρ₅ d3 σ₅ K₅ x5 r3 => ?_
    refine At.stand (At.bind K₅ (At.operate (ho' C A P env s₅ ρ₅ _ d2 d3 v2 v3 K₅ (Rel.mono (x5.stb K₄.inv .nil) _ _ (Rel.mono (x4.stb K₃.inv .nil) _ _ (Rel.mono (x3.stb K''.inv .nil) _ _ r2))) r3)) fun c s₆ ρ₆ dc σ₆ K₆ x6 rc => ?_)
    exact At.hold (at_truthy K₆ rc)

/-! the operations upon ints and texts -/
noncomputable def pAdd0 : D → D → Mn D := op2 (fun a b => ret1 (.int (a + b))) fun x y => if x.length + y.length ≤ sizeLine then ret1 (.str (x ++ y)) else botM
noncomputable def pMod : D → D → Mn D := op2 (fun a b => if b ≠ 0 then ret1 (.int (a.fmod b)) else botM) noS
noncomputable def small64 (a : Int) : Bool := decide (-(2 ^ 63) < a) && decide (a < 2 ^ 63)
noncomputable def pMulI : D → D → Mn D := op2 (fun a b => if small64 a || small64 b then ret1 (.int (a * b)) else botM) noS
noncomputable def pNeg : D → Mn D
  | .int a => ret1 (.int (-a))
  | _ => botM
theorem small64_bits {a : Int} (h : small64 a = true) : Builtin.Int.intBits a ≤ 64 := by
  simp only [small64, Bool.and_eq_true, decide_eq_true_eq] at h
  exact intBits_le_64 (by omega) (by omega)

theorem bin_sub : BinOk G .Sub pSub := fun C A P env s ρ st d1 d2 v1 v2 K r1 r2 => by
  refine At.leaf (fun hb => ?_) K
  rcases op2_ne hb with ⟨a, b, rfl, rfl⟩ | ⟨x, y, rfl, rfl⟩
  · obtain ⟨t, rfl⟩ := r1; obtain ⟨u, rfl⟩ := r2
    exact PySem.P.sub_int ⟨_, rfl, Grow.same, _, rfl⟩
  · exact absurd rfl hb
theorem bin_div : BinOk G .FloorDiv pDiv := fun C A P env s ρ st d1 d2 v1 v2 K r1 r2 => by
  refine At.leaf (fun hb => ?_) K
  rcases op2_ne hb with ⟨a, b, rfl, rfl⟩ | ⟨x, y, rfl, rfl⟩
  · obtain ⟨t, rfl⟩ := r1; obtain ⟨u, rfl⟩ := r2
    by_cases h : b ≠ 0 ∧ b.natAbs < 1073741824
    · exact floordiv_int h.1 ⟨_, if_app h, Grow.same, _, rfl⟩ (.inl (PyProof.noPylong_small h.2))
    · exact absurd (ifn_app h) hb
  · exact absurd rfl hb
theorem bin_mod : BinOk G .Mod pMod := fun C A P env s ρ st d1 d2 v1 v2 K r1 r2 => by
  refine At.leaf (fun hb => ?_) K
  rcases op2_ne hb with ⟨a, b, rfl, rfl⟩ | ⟨x, y, rfl, rfl⟩
  · obtain ⟨t, rfl⟩ := r1; obtain ⟨u, rfl⟩ := r2
    by_cases h : b ≠ 0
    · exact mod_int' h ⟨_, if_app h, Grow.same, _, rfl⟩
    · exact absurd (ifn_app h) hb
  · exact absurd rfl hb
theorem bin_mulI : BinOk G .Mult pMulI := fun C A P env s ρ st d1 d2 v1 v2 K r1 r2 => by
  refine At.leaf (fun hb => ?_) K
  rcases op2_ne hb with ⟨a, b, rfl, rfl⟩ | ⟨x, y, rfl, rfl⟩
  · obtain ⟨t, rfl⟩ := r1; obtain ⟨u, rfl⟩ := r2
    by_cases h : (small64 a || small64 b) = true
    · refine PySem.P.mul_int ⟨_, if_app h, Grow.same, _, rfl⟩ ?_
      rcases Bool.or_eq_true_iff.mp h with h | h
      · exact IntMulOk.of_left (small64_bits h)
      · exact IntMulOk.of_right (small64_bits h)
    · exact absurd (ifn_app h) hb
  · exact absurd rfl hb
theorem str_empty_append {x y : Str} (h : (x.length == 0) = true) : x ++ y = y := by
  have : x = Str.empty := by
    obtain ⟨c⟩ := x
    have : c.size = 0 := by simpa [Str.length] using h
    simp [Str.empty, Array.eq_empty_of_size_eq_zero this]
  rw [this]; exact Str.empty_append y
theorem str_append_empty {x y : Str} (h : (y.length == 0) = true) : x ++ y = x := by
  obtain ⟨c⟩ := y
  have hc : c.size = 0 := by simpa [Str.length] using h
  obtain ⟨b⟩ := x
  show Str.mk (b ++ c) = _
  rw [Array.eq_empty_of_size_eq_zero hc]; simp
theorem at_addStr {x y : Str} {t u : Tok} (K : Ok G C A P env s ρ st) : At G A env s ρ st (RV G) (binaryOp .Add (.str x t) (.str y u)) (if x.length + y.length ≤ sizeLine then ret1 (.str (x ++ y)) else botM) := by
  refine At.leaf (fun hb => ?_) K
  have hz : x.length + y.length ≤ sizeLine := by
    by_cases h : x.length + y.length ≤ sizeLine
    · exact h
    · exact absurd (ifn_app h) hb
  simp only [hz, if_true]
  refine PySem.P.add_str ?_
  split
  · rename_i h; rw [str_empty_append h]; exact ⟨_, rfl, Grow.same0, _, rfl⟩
  · split
    · rename_i h; rw [str_append_empty h]; exact ⟨_, rfl, Grow.same0, _, rfl⟩
    · exact ⟨by rw [Str.length_append]; exact hz, _, rfl, Grow.same, _, rfl⟩
theorem bin_add0 : BinOk G .Add pAdd0 := fun C A P env s ρ st d1 d2 v1 v2 K r1 r2 hb => by
  rcases op2_ne hb with ⟨a, b, rfl, rfl⟩ | ⟨x, y, rfl, rfl⟩
  · obtain ⟨t, rfl⟩ := r1; obtain ⟨u, rfl⟩ := r2
    exact At.leaf (m := pAdd0 (.int a) (.int b)) (fun hb => PySem.P.add_int ⟨_, rfl, Grow.same, _, rfl⟩) K hb
  · obtain ⟨t, rfl⟩ := r1; obtain ⟨u, rfl⟩ := r2
    exact at_addStr K hb
theorem se_neg {e : Expr} {pos : Pos} {m : Mn D} (h : SE G C e m) : SE G C (.UnaryOp .USub e pos) (bnd m pNeg) := .mk <| fun A P env s ρ st K => by
  show At G A env s ρ st (RV G) (eval e env >>= fun v => standAt pos >>= fun _ => holding [v] (unaryOp .USub v)) _
  refine At.bind K (h.run A P env s ρ st K) fun v s' ρ' d σ' K' x r => ?_
  refine At.stand (At.hold (At.leaf (fun hb => ?_) K'))
  cases d <;> first | exact absurd rfl hb | skip
  simp only [Rel] at r
  obtain ⟨t, rfl⟩ := r
  exact PySem.P.neg_int ⟨_, rfl, Grow.same, _, rfl⟩

noncomputable def pLt : D → D → Mn D := op2 (fun a b => ret1 (.bool (decide (a < b)))) fun x y => ret1 (.bool (decide (x.cps.toList < y.cps.toList)))
noncomputable def pGt : D → D → Mn D := op2 (fun a b => ret1 (.bool (decide (a > b)))) fun x y => ret1 (.bool (decide (y.cps.toList < x.cps.toList)))
noncomputable def pLe : D → D → Mn D := op2 (fun a b => ret1 (.bool (decide (a ≤ b)))) noS
/-- == of ints and of texts -/
noncomputable def pEq0 : D → D → Mn D := op2 (fun a b => ret1 (.bool (a == b))) fun x y => ret1 (.bool (x.cps.toList == y.cps.toList))
noncomputable def pNe0 : D → D → Mn D := op2 (fun a b => ret1 (.bool (a != b))) fun x y => ret1 (.bool (x.cps.toList != y.cps.toList))
theorem gt_str {x y : Str} {t u : Tok} {Q : Value → Shared → Prop} {E : Value → Shared → Prop} (h : Q (.bool (decide (y.cps.toList < x.cps.toList))) s) : wpAny G.M A (compareOp .Gt (.str x t) (.str y u)) Q E s :=
  compareOp_gives (op := .Gt) (typeIs_str s x t) (typeIs_str s y u) F.slot_str_gt F.entry_str_gt (F.args_str_gt_2 _ _) (gives_str_gt x y t u) (fun e => nomatch e) h
theorem cmp_lt : CmpOk G .Lt pLt := fun C A P env s ρ st d1 d2 v1 v2 K r1 r2 => by
  refine At.leaf (fun hb => ?_) K
  rcases op2_ne hb with ⟨a, b, rfl, rfl⟩ | ⟨x, y, rfl, rfl⟩ <;> obtain ⟨t, rfl⟩ := r1 <;> obtain ⟨u, rfl⟩ := r2
  · exact PySem.P.lt_int ⟨_, rfl, Grow.same0, rfl⟩
  · exact PySem.P.lt_str ⟨_, rfl, Grow.same0, rfl⟩
theorem cmp_gt : CmpOk G .Gt pGt := fun C A P env s ρ st d1 d2 v1 v2 K r1 r2 => by
  refine At.leaf (fun hb => ?_) K
  rcases op2_ne hb with ⟨a, b, rfl, rfl⟩ | ⟨x, y, rfl, rfl⟩ <;> obtain ⟨t, rfl⟩ := r1 <;> obtain ⟨u, rfl⟩ := r2
  · exact PySem.P.gt_int ⟨_, rfl, Grow.same0, rfl⟩
  · exact gt_str ⟨_, rfl, Grow.same0, rfl⟩
theorem cmp_le : CmpOk G .LtE pLe := fun C A P env s ρ st d1 d2 v1 v2 K r1 r2 => by
  refine At.leaf (fun hb => ?_) K
  rcases op2_ne hb with ⟨a, b, rfl, rfl⟩ | ⟨x, y, rfl, rfl⟩ <;> obtain ⟨t, rfl⟩ := r1 <;> obtain ⟨u, rfl⟩ := r2
  · exact PySem.P.le_int ⟨_, rfl, Grow.same0, rfl⟩
  · exact absurd rfl hb
theorem cmp_eq0 : CmpOk G .Eq pEq0 := fun C A P env s ρ st d1 d2 v1 v2 K r1 r2 => by
  refine At.leaf (fun hb => ?_) K
  rcases op2_ne hb with ⟨a, b, rfl, rfl⟩ | ⟨x, y, rfl, rfl⟩ <;> obtain ⟨t, rfl⟩ := r1 <;> obtain ⟨u, rfl⟩ := r2
  · exact PySem.P.eq_int ⟨_, rfl, Grow.same0, rfl⟩
  · exact PySem.P.eq_str ⟨_, rfl, Grow.same0, rfl⟩
theorem cmp_ne0 : CmpOk G .NotEq pNe0 := fun C A P env s ρ st d1 d2 v1 v2 K r1 r2 => by
  refine At.leaf (fun hb => ?_) K
  rcases op2_ne hb with ⟨a, b, rfl, rfl⟩ | ⟨x, y, rfl, rfl⟩ <;> obtain ⟨t, rfl⟩ := r1 <;> obtain ⟨u, rfl⟩ := r2
  · exact PySem.P.ne_int ⟨_, rfl, Grow.same0, rfl⟩
  · exact PySem.P.ne_str ⟨_, rfl, Grow.same0, rfl⟩
end
end Mine

end

/- part F13 -/
section
set_option Elab.async false
set_option linter.unusedVariables false
namespace Mine
open PySem PyProof.Rows

section
variable {G : Gd} {C : Cx} {A : Around} {P : List Addr} {env : Env} {s : Shared} {ρ : List Addr} {st : St}

/-! an item of a sequence -/
noncomputable def inLong (i : Int) : Bool := decide (-(2 ^ 63) ≤ i) && decide (i < 2 ^ 63)
theorem inLong_iff {i : Int} : inLong i = true ↔ -(2 ^ 63) ≤ i ∧ i < 2 ^ 63 := by simp [inLong]
noncomputable def optM {α : Type} : Option α → Mn α
  | some a => ret1 a
  | none => botM
noncomputable def pIdx : D → D → Mn D
  | .str x, .int i => if inLong i then optM (((seqIndex? i x.length).bind (x.cps[·]?)).map fun c => .str ⟨#[c]⟩) else botM
  | .tup ds, .int i => if inLong i then optM ((seqIndex? i ds.length).bind (ds[·]?)) else botM
  | .ref k, .int i => fun st => match st.sto[k]? with
    | some (.list ds) => if inLong i then optM ((seqIndex? i ds.length).bind (ds[·]?)) st else .bot
    | _ => .bot
  | .scr ns, .int i => if 0 ≤ i ∧ i < 2 ^ 63 then optM (ns[i.toNat]?.map D.int) else botM
  | _, _ => botM

theorem RelL.size {h : Heap} {ds : List D} {vs : Array Value} (r : RelL G h ρ ds vs.toList) : vs.size = ds.length := by have := r.all2.length; simpa using this
theorem IsInts.size {vs : Array Value} {ns : List Int} (r : IsInts vs.toList ns) : vs.size = ns.length := by have := All2.length r; simpa using this
theorem ite_bot {α : Type} {c : Bool} {f : Mn α} (h : (if c then f else botM) st ≠ .bot) : c = true := by
  cases c with
  | true => rfl
  | false => exact absurd rfl h
theorem itep_bot {α : Type} {c : Prop} [Decidable c] {f : Mn α} (h : (if c then f else botM) st ≠ .bot) : c := by
  by_cases z : c
  · exact z
  · exact absurd (ifn_app z) h
theorem optM_bot {α : Type} {o : Option α} (h : optM o st ≠ .bot) : ∃ a, o = some a := by
  cases o with
  | none => exact absurd rfl h
  | some a => exact ⟨a, rfl⟩

theorem getItem_list {l : Addr} {items : Array Value} {k : Int} {t : Tok} {j : Nat} {x : Value} {Q : Value → Shared → Prop} {E : Value → Shared → Prop} (hl : s.heap.IsList l items) (hi : inLong k = true) (hj : seqIndex? k items.size = some j) (hx : items[j]? = some x) (h : Q x s) :
    wpAny G.M A (getItem (.ref l) (.int k t)) Q E s := by
  have hi' := inLong_iff.mp hi
  by_cases h0 : 0 ≤ k
  · have : j = k.toNat := by
      unfold seqIndex? at hj
      simp only [show ¬ k < 0 by exact fun hzz => linI [_] [lt1 x0 (.n 0), le1 (.n 0) x0] (Eq.refl true) hzz h0, if_false] at hj
      split at hj
      · cases hj; rfl
      · cases hj
    subst this
    exact wpAny_getItem_list hl h0 hi'.2 hx h
  · have h1 : -(items.size : Int) ≤ k := by
      unfold seqIndex? at hj
      simp only [show k < 0 by exact iLt fun hzz => linI [_] [le1 (.n 0) x0, lt1 x0 (.n 0)] (Eq.refl true) hzz (Int.not_le.mp h0), if_true] at hj
      split at hj
      · rename_i z
        simp only [Bool.and_eq_true, decide_eq_true_eq] at z
        omega
      · cases hj
    rw [seqIndex_neg (by exact iLt fun hzz => linI [_] [le1 (.n 0) x0, lt1 x0 (.n 0)] (Eq.refl true) hzz (Int.not_le.mp h0)) h1] at hj
    cases hj
    exact wpAny_getItem_list_neg hl (by exact iLt fun hzz => linI [_] [le1 (.n 0) x0, lt1 x0 (.n 0)] (Eq.refl true) hzz (Int.not_le.mp h0)) h1 hi'.1 hx h

theorem at_idx {d1 d2 : D} {o i : Value} {value slice : Expr} (K : Ok G C A P env s ρ st) (r1 : Rel G s.heap ρ d1 o) (r2 : Rel G s.heap ρ d2 i) (hs : ∀ o i, subscripted slice false o i = operate [o, i] (getItem o i)) :
    At G A env s ρ st (RV G) (subscriptTail value slice o i) (pIdx d1 d2) := by
  refine At.leaf (fun hb => ?_) K
  cases d1 <;> cases d2 <;> first | exact absurd rfl hb | skip
  · -- a text
    simp only [Rel] at r1 r2
    obtain ⟨t, rfl⟩ := r1; obtain ⟨u, rfl⟩ := r2
    unfold pIdx at hb ⊢; dsimp only at hb ⊢
    have h1 := ite_bot hb
    rw [if_app h1] at hb ⊢
    obtain ⟨y, hy⟩ := optM_bot hb
    rw [hy]
    obtain ⟨c, hc, rfl⟩ := Option.map_eq_some_iff.mp hy
    have h1' := inLong_iff.mp h1
    exact tail_any (typeIs_str s _ t) F.slot_str_getitem.lookup (PySem.P.getItem_str (by simp; exact ⟨iLe fun hzz => linI [_] [lt1 x0 (.s (.n 0) (.n 9223372036854775808)), le1 (.s (.n 0) (.n 9223372036854775808)) x0] (Eq.refl true) hzz h1'.1, iLt fun hzz => linI [_] [le1 (.n 9223372036854775808) x0, lt1 x0 (.n 9223372036854775808)] (Eq.refl true) hzz h1'.2⟩) hc ⟨_, rfl, Grow.same, _, rfl⟩) (hs _ _)
  · -- a tuple
    simp only [Rel] at r1 r2
    obtain ⟨a, vs, rfl, hna, ⟨n, ho⟩, r⟩ := r1; obtain ⟨u, rfl⟩ := r2
    unfold pIdx at hb ⊢; dsimp only at hb ⊢
    have h1 := ite_bot hb
    rw [if_app h1] at hb ⊢
    obtain ⟨y, hy⟩ := optM_bot hb
    rw [hy]
    obtain ⟨j, hj, hd⟩ := Option.bind_eq_some_iff.mp hy
    have h1' := inLong_iff.mp h1
    have hlen := r.size
    obtain ⟨v, hv, rv⟩ := r.all2.get j y hd
    have ht : IsTup s.heap a vs := ⟨_, ho, rfl, n, rfl⟩
    exact tail_any ht.typeIs slot_tuple_getitem.lookup (getItem_tuple ht h1'.1 h1'.2 (hlen ▸ hj) (by simpa using hv) ⟨_, rfl, Grow.same0, rv⟩) (hs _ _)
  · -- a list
    rename_i k i'
    simp only [Rel] at r1 r2
    obtain ⟨a, rfl, e1⟩ := r1; obtain ⟨u, rfl⟩ := r2
    cases e : st.sto[k]? with
    | none => exact absurd (by unfold pIdx; simp only [e]) hb
    | some o =>
      cases o with
      | list ds =>
        unfold pIdx at hb ⊢; simp only [e] at hb ⊢
        have h1 : inLong i' = true := by
          cases z : inLong i' with
          | true => rfl
          | false => exact absurd (by simp [z]) hb
        rw [if_pos h1] at hb ⊢
        obtain ⟨y, hy⟩ := optM_bot hb
        rw [hy]
        obtain ⟨vs, hl, r⟩ := K.inv.sto k a _ e1 e
        obtain ⟨j, hj, hd⟩ := Option.bind_eq_some_iff.mp hy
        have hlen := r.size
        obtain ⟨v, hv, rv⟩ := r.all2.get j y hd
        exact tail_any hl.list.typeIs slot_list_getitem.lookup (getItem_list hl.list h1 (hlen ▸ hj) (by simpa using hv) ⟨_, rfl, Grow.same0, rv⟩) (hs _ _)
      | _ => exact absurd (by unfold pIdx; simp only [e]) hb
  · -- the script
    simp only [Rel] at r1 r2
    obtain ⟨a, vs, rfl, hl, hi⟩ := r1; obtain ⟨u, rfl⟩ := r2
    unfold pIdx at hb ⊢; dsimp only at hb ⊢
    have h1 := itep_bot hb
    rw [if_app h1] at hb ⊢
    obtain ⟨y, hy⟩ := optM_bot hb
    rw [hy]
    obtain ⟨c, hc, rfl⟩ := Option.map_eq_some_iff.mp hy
    obtain ⟨v, hv, t, rfl⟩ := hi.get _ _ hc
    have hl' := Grow.list K.inv.base hl
    exact tail_any hl'.typeIs slot_list_getitem.lookup (wpAny_getItem_list hl' h1.1 h1.2 (by simpa using hv) ⟨_, rfl, Grow.same0, _, rfl⟩) (hs _ _)

theorem se_sub {v sl : Expr} {pos : Pos} {m1 m2 : Mn D} (h1 : SE G C v m1) (h2 : SE G C sl m2) (hs : ∀ o i, subscripted sl false o i = operate [o, i] (getItem o i)) :
    SE G C (.Subscript v sl pos) (bnd m1 fun a => bnd m2 fun b => pIdx a b) := .mk <| fun A P env s ρ st K => by
  refine At.ofEq (t' := do let o ← eval v env; let i ← holding [o] (eval sl env); standAt pos; subscriptTail v sl o i) (by rw [eval_Subscript]; rfl) ?_
  refine At.bind K (h1.run A P env s ρ st K) fun v s' ρ' d σ' K' x r1 => ?_
  refine At.bind K' (h2.run A P env s' ρ' _ K').hold fun v2 s'' ρ'' d2 σ'' K'' x2 r2 => ?_
  exact At.stand (at_idx K'' (Rel.mono (x2.stb K'.inv .nil) _ _ r1) r2 hs)

/-! len -/
noncomputable def pLen : List D → Mn D
  | [.str x] => if x.length < 2 ^ 62 then ret1 (.int x.length) else botM
  | [.tup ds] => if ds.length < 2 ^ 62 then ret1 (.int ds.length) else botM
  | [.scr ns] => if ns.length < 2 ^ 62 then ret1 (.int ns.length) else botM
  | [.ref k] => fun st => match st.sto[k]? with
    | some (.list ds) => if ds.length < 2 ^ 62 then .ok (.int ds.length) st else .bot
    | _ => .bot
  | _ => botM
theorem bf_len : BF G "len" pLen := fun C A P env s ρ st ds vs hC K r => by
  refine At.leaf (fun hb => ?_) K
  match ds, r with
  | [], _ => exact absurd rfl hb
  | [d], r =>
    simp only [RelL] at r
    obtain ⟨v, _, rfl, r, rfl⟩ := r
    cases d <;> first | exact absurd rfl hb | skip
    · simp only [Rel] at r
      obtain ⟨t, rfl⟩ := r
      unfold pLen at hb ⊢; dsimp only at hb ⊢
      have h1 := itep_bot hb
      rw [if_app h1]
      exact PySem.P.len_str (by exact fun hzz => linI [_] [le1 (.n 9223372036854775808) x0, lt1 x0 (.n 4611686018427387904)] (Eq.refl true) hzz (c_lt h1)) ⟨_, rfl, Grow.same, _, rfl⟩
    · simp only [Rel] at r
      obtain ⟨a, vs, rfl, hna, ⟨n, ho⟩, r⟩ := r
      unfold pLen at hb ⊢; dsimp only at hb ⊢
      have h1 := itep_bot hb
      rw [if_app h1]
      have hlen := r.size
      exact len_tuple ⟨_, ho, rfl, n, rfl⟩ (by exact iLt fun hzz => linI [_, _] [le1 (.n 9223372036854775808) x0, lt1 x1 (.n 4611686018427387904), eq1 x0 x1] (Eq.refl true) hzz (c_lt h1) (c_eq hlen)) ⟨_, rfl, Grow.same, _, by rw [hlen]⟩
    · rename_i k
      simp only [Rel] at r
      obtain ⟨a, rfl, e1⟩ := r
      cases e : st.sto[k]? with
      | none => exact absurd (by unfold pLen; simp only [e]) hb
      | some o =>
        cases o with
        | list ds =>
          unfold pLen at hb ⊢; simp only [e] at hb ⊢
          have h1 : ds.length < 2 ^ 62 := by
            by_cases z : ds.length < 2 ^ 62
            · exact z
            · exact absurd (if_neg z) hb
          rw [if_pos h1]
          obtain ⟨vs, hl, r⟩ := K.inv.sto k a _ e1 e
          have hlen := r.size
          exact Calls.call_len_list hl.list (by exact iLt fun hzz => linI [_, _] [le1 (.n 9223372036854775808) x0, lt1 x1 (.n 4611686018427387904), eq1 x0 x1] (Eq.refl true) hzz (c_lt h1) (c_eq hlen)) ⟨_, rfl, Grow.same, _, by rw [hlen]⟩
        | _ => exact absurd (by unfold pLen; simp only [e]) hb
    · simp only [Rel] at r
      obtain ⟨a, vs, rfl, hl, hi⟩ := r
      unfold pLen at hb ⊢; dsimp only at hb ⊢
      have h1 := itep_bot hb
      rw [if_app h1]
      have hl' := Grow.list K.inv.base hl
      have hlen := IsInts.size hi
      exact Calls.call_len_list hl' (by exact iLt fun hzz => linI [_, _] [le1 (.n 9223372036854775808) x0, lt1 x1 (.n 4611686018427387904), eq1 x0 x1] (Eq.refl true) hzz (c_lt h1) (c_eq hlen)) ⟨_, rfl, Grow.same, _, by rw [hlen]⟩
  | a :: b :: l, _ => exact absurd (by cases a <;> rfl) hb
end
end Mine

end

/- part F14 -/
section
set_option Elab.async false
set_option linter.unusedVariables false
set_option maxRecDepth 4000
namespace Mine
open PySem PyProof.Rows

/-! isinstance of built-in types -/
noncomputable def tyD : D → Sto → Option String
  | .none, _ => some "NoneType"
  | .bool _, _ => some "bool"
  | .int _, _ => some "int"
  | .str _, _ => some "str"
  | .tup _, _ => some "tuple"
  | .scr _, _ => some "list"
  | .ref k, σ => match σ[k]? with
    | some (.list _) => some "list"
    | some (.dict _) => some "dict"
    | _ => none
  | .exc _, _ => none
noncomputable def subB (T' T : String) : Bool := T' == T || (T' == "bool" && T == "int")
noncomputable def pIsi (T : String) (d : D) : Mn D := fun st => match tyD d st.sto with
  | some T' => .ok (.bool (subB T' T)) st
  | none => .bot
structure TyF (T : String) : Prop where
  hty : typeOf (.type T) = pure (.type "type")
  sub : ∀ T', T' ∈ ["NoneType", "bool", "int", "str", "tuple", "list", "dict"] → isSubtype (.type T') (.type T) = pure (subB T' T)
theorem tyF_mk {T : String} (hty : typeOf (.type T) = pure (.type "type")) (h1 : isSubtype (.type "NoneType") (.type T) = pure (subB "NoneType" T)) (h2 : isSubtype (.type "bool") (.type T) = pure (subB "bool" T)) (h3 : isSubtype (.type "int") (.type T) = pure (subB "int" T))
    (h4 : isSubtype (.type "str") (.type T) = pure (subB "str" T)) (h5 : isSubtype (.type "tuple") (.type T) = pure (subB "tuple" T)) (h6 : isSubtype (.type "list") (.type T) = pure (subB "list" T)) (h7 : isSubtype (.type "dict") (.type T) = pure (subB "dict" T)) : TyF T :=
  ⟨hty, fun T' m => by
    simp only [List.mem_cons, List.not_mem_nil, or_false] at m
    rcases m with rfl | rfl | rfl | rfl | rfl | rfl | rfl <;> assumption⟩
theorem tyF_int : TyF "int" := tyF_mk (by kernel_rfl) (by rw [isSubtype_type]; kernel_rfl) (by rw [isSubtype_type]; kernel_rfl) (by rw [isSubtype_type]; kernel_rfl) (by rw [isSubtype_type]; kernel_rfl) (by rw [isSubtype_type]; kernel_rfl) (by rw [isSubtype_type]; kernel_rfl) (by rw [isSubtype_type]; kernel_rfl)
theorem tyF_bool : TyF "bool" := tyF_mk (by kernel_rfl) (by rw [isSubtype_type]; kernel_rfl) (by rw [isSubtype_type]; kernel_rfl) (by rw [isSubtype_type]; kernel_rfl) (by rw [isSubtype_type]; kernel_rfl) (by rw [isSubtype_type]; kernel_rfl) (by rw [isSubtype_type]; kernel_rfl) (by rw [isSubtype_type]; kernel_rfl)
theorem tyF_str : TyF "str" := tyF_mk (by kernel_rfl) (by rw [isSubtype_type]; kernel_rfl) (by rw [isSubtype_type]; kernel_rfl) (by rw [isSubtype_type]; kernel_rfl) (by rw [isSubtype_type]; kernel_rfl) (by rw [isSubtype_type]; kernel_rfl) (by rw [isSubtype_type]; kernel_rfl) (by rw [isSubtype_type]; kernel_rfl)
theorem tyF_tuple : TyF "tuple" := tyF_mk (by kernel_rfl) (by rw [isSubtype_type]; kernel_rfl) (by rw [isSubtype_type]; kernel_rfl) (by rw [isSubtype_type]; kernel_rfl) (by rw [isSubtype_type]; kernel_rfl) (by rw [isSubtype_type]; kernel_rfl) (by rw [isSubtype_type]; kernel_rfl) (by rw [isSubtype_type]; kernel_rfl)

section
variable {G : Gd} {C : Cx} {A : Around} {P : List Addr} {env : Env} {s : Shared} {ρ : List Addr} {st : St}

theorem isi_yes {x : Value} {Tx T : String} {Q : Value → Shared → Prop} {E : Value → Shared → Prop} (F : TyF T) (hx : s.TypeIs x Tx) (hm : Tx ∈ ["NoneType", "bool", "int", "str", "tuple", "list", "dict"]) (hb : subB Tx T = true) (h : Q (.bool true) s) :
    wpAny G.M A (call (.builtin "isinstance") [x, .type T]) Q E s :=
  call_isinstance (isinstance_true (Tx := Tx) F.hty (by rw [F.sub Tx hm, hb])) ⟨hx, h⟩
theorem subB_ne {T' T : String} (h : subB T' T = false) : (Value.type T' == Value.type T) = false := by
  cases e : (Value.type T' == Value.type T) with
  | false => rfl
  | true =>
    have := eq_of_beq e
    cases this
    simp [subB] at h

theorem at_isi {T : String} {d : D} {v : Value} (F : TyF T) (K : Ok G C A P env s ρ st) (r : Rel G s.heap ρ d v) : At G A env s ρ st (RV G) (call (.builtin "isinstance") [v, .type T]) (pIsi T d) := by
  refine At.leaf (fun hb => ?_) K
  cases hd : tyD d st.sto with
  | none => exact absurd (by simp only [pIsi, hd]) hb
  | some T' =>
    simp only [pIsi, hd]
    have hnn : ∀ (o : Obj) a, v = .ref a → s.heap.get? a = some o → o.cls = .type T' → (T' = "tuple" ∨ T' = "list" ∨ T' = "dict") → wpAny G.M A (call (.builtin "isinstance") [v, .type T]) (fun v s' => ∃ d, (Out.ok (D.bool (subB T' T)) st : Out D) = .ok d st ∧ (∃ h' tk, s' = { s with heap := h', toks := tk } ∧ Grow s.heap h') ∧ RV G s'.heap ρ d v) (fun _ _ => False) s := fun o a hv ho hc hT => by
      subst hv
      have hty : s.TypeIs (.ref a) T' := ⟨o, ho, hc⟩
      cases hs : subB T' T with
      | true => exact isi_yes F hty (by rcases hT with rfl | rfl | rfl <;> simp) hs ⟨_, rfl, Grow.same0, rfl⟩
      | false =>
        rcases hT with rfl | rfl | rfl
        · exact call_isinstance (isinstance_false_tuple (subB_ne hs) F.hty (by rw [F.sub _ (by simp), hs])) ⟨⟨o, ho, hc⟩, _, rfl, Grow.same, rfl⟩
        · exact call_isinstance (isinstance_false_list (subB_ne hs) F.hty (by rw [F.sub _ (by simp), hs])) ⟨⟨o, ho, hc⟩, _, rfl, Grow.same, rfl⟩
        · exact call_isinstance (isinstance_false_dict (subB_ne hs) F.hty (by rw [F.sub _ (by simp), hs])) ⟨⟨o, ho, hc⟩, _, rfl, Grow.same, rfl⟩
    cases d with
    | none =>
      cases hd
      cases (show v = .none from r)
      cases hs : subB "NoneType" T with
      | true => exact isi_yes F rfl (by simp) hs ⟨_, rfl, Grow.same0, rfl⟩
      | false => exact call_isinstance (isinstance_false_none (subB_ne hs) F.hty (by rw [F.sub _ (by simp), hs])) ⟨_, rfl, Grow.same, rfl⟩
    | bool b =>
      cases hd
      cases (show v = .bool b from r)
      cases hs : subB "bool" T with
      | true => exact isi_yes F rfl (by simp) hs ⟨_, rfl, Grow.same0, rfl⟩
      | false => exact call_isinstance (isinstance_false_bool (subB_ne hs) F.hty (by rw [F.sub _ (by simp), hs])) ⟨_, rfl, Grow.same, rfl⟩
    | int i =>
      cases hd
      obtain ⟨t, rfl⟩ := (show ∃ t, v = .int i t from r)
      cases hs : subB "int" T with
      | true => exact isi_yes F (typeIs_int s i t) (by simp) hs ⟨_, rfl, Grow.same0, rfl⟩
      | false => exact call_isinstance (isinstance_false_int (subB_ne hs) F.hty (by rw [F.sub _ (by simp), hs])) ⟨_, rfl, Grow.same, rfl⟩
    | str x =>
      cases hd
      obtain ⟨t, rfl⟩ := (show ∃ t, v = .str x t from r)
      cases hs : subB "str" T with
      | true => exact isi_yes F (typeIs_str s x t) (by simp) hs ⟨_, rfl, Grow.same0, rfl⟩
      | false => exact call_isinstance (isinstance_false_str (subB_ne hs) F.hty (by rw [F.sub _ (by simp), hs])) ⟨_, rfl, Grow.same, rfl⟩
    | tup ds =>
      cases hd
      simp only [Rel] at r
      obtain ⟨a, vs, rfl, hna, ⟨n, ho⟩, r⟩ := r
      exact hnn _ a rfl ho rfl (.inl rfl)
    | scr ns =>
      cases hd
      simp only [Rel] at r
      obtain ⟨a, vs, rfl, hl, hi⟩ := r
      obtain ⟨o, ho, hc, _⟩ := Grow.list K.inv.base hl
      exact hnn _ a rfl ho hc (.inr (.inl rfl))
    | ref k =>
      simp only [Rel] at r
      obtain ⟨a, rfl, e1⟩ := r
      cases e : st.sto[k]? with
      | none => unfold tyD at hd; simp only [e] at hd; cases hd
      | some o =>
        cases o with
        | list ds =>
          unfold tyD at hd; simp only [e] at hd; cases hd
          obtain ⟨vs, ⟨n, ho⟩, r⟩ := K.inv.sto k a _ e1 e
          exact hnn _ a rfl ho rfl (.inr (.inl rfl))
        | dict kvs =>
          unfold tyD at hd; simp only [e] at hd; cases hd
          obtain ⟨xs, ⟨o, es, ep, ho, hx, _⟩, _⟩ := K.inv.sto k a _ e1 e
          exact hnn _ a rfl ho hx.1 (.inr (.inr rfl))
        | _ => unfold tyD at hd; simp only [e] at hd; cases hd
    | exc c => cases hd

theorem se_isi {T : String} {Tn : Str} {e : Expr} {m : Mn D} {np tp pos : Pos} (F : TyF T) (hg : BuiIs G "isinstance" (.builtin "isinstance")) (hn : C.names.lookup ("isinstance" : Str) = some .globalImplicit)
    (hgT : BuiIs G Tn (.type T)) (hnT : C.names.lookup Tn = some .globalImplicit) (hdT : (Tn == ("__debug__" : Str)) = false) (he : SE G C e m) (hst : ∀ env, starEach [e, .Name Tn tp] env = [(false, eval e env), (false, eval (.Name Tn tp) env)]) :
    SE G C (.Call (.Name "isinstance" np) [e, .Name Tn tp] [] pos) (bnd m (pIsi T)) := .mk <| fun A P env s ρ st K hb => by
  show wpAny G.M A (eval (.Name "isinstance" np) env >>= fun fv => callWith pos fv [] (backTo pos (starEach [e, .Name Tn tp] env)) []) _ _ s
  refine wpAny_bind (name_bui K hg hn (by decide) ?_)
  rw [hst]
  refine Calls.callWith_builtin rfl (Calls.evalArgs_plain (Calls.spliced_cons (wpAny_mono (he.run A P env s ρ st K (bnd_ne_bot hb)) (fun v s' q => ?_) fun x s' q => ?_)))
  · refine OkE.elim q fun ρ' d σ' e' I' x' r => ?_
    have K' := K.step I' x'
    refine Calls.spliced_cons (name_bui K' hgT hnT hdT ?_)
    refine Calls.spliced_nil ?_
    have e2 : bnd m (pIsi T) st = pIsi T d ⟨st.loc, σ'⟩ := by simp only [bnd, e']
    rw [e2] at hb ⊢
    refine wpAny_mono (at_isi F K' r hb) (fun w s'' q => ?_) fun w s'' q => ?_
    · exact OkE.tr q x'
    · exact ExcE.tr q x'
  · exact ExcE.bnd q

/-! max and min of ints -/
noncomputable def intsOf : List D → Option (List Int)
  | [] => some []
  | .int i :: r => (intsOf r).map (i :: ·)
  | _ => none
end
end Mine

end

/- part F15 -/
section
set_option Elab.async false
set_option linter.unusedVariables false
namespace Mine
open PySem PyProof.Rows PySem.Builtin.Str

section
variable {G : Gd} {C : Cx} {A : Around} {P : List Addr} {env : Env} {s : Shared} {ρ : List Addr} {st : St}

/-! a new list, a new tuple -/
noncomputable def allocL (ds : List D) : Mn D := fun st => .ok (.ref st.sto.length) ⟨st.loc, st.sto ++ [.list ds]⟩
theorem inv_alloc_list (I : Inv G s ρ st.sto) {vs : Array Value} {n : Nat} {ds : List D} (r : RelL G s.heap ρ ds vs.toList) (tk : Nat) :
    OkE G s ρ st (RV G) (allocL ds st) (.ref s.heap.objs.size) { s with heap := s.heap.push (lstO vs n), toks := tk } := by
  obtain ⟨I', x'⟩ := I.alloc (o := lstO vs n) (p := .list ds) ⟨(by show Value.type "list" ≠ Value.type "tuple"; decide), fun c => (by intro z; cases z)⟩ rfl (fun S => ⟨vs, ⟨n, Heap.get?_push_size _ rfl⟩, RelL.mono S _ _ r⟩) tk
  refine ⟨_, .ref st.sto.length, _, rfl, I', x' [], ?_⟩
  show Rel _ _ _ _ _
  simp only [Rel]
  exact ⟨_, rfl, by rw [← I.len]; simp⟩
theorem at_newList {vs : List Value} {ds : List D} (K : Ok G C A P env s ρ st) (r : RelL G s.heap ρ ds vs) : At G A env s ρ st (RV G) (newList vs) (if ds.length ≤ sizeLine then allocL ds else botM) := fun hb => by
  have hz := itep_bot hb
  rw [if_app hz]
  exact wpAny_newList (inv_alloc_list (vs := vs.toArray) (n := 0) K.inv r s.toks) (by rw [r.all2.length]; exact hz)
theorem at_newTuple {vs : List Value} {ds : List D} (K : Ok G C A P env s ρ st) (r : RelL G s.heap ρ ds vs) : At G A env s ρ st (RV G) (newTuple vs) (if ds.length ≤ sizeLine then ret1 (.tup ds) else botM) := fun hb => by
  have hz := itep_bot hb
  rw [if_app hz]
  refine wpAny_newTuple ?_ (by rw [r.all2.length]; exact hz)
  have g := Grow.push s.heap (tupO vs.toArray 0)
  refine ⟨ρ, .tup ds, st.sto, rfl, K.inv.grow g size_push_le s.toks, g.ev size_push_le, ?_⟩
  show Rel _ _ _ _ _
  simp only [Rel]
  exact ⟨_, vs.toArray, rfl, K.inv.size_notin, ⟨0, Heap.get?_push_size _ rfl⟩, RelL.mono g.stb _ _ r⟩
noncomputable def listM (ms : Mn (List D)) : Mn D := bnd ms fun ds => if ds.length ≤ sizeLine then allocL ds else botM
noncomputable def tupM (ms : Mn (List D)) : Mn D := bnd ms fun ds => if ds.length ≤ sizeLine then ret1 (.tup ds) else botM
theorem se_list {es : List Expr} {pos : Pos} {ms : Mn (List D)} (h : SA G C es ms) : SE G C (.List es pos) (listM ms) := .mk <| fun A P env s ρ st K => by
  show At G A env s ρ st (RV G) (standAt pos >>= fun _ => spliced (backTo pos (starEach es env)) >>= fun vs => newList vs) _
  exact At.stand (At.bind K (h.run A P env s ρ st pos K) fun v s' ρ' d σ' K' x r => at_newList K' r)
theorem se_tuple {es : List Expr} {k : Nat} {pos : Pos} {ms : Mn (List D)} (h : SA G C es ms) : SE G C (.Tuple es k pos) (tupM ms) := .mk <| fun A P env s ρ st K => by
  show At G A env s ρ st (RV G) (standAt pos >>= fun _ => spliced (backTo pos (starEach es env)) >>= fun vs => newTuple vs) _
  exact At.stand (At.bind K (h.run A P env s ρ st pos K) fun v s' ρ' d σ' K' x r => at_newTuple K' r)

/-! sources by a call of a type -/
noncomputable def TSrc (G : Gd) (T : String) (tg : Expr → Prop) (F : List D → Mn Src) : Prop :=
  ∀ C A P env s ρ st ds vs, C.inh = false → Ok G C A P env s ρ st → RelL G s.heap ρ ds vs → F ds st ≠ .bot → wpAny G.M A (call (.type T) vs) (fun x s₁ => wpAny G.M A (pyIter x) (SrcE G s ρ st tg (F ds st)) (ExcE G env s ρ st (F ds st)) s₁) (ExcE G env s ρ st (F ds st)) s
theorem si_tcall {T : String} {f : Str} {tg : Expr → Prop} {F : List D → Mn Src} {e : Expr} {es : List Expr} {ms : Mn (List D)} {np pos : Pos} (hg : BuiIs G f (.type T)) (hn : C.names.lookup f = some .globalImplicit) (hd : (f == ("__debug__" : Str)) = false)
    (hC : C.inh = false) (hF : TSrc G T tg F) (hs : SA G C (e :: es) ms) (hst : ∀ env, starEach (e :: es) env = (false, eval e env) :: starEach es env) (hpl : ∀ env, (backTo pos (starEach es env)).any (·.1) = false) :
    SI G C (.Call (.Name f np) (e :: es) [] pos) tg (bnd ms F) := .mk <| fun A P env s ρ st K hb => by
  show wpAny G.M A (eval (.Name f np) env >>= fun fv => callWith pos fv [] (backTo pos (starEach (e :: es) env)) []) _ _ s
  refine wpAny_bind (name_bui K hg hn hd ?_)
  have hev : backTo pos (starEach (e :: es) env) = (false, eval e env) :: backTo pos (starEach es env) := by rw [hst]; rfl
  have h1 := hs.run A P env s ρ st pos K (bnd_ne_bot hb)
  rw [hev] at h1 ⊢
  refine PySem.callWith_type (by show (false || _) = false; rw [Bool.false_or]; exact hpl env) (Calls.evalArgs_plain (wpAny_mono h1 (fun vs s' q => ?_) fun x s' q => ?_))
  · refine OkE.elim q fun ρ' ds σ' e' I' x' r => ?_
    have K' := K.step I' x'
    have e2 : bnd ms F st = F ds ⟨st.loc, σ'⟩ := by simp only [bnd, e']
    rw [e2] at hb ⊢
    refine wpAny_mono (hF C A P env s' ρ' ⟨st.loc, σ'⟩ ds vs hC K' r hb) (fun w s'' q => wpAny_mono q (fun w s'' q => ?_) fun w s'' q => ?_) fun w s'' q => ?_
    · obtain ⟨ρ'', src, σ'', I, S, T, Md, e2, I'', x2, rfl, X, X', T0, hS⟩ := q
      exact ⟨ρ'', src, σ'', I, S, T, Md, e2, I'', x'.trans x2, rfl, X, X', T0, fun q m => Nat.le_trans x'.size (hS q m)⟩
    · exact ExcE.tr q x'
    · exact ExcE.tr q x'
  · exact ExcE.bnd q

/-! range -/
noncomputable def okR (n : Int) : Bool := decide (-(2 ^ 40) ≤ n) && decide (n < 2 ^ 40)
theorem okR_iff {n : Int} : okR n = true ↔ -(2 ^ 40) ≤ n ∧ n < 2 ^ 40 := by simp [okR]
noncomputable def iof : D → Option Int
  | .int n => some n
  | _ => none
theorem iof_some {d : D} {n : Int} (h : iof d = some n) : d = .int n := by
  cases d <;> first | cases h; rfl | cases h
noncomputable def pRangeI : List (Option Int) → Mn Src
  | [some n] => if okR n then ret1 ⟨rngL 0 1 n.toNat, fun _ => True⟩ else botM
  | [some a, some b] => if okR a && okR b then ret1 ⟨rngL a 1 (b - a).toNat, fun _ => True⟩ else botM
  | [some a, some b, some c] => if okR a && okR b && (decide (1 ≤ c) && decide (c < 1000)) then ret1 ⟨rngL a c (Builtin.Range.rangeSize a b c).toNat, fun _ => True⟩ else botM
  | _ => botM
noncomputable def pRange (ds : List D) : Mn Src := pRangeI (ds.map iof)
theorem pRange_ne {ds : List D} (hb : pRange ds st ≠ .bot) : (∃ n, ds = [.int n] ∧ okR n = true) ∨ (∃ a b, ds = [.int a, .int b] ∧ (okR a && okR b) = true) ∨ ∃ a b c, ds = [.int a, .int b, .int c] ∧ (okR a && okR b && (decide (1 ≤ c) && decide (c < 1000))) = true := by
  have hb : pRangeI (ds.map iof) st ≠ .bot := hb
  rcases ds with _ | ⟨d, _ | ⟨e, _ | ⟨f, _ | ⟨g, l⟩⟩⟩⟩
  · exact absurd rfl hb
  · rw [List.map_cons, List.map_nil] at hb
    cases h : iof d with
    | none => rw [h] at hb; exact absurd rfl hb
    | some n => rw [h] at hb; exact .inl ⟨n, by rw [iof_some h], ite_bot hb⟩
  · rw [List.map_cons, List.map_cons, List.map_nil] at hb
    cases h : iof d with
    | none => rw [h] at hb; exact absurd rfl hb
    | some n =>
      cases k : iof e with
      | none => rw [h, k] at hb; exact absurd rfl hb
      | some m => rw [h, k] at hb; exact .inr (.inl ⟨n, m, by rw [iof_some h, iof_some k], ite_bot hb⟩)
  · rw [List.map_cons, List.map_cons, List.map_cons, List.map_nil] at hb
    cases h : iof d with
    | none => rw [h] at hb; exact absurd rfl hb
    | some n =>
      cases k : iof e with
      | none => rw [h, k] at hb; exact absurd rfl hb
      | some m =>
        cases q : iof f with
        | none => rw [h, k, q] at hb; exact absurd rfl hb
        | some c => rw [h, k, q] at hb; exact .inr (.inr ⟨n, m, c, by rw [iof_some h, iof_some k, iof_some q], ite_bot hb⟩)
  · rw [List.map_cons, List.map_cons, List.map_cons, List.map_cons] at hb
    cases h : iof d with
    | none => rw [h] at hb; exact absurd rfl hb
    | some n =>
      cases k : iof e with
      | none => rw [h, k] at hb; exact absurd rfl hb
      | some m =>
        cases q : iof f <;> (rw [h, k, q] at hb; exact absurd rfl hb)
theorem size_nonneg {a b c : Int} (hc : 1 ≤ c) : 0 ≤ Builtin.Range.rangeSize a b c := by
  unfold Builtin.Range.rangeSize
  rw [if_pos (by exact iLt fun hzz => linI [_] [le1 x0 (.n 0), le1 (.n 1) x0] (Eq.refl true) hzz hc)]
  split
  · have : 0 ≤ (b - a - 1) / c := Int.ediv_nonneg (by omega) (by exact iLe fun hzz => linI [_] [lt1 x0 (.n 0), le1 (.n 1) x0] (Eq.refl true) hzz hc)
    exact iLe fun hzz => linI [_] [lt1 (.a x0 (.n 1)) (.n 0), le1 (.n 0) x0] (Eq.refl true) hzz this
  · exact iLe fun hzz => linI [] [lt1 (.n 0) (.n 0)] (Eq.refl true) hzz
theorem at_range {o : Obj} {a b c : Int} {t u v : Tok} {g : Sto → Prop} {m : Mn Src} (K : Ok G C A P env s ρ st) (hr : o = { cls := .type "range", data := .fields #[.int a t, .int b u, .int c v] }) (hsm : Builtin.Range.small a b c = true) (hc : 1 ≤ c) (tk : Nat)
    (hm : m st = .ok ⟨rngL a c (Builtin.Range.rangeSize a b c).toNat, fun _ => True⟩ st) :
    wpAny G.M A (pyIter (.ref s.heap.objs.size)) (SrcE G s ρ st (fun _ => True) (m st)) (ExcE G env s ρ st (m st)) { s with heap := s.heap.push o, toks := tk } := by
  subst hr
  have K' := K.grow (Grow.push s.heap { cls := .type "range", data := .fields #[.int a t, .int b u, .int c v] }) size_push_le tk
  refine wpAny_pyIter_range (IsRange.new ..) hsm ?_
  generalize hh : s.heap.push { cls := .type "range", data := .fields #[.int a t, .int b u, .int c v] } = h1 at K'
  have z1 : s.heap.objs.size ≤ h1.objs.size := by rw [← hh]; exact size_push_le
  have g1 : Grow s.heap h1 := by rw [← hh]; exact Grow.push _ _
  have gg := Grow.push h1 { cls := .type "range_iterator", data := .fields #[rawInt a, rawInt (Builtin.Range.rangeSize a b c), rawInt c] }
  refine ⟨ρ, _, st.sto, h1.objs.size, [h1.objs.size], TRng G h1.objs.size c, fun _ => TRng G h1.objs.size c, hm, K'.inv.grow gg size_push_le tk, (g1.ev z1).trans (gg.ev size_push_le), rfl, itx_rng, self_rng, ?_, fun q m => by rw [List.mem_singleton.mp m]; exact z1⟩
  refine ⟨itr_new K'.inv (by decide) 0, a, (Builtin.Range.rangeSize a b c).toNat, ?_, rfl⟩
  have e : (((Builtin.Range.rangeSize a b c).toNat : Nat) : Int) = Builtin.Range.rangeSize a b c := by have := size_nonneg (a := a) (b := b) hc; exact iEq (fun hzz => linI [_, _] [lt1 x1 x0, le1 x0 x1] (Eq.refl true) hzz (tn_lo _)) (fun hzz => linI [_, _] [lt1 x0 x1, eq1 x1 x0] (Eq.refl true) hzz (tn_eq (iLe fun hyy => linI [_] [lt1 x0 (.n 0), le1 (.n 0) x0] (Eq.refl true) hyy this)))
  rw [e]
  exact Heap.get?_push_size _ rfl
theorem range_small {a b c : Int} (h3 : -(2 ^ 40) ≤ a ∧ a < 2 ^ 40) (h4 : -(2 ^ 40) ≤ b ∧ b < 2 ^ 40) (h6 : 1 ≤ c) (h7 : c < 1000) : Builtin.Range.small a b c = true := by
  have hs0 := size_nonneg (a := a) (b := b) h6
  have hs1 : Builtin.Range.rangeSize a b c ≤ 2 ^ 42 := by
    unfold Builtin.Range.rangeSize
    rw [if_pos (by exact iLt fun hzz => linI [_] [le1 x0 (.n 0), le1 (.n 1) x0] (Eq.refl true) hzz h6)]
    split
    · have : (b - a - 1) / c ≤ b - a - 1 := Int.ediv_le_self _ (by omega)
      exact iLe fun hzz => linI [_, _, _] [lt1 (.n 4398046511104) (.a x0 (.n 1)), le1 (.s (.n 0) (.n 1099511627776)) x1, lt1 x2 (.n 1099511627776), le1 x0 (.s (.s x2 x1) (.n 1))] (Eq.refl true) hzz h3.1 h4.2 this
    · exact iLe fun hzz => linI [] [lt1 (.n 4398046511104) (.n 0)] (Eq.refl true) hzz
  unfold Builtin.Range.small
  simp only [Builtin.Range.rangeFitsLong, Bool.and_eq_true, Bool.or_eq_true, decide_eq_true_eq, beq_iff_eq, show c > 0 by exact iLt fun hzz => linI [_] [le1 x0 (.n 0), le1 (.n 1) x0] (Eq.refl true) hzz h6, if_true]
  have hmul : Builtin.Range.rangeSize a b c * c ≤ 2 ^ 42 * 1000 := by
    calc _ ≤ 2 ^ 42 * c := Int.mul_le_mul_of_nonneg_right hs1 (by exact iLe fun hzz => linI [_] [lt1 x0 (.n 0), le1 (.n 1) x0] (Eq.refl true) hzz h6)
      _ ≤ _ := Int.mul_le_mul_of_nonneg_left (by exact iLe fun hzz => linI [_] [lt1 (.n 1000) x0, lt1 x0 (.n 1000)] (Eq.refl true) hzz h7) (by exact iLe fun hzz => linI [_, _] [lt1 x0 (.n 0), le1 (.n 0) x1, le1 x1 x0] (Eq.refl true) hzz hs0 hs1)
  refine ⟨?_, ?_⟩ <;> omega
theorem range_one {a b : Int} : (Builtin.Range.rangeSize a b 1).toNat = (b - a).toNat := by
  rw [rangeSize_one]; split <;> omega
theorem ts_range : TSrc G "range" (fun _ => True) pRange := fun C A P env s ρ st ds vs hC K r hb => by
  rcases pRange_ne hb with ⟨n, rfl, h1⟩ | ⟨a, b, rfl, h1⟩ | ⟨a, b, c, rfl, h1⟩
  · obtain ⟨v, _, rfl, ⟨t, rfl⟩, rfl⟩ := r
    have h1' := okR_iff.mp h1
    refine call_range_1 (at_range (g := fun _ => True) K rfl (range_small ⟨by decide, by decide⟩ h1' (Int.le_refl 1) (by decide)) (Int.le_refl 1) _ ?_)
    show (if okR n then ret1 _ else botM : Mn Src) st = _
    rw [if_app h1, range_one, Int.sub_zero]; rfl
  · obtain ⟨v1, _, rfl, ⟨t, rfl⟩, v2, _, rfl, ⟨u, rfl⟩, rfl⟩ := r
    have h2 := Bool.and_eq_true_iff.mp h1
    refine call_range_2 (at_range (g := fun _ => True) K rfl (range_small (okR_iff.mp h2.1) (okR_iff.mp h2.2) (Int.le_refl 1) (by decide)) (Int.le_refl 1) _ ?_)
    show (if okR a && okR b then ret1 _ else botM : Mn Src) st = _
    rw [if_app h1, range_one]; rfl
  · obtain ⟨v1, _, rfl, ⟨t, rfl⟩, v2, _, rfl, ⟨u, rfl⟩, v3, _, rfl, ⟨v, rfl⟩, rfl⟩ := r
    have h2 := Bool.and_eq_true_iff.mp h1
    have h2' := Bool.and_eq_true_iff.mp h2.1
    have h5 := Bool.and_eq_true_iff.mp h2.2
    have h6 := of_decide_eq_true h5.1
    have h7 := of_decide_eq_true h5.2
    refine call_range_3 (by exact fun hzz => linI [_] [eq1 x0 (.n 0), le1 (.n 1) x0] (Eq.refl true) hzz h6) (at_range (g := fun _ => True) K rfl (range_small (okR_iff.mp h2'.1) (okR_iff.mp h2'.2) h6 h7) h6 _ ?_) (.inl (PyProof.noPylong_small (by omega)))
    show (if okR a && okR b && (decide (1 ≤ c) && decide (c < 1000)) then ret1 _ else botM : Mn Src) st = _
    rw [if_app h1]; rfl

/-! methods of texts -/
/-- where a method of a text is found -/
noncomputable def SMg (name : Str) (id : String) : Prop := Slot "str" name id ∧ typeOf (.builtin id) = pure (.type "method_descriptor")
theorem smg_of {name : Str} {id : String} (slot : Slot "str" name id) (ty : typeOf (.builtin id) = pure (.type "method_descriptor")) : SMg name id := ⟨slot, ty⟩
/-- what a method of a text does -/
noncomputable def SM (G : Gd) (name : Str) (id : String) (F : Str → List D → Mn D) : Prop :=
  SMg name id ∧
  ∀ C A P env s ρ st x t ds vs, Ok G C A P env s ρ st → RelL G s.heap ρ ds vs → At G A env s ρ st (RV G) (call (.builtin id) (.str x t :: vs)) (F x ds)
noncomputable def strM (F : Str → Mn D) : D → Mn D
  | .str x => F x
  | _ => botM
theorem se_smeth {name : Str} {id : String} {Fm : Str → List D → Mn D} {o e : Expr} {es : List Expr} {mo : Mn D} {ms : Mn (List D)} {apos pos : Pos} (hM : SM G name id Fm) (ho : SE G C o mo) (hs : SA G C (e :: es) ms)
    (hbase : ∀ env, attributeBase o name env (eval o env) = eval o env) (hst : ∀ env, starEach (e :: es) env = (false, eval e env) :: starEach es env) (hpl : ∀ env, (backTo pos (starEach es env)).any (·.1) = false)
    (hfew : ∀ env, methodCallForm ((e :: es).length + ([] : List Keyword).length) (backTo pos (starEach (e :: es) env)) (backToKw pos (keywordEach [] env)) = true) (hline : (apos.endLine == pos.line) = true) :
    SE G C (.Call (.Attribute o name apos) (e :: es) [] pos) (bnd mo (strM fun x => bnd ms (Fm x))) := .mk <| fun A P env s ρ st K hb => by
  refine wpAny_Call_method_lateS (hbase env) (hfew env) hline (wpAny_mono (ho.run A P env s ρ st K (bnd_ne_bot hb)) (fun ov s' q => ?_) fun x s' q => ?_)
  · refine OkE.elim q fun ρ' d σ' e' I' x' r => ?_
    have K' := K.step I' x'
    have e2 : bnd mo (strM fun x => bnd ms (Fm x)) st = strM (fun x => bnd ms (Fm x)) d ⟨st.loc, σ'⟩ := by simp only [bnd, e']
    rw [e2] at hb ⊢
    cases d with
    | str x =>
      simp only [Rel] at r
      obtain ⟨t, rfl⟩ := r
      simp only [strM] at hb ⊢
      refine ⟨"str", id, F.plainAttrs_str, hM.1.1, hM.1.2, typeIs_str _ _ _, (fun _ e => nomatch e), ?_⟩
      have hev : backTo pos (starEach (e :: es) env) = (false, eval e env) :: backTo pos (starEach es env) := by rw [hst]; rfl
      have h1 := hs.run A P env s' ρ' ⟨st.loc, σ'⟩ pos K' (bnd_ne_bot hb)
      rw [hev] at h1 ⊢
      refine Calls.callWith_builtin (by show (false || _) = false; rw [Bool.false_or]; exact hpl env) (Calls.evalArgs_plain (wpAny_mono h1 (fun vs s'' q => ?_) fun x s'' q => ?_))
      · refine OkE.elim q fun ρ'' ds σ'' e3 I'' x'' r => ?_
        have K'' := K'.step I'' x''
        have e4 : bnd ms (Fm x) ⟨st.loc, σ'⟩ = Fm x ds ⟨st.loc, σ''⟩ := by simp only [bnd, e3]
        rw [e4] at hb ⊢
        refine wpAny_mono (hM.2 C A P env s'' ρ'' ⟨st.loc, σ''⟩ x t ds vs K'' r hb) (fun w s3 q => ?_) fun w s3 q => ?_
        · exact OkE.tr q (x'.trans x'')
        · exact ExcE.tr q (x'.trans x'')
      · exact ExcE.tr (ExcE.bnd q) x'
    | _ => exact absurd rfl hb
  · exact ExcE.bnd q

noncomputable def pSplit (x : Str) : List D → Mn D
  | [.str y] => if (y.length == 0) = false ∧ x.length ≤ sizeLine ∧ (partsBetween x (occurrences x y 0 x.length (x.length + 1)) y.length).length ≤ sizeLine then allocL ((Txt.split x y).map D.str) else botM
  | _ => botM
theorem relL_strs {h : Heap} : ∀ (n : Nat) (xs : List Str), RelL G h ρ (xs.map D.str) (strsFrom n xs)
  | _, [] => by simp [RelL, strsFrom]
  | n, x :: r => by
    simp only [List.map_cons, RelL, strsFrom]
    exact ⟨_, _, rfl, ⟨_, rfl⟩, relL_strs (n + 1) r⟩
theorem sm_split : SM G "split" "str.split" pSplit := ⟨by with_reducible exact smg_of F.slot_str_split F.type_str_split, fun C A P env s ρ st x t ds vs K r hb => by
  match ds, r with
  | [], _ => exact absurd rfl hb
  | [d], r =>
    simp only [RelL] at r
    obtain ⟨v, _, rfl, r, rfl⟩ := r
    cases d <;> first | exact absurd rfl hb | skip
    rename_i y
    simp only [Rel] at r
    obtain ⟨u, rfl⟩ := r
    unfold pSplit at hb ⊢; dsimp only at hb ⊢
    obtain ⟨hy, hx, hn⟩ := itep_bot hb
    rw [if_app ⟨hy, hx, hn⟩]
    have one : Txt.split x y = [x] → wpAny G.M A (call (.builtin "str.split") [.str x t, .str y u]) (OkE G s ρ st (RV G) (allocL ((Txt.split x y).map D.str) st)) (ExcE G env s ρ st (allocL ((Txt.split x y).map D.str) st)) s →
        wpAny G.M A (call (.builtin "str.split") [.str x t, .str y u]) (OkE G s ρ st (RV G) (allocL ((Txt.split x y).map D.str) st)) (ExcE G env s ρ st (allocL ((Txt.split x y).map D.str) st)) s := fun _ h => h
    have itself : Txt.split x y = [x] → (OkE G s ρ st (RV G) (allocL ((Txt.split x y).map D.str) st)) (.ref s.heap.objs.size) { s with heap := s.heap.push { cls := .type "list", data := .seq [Value.str x t].toArray } } := fun e => by
      rw [e]
      exact inv_alloc_list (vs := [Value.str x t].toArray) (n := 0) K.inv (ds := [.str x]) (by simp only [RelL]; exact ⟨_, _, rfl, ⟨_, rfl⟩, rfl⟩) s.toks
    cases h1 : (decide (x.length < y.length) || decide (strKind x < strKind y))
    · cases hf : (occurrences x y 0 x.length (x.length + 1)).isEmpty
      · refine call_meets F.slot_str_split (typeIs_str _ _ _) F.entry_str_split (F.args_str_split_2 _ _) (meets_str_split_sep x y t u h1 hy hf hx hn) ?_
        have e : Txt.split x y = partsBetween x (occurrences x y 0 x.length (x.length + 1)) y.length := (if_neg (ne_true_of_eq_false h1)).trans (if_neg (ne_true_of_eq_false hf))
        rw [e]
        exact inv_alloc_list (vs := (strsFrom s.toks (partsBetween x (occurrences x y 0 x.length (x.length + 1)) y.length)).toArray) (n := 0) K.inv (relL_strs _ _) _
      · exact call_meets F.slot_str_split (typeIs_str _ _ _) F.entry_str_split (F.args_str_split_2 _ _) (meets_str_split_not_found x y t u h1 hy hf) (itself ((if_neg (ne_true_of_eq_false h1)).trans (if_pos hf)))
    · exact call_meets F.slot_str_split (typeIs_str _ _ _) F.entry_str_split (F.args_str_split_2 _ _) (meets_str_split_cannot_occur x y t u h1) (itself (if_pos h1))
  | a :: b :: l, _ => exact absurd (by cases a <;> rfl) hb⟩

noncomputable def strsOf : List D → Option (List Str)
  | [] => some []
  | .str x :: r => (strsOf r).map (x :: ·)
  | _ => none
theorem strsOf_items {h : Heap} : ∀ {ds : List D} {vs : List Value} {xs : List Str}, RelL G h ρ ds vs → strsOf ds = some xs → ∃ l : List (Str × Tok), vs = strValues l ∧ l.map (·.1) = xs
  | [], vs, ns, r, e => by
    simp only [RelL] at r; subst r
    simp only [strsOf] at e; cases e
    exact ⟨[], rfl, rfl⟩
  | d :: ds, vs, ns, r, e => by
    simp only [RelL] at r
    obtain ⟨v, vr, rfl, r1, r2⟩ := r
    cases d with
    | str i =>
      simp only [strsOf] at e
      obtain ⟨ns', e', rfl⟩ := Option.map_eq_some_iff.mp e
      obtain ⟨xs, rfl, rfl⟩ := strsOf_items r2 e'
      simp only [Rel] at r1
      obtain ⟨t, rfl⟩ := r1
      exact ⟨(i, t) :: xs, rfl, rfl⟩
    | _ => simp only [strsOf] at e; cases e
noncomputable def pJoin (x : Str) : List D → Mn D
  | [.ref k] => fun st => match st.sto[k]? with
    | some (.list ds) => match strsOf ds with
      | some xs => if JoinOk x xs = true then .ok (.str (Str.join x xs)) st else .bot
      | none => .bot
    | _ => .bot
  | _ => botM
theorem sm_join : SM G "join" "str.join" pJoin := ⟨by with_reducible exact smg_of F.slot_str_join F.type_str_join, fun C A P env s ρ st x t ds vs K r => by
  refine At.leaf (fun hb => ?_) K
  match ds, r with
  | [], _ => exact absurd rfl hb
  | [d], r =>
    simp only [RelL] at r
    obtain ⟨v, _, rfl, r, rfl⟩ := r
    cases d <;> first | exact absurd rfl hb | skip
    rename_i k
    simp only [Rel] at r
    obtain ⟨a, rfl, e1⟩ := r
    cases e : st.sto[k]? with
    | none => exact absurd (by unfold pJoin; simp only [e]) hb
    | some o =>
      cases o with
      | list ds =>
        unfold pJoin at hb ⊢; simp only [e] at hb ⊢
        cases e2 : strsOf ds with
        | none => exact absurd (by simp only [e2]) hb
        | some xs =>
          simp only [e2] at hb ⊢
          have h1 : JoinOk x xs = true := by
            cases z : JoinOk x xs with
            | true => rfl
            | false => exact absurd (by simp [z]) hb
          simp only [h1, if_true]
          obtain ⟨vs, hl, r⟩ := K.inv.sto k a _ e1 e
          obtain ⟨l, hvs, rfl⟩ := strsOf_items r e2
          refine SC.join (l := l) (by rw [← hvs]; exact hl.list) rfl h1 fun t' k => ⟨_, rfl, Grow.same, ?_⟩
          show Rel _ _ _ _ _
          simp only [Rel]
          exact ⟨t', by rw [← StrLaws.glued_eq_join]; rfl⟩
      | _ => exact absurd (by unfold pJoin; simp only [e]) hb
  | a :: b :: l, _ => exact absurd (by cases a <;> rfl) hb⟩
noncomputable def pEndswith (x : Str) : List D → Mn D
  | [.str y] => ret1 (.bool (Txt.endswith x y))
  | _ => botM
noncomputable def pRstrip (x : Str) : List D → Mn D
  | [.str y] => if x.length ≤ sizeLine then ret1 (.str (Txt.rstripChars x y)) else botM
  | _ => botM
theorem sm_endswith : SM G "endswith" "str.endswith" pEndswith := ⟨by with_reducible exact smg_of F.slot_str_endswith F.type_str_endswith, fun C A P env s ρ st x t ds vs K r => by
  refine At.leaf (fun hb => ?_) K
  match ds, r with
  | [], _ => exact absurd rfl hb
  | [d], r =>
    simp only [RelL] at r
    obtain ⟨v, _, rfl, r, rfl⟩ := r
    cases d <;> first | exact absurd rfl hb | skip
    simp only [Rel] at r
    obtain ⟨u, rfl⟩ := r
    exact SC.endswith ⟨_, rfl, Grow.same0, rfl⟩
  | a :: b :: l, _ => exact absurd (by cases a <;> rfl) hb⟩
theorem sm_rstrip : SM G "rstrip" "str.rstrip" pRstrip := ⟨by with_reducible exact smg_of F.slot_str_rstrip F.type_str_rstrip, fun C A P env s ρ st x t ds vs K r => by
  refine At.leaf (fun hb => ?_) K
  match ds, r with
  | [], _ => exact absurd rfl hb
  | [d], r =>
    simp only [RelL] at r
    obtain ⟨v, _, rfl, r, rfl⟩ := r
    cases d <;> first | exact absurd rfl hb | skip
    simp only [Rel] at r
    obtain ⟨u, rfl⟩ := r
    unfold pRstrip at hb ⊢; dsimp only at hb ⊢
    have h1 := itep_bot hb
    rw [if_app h1]
    exact SC.rstripChars (fun t' k => ⟨_, rfl, Grow.same, _, rfl⟩) h1
  | a :: b :: l, _ => exact absurd (by cases a <;> rfl) hb⟩
end
end Mine

end

/- part F16 -/
section
set_option Elab.async false
set_option linter.unusedVariables false
namespace Mine
open PySem PyProof.Rows

section
variable {G : Gd} {C : Cx} {A : Around} {P : List Addr} {env : Env} {s : Shared} {ρ : List Addr} {σ : Sto} {st : St}

/-! zip of two lists -/
noncomputable def zipped (ds1 ds2 : List D) : List D := (ds1.zip ds2).map fun p => D.tup [p.1, p.2]
structure ZS (G : Gd) (z TI TO i1 i2 : Addr) (k1 k2 kp : Nat) (ds1 ds2 : List D) (f0 : Value) (rem : List D) (h : Heap) (ρ : List Addr) (σ : Sto) : Prop where
  iz : Itr G h ρ z
  j1 : Itr G h ρ i1
  j2 : Itr G h ρ i2
  s1 : σ[k1]? = some (.list ds1)
  s2 : σ[k2]? = some (.list ds2)
  sp : σ[kp]? = some .priv
  rp : ρ[kp]? = some TO
  ti : TI ∉ ρ
  n12 : i1 ≠ i2
  zip : IsZip h z TI TO f0
  pair : IsPair h TI (.ref i1) (.ref i2)
  ex : ∃ l1 l2 i, ρ[k1]? = some l1 ∧ ρ[k2]? = some l2 ∧ h.IsListIter i1 l1 i ∧ h.IsListIter i2 l2 i ∧ rem = (zipped ds1 ds2).drop i
theorem ZS.apart {z TI TO i1 i2 : Addr} {k1 k2 kp : Nat} {ds1 ds2 rem : List D} {f0 : Value} (Z : ZS G z TI TO i1 i2 k1 k2 kp ds1 ds2 f0 rem s.heap ρ σ) (I : Inv G s ρ σ) {l1 l2 : Addr} {i : Nat} (e1 : ρ[k1]? = some l1) (e2 : ρ[k2]? = some l2)
    (h1 : s.heap.IsListIter i1 l1 i) (h2 : s.heap.IsListIter i2 l2 i) : ZipApart z TI TO i1 i2 l1 l2 := by
  obtain ⟨o1, ho1, hc1, _⟩ := h1
  obtain ⟨o2, ho2, hc2, _⟩ := h2
  have hz : s.heap.get? z = some _ := Z.zip
  have hp : s.heap.get? TI = some _ := Z.pair
  have inr : ∀ {a b : Addr}, a ∈ ρ → b ∉ ρ → a ≠ b := fun m n e => n (e ▸ m)
  have mTO := List.mem_of_getElem? Z.rp
  have m1 := List.mem_of_getElem? e1
  have m2 := List.mem_of_getElem? e2
  refine ⟨fun e => ?_, inr mTO Z.iz.2.1, fun e => ?_, fun e => ?_, fun e => Z.ti (e ▸ mTO), fun e => ?_, fun e => ?_, inr mTO Z.j1.2.1, inr mTO Z.j2.2.1, Z.n12, inr m1 Z.iz.2.1, fun e => ?_, inr m1 Z.j1.2.1, inr m1 Z.j2.2.1, inr m2 Z.iz.2.1, fun e => ?_, inr m2 Z.j1.2.1, inr m2 Z.j2.2.1⟩
  · rw [e, hz] at hp; simp at hp
  · rw [e, hz] at ho1; cases ho1; simp at hc1
  · rw [e, hz] at ho2; cases ho2; simp at hc2
  · rw [e, ho1] at hp; cases hp; simp at hc1
  · rw [e, ho2] at hp; cases hp; simp at hc2
  · subst e
    have := nodup_getElem_inj I.nodup e1 Z.rp
    subst this
    have := Z.s1; rw [Z.sp] at this; cases this
  · subst e
    have := nodup_getElem_inj I.nodup e2 Z.rp
    subst this
    have := Z.s2; rw [Z.sp] at this; cases this

noncomputable def isTupleT (e : Expr) : Prop := ∃ elts k pos, e = .Tuple elts k pos
end
end Mine

end

/- part F17 -/
section
set_option Elab.async false
set_option linter.unusedVariables false
namespace Mine
open PySem PySem.W PyProof.Rows

/-- what the law's call finds -/
structure Lay (G : Gd) (K : Frag) : Prop where
  kin : K.In G.h0
  g : ∃ mg, G.h0.Ns mainGlobals mg
  b : ∃ mb, G.h0.Ns builtinsNs mb ∧ ∀ x : Str, x ≠ "__name__" → mb x = bootBuiltins x
  lim : G.h0.NoLimit

section
variable {G : Gd} {K : Frag} {C : Cx}
theorem Lay.glob (L : Lay G K) {x : Str} {v : Value} (e : nsIn K mainGlobals x = some (some v)) : GlobIs G x v := by
  obtain ⟨mg, n⟩ := L.g
  exact ⟨mg, n, mg_of L.kin n e⟩
theorem Lay.bui (L : Lay G K) {x : Str} {v : Value} (e : nsIn K mainGlobals x = some none) (e2 : bootBuiltins x = some v) (hn : (x == ("__name__" : Str)) = false) : BuiIs G x v := by
  obtain ⟨mg, n⟩ := L.g
  obtain ⟨mb, n', h⟩ := L.b
  refine ⟨mg, mb, n, mg_none_of L.kin n e, n', ?_⟩
  rw [h x (fun z => by rw [z] at hn; simp at hn)]
  exact e2

noncomputable def intB (K : Frag) (x : Str) (i : Int) : Bool := match nsIn K mainGlobals x with
  | some (some (.int j _)) => j == i
  | _ => false
theorem Lay.globInt (L : Lay G K) {x : Str} {i : Int} (e : intB K x i = true) : ∃ t, GlobIs G x (.int i t) := by
  unfold intB at e
  split at e
  · rename_i j t h
    cases (beq_iff_eq.mp e)
    exact ⟨t, L.glob h⟩
  · cases e
theorem se_globI {x : Str} {i : Int} {pos : Pos} (hg : ∃ t, GlobIs G x (.int i t)) (hn : C.names.lookup x = some .globalImplicit) (hd : (x == ("__debug__" : Str)) = false) : SE G C (.Name x pos) (ret1 (.int i)) :=
  let ⟨_, h⟩ := hg; se_globInt h hn hd

/-- the def at a, as data -/
noncomputable def fdAt (K : Frag) (a : Addr) : FuncData := match K.lookup a with
  | some o => match o.data with
    | .func fd => fd
    | _ => default
  | none => default
noncomputable def codeB (K : Frag) (cd : Value) (q : Str) : Bool := match cd with
  | .ref c => match K.lookup c with
    | some o => match o.data with
      | .fields vs => match (vs[1]? : Option Value) with
        | some (.str q' _) => q' == q
        | _ => false
      | _ => false
    | none => false
  | _ => false
noncomputable def isFuncB (K : Frag) (a : Addr) : Bool := match K.lookup a with
  | some o => match o.data with
    | .func _ => true
    | _ => false
  | none => false
noncomputable def parB (names : List (Str × NameKind)) (xs : List Str) : Bool := xs.all fun x => match names.lookup x with
  | some .local => true
  | some .cell => true
  | _ => false
noncomputable def nofreeB (names : List (Str × NameKind)) : Bool := names.all fun p => p.2 != .free

theorem obj_of_isFunc {a : Addr} (h : isFuncB K a = true) : ∃ o, K.lookup a = some o ∧ o.data = .func (fdAt K a) := by
  unfold isFuncB at h
  split at h
  · rename_i o ho
    split at h
    · rename_i fd hd
      refine ⟨o, ho, ?_⟩
      unfold fdAt
      simp only [ho, hd]
    · cases h
  · cases h
theorem code_of {cd : Value} {q : Str} (L : Lay G K) (h : codeB K cd q = true) : G.h0.CodeRec cd q := by
  unfold codeB at h
  split at h
  · rename_i c
    split at h
    · rename_i o ho
      split at h
      · rename_i vs hd
        split at h
        · rename_i q' t e
          cases (beq_iff_eq.mp h)
          exact ⟨c, o, vs, t, rfl, L.kin _ _ ho, hd, e⟩
        · cases h
      · cases h
    · cases h
  · cases h

theorem len_succ {l : List Value} {n : Nat} (h : l.length = n + 1) : ∃ a r, l = a :: r ∧ r.length = n := by
  cases l with
  | nil => cases h
  | cons a r => exact ⟨a, r, rfl, Nat.succ.inj h⟩
theorem bind1 {fd : FuncData} {x : Str} (h : ∀ a, bindArgs fd ⟨[a], []⟩ = pure [(x, a)]) : ∀ vs : List Value, vs.length = [x].length → bindArgs fd ⟨vs, []⟩ = pure ([x].zip vs) := fun vs hl => by
  obtain ⟨a, r1, rfl, k1⟩ := len_succ hl
  rw [List.eq_nil_of_length_eq_zero (l := r1) k1]
  exact h a
theorem bind2 {fd : FuncData} {x y : Str} (h : ∀ a b, bindArgs fd ⟨[a, b], []⟩ = pure [(x, a), (y, b)]) : ∀ vs : List Value, vs.length = [x, y].length → bindArgs fd ⟨vs, []⟩ = pure ([x, y].zip vs) := fun vs hl => by
  obtain ⟨a, r1, rfl, k1⟩ := len_succ hl
  obtain ⟨b, r2, rfl, k2⟩ := len_succ k1
  rw [List.eq_nil_of_length_eq_zero (l := r2) k2]
  exact h a b
theorem bind3 {fd : FuncData} {x y z : Str} (h : ∀ a b c, bindArgs fd ⟨[a, b, c], []⟩ = pure [(x, a), (y, b), (z, c)]) : ∀ vs : List Value, vs.length = [x, y, z].length → bindArgs fd ⟨vs, []⟩ = pure ([x, y, z].zip vs) := fun vs hl => by
  obtain ⟨a, r1, rfl, k1⟩ := len_succ hl
  obtain ⟨b, r2, rfl, k2⟩ := len_succ k1
  obtain ⟨c, r3, rfl, k3⟩ := len_succ k2
  rw [List.eq_nil_of_length_eq_zero (l := r3) k3]
  exact h a b c
theorem bind4 {fd : FuncData} {x y z u : Str} (h : ∀ a b c d, bindArgs fd ⟨[a, b, c, d], []⟩ = pure [(x, a), (y, b), (z, c), (u, d)]) : ∀ vs : List Value, vs.length = [x, y, z, u].length → bindArgs fd ⟨vs, []⟩ = pure ([x, y, z, u].zip vs) := fun vs hl => by
  obtain ⟨a, r1, rfl, k1⟩ := len_succ hl
  obtain ⟨b, r2, rfl, k2⟩ := len_succ k1
  obtain ⟨c, r3, rfl, k3⟩ := len_succ k2
  obtain ⟨d, r4, rfl, k4⟩ := len_succ k3
  rw [List.eq_nil_of_length_eq_zero (l := r4) k4]
  exact h a b c d
theorem bind6 {fd : FuncData} {x y z u v r : Str} (h : ∀ a b c d e f, bindArgs fd ⟨[a, b, c, d, e, f], []⟩ = pure [(x, a), (y, b), (z, c), (u, d), (v, e), (r, f)]) : ∀ vs : List Value, vs.length = [x, y, z, u, v, r].length → bindArgs fd ⟨vs, []⟩ = pure ([x, y, z, u, v, r].zip vs) := fun vs hl => by
  obtain ⟨a, r1, rfl, k1⟩ := len_succ hl
  obtain ⟨b, r2, rfl, k2⟩ := len_succ k1
  obtain ⟨c, r3, rfl, k3⟩ := len_succ k2
  obtain ⟨d, r4, rfl, k4⟩ := len_succ k3
  obtain ⟨e, r5, rfl, k5⟩ := len_succ k4
  obtain ⟨f, r6, rfl, k6⟩ := len_succ k5
  rw [List.eq_nil_of_length_eq_zero (l := r6) k6]
  exact h a b c d e f

/-- the def at a: what is to be looked at -/
noncomputable def defB (K : Frag) (a : Addr) (xs : List Str) : Bool :=
  isFuncB K a && codeB K (fdAt K a).code (fdAt K a).qualname && (fdAt K a).closure.isEmpty && ((fdAt K a).globals == mainGlobals) && ((fdAt K a).builtins == builtinsNs) &&
  (fdAt K a).scope.kind == .function && !(fdAt K a).scope.isCoroutine && !(fdAt K a).scope.isGenerator && parB (fdAt K a).scope.names xs && nofreeB (fdAt K a).scope.names

theorem fnIs_of {a : Addr} {body : List Stmt} {xs : List Str} (L : Lay G K) (h : defB K a xs = true) (hb : (fdAt K a).body = .stmts body) (hbind : ∀ vs : List Value, vs.length = xs.length → bindArgs (fdAt K a) ⟨vs, []⟩ = pure (xs.zip vs)) : FnIs G a (fdAt K a) body xs := by
  simp only [defB, Bool.and_eq_true, beq_iff_eq, Bool.not_eq_true', List.isEmpty_iff] at h
  obtain ⟨⟨⟨⟨⟨⟨⟨⟨⟨h1, h2⟩, h3⟩, h4⟩, h5⟩, h6⟩, h7⟩, h8⟩, h9⟩, h10⟩ := h
  obtain ⟨o, ho, hd⟩ := obj_of_isFunc h1
  refine ⟨⟨o, L.kin _ _ ho, hd⟩, hb, h4, h3, h5, code_of L h2, L.lim, h6, h7, h8, hbind, fun x m => ?_, fun x m => ?_⟩
  · have := List.all_eq_true.mp h9 x m
    split at this
    · left; assumption
    · right; assumption
    · cases this
  · have := List.all_eq_true.mp h10 x m
    intro z
    rw [z] at this
    simp at this

theorem sf_of {a : Addr} {body : List Stmt} {names : List (Str × NameKind)} {xs : List Str} {is : List Nat} {tbl : List Str} {n : Nat} {m : Mn Fl} (Fi : FnIs G a (fdAt K a) body xs) (hn : (fdAt K a).scope.names = names) {code : Value} (hcd : (fdAt K a).code = code) {qual : Str} (hql : (fdAt K a).qualname ++ ".<locals>." = qual) (tnd : tbl.Nodup)
    (hi : is.map (fun i => tbl[i]?) = xs.map some) (hb : SSs G ⟨names, tbl, n, false, code, qual⟩ body m) : SF G (n + 1) a (mkFn is m) := by
  subst hn hcd hql
  refine sf_body Fi tnd ?_ hb
  clear hb Fi
  induction is generalizing xs with
  | nil => cases xs with
    | nil => exact .nil
    | cons _ _ => simp at hi
  | cons i is ih => cases xs with
    | nil => simp at hi
    | cons x xs =>
      simp only [List.map_cons, List.cons.injEq] at hi
      exact .cons hi.1 (ih hi.2)
theorem Lay.fd (L : Lay G K) {a : Addr} (h : isFuncB K a = true) : ∃ o fd, G.h0.get? a = some o ∧ o.data = .func fd := by
  obtain ⟨o, ho, hd⟩ := obj_of_isFunc h
  exact ⟨o, _, L.kin _ _ ho, hd⟩

/-! the base of a method's call -/
/-! words for the denotations -/
noncomputable abbrev nilM : Mn (List D) := ret1 []
noncomputable abbrev consM (m : Mn D) (ms : Mn (List D)) : Mn (List D) := bnd m fun d => bnd ms fun ds => ret1 (d :: ds)
noncomputable abbrev binM (f : D → D → Mn D) (m1 m2 : Mn D) : Mn D := bnd m1 fun a => bnd m2 fun b => f a b
noncomputable abbrev cmpM (f : D → D → Mn D) (m1 m2 : Mn D) : Mn Bool := bnd m1 fun a => bnd m2 fun b => bnd (f a b) truthyD
noncomputable abbrev cmp2M (f g : D → D → Mn D) (m1 m2 m3 : Mn D) : Mn Bool := bnd m1 fun a => bnd m2 fun b => bnd (f a b) fun c => bnd (truthyD c) fun t => if t then (bnd m3 fun c => bnd (g b c) truthyD) else ret1 false
noncomputable abbrev iteM (c : Mn Bool) (m1 m2 : Mn D) : Mn D := bnd c fun b => if b then m1 else m2
noncomputable abbrev retM (m : Mn D) : Mn Fl := bnd m fun d => ret1 (.ret d)
noncomputable abbrev nameT (i : Nat) : D → Loc → Option Loc := fun d loc => some (upd loc i d)

/-! the text of a def, as data -/
noncomputable def bodyAt (p : Program) (n : Nat) : List Stmt := match p.main.body[n]? with
  | some (.FunctionDef _ _ b _ _ _ _ _ _ _) => b
  | _ => []
noncomputable def namesAt (p : Program) (n : Nat) : List (Str × NameKind) := match p.main.body[n]? with
  | some (.FunctionDef _ _ _ _ _ _ s _ _ _) => s.names
  | _ => []

/-! comprehensions: what is to be looked at -/
noncomputable def compB (C : Cx) (scope : Scope) (cls : List Nat) : Bool :=
  scope.kind == .function && (scope.names.all fun p => p.2 != .cell) && (scope.names.all fun p => p.2 != .local || scope.names.lookup p.1 == some .local) &&
  (scope.names.all fun p => p.2 != .free || ((C.names.lookup p.1 == some .cell || C.names.lookup p.1 == some .free) && C.tbl.contains p.1)) &&
  ((List.range C.tbl.length).all fun i => match C.tbl[i]? with
    | some x => scope.names.lookup x != some .local || cls.contains i
    | none => true)
theorem compSt_of {scope : Scope} {cls : List Nat} (h : compB C scope cls = true) : CompSt C scope cls := by
  simp only [compB, Bool.and_eq_true, beq_iff_eq] at h
  obtain ⟨⟨⟨⟨h1, h2⟩, h3⟩, h4⟩, h5⟩ := h
  refine ⟨h1, fun x m z => ?_, fun x m z => ?_, fun x m z => ?_, fun i x e z => ?_⟩
  · have := List.all_eq_true.mp h2 x m
    rw [z] at this; simp at this
  · have := List.all_eq_true.mp h3 x m
    rw [z] at this; simpa using this
  · have := List.all_eq_true.mp h4 x m
    rw [z] at this; simpa using this
  · have := List.all_eq_true.mp h5 i (List.mem_range.mpr (List.getElem?_eq_some_iff.mp e).1)
    simp only [e] at this
    rw [z] at this; simpa using this

theorem swaps_yes {elt : Expr} {gens : List Comprehension} {scope : Scope} {cpos np : Pos} {x : Str} {line : Nat} (h1 : (np.line == cpos.line) = true) (h2 : (scope.names.any fun p => p.1 == x && (p.2 == .local || p.2 == .cell)) = false) (env : Env) (hk : env.kindOf x = some .local) (hb : env.blockKind = .function) :
    swapsWith (.ListComp elt gens scope cpos) (some (.Name x np)) line env = pure true := by
  show (pure (env.blockKind == .function && env.kindOf x == some .local && np.line == cpos.line && !(scope.names.any fun p => p.1 == x && (p.2 == .local || p.2 == .cell))) : Sem Bool) = pure true
  rw [h1, h2, hk, hb]; rfl
theorem swaps_cell {elt : Expr} {gens : List Comprehension} {scope : Scope} {cpos np : Pos} {x : Str} {line : Nat} (env : Env) (hk : env.kindOf x = some .cell) :
    swapsWith (.ListComp elt gens scope cpos) (some (.Name x np)) line env = pure false := by
  show (pure (env.blockKind == .function && env.kindOf x == some .local && np.line == cpos.line && !(scope.names.any fun p => p.1 == x && (p.2 == .local || p.2 == .cell))) : Sem Bool) = pure false
  rw [hk]
  have : (some NameKind.cell == some NameKind.local) = false := by decide
  rw [this]; simp
end
end Mine

end

/- part F18 -/
section
set_option Elab.async false
set_option linter.unusedVariables false
namespace Mine
open PySem PySem.W PyProof.Rows

/-- the law holds, as the pure run says so -/
theorem law_ends {prog : Program} {w : World} {s₁ : Shared} {a fa l : Addr} {n : Nat} {F : List D → Mn D} {c : ClaimW} {cl : Str → Option Addr} {mean : ExcName → Option Value} {args : List WData} {vs : List Value} {ns : List Int}
    (hF : SF ⟨prog, w, s₁.heap, s₁.os, s₁.gens⟩ n a F) (hn : n ≤ 500) (hfa : fa = a) (hL : s₁.heap.IsList l vs.toArray) (hI : IntsAre vs ns) (hg : s₁.gens = #[]) (hc1 : ∀ cls, c.raises args cls = false) (hc2 : c.post args (.bool true) args = true)
    (hp : ∃ σ', F [.scr ns] ⟨emptyL, []⟩ = .ok (.bool true) ⟨emptyL, σ'⟩) :
    wpAny (model prog w) callerA (call (.ref fa) [.ref l]) (fun v s' => GoodWG c cl mean args s₁ (.ok (.ret v)) s') (fun e s' => GoodWG c cl mean args s₁ (.error e) s') s₁ := by
  subst hfa
  obtain ⟨σ', hp⟩ := hp
  have hi : IsInts vs.toArray.toList ns := by
    simp only [List.toList_toArray]
    clear hL hp
    induction hI with
    | nil => exact .nil
    | cons n t _ ih => exact .cons ⟨t, rfl⟩ ih
  have hb : F [.scr ns] ⟨emptyL, []⟩ ≠ .bot := by rw [hp]; intro z; cases z
  have I : Inv ⟨prog, w, s₁.heap, s₁.os, s₁.gens⟩ s₁ [] [] := ⟨fun _ _ e => e, fun _ m => (nomatch m), List.nodup_nil, rfl, fun _ _ _ e => (by simp at e), rfl, rfl⟩
  refine wpAny_mono (hF callerA default s₁ [] ⟨emptyL, []⟩ [.scr ns] [.ref l] ⟨rfl, ?_, ?_⟩ I ⟨⟨[], rfl⟩, fun fs e => by cases e; intro _ m; nomatch m⟩ ?_ hb) (fun v s' q => ?_) fun x s' q => ?_
  · show 1 + claimMargin + n ≤ 900
    have : claimMargin ≤ 300 := by decide
    omega
  · show 4 + 10 * n ≤ 9000
    omega
  · simp only [RelL, Rel]
    exact ⟨_, _, rfl, ⟨l, vs.toArray, rfl, hL, hi⟩, rfl⟩
  · refine OkE.elim q fun ρ' d σ'' e I' x r => ?_
    rw [hp] at e
    cases e
    cases (show v = .bool true from r)
    exact GoodW.toG ⟨.inl ⟨_, _, _, rfl, hc1, .bool true, hc2, fun _ => ⟨List.nodup_nil, fun _ m => nomatch m⟩⟩, I'.base, I'.os, I'.gens.trans hg⟩
  · obtain ⟨ρ', c, σ'', a, e, _⟩ := q
    rw [hp] at e; cases e
end Mine

end

/- part F19 -/
section
set_option Elab.async false
set_option linter.unusedVariables false
namespace Mine
open PySem PyProof.Rows PySem.Builtin.Str

/-! slices -/
noncomputable def clipI (v : Option Int) (dflt n : Int) : Int := match v with
  | none => dflt
  | some i => max 0 (min (if i < 0 then i + n else i) n)
noncomputable def cutL {α : Type} (lo hi : Option Int) (l : List α) : List α := (l.drop (clipI lo 0 l.length).toNat).take (clipI hi l.length l.length - clipI lo 0 l.length).toNat
theorem clipI_range {v : Option Int} {d n : Int} (hn : 0 ≤ n) (hd : 0 ≤ d) (hd2 : d ≤ n) : 0 ≤ clipI v d n ∧ clipI v d n ≤ n := by
  unfold clipI
  split
  · exact ⟨hd, hd2⟩
  · (clear hd2 hd; omega)
theorem bounds_eq (lo hi : Option Int) (n : Nat) : sliceBounds lo hi none n = (clipI lo 0 n, clipI hi n n, 1) := by
  cases lo <;> cases hi <;> simp [sliceBounds, clipI]
theorem range_eq {a b : Int} (ha : 0 ≤ a) : sliceRange a b 1 = (List.range (b - a).toNat).map fun k => a.toNat + k := by
  unfold sliceRange
  simp only [show (1 : Int) > 0 by decide, if_true, Int.ediv_one]
  have e : (if a < b then b - a + 1 - 1 else 0).toNat = (b - a).toNat := by
    split
    · rw [Int.add_sub_cancel]
    · rename_i h
      rw [Int.toNat_of_nonpos (Int.sub_nonpos_of_le (Int.not_lt.mp h))]; rfl
  rw [e]
  refine List.map_congr_left fun k _ => ?_
  show (a + 1 * (k : Int)).toNat = a.toNat + k
  rw [Int.one_mul, Int.toNat_add ha (Int.natCast_nonneg k), Int.toNat_natCast]
theorem picks_cut {α : Type} (lo hi : Option Int) (l : List α) : (sliceRange (clipI lo 0 l.length) (clipI hi l.length l.length) 1).filterMap (l[·]?) = cutL lo hi l := by
  obtain ⟨h1, h2⟩ := clipI_range (v := lo) (d := 0) (n := (l.length : Int)) (by exact iLe fun hzz => linI [_] [lt1 x0 (.n 0), le1 (.n 0) x0] (Eq.refl true) hzz (cast_nn _)) (by exact iLe fun hzz => linI [] [lt1 (.n 0) (.n 0)] (Eq.refl true) hzz) (by exact iLe fun hzz => linI [_] [lt1 x0 (.n 0), le1 (.n 0) x0] (Eq.refl true) hzz (cast_nn _))
  obtain ⟨h3, h4⟩ := clipI_range (v := hi) (d := (l.length : Int)) (n := (l.length : Int)) (by exact iLe fun hzz => linI [_, _] [lt1 x0 (.n 0), le1 (.n 0) x1, le1 x1 x0] (Eq.refl true) hzz h1 h2) (by exact iLe fun hzz => linI [_, _] [lt1 x0 (.n 0), le1 (.n 0) x1, le1 x1 x0] (Eq.refl true) hzz h1 h2) (by exact iLe fun hzz => linI [_] [lt1 x0 x0] (Eq.refl true) hzz)
  rw [range_eq h1]
  unfold cutL
  by_cases h : clipI lo 0 l.length ≤ clipI hi l.length l.length
  · exact StrLaws.picks l _ _ (by exact d_le (iLe fun hzz => linI [(↑l.length), (↑(clipI lo 0 ↑l.length).toNat), (↑(clipI hi ↑l.length ↑l.length - clipI lo 0 ↑l.length).toNat), (clipI hi ↑l.length ↑l.length), (clipI lo 0 ↑l.length)] [lt1 x0 (.a x1 x2), le1 x3 x0, eq1 x1 x4, eq1 x2 (.s x3 x4)] (Eq.refl true) hzz h4 (tn_eq (iLe fun hyy => linI [(clipI lo 0 ↑l.length)] [lt1 x0 (.n 0), le1 (.n 0) x0] (Eq.refl true) hyy h1)) (tn_eq (iLe fun hyy => linI [(clipI lo 0 ↑l.length), (clipI hi ↑l.length ↑l.length)] [lt1 (.s x1 x0) (.n 0), le1 x0 x1] (Eq.refl true) hyy h))))
  · have e : (clipI hi l.length l.length - clipI lo 0 l.length).toNat = 0 := by (clear h4 h3 h2 h1; omega)
    rw [e]; simp
theorem slicePick_eq (items : Array Value) (lo hi : Option Int) : slicePick items lo hi none = (cutL lo hi items.toList).toArray := by
  unfold slicePick
  rw [bounds_eq]
  congr 1
  have := picks_cut lo hi items.toList
  simpa using this
theorem cutL_length {α : Type} (lo hi : Option Int) (l : List α) : (cutL lo hi l).length ≤ l.length := by simp [cutL]; omega
theorem All2.cut {α β : Type} {R : α → β → Prop} {l : List α} {l' : List β} (h : All2 R l l') (lo hi : Option Int) : All2 R (cutL lo hi l) (cutL lo hi l') := by
  unfold cutL
  rw [h.length]
  exact (h.drop _).take _
theorem cl0_length (x : Str) : x.cps.toList.length = x.length := by simp [Str.length]
theorem sliceText_eq (x : Str) (l u : Option Int) : Txt.slice x l u = ⟨(cutL l u x.cps.toList).toArray⟩ := by
  have e : strSliceIndices l u 1 x.length = sliceRange (clipI l 0 x.cps.toList.length) (clipI u x.cps.toList.length x.cps.toList.length) 1 := by
    simp only [strSliceIndices, clipI, show (1 : Int) > 0 by decide, if_true, Str.length, Array.length_toList]
    cases l <;> cases u <;> rfl
  have p := picks_cut l u x.cps.toList
  unfold Txt.slice
  split
  · rename_i h
    simp only [Bool.and_eq_true, beq_iff_eq] at h
    have h2 := h.2
    rw [e] at h2
    -- as many as the whole: all of it
    have hall : cutL l u x.cps.toList = x.cps.toList := by
      obtain ⟨h1, h3⟩ := clipI_range (v := l) (d := 0) (n := (x.cps.toList.length : Int)) (by exact iLe fun hzz => linI [_] [lt1 x0 (.n 0), le1 (.n 0) x0] (Eq.refl true) hzz (cast_nn _)) (by exact iLe fun hzz => linI [] [lt1 (.n 0) (.n 0)] (Eq.refl true) hzz) (by exact iLe fun hzz => linI [_] [lt1 x0 (.n 0), le1 (.n 0) x0] (Eq.refl true) hzz (cast_nn _))
      obtain ⟨h4, h5⟩ := clipI_range (v := u) (d := (x.cps.toList.length : Int)) (n := (x.cps.toList.length : Int)) (by exact iLe fun hzz => linI [_, _] [lt1 x0 (.n 0), le1 (.n 0) x1, le1 x1 x0] (Eq.refl true) hzz h1 h3) (by exact iLe fun hzz => linI [_, _] [lt1 x0 (.n 0), le1 (.n 0) x1, le1 x1 x0] (Eq.refl true) hzz h1 h3) (by exact iLe fun hzz => linI [_] [lt1 x0 x0] (Eq.refl true) hzz)
      rw [range_eq h1] at h2
      rw [List.length_map, List.length_range, ← cl0_length] at h2
      unfold cutL
      generalize hA : clipI l 0 (x.cps.toList.length : Int) = A at *
      generalize hB : clipI u (x.cps.toList.length : Int) (x.cps.toList.length : Int) = B at *
      rcases Nat.eq_zero_or_pos x.cps.toList.length with hz | hz
      · rw [List.eq_nil_of_length_eq_zero hz]; simp
      · have e0 : A.toNat = 0 := by (clear hz p e h4 hB h1 hA h; omega)
        rw [e0, List.drop_zero, List.take_of_length_le (Nat.le_of_eq h2.symm)]
    rw [hall]
  · rw [e]
    congr 2
    simpa using p

inductive SO (G : Gd) (C : Cx) : Option Expr → Option (Mn D) → Prop
  | none : SO G C none none
  | some {e m} : SE G C e m → SO G C (some e) (some m)
noncomputable def asInt : D → Mn (Option Int)
  | .int i => ret1 (some i)
  | _ => botM
noncomputable def partM : Option (Mn D) → Mn (Option Int)
  | none => ret1 none
  | some m => bnd m asInt
noncomputable def pSlice (d : D) (l h : Option Int) : Mn D := match d with
  | .str x => if x.length ≤ sizeLine then ret1 (.str ⟨(cutL l h x.cps.toList).toArray⟩) else botM
  | .ref k => fun st => match st.sto[k]? with
    | some (.list ds) => if ds.length ≤ sizeLine then allocL (cutL l h ds) st else .bot
    | _ => .bot
  | .scr ns => if ns.length ≤ sizeLine then allocL ((cutL l h ns).map D.int) else botM
  | .tup ds => if ds.length ≤ sizeLine then ret1 (.tup (cutL l h ds)) else botM
  | _ => botM
noncomputable def sliceM (m : Mn D) (lo hi : Option (Mn D)) : Mn D := bnd m fun a => bnd (bnd (partM lo) fun l => bnd (partM hi) fun h => ret1 (l, h)) fun p => pSlice a p.1 p.2

section
variable {G : Gd} {C : Cx} {A : Around} {P : List Addr} {env : Env} {s : Shared} {ρ : List Addr} {st : St}
noncomputable abbrev RP : Heap → List Addr → Option Int → Value → Prop := fun _ _ k v => IsPart v k
noncomputable abbrev RSl : Heap → List Addr → Option Int × Option Int → Value → Prop := fun h ρ p v => ∃ a vl vu, v = .ref a ∧ h.IsSliceOf a vl vu .none ∧ IsPart vl p.1 ∧ IsPart vu p.2
theorem so_none : SO G C none none := .none
theorem so_some {e : Expr} {m : Mn D} (h : SE G C e m) : SO G C (some e) (some m) := .some h
theorem at_part {oe : Option Expr} {om : Option (Mn D)} (h : SO G C oe om) (K : Ok G C A P env s ρ st) : At G A env s ρ st RP (evalPart oe env) (partM om) := by
  cases h with
  | none => exact At.pure K .none
  | @some e m h =>
    refine At.ofEq (t' := eval e env >>= fun v => pure v) (by rw [evalPart_some]; simp) ?_
    refine At.bind K (h.run A P env s ρ st K) fun v s' ρ' d σ' K' x r hb => ?_
    cases d <;> first | exact absurd rfl hb | skip
    simp only [Rel] at r
    obtain ⟨t, rfl⟩ := r
    exact At.pure K' (.int _ t) hb
theorem at_slice {lo hi : Option Expr} {ml mh : Option (Mn D)} {p : Pos} (h1 : SO G C lo ml) (h2 : SO G C hi mh) (K : Ok G C A P env s ρ st) :
    At G A env s ρ st RSl (eval (.Slice lo hi none p) env) (bnd (partM ml) fun l => bnd (partM mh) fun h => ret1 (l, h)) := fun hb => by
  refine wpAny_Slice (wpAny_mono (at_part h1 K (bnd_ne_bot hb)) (fun vl s' q => ?_) fun x s' q => ?_)
  · refine OkE.elim q fun ρ' l σ' e I' x r => ?_
    have K' := K.step I' x
    have e' : bnd (partM ml) (fun l => bnd (partM mh) fun h => ret1 (l, h)) st = bnd (partM mh) (fun h => ret1 (l, h)) ⟨st.loc, σ'⟩ := by simp only [bnd, e]
    rw [e'] at hb ⊢
    refine wpAny_mono (at_part h2 K' (bnd_ne_bot hb)) (fun vu s'' q => ?_) fun ex s'' q => ?_
    · refine OkE.elim q fun ρ'' h σ'' e2 I'' x2 r2 => ?_
      rw [evalPart_none]
      refine wpAny_pure ?_
      have g := Grow.push s''.heap { cls := .type "slice", data := .fields #[vl, vu, .none] }
      exact ⟨ρ'', (l, h), σ'', by simp only [bnd, e2, ret1], I''.grow g size_push_le s''.toks, (x.trans x2).trans (g.ev size_push_le), _, vl, vu, rfl, Heap.IsSliceOf.new .., r, r2⟩
    · exact ExcE.tr (ExcE.bnd q) x
  · exact ExcE.bnd q
theorem isPart_value {v : Value} {k : Option Int} (h : IsPart v k) : ∃ p : Option (Int × Tok), v = partValue p ∧ p.map (·.1) = k := by
  cases h with
  | none => exact ⟨none, rfl, rfl⟩
  | int i t => exact ⟨some (i, t), rfl, rfl⟩

theorem ints_all2 {h : Heap} {vs : List Value} {ns : List Int} (x : All2 (fun v n => ∃ t, v = Value.int n t) vs ns) : All2 (fun v d => Rel G h ρ d v) vs (ns.map D.int) := by
  induction x with
  | nil => exact .nil
  | cons h _ ih => exact .cons (by simp only [Rel]; exact h) ih
theorem adjust_eq (lo hi : Option Int) (n : Nat) : Builtin.Slice.sliceAdjust lo hi 1 (n : Int) = (clipI lo 0 n, clipI hi n n) := by
  have c : ∀ i : Int, (if i < 0 then max (i + (n : Int)) 0 else min i (n : Int)) = max 0 (min (if i < 0 then i + n else i) n) := fun i => by split <;> omega
  unfold Builtin.Slice.sliceAdjust clipI
  simp only [show ¬ ((1 : Int) < 0) by decide, if_false]
  cases lo <;> cases hi <;> simp only [c]
theorem places_eq (a b : Int) : Builtin.Slice.slicePlaces a b 1 = (b - a).toNat := by
  unfold Builtin.Slice.slicePlaces
  simp only [show (1 : Int) > 0 by decide, if_true, Int.ediv_one]
  split <;> omega
theorem part_any {E : Value → Shared → Prop} {v : Value} {k : Option Int} {Q : Option Int → Shared → Prop} (p : IsPart v k) (h : Q k s) : wpAny G.M A (Builtin.Slice.slicePartIndex v) Q E s := by
  cases p with
  | none => exact slicePart_none h
  | int i t => exact slicePart_int h
theorem slice_tup {E : Value → Shared → Prop} {t sl : Addr} {items : Array Value} {vl vu : Value} {lo hi : Option Int} {Q : Value → Shared → Prop} (ht : IsTup s.heap t items) (hs : s.heap.IsSliceOf sl vl vu .none) (pl : IsPart vl lo) (pu : IsPart vu hi)
    (h1 : cutL lo hi items.toList = items.toList → Q (.ref t) s)
    (h2 : Q (.ref s.heap.objs.size) { s with heap := s.heap.push { cls := .type "tuple", data := .seq (cutL lo hi items.toList).toArray } })
    (hsz : items.size ≤ sizeLine) : wpAny G.M A (getItem (.ref t) (.ref sl)) Q E s := by
  have hdrop : sizeOk (.seq (cutL lo hi items.toList).toArray) := by
    show (cutL lo hi items.toList).toArray.size ≤ sizeLine
    rw [List.size_toArray]
    exact Nat.le_trans (cutL_length ..) (by rw [Array.length_toList]; exact hsz)
  obtain ⟨os, hos, hcs, hds⟩ := id hs
  have hTs : s.TypeIs (.ref sl) "slice" := ⟨os, hos, hcs⟩
  have cr := clipI_range (v := lo) (d := 0) (n := (items.size : Int)) (by omega) (by omega) (by omega)
  have pick : ((List.range (clipI hi items.size items.size - clipI lo 0 items.size).toNat).filterMap fun (k : Nat) => items[(clipI lo 0 items.size + (k : Int) * 1).toNat]?) = cutL lo hi items.toList := by
    have := picks_cut lo hi items.toList
    rw [Array.length_toList, range_eq cr.1, List.filterMap_map] at this
    rw [← this]
    congr 1
    funext k
    have e : (clipI lo 0 items.size + (k : Int) * 1).toNat = (clipI lo 0 items.size).toNat + k := by omega
    rw [e]
    simp
  unfold getItem
  try with_reducible refine wpAny_holding ?_
  first | refine wpAny_bind (wpAny_pure ?_) | skip
  refine wpAny_bind (wpAny_sequenceKey ht.typeIs (by decide) ?_)
  refine wpAny_bind (wpAny_callSpecial?_slot (name := Str.ofString "__getitem__") ht.typeIs slot_tuple_getitem
    (wpAny_call_entry slot_tuple_getitem ht.typeIs entry_tuple_getitem ?_ (args_tuple_getitem _ _)))
  show wpAny _ _ (Builtin.Tuple.tupleItemsOf (.ref t) >>= _) _ _ s
  refine wpAny_bind (tupleItemsOf_ ht ?_)
  refine wpAny_bind (wpAny_typeOf hTs ?_)
  rw [if_pos (by decide)]
  refine wpAny_bind (m := Builtin.Slice.sliceApplied (.ref sl) (pure (items.size : Int))) ?_
  unfold Builtin.Slice.sliceApplied Builtin.Slice.sliceFields
  refine wpAny_bind (wpAny_bind (wpAny_field hos hds (x := vl) rfl (wpAny_bind (wpAny_field hos hds (x := vu) rfl (wpAny_bind (wpAny_field hos hds (x := .none) rfl (wpAny_pure ?_)))))))
  refine wpAny_bind (slicePart_none ?_)
  show wpAny _ _ (if ((1 : Int) == 0) = true then _ else _) _ _ s
  rw [if_neg (by decide)]
  refine wpAny_bind (part_any pl (wpAny_bind (part_any pu (wpAny_bind (wpAny_pure ?_)))))
  show wpAny _ _ (match Builtin.Slice.sliceAdjust lo hi 1 (items.size : Int) with | (lo, hi) => pure (lo, (1 : Int), Builtin.Slice.slicePlaces lo hi 1)) _ _ s
  rw [adjust_eq]
  show wpAny _ _ (pure (clipI lo 0 items.size, (1 : Int), Builtin.Slice.slicePlaces (clipI lo 0 items.size) (clipI hi items.size items.size) 1)) _ _ s
  rw [places_eq]
  refine wpAny_pure ?_
  by_cases hw : (clipI lo 0 items.size == 0 && (1 : Int) == 1 && (clipI hi items.size items.size - clipI lo 0 items.size).toNat == items.size) = true
  · show wpAny _ _ (if (clipI lo 0 items.size == 0 && (1 : Int) == 1 && (clipI hi items.size items.size - clipI lo 0 items.size).toNat == items.size) = true then _ else _) _ _ s
    rw [if_pos hw]
    unfold Builtin.Tuple.tupleIsExact
    refine wpAny_bind (wpAny_bind (wpAny_typeOf ht.typeIs (wpAny_pure ?_)))
    rw [if_pos (by decide)]
    refine wpAny_bind (wpAny_rule (wpAny_pure ⟨_, rfl, wpAny_pure (h1 ?_)⟩))
    simp only [Bool.and_eq_true, beq_iff_eq] at hw
    unfold cutL
    rw [Array.length_toList, hw.2, hw.1.1]
    exact List.take_of_length_le (by rw [Array.length_toList.symm]; exact Nat.le_refl _)
  · show wpAny _ _ (if (clipI lo 0 items.size == 0 && (1 : Int) == 1 && (clipI hi items.size items.size - clipI lo 0 items.size).toNat == items.size) = true then _ else _) _ _ s
    rw [if_neg hw]
    show wpAny _ _ (Builtin.Tuple.tupleExact _ >>= fun v => ret v) _ _ s
    rw [pick]
    first
      | exact wpAny_bind (m := Builtin.Tuple.tupleExact _) (wpAny_newObj_type (wpAny_pure ⟨_, rfl, wpAny_pure h2⟩) hdrop)
      | exact wpAny_bind (m := Builtin.Tuple.tupleExact _) (wpAny_newObj_type (wpAny_bind (wpAny_pure (wpAny_pure ⟨_, rfl, wpAny_pure h2⟩))) hdrop)
theorem at_sliced {d : D} {o i : Value} {p : Option Int × Option Int} {value : Expr} {lo hi : Option Expr} {pp : Pos} (K : Ok G C A P env s ρ st) (r1 : Rel G s.heap ρ d o) (r2 : RSl s.heap ρ p i) :
    At G A env s ρ st (RV G) (subscriptTail value (.Slice lo hi none pp) o i) (pSlice d p.1 p.2) := fun hb => by
  obtain ⟨a, vl, vu, rfl, hs, pl, pu⟩ := r2
  have hsub : ∀ o, subscripted (.Slice lo hi none pp) false o (.ref a) = operate [.ref a, o] (getItem o (.ref a)) := fun _ => rfl
  cases d <;> first | exact absurd rfl hb | skip
  · rename_i x
    simp only [Rel] at r1
    obtain ⟨t, rfl⟩ := r1
    unfold pSlice at hb ⊢; dsimp only at hb ⊢
    have hz := itep_bot hb
    rw [if_app hz]
    obtain ⟨l, rfl, el⟩ := isPart_value pl
    obtain ⟨u, rfl, eu⟩ := isPart_value pu
    refine tail_any (typeIs_str s x t) F.slot_str_getitem.lookup (wpAny_getItem_str_slice (l := l) (u := u) (st := none) hs rfl ?_) (hsub _)
    have key : ∀ t' k, OkE G s ρ st (RV G) ((ret1 (D.str ⟨(cutL p.1 p.2 x.cps.toList).toArray⟩) : Mn D) st) (.str (Txt.slice x (l.map (·.1)) (u.map (·.1))) t') { s with toks := k } := fun t' k =>
      ⟨ρ, _, st.sto, rfl, K.inv.tok k, Ev.refl, t', by rw [sliceText_eq, el, eu]⟩
    exact post_val_or_str (c := ((1 : Int) == 1 && (strSliceIndices (l.map (·.1)) (u.map (·.1)) 1 x.length).length == x.length) = true) ⟨Nat.le_trans (Txt.slice_le x _ _) hz, fun t' k => key t' k⟩
  · rename_i ds
    simp only [Rel] at r1
    obtain ⟨al, vs, rfl, hna, ⟨n, ho⟩, rr⟩ := r1
    unfold pSlice at hb ⊢; dsimp only at hb ⊢
    have hz := itep_bot hb
    rw [if_app hz]
    have ht : IsTup s.heap al vs := ⟨_, ho, rfl, n, rfl⟩
    refine tail_any ht.typeIs slot_tuple_getitem.lookup (slice_tup ht hs pl pu (fun e => ?_) ?_ (by rw [rr.size]; exact hz)) (hsub _)
    · refine ⟨ρ, .tup (cutL p.1 p.2 ds), st.sto, rfl, K.inv.tok s.toks, Ev.refl, ?_⟩
      show Rel _ _ _ _ _
      simp only [Rel]
      refine ⟨al, vs, rfl, hna, ⟨n, ho⟩, ?_⟩
      rw [← e]
      exact RelL.of_all2 (rr.all2.cut _ _)
    · have g := Grow.push s.heap (tupO (cutL p.1 p.2 vs.toList).toArray 0)
      refine ⟨ρ, .tup (cutL p.1 p.2 ds), st.sto, rfl, K.inv.grow g size_push_le s.toks, g.ev size_push_le, ?_⟩
      show Rel _ _ _ _ _
      simp only [Rel]
      refine ⟨_, (cutL p.1 p.2 vs.toList).toArray, rfl, K.inv.size_notin, ⟨0, Heap.get?_push_size _ rfl⟩, RelL.of_all2 ?_⟩
      exact (RelL.mono g.stb _ _ rr).all2.cut _ _
  · rename_i k
    simp only [Rel] at r1
    obtain ⟨al, rfl, e1⟩ := r1
    cases e : st.sto[k]? with
    | none => exact absurd (by unfold pSlice; simp only [e]) hb
    | some ob =>
      cases ob with
      | list ds =>
        unfold pSlice at hb ⊢; simp only [e] at hb ⊢
        have hz : ds.length ≤ sizeLine := by
          by_cases z : ds.length ≤ sizeLine
          · exact z
          · exact absurd (if_neg z) hb
        rw [if_pos hz]
        obtain ⟨vs, hl, r⟩ := K.inv.sto k al _ e1 e
        refine tail_any hl.list.typeIs slot_list_getitem.lookup (wpAny_getItem_list_slice hl.list hs pl pu .none (by simp) ?_ (by rw [r.size]; exact hz)) (hsub _)
        rw [slicePick_eq]
        exact inv_alloc_list (vs := (cutL p.1 p.2 vs.toList).toArray) (n := 0) K.inv (RelL.of_all2 (r.all2.cut _ _)) s.toks
      | _ => exact absurd (by unfold pSlice; simp only [e]) hb
  · rename_i ns
    simp only [Rel] at r1
    obtain ⟨al, vs, rfl, hl, hi⟩ := r1
    unfold pSlice at hb ⊢; dsimp only at hb ⊢
    have hz := itep_bot hb
    rw [if_app hz]
    have hl' := Grow.list K.inv.base hl
    refine tail_any hl'.typeIs slot_list_getitem.lookup (wpAny_getItem_list_slice hl' hs pl pu .none (by simp) ?_ (by rw [IsInts.size hi]; exact hz)) (hsub _)
    rw [slicePick_eq]
    exact inv_alloc_list (vs := (cutL p.1 p.2 vs.toList).toArray) (n := 0) K.inv (RelL.of_all2 (ints_all2 (All2.cut hi _ _))) s.toks
theorem se_slice {v : Expr} {lo hi : Option Expr} {p pos : Pos} {m : Mn D} {ml mh : Option (Mn D)} (h : SE G C v m) (h1 : SO G C lo ml) (h2 : SO G C hi mh) : SE G C (.Subscript v (.Slice lo hi none p) pos) (sliceM m ml mh) := .mk <| fun A P env s ρ st K => by
  refine At.ofEq (t' := do let o ← eval v env; let i ← holding [o] (eval (.Slice lo hi none p) env); standAt pos; subscriptTail v (.Slice lo hi none p) o i) (by rw [eval_Subscript]; rfl) ?_
  refine At.bind K (h.run A P env s ρ st K) fun o s' ρ' d σ' K' x r1 => ?_
  refine At.bind K' (At.hold (at_slice h1 h2 K')) fun i s'' ρ'' q σ'' K'' x2 r2 => ?_
  exact At.stand (at_sliced (lo := lo) (hi := hi) (value := v) K'' (Rel.mono (x2.stb K'.inv .nil) _ _ r1) r2)

/-! + of ints, texts, lists, tuples -/
noncomputable def pAdd : D → D → Mn D
  | .ref a, .ref b => fun st => match st.sto[a]?, st.sto[b]? with
    | some (.list x), some (.list y) => if x.length + y.length ≤ sizeLine then allocL (x ++ y) st else .bot
    | _, _ => .bot
  | .tup x, .tup y => if y.isEmpty = false ∧ x.length + y.length ≤ sizeLine then ret1 (.tup (x ++ y)) else botM
  | a, b => pAdd0 a b
theorem bin_add : BinOk G .Add pAdd := fun C A P env s ρ st d1 d2 v1 v2 K r1 r2 => by
  by_cases hr : ∃ a b, d1 = .ref a ∧ d2 = .ref b
  · obtain ⟨ka, kb, rfl, rfl⟩ := hr
    intro hb
    simp only [Rel] at r1 r2
    obtain ⟨a, rfl, ea⟩ := r1; obtain ⟨b, rfl, eb⟩ := r2
    obtain ⟨x, y, qa, qb⟩ : ∃ x y, st.sto[ka]? = some (.list x) ∧ st.sto[kb]? = some (.list y) := by
      cases qa : st.sto[ka]? with
      | none => exact absurd (by unfold pAdd; simp only [qa]) hb
      | some o1 =>
        cases qb : st.sto[kb]? with
        | none => exact absurd (by unfold pAdd; simp only [qa, qb]) hb
        | some o2 => cases o1 <;> cases o2 <;> first | exact ⟨_, _, rfl, rfl⟩ | exact absurd (by unfold pAdd; simp only [qa, qb]) hb
    unfold pAdd at hb ⊢; simp only [qa, qb] at hb ⊢
    have hz : x.length + y.length ≤ sizeLine := by
      by_cases z : x.length + y.length ≤ sizeLine
      · exact z
      · exact absurd (if_neg z) hb
    rw [if_pos hz]
    obtain ⟨vs, ⟨n1, hl1⟩, rr1⟩ := K.inv.sto ka a _ ea qa
    obtain ⟨ws, ⟨n2, hl2⟩, rr2⟩ := K.inv.sto kb b _ eb qb
    refine PySem.P.add_list hl1 hl2 ?_ (by rw [rr1.size, rr2.size]; exact hz)
    exact inv_alloc_list (vs := vs ++ ws) (n := 0) K.inv (RelL.of_all2 (by rw [Array.toList_append]; exact rr1.all2.append rr2.all2)) s.toks
  · by_cases ht : ∃ a b, d1 = .tup a ∧ d2 = .tup b
    · obtain ⟨x, y, rfl, rfl⟩ := ht
      intro hb
      simp only [Rel] at r1 r2
      obtain ⟨a, vs, rfl, na, ⟨n1, h1⟩, rr1⟩ := r1; obtain ⟨b, ws, rfl, nb, ⟨n2, h2⟩, rr2⟩ := r2
      unfold pAdd at hb ⊢; dsimp only at hb ⊢
      have hz := itep_bot hb
      rw [if_app hz]
      by_cases e1 : vs.isEmpty = true
      · have e0 : vs = #[] := Array.isEmpty_iff.mp e1
        subst e0
        have ex : x = [] := List.eq_nil_of_length_eq_zero rr1.size.symm
        subst ex
        refine concat_meets ⟨_, h1, rfl⟩ ⟨_, h2, rfl⟩ noFill_tuple_add seq_tuple_add PySem.F.slot_tuple_add PySem.F.entry_tuple_add (PySem.F.args_tuple_add_2 _ _) (tuple_addW0 a b #[] ws n1 n2 none none #[] #[] rfl) ⟨h1, h2, ?_⟩
        exact ⟨ρ, .tup y, st.sto, rfl, K.inv.tok s.toks, Ev.refl, by show Rel _ _ _ _ _; simp only [Rel]; exact ⟨b, ws, rfl, nb, ⟨n2, h2⟩, rr2⟩⟩
      have e2 : ¬ ws.isEmpty = true := by
        have := rr2.size
        have hx : y.length ≠ 0 := by
          intro z
          rw [List.eq_nil_of_length_eq_zero z] at hz
          exact absurd hz.1 (by simp)
        rw [Array.isEmpty_iff_size_eq_zero]; (clear e1 hz h2 rr2 nb h1 rr1 na hb hr K; omega)
      have g := Grow.push s.heap (tupO (vs ++ ws) 0)
      refine PySem.P.add_tuple h1 h2 e1 e2 ?_ (by rw [rr1.size, rr2.size]; exact hz.2)
      refine ⟨ρ, .tup (x ++ y), st.sto, rfl, K.inv.grow g size_push_le s.toks, g.ev size_push_le, ?_⟩
      show Rel _ _ _ _ _
      simp only [Rel]
      refine ⟨_, vs ++ ws, rfl, K.inv.size_notin, ⟨0, Heap.get?_push_size _ rfl⟩, RelL.of_all2 ?_⟩
      rw [Array.toList_append]
      exact (RelL.mono g.stb _ _ rr1).all2.append (RelL.mono g.stb _ _ rr2).all2
    · have e : pAdd d1 d2 = pAdd0 d1 d2 := by
        cases d1 <;> cases d2 <;> first | rfl | exact absurd ⟨_, _, rfl, rfl⟩ hr | exact absurd ⟨_, _, rfl, rfl⟩ ht
      rw [e]
      exact bin_add0 C A P env s ρ st d1 d2 v1 v2 K r1 r2
end
end Mine

end

/- part F20 -/
section
set_option Elab.async false
set_option linter.unusedVariables false
namespace Mine
open PySem PyProof.Rows PySem.Builtin.Str

section
variable {G : Gd} {C : Cx} {A : Around} {P : List Addr} {env : Env} {s : Shared} {ρ : List Addr} {st : St}

/-! * of ints, of a text and of a list by an int -/
noncomputable def repL {α : Type} (n : Int) (l : List α) : List α := (List.replicate n.toNat l).flatten
noncomputable def pMul : D → D → Mn D
  | .str x, .int n => if inLong n = true ∧ x.length * n.toNat ≤ 16777216 then ret1 (.str ⟨(repL n x.cps.toList).toArray⟩) else botM
  | .ref k, .int n => fun st => match st.sto[k]? with
    | some (.list ds) => if inLong n = true ∧ ds.length * n.toNat ≤ 16777216 then allocL (repL n ds) st else .bot
    | _ => .bot
  | a, b => pMulI a b
theorem fold_rep (x : Array Nat) : ∀ (k : Nat) (acc : Array Nat), (List.foldl (fun x1 x2 => x1 ++ x2) acc (List.replicate k x)).toList = acc.toList ++ (List.replicate k x.toList).flatten
  | 0, acc => by simp
  | k + 1, acc => by
    rw [List.replicate_succ, List.foldl_cons, fold_rep x k]
    simp [List.replicate_succ]
theorem All2.rep {α β : Type} {R : α → β → Prop} {l : List α} {l' : List β} (h : All2 R l l') : ∀ k : Nat, All2 R (List.replicate k l).flatten (List.replicate k l').flatten
  | 0 => by simp; exact .nil
  | k + 1 => by simp only [List.replicate_succ, List.flatten_cons]; exact h.append (h.rep k)
theorem mul_lst {l : Addr} {items : Array Value} {k : Nat} {x : Int} {u : Tok} {Q : Value → Shared → Prop} {E : Value → Shared → Prop}
    (hl : s.heap.get? l = some (lstO items k)) (hi : inLong x = true) (hsz : items.size * x.toNat ≤ 16777216)
    (h : Q (.ref s.heap.objs.size) { s with heap := s.heap.push (lstO (repL x items.toList).toArray 0) }) : wpAny G.M A (binaryOp .Mult (.ref l) (.int x u)) Q E s := by
  have hi' := inLong_iff.mp hi
  have e : List.foldl (fun x1 x2 => x1 ++ x2) #[] (List.replicate (if items.isEmpty = true then 0 else x.toNat) items) = (repL x items.toList).toArray := by
    rw [listMul_foldl]
    congr 1
    simp only [List.nil_append, repL]
    split
    · rename_i h
      rw [Array.isEmpty_iff.mp h]
      simp
    · rfl
  refine wpAny_binaryOp_repeat_ref (T := "list") (U := "int") (by decide) ⟨_, hl, rfl⟩ (fun s' => typeIs_int s' x u) noFill_list_mul F.fills_int_mul F.slot_int_rmul repeat_list F.slot_int_index.lookup
    (call_meets F.slot_int_rmul (typeIs_int s x u) F.entry_int_rmul (F.args_int_rmul_2 _ _) (int___rmul___int_list x u l items k)
      ⟨hl, rfl, ⟨_, hl, rfl⟩, call_meets F.slot_list_mul ⟨_, hl, rfl⟩ F.entry_list_mul (F.args_list_mul_2 _ _)
        (AutoListH.list___mul___list_int_3 l items k x u (by simp [Builtin.List.listFitsIndex]; (clear e h hsz hi hl; omega)) (by (clear e hi' h hi hl; omega)) (by simp [Builtin.List.listTooLong, sizeLine]; exact nLe fun hzz => linN [_] [lt1 (.n 16777216) x0, le1 x0 (.n 16777216)] (Eq.refl true) hzz hsz))
        ⟨hl, ?_⟩⟩)
  rw [e]
  exact h
theorem bin_mul : BinOk G .Mult pMul := fun C A P env s ρ st d1 d2 v1 v2 K r1 r2 => by
  by_cases hs : ∃ x n, d1 = .str x ∧ d2 = .int n
  · obtain ⟨x, n, rfl, rfl⟩ := hs
    refine At.leaf (fun hb => ?_) K
    simp only [Rel] at r1 r2
    obtain ⟨t, rfl⟩ := r1; obtain ⟨u, rfl⟩ := r2
    unfold pMul at hb ⊢; dsimp only at hb ⊢
    have hz := itep_bot hb
    rw [if_app hz]
    have hi := inLong_iff.mp hz.1
    have hle : x.length * n.toNat ≤ 16777216 := hz.2
    refine PySem.P.mul_str (by simp; (clear hle hz hb K; omega)) (fun h1 h2 => ?_) (fun h1 h2 => ?_) ?_
    · have hx : 1 ≤ n := by exact iLe fun hzz => linI [_] [lt1 x0 (.n 1), le1 (.n 1) x0] (Eq.refl true) hzz (Int.not_lt.mp h1)
      have : (x.length : Int) * n ≤ 16777216 := by
        have h3 : ((x.length * n.toNat : Nat) : Int) ≤ 16777216 := by exact iLe fun hzz => linI [_] [lt1 (.n 16777216) x0, le1 x0 (.n 16777216)] (Eq.refl true) hzz (c_le hz.2)
        have h4 : (n.toNat : Int) = n := by exact iEq (fun hzz => linI [_, _] [lt1 x1 x0, le1 x0 x1] (Eq.refl true) hzz (tn_lo _)) (fun hzz => linI [_, _] [lt1 x0 x1, eq1 x1 x0] (Eq.refl true) hzz (tn_eq (iLe fun hyy => linI [_] [lt1 x0 (.n 0), le1 (.n 1) x0] (Eq.refl true) hyy (Int.not_lt.mp h1))))
        rw [Int.natCast_mul, h4] at h3
        exact h3
      have h5 : (x.length : Int) ≤ (2 ^ 63 - 1) / n := (Int.le_ediv_iff_mul_le (by exact iLt fun hzz => linI [_] [le1 x0 (.n 0), le1 (.n 1) x0] (Eq.refl true) hzz (Int.not_lt.mp h1))).mpr (by (clear hx h2 h1 hle hi hz hb K; omega))
      exact fun hzz => linI [_, _] [lt1 x1 x0, le1 x0 x1] (Eq.refl true) hzz h5
    · simp [tooLong, sizeLine]; exact nLe fun hzz => linN [_] [lt1 (.n 16777216) x0, le1 x0 (.n 16777216)] (Eq.refl true) hzz hz.2
    · split
      · rename_i h
        refine ⟨by decide, _, rfl, Grow.same, s.toks, ?_⟩
        have : n.toNat = 0 := by (clear hle hi hz hb K; omega)
        simp [repL, this, Str.empty]
      · split
        · rename_i h1 h2
          refine ⟨_, rfl, Grow.same0, t, ?_⟩
          congr 1
          obtain ⟨c⟩ := x
          congr 1
          rcases Bool.or_eq_true_iff.mp h2 with h2 | h2
          · have : n.toNat = 1 := by have := beq_iff_eq.mp h2; exact d_eq (iEq (fun hzz => linI [_, _] [lt1 x0 (.n 1), le1 (.n 1) x1, le1 x1 x0] (Eq.refl true) hzz (Int.not_lt.mp h1) (tn_lo _)) (fun hzz => linI [_, _] [lt1 (.n 1) x0, eq1 x1 (.n 1), eq1 x0 x1] (Eq.refl true) hzz this (tn_eq (iLe fun hyy => linI [_] [lt1 x0 (.n 0), le1 (.n 1) x0] (Eq.refl true) hyy (Int.not_lt.mp h1)))))
            simp [repL, this]
          · have : c = #[] := Array.eq_empty_of_size_eq_zero (beq_iff_eq.mp h2)
            subst this
            simp [repL]
        · refine ⟨?_, _, rfl, Grow.same, s.toks, ?_⟩
          · show (List.foldl (fun x1 x2 => x1 ++ x2) #[] (List.replicate n.toNat x.cps)).size ≤ sizeLine
            rw [← Array.length_toList, fold_rep]
            simp only [List.nil_append, lm_len_rep_flat, Array.length_toList]
            show _ * x.length ≤ _
            rw [Nat.mul_comm]
            exact hle
          · congr 2
            rw [← Array.toList_inj, fold_rep]
            simp [repL]
  · by_cases hl : ∃ k n, d1 = .ref k ∧ d2 = .int n
    · obtain ⟨k, n, rfl, rfl⟩ := hl
      intro hb
      simp only [Rel] at r1 r2
      obtain ⟨a, rfl, e1⟩ := r1; obtain ⟨u, rfl⟩ := r2
      cases e : st.sto[k]? with
      | none => exact absurd (by unfold pMul; simp only [e]) hb
      | some ob =>
        cases ob with
        | list ds =>
          unfold pMul at hb ⊢; simp only [e] at hb ⊢
          have hz : inLong n = true ∧ ds.length * n.toNat ≤ 16777216 := by
            by_cases z : inLong n = true ∧ ds.length * n.toNat ≤ 16777216
            · exact z
            · exact absurd (if_neg z) hb
          rw [if_pos hz]
          obtain ⟨vs, ⟨nn, hl⟩, r⟩ := K.inv.sto k a _ e1 e
          refine mul_lst hl hz.1 (by rw [r.size]; exact hz.2) ?_
          exact inv_alloc_list (vs := (repL n vs.toList).toArray) (n := 0) K.inv (RelL.of_all2 (r.all2.rep _)) s.toks
        | _ => exact absurd (by unfold pMul; simp only [e]) hb
    · have e : pMul d1 d2 = pMulI d1 d2 := by
        cases d1 <;> cases d2 <;> first | rfl | exact absurd ⟨_, _, rfl, rfl⟩ hs | exact absurd ⟨_, _, rfl, rfl⟩ hl
      rw [e]
      exact bin_mulI C A P env s ρ st d1 d2 v1 v2 K r1 r2

/-! is -/
/-! == of ints, texts, truth values -/
noncomputable def pEq1 : D → D → Mn D
  | .bool a, .bool b => ret1 (.bool (a == b))
  | a, b => pEq0 a b
noncomputable def pNe1 : D → D → Mn D
  | .bool a, .bool b => ret1 (.bool (a != b))
  | a, b => pNe0 a b
theorem cmp_eq1 : CmpOk G .Eq pEq1 := fun C A P env s ρ st d1 d2 v1 v2 K r1 r2 => by
  by_cases h : ∃ a b, d1 = .bool a ∧ d2 = .bool b
  · obtain ⟨a, b, rfl, rfl⟩ := h
    cases (show v1 = .bool a from r1); cases (show v2 = .bool b from r2)
    exact At.leaf (fun hb => eq_bool ⟨_, rfl, Grow.same0, rfl⟩) K
  · have e : pEq1 d1 d2 = pEq0 d1 d2 := by cases d1 <;> cases d2 <;> first | rfl | exact absurd ⟨_, _, rfl, rfl⟩ h
    rw [e]
    exact cmp_eq0 C A P env s ρ st d1 d2 v1 v2 K r1 r2
theorem cmp_ne1 : CmpOk G .NotEq pNe1 := fun C A P env s ρ st d1 d2 v1 v2 K r1 r2 => by
  by_cases h : ∃ a b, d1 = .bool a ∧ d2 = .bool b
  · obtain ⟨a, b, rfl, rfl⟩ := h
    cases (show v1 = .bool a from r1); cases (show v2 = .bool b from r2)
    exact At.leaf (fun hb => ne_bool ⟨_, rfl, Grow.same0, rfl⟩) K
  · have e : pNe1 d1 d2 = pNe0 d1 d2 := by cases d1 <;> cases d2 <;> first | rfl | exact absurd ⟨_, _, rfl, rfl⟩ h
    rw [e]
    exact cmp_ne0 C A P env s ρ st d1 d2 v1 v2 K r1 r2
end
end Mine

end

/- part S1 -/
section
set_option Elab.async false
set_option linter.unusedVariables false
set_option maxRecDepth 10000
namespace Mine
open PySem PyProof.Rows

/-! the sort of a list of any length, for keys that differ and that a number ranks -/
structure SX where
  prog : Program
  w : World
  A : Around
  E : Value → Shared → Prop
  s : Shared
/-- a step of the sort that leaves the heap as it is -/
noncomputable def SW (X : SX) {α : Type} (m : StateT SortSt Sem α) (Q : α → SortSt → Prop) (st : SortSt) : Prop := wpS (model X.prog X.w) X.A X.E X.s m Q st
section
variable {X : SX}
/-- what a comparison answers -/
noncomputable def Cmp (X : SX) (k : Keyed → Int) (κ : SortKind) (S : Keyed → Prop) : Prop :=
  ∀ x y, S x → S y → ∀ (st : SortSt) (Q : Option Bool → SortSt → Prop), kindOf st = κ → Q (some (decide (k x < k y))) st → SW X (lt' x y) Q st
variable {k : Keyed → Int} {κ : SortKind} {S : Keyed → Prop}

section
variable {left : Bool} {key : Keyed} {arr : Array Keyed} {base n : Nat} {st : SortSt} {B : Nat → Bool}
end
end
end Mine

end

/- part S2 -/
section
set_option Elab.async false
set_option linter.unusedVariables false
set_option maxRecDepth 10000
namespace Mine
open PySem PyProof.Rows
/-! merging -/
section
variable {X : SX} {k : Keyed → Int} {κ : SortKind} {S : Keyed → Prop}
noncomputable def Srt (k : Keyed → Int) (l : List Keyed) : Prop := l.Pairwise (fun x y => k x ≤ k y)
noncomputable def Below (k : Keyed → Int) (l m : List Keyed) : Prop := ∀ x, x ∈ l → ∀ y, y ∈ m → k x ≤ k y
/-- only the gallop's number may differ -/
noncomputable def Same (st st' : SortSt) : Prop := kindOf st' = kindOf st ∧ arrOf st' = arrOf st ∧ pendingOf st' = pendingOf st ∧ failedOf st' = failedOf st
theorem Same.refl (st : SortSt) : Same st st := ⟨rfl, rfl, rfl, rfl⟩
theorem Same.trans {a b c : SortSt} (h : Same a b) (g : Same b c) : Same a c := ⟨g.1.trans h.1, g.2.1.trans h.2.1, g.2.2.1.trans h.2.2.1, g.2.2.2.trans h.2.2.2⟩
/-- the state of a merge of the lists a and b -/
structure MI (k : Keyed → Int) (a b out : List Keyed) (ia ib : Nat) : Prop where
  la : ia ≤ a.length
  lb : ib ≤ b.length
  perm : out.Perm (a.take ia ++ b.take ib)
  srt : Srt k out
  sa : Srt k a
  sb : Srt k b
  ba : Below k out (a.drop ia)
  bb : Below k out (b.drop ib)
theorem MI.symm {a b out : List Keyed} {ia ib : Nat} (m : MI k a b out ia ib) : MI k b a out ib ia := ⟨m.lb, m.la, m.perm.trans List.perm_append_comm, m.srt, m.sb, m.sa, m.bb, m.ba⟩
theorem MI.size {a b out : List Keyed} {ia ib : Nat} (m : MI k a b out ia ib) : out.length = ia + ib := by
  have := m.perm.length_eq
  have h1 := m.la
  have h2 := m.lb
  simp at this
  omega
theorem MI.goA {a b out out' : List Keyed} {ia ib : Nat} (m : MI k a b out ia ib) (n : Nat) (hn : ia + n ≤ a.length) (hle : Below k ((a.drop ia).take n) (b.drop ib)) (e : out' = out ++ (a.drop ia).take n) : MI k a b out' (ia + n) ib := by
  subst e
  have hsd : Srt k (a.drop ia) := m.sa.sublist (List.drop_sublist _ _)
  have hsp : a.drop ia = (a.drop ia).take n ++ a.drop (ia + n) := by rw [← List.drop_drop, List.take_append_drop]
  refine ⟨hn, m.lb, ?_, ?_, m.sa, m.sb, ?_, ?_⟩
  · rw [List.take_add]
    refine (m.perm.append_right _).trans ?_
    rw [List.append_assoc, List.append_assoc]
    exact (List.perm_append_comm).append_left _
  · refine List.pairwise_append.mpr ⟨m.srt, hsd.sublist (List.take_sublist _ _), fun x hx y hy => m.ba x hx y (List.mem_of_mem_take hy)⟩
  · intro x hx y hy
    rcases List.mem_append.mp hx with hx | hx
    · exact m.ba x hx y (by rw [hsp]; exact List.mem_append_right _ hy)
    · rw [hsp] at hsd
      exact (List.pairwise_append.mp hsd).2.2 x hx y hy
  · intro x hx y hy
    rcases List.mem_append.mp hx with hx | hx
    · exact m.bb x hx y hy
    · exact hle x hx y hy
theorem MI.goB {a b out out' : List Keyed} {ia ib : Nat} (m : MI k a b out ia ib) (n : Nat) (hn : ib + n ≤ b.length) (hle : Below k ((b.drop ib).take n) (a.drop ia)) (e : out' = out ++ (b.drop ib).take n) : MI k a b out' ia (ib + n) :=
  (m.symm.goA n hn hle e).symm
/-- what a merge gives -/
noncomputable def Merged (k : Keyed → Int) (a b out : List Keyed) : Prop := out.Perm (a ++ b) ∧ Srt k out
theorem MI.endB {a b out : List Keyed} {ia ib : Nat} (m : MI k a b out ia ib) (h : ib = b.length) : Merged k a b (out ++ a.drop ia) := by
  subst h
  refine ⟨?_, List.pairwise_append.mpr ⟨m.srt, m.sa.sublist (List.drop_sublist _ _), m.ba⟩⟩
  have := m.perm.append_right (a.drop ia)
  rw [List.take_length, List.append_assoc] at this
  refine this.trans ?_
  refine (List.perm_append_comm.append_left _).trans ?_
  rw [← List.append_assoc, List.take_append_drop]
theorem MI.endA {a b out : List Keyed} {ia ib : Nat} (m : MI k a b out ia ib) (h : ia = a.length) : Merged k a b (out ++ b.drop ib) :=
  let ⟨p, s⟩ := m.symm.endB h
  ⟨p.trans List.perm_append_comm, s⟩
/-- what is left of b fits below what is left of a -/
theorem MI.endL {a b out : List Keyed} {ia ib : Nat} (m : MI k a b out ia ib) (h : Below k (b.drop ib) (a.drop ia)) : Merged k a b (out ++ b.drop ib ++ a.drop ia) := by
  have m2 := m.goB (b.length - ib) (by have := m.lb; exact nLe fun hzz => linN [_, _, _] [lt1 x1 (.a x0 x2), eq1 (.a x2 x0) x1] (Eq.refl true) hzz (sub_eq (nLe fun hyy => linN [_, _] [lt1 x1 x0, le1 x0 x1] (Eq.refl true) hyy this))) (by rw [List.take_of_length_le (by simp)]; exact h) rfl
  have := m2.endB (by have := m.lb; exact nEq (fun hzz => linN [_, _, _] [lt1 (.a x0 x2) x1, le1 x1 (.a x2 x0)] (Eq.refl true) hzz (sub_lo _ _)) (fun hzz => linN [_, _, _] [lt1 x1 (.a x0 x2), eq1 (.a x2 x0) x1] (Eq.refl true) hzz (sub_eq (nLe fun hyy => linN [_, _] [lt1 x1 x0, le1 x0 x1] (Eq.refl true) hyy this))))
  rwa [List.take_of_length_le (l := b.drop ib) (by simp)] at this
theorem at_take1 {a : List Keyed} {i : Nat} {x : Keyed} (e : a[i]? = some x) : (a.drop i).take 1 = [x] := by
  obtain ⟨hi, rfl⟩ := List.getElem?_eq_some_iff.mp e
  rw [List.drop_eq_getElem_cons hi]
  rfl
theorem srt_below {a : List Keyed} (h : Srt k a) {i : Nat} {x : Keyed} (e : a[i]? = some x) : ∀ y, y ∈ a.drop i → k x ≤ k y := by
  obtain ⟨hi, rfl⟩ := List.getElem?_eq_some_iff.mp e
  intro y hy
  have := h.sublist (List.drop_sublist i a)
  rw [List.drop_eq_getElem_cons hi] at this hy
  rcases List.mem_cons.mp hy with rfl | hy
  · exact iLe fun hzz => linI [_] [lt1 x0 x0] (Eq.refl true) hzz
  · exact (List.pairwise_cons.mp this).1 y hy
theorem srt_le {a : List Keyed} (h : Srt k a) {i j : Nat} {x y : Keyed} (hij : i ≤ j) (e : a[i]? = some x) (e2 : a[j]? = some y) : k x ≤ k y := by
  refine srt_below h e y ?_
  obtain ⟨hj, rfl⟩ := List.getElem?_eq_some_iff.mp e2
  refine List.mem_iff_getElem.mpr ⟨j - i, by simp; exact nLt fun hzz => linN [_, _, _, _, _] [le1 x1 x0, lt1 x2 x3, le1 x3 (.a x1 x4), eq1 (.a x0 x4) x2] (Eq.refl true) hzz hj (sub_lo _ _) (sub_eq (nLe fun hyy => linN [_, _] [lt1 x1 x0, le1 x0 x1] (Eq.refl true) hyy hij)), by simp [show i + (j - i) = j by exact nEq (fun hzz => linN [_, _, _] [lt1 (.a x0 x2) x1, le1 x1 (.a x2 x0)] (Eq.refl true) hzz (sub_lo _ _)) (fun hzz => linN [_, _, _] [lt1 x1 (.a x0 x2), eq1 (.a x2 x0) x1] (Eq.refl true) hzz (sub_eq (nLe fun hyy => linN [_, _] [lt1 x1 x0, le1 x0 x1] (Eq.refl true) hyy hij)))]⟩
theorem below_nil {l : List Keyed} : Below k [] l := fun _ h => absurd h List.not_mem_nil
theorem Below.one {x : Keyed} {l : List Keyed} (h : ∀ y, y ∈ l → k x ≤ k y) : Below k [x] l := fun z hz y hy => by rw [List.mem_singleton.mp hz]; exact h y hy
theorem some_at {a : Array Keyed} {i : Nat} (h : i < a.size) : ∃ p, a.toList[i]? = some p := ⟨a[i], by simp [h]⟩
theorem ext_toList (a : Array Keyed) (i : Nat) : (a.extract i a.size).toList = a.toList.drop i := by
  rw [Array.toList_extract, List.extract_eq_take_drop, List.take_of_length_le]
  simp
theorem ext_size (a : Array Keyed) : (a.extract a.size a.size).toList = [] := by simp

/-- the fixed things of a merge from the front -/
structure LoV (X : SX) (k : Keyed → Int) (κ : SortKind) (S : Keyed → Prop) (a b : Array Keyed) (st : SortSt) (Q : Array Keyed → SortSt → Prop) : Prop where
  H : Cmp X k κ S
  hk : kindOf st = κ
  hSa : ∀ p, p ∈ a.toList → S p
  hSb : ∀ p, p ∈ b.toList → S p
  sa : Srt k a.toList
  sb : Srt k b.toList
  lastA : ∀ (out : Array Keyed) (ia ib : Nat) (st' : SortSt), MI k a.toList b.toList out.toList ia ib → ia + 1 = a.size → Same st st' → Q (out ++ b.extract ib b.size ++ a.extract ia a.size) st'
  doneB : ∀ (out : Array Keyed) (ia ib : Nat) (st' : SortSt), MI k a.toList b.toList out.toList ia ib → ib = b.size → Same st st' → Q (out ++ a.extract ia a.size ++ b.extract ib b.size) st'
  doneA : ∀ (out : Array Keyed) (ia ib : Nat) (st' : SortSt), MI k a.toList b.toList out.toList ia ib → ia = a.size → Same st st' → Q (out ++ a.extract ia a.size ++ b.extract ib b.size) st'
/-- a merge under way -/
structure LoM (k : Keyed → Int) (a b : Array Keyed) (st : SortSt) (x : Nat) (out : Array Keyed) (ia ib : Nat) (st' : SortSt) : Prop where
  s : Same st st'
  m : MI k a.toList b.toList out.toList ia ib
  ha : ia + 1 < a.size
  hb : ib < b.size
  hx : x < out.size
theorem LoM.step {a b : Array Keyed} {st st2 st3 : SortSt} {x ia ib : Nat} {out : Array Keyed} (m : LoM k a b st x out ia ib st2) (s : Same st2 st3) : LoM k a b st x out ia ib st3 := ⟨m.s.trans s, m.m, m.ha, m.hb, m.hx⟩
noncomputable abbrev LoC := Option (Array Keyed) × Array Keyed × Nat × Nat × Nat × Nat × Nat
noncomputable def LoI (k : Keyed → Int) (a b : Array Keyed) (st : SortSt) (x : Nat) (c : LoC) (st' : SortSt) : Prop := c.1 = none ∧ LoM k a b st x c.2.1 c.2.2.1 c.2.2.2.1 st'
noncomputable def LoE (k : Keyed → Int) (a b : Array Keyed) (st : SortSt) (Q : Array Keyed → SortSt → Prop) (x : Nat) (c : LoC) (st' : SortSt) : Prop :=
  (∃ r, c.1 = some r ∧ Q r st') ∨ (c.1 = none ∧ LoM k a b st x c.2.1 c.2.2.1 c.2.2.2.1 st')
noncomputable def LoR (k : Keyed → Int) (a b : Array Keyed) (st : SortSt) (Q : Array Keyed → SortSt → Prop) (x : Nat) (r : ForInStep LoC) (st' : SortSt) : Prop :=
  match r with | .done c' => LoE k a b st Q x c' st' | .yield c' => LoI k a b st x c' st'
theorem LoR.ret {a b : Array Keyed} {st : SortSt} {Q : Array Keyed → SortSt → Prop} {x ia ib mg ac bc : Nat} {r out : Array Keyed} {st' : SortSt} (h : Q r st') : LoR k a b st Q x (.done (some r, out, ia, ib, mg, ac, bc)) st' := .inl ⟨_, rfl, h⟩
theorem LoR.brk {a b : Array Keyed} {st : SortSt} {Q : Array Keyed → SortSt → Prop} {x ia ib mg ac bc : Nat} {out : Array Keyed} {st' : SortSt} (h : LoM k a b st x out ia ib st') : LoR k a b st Q x (.done (none, out, ia, ib, mg, ac, bc)) st' := .inr ⟨rfl, h⟩
theorem LoR.go {a b : Array Keyed} {st : SortSt} {Q : Array Keyed → SortSt → Prop} {x ia ib mg ac bc : Nat} {out : Array Keyed} {st' : SortSt} (h : LoM k a b st x out ia ib st') : LoR k a b st Q x (.yield (none, out, ia, ib, mg, ac, bc)) st' := ⟨rfl, h⟩
theorem LoM.less {a b : Array Keyed} {st st' : SortSt} {x ia ib : Nat} {out : Array Keyed} (m : LoM k a b st (x + 1) out ia ib st') : LoM k a b st x out ia ib st' := ⟨m.s, m.m, m.ha, m.hb, Nat.lt_of_succ_lt m.hx⟩
theorem LoR.less {a b : Array Keyed} {st : SortSt} {Q : Array Keyed → SortSt → Prop} {x : Nat} {st' : SortSt} : ∀ {r : ForInStep LoC}, LoR k a b st Q (x + 1) r st' → LoR k a b st Q x r st'
  | .done _, h => Or.imp id (fun h => ⟨h.1, h.2.less⟩) h
  | .yield _, h => ⟨h.1, h.2.less⟩
variable {a b : Array Keyed} {st : SortSt} {Q : Array Keyed → SortSt → Prop}
end
section
variable {X : SX} {k : Keyed → Int} {κ : SortKind} {S : Keyed → Prop}
theorem LoM.le {a b : Array Keyed} {st st' : SortSt} {x y ia ib : Nat} {out : Array Keyed} (m : LoM k a b st x out ia ib st') (h : y ≤ x) : LoM k a b st y out ia ib st' := ⟨m.s, m.m, m.ha, m.hb, Nat.lt_of_le_of_lt h m.hx⟩
noncomputable abbrev LoP := Option (Array Keyed) × Array Keyed × Nat × Nat × Nat × Nat
noncomputable def PoI (k : Keyed → Int) (a b : Array Keyed) (st : SortSt) (x : Nat) (c : LoP) (st' : SortSt) : Prop := c.1 = none ∧ LoM k a b st x c.2.1 c.2.2.1 c.2.2.2.1 st'
noncomputable def PoE (k : Keyed → Int) (a b : Array Keyed) (st : SortSt) (Q : Array Keyed → SortSt → Prop) (x : Nat) (c : LoP) (st' : SortSt) : Prop :=
  (∃ r, c.1 = some r ∧ Q r st') ∨ (c.1 = none ∧ LoM k a b st x c.2.1 c.2.2.1 c.2.2.2.1 st')
noncomputable def PoR (k : Keyed → Int) (a b : Array Keyed) (st : SortSt) (Q : Array Keyed → SortSt → Prop) (x y : Nat) (r : ForInStep LoP) (st' : SortSt) : Prop :=
  match r with | .done c' => PoE k a b st Q x c' st' | .yield c' => PoI k a b st y c' st'
variable {a b : Array Keyed} {st : SortSt} {Q : Array Keyed → SortSt → Prop}
theorem PoR.ret {x y ia ib ac bc : Nat} {r out : Array Keyed} {st' : SortSt} (h : Q r st') : PoR k a b st Q x y (.done (some r, out, ia, ib, ac, bc)) st' := .inl ⟨_, rfl, h⟩
theorem PoR.brk {x y ia ib ac bc : Nat} {out : Array Keyed} {st' : SortSt} (h : LoM k a b st x out ia ib st') : PoR k a b st Q x y (.done (none, out, ia, ib, ac, bc)) st' := .inr ⟨rfl, h⟩
theorem PoR.go {x y ia ib ac bc : Nat} {out : Array Keyed} {st' : SortSt} (h : LoM k a b st y out ia ib st') : PoR k a b st Q x y (.yield (none, out, ia, ib, ac, bc)) st' := ⟨rfl, h⟩
theorem LoV.of (H : Cmp X k κ S) (hk : kindOf st = κ) (hSa : ∀ p, p ∈ a.toList → S p) (hSb : ∀ p, p ∈ b.toList → S p) (sa : Srt k a.toList) (sb : Srt k b.toList)
    (ha0 : 0 < a.size) (hlast : ∀ x y, x ∈ b.toList → a.toList[a.size - 1]? = some y → k x ≤ k y)
    (h : ∀ out st', Merged k a.toList b.toList out.toList → Same st st' → Q out st') : LoV X k κ S a b st Q := by
  refine ⟨H, hk, hSa, hSb, sa, sb, fun out ia ib st' m e s => h _ st' ?_ s, fun out ia ib st' m e s => h _ st' ?_ s, fun out ia ib st' m e s => h _ st' ?_ s⟩
  · rw [Array.toList_append, Array.toList_append, ext_toList, ext_toList]
    refine m.endL (fun x hx y hy => ?_)
    obtain ⟨z, ez⟩ := some_at (a := a) (i := a.size - 1) (by exact nLt fun hzz => linN [_, _] [le1 x0 x1, eq1 (.a x1 (.n 1)) x0] (Eq.refl true) hzz (sub_eq (nLe fun hyy => linN [_] [lt1 x0 (.n 1), lt1 (.n 0) x0] (Eq.refl true) hyy ha0)))
    have e1 : a.toList.drop ia = [z] := by
      rw [show ia = a.size - 1 by exact nEq (fun hzz => linN [_, _, _] [lt1 x0 x1, qe1 (.a x0 (.n 1)) x2, eq1 (.a x1 (.n 1)) x2] (Eq.refl true) hzz e (sub_eq (nLe fun hyy => linN [_] [lt1 x0 (.n 1), lt1 (.n 0) x0] (Eq.refl true) hyy ha0))) (fun hzz => linN [_, _, _] [lt1 x1 x0, eq1 (.a x0 (.n 1)) x2, le1 x2 (.a x1 (.n 1))] (Eq.refl true) hzz e (sub_lo _ _)), ← at_take1 ez, List.take_of_length_le]
      simp; exact nLe fun hzz => linN [_, _] [lt1 (.a (.n 1) x1) x0, le1 x0 (.a x1 (.n 1))] (Eq.refl true) hzz (sub_lo _ _)
    rw [e1] at hy
    rw [List.mem_singleton.mp hy]
    exact hlast x z (List.mem_of_mem_drop hx) ez
  · subst e
    rw [Array.toList_append, Array.toList_append, ext_toList, ext_size, List.append_nil]
    exact m.endB Array.length_toList.symm
  · subst e
    rw [Array.toList_append, Array.toList_append, ext_size, ext_toList, List.append_nil]
    exact m.endA Array.length_toList.symm
theorem MI.start (sa : Srt k a.toList) (sb : Srt k b.toList) (hb0 : 0 < b.size) {b0 a0 : Keyed} (eb0 : b.toList[0]? = some b0) (ea0 : a.toList[0]? = some a0) (hf : k b0 ≤ k a0) : MI k a.toList b.toList [b0] 0 1 := by
  have : MI k a.toList b.toList [] 0 0 := ⟨Nat.zero_le _, Nat.zero_le _, .nil, List.Pairwise.nil, sa, sb, below_nil, below_nil⟩
  refine this.goB 1 (by rw [Array.length_toList]; exact hb0) ?_ (by rw [at_take1 eb0]; rfl)
  rw [at_take1 eb0]
  exact Below.one fun y hy => Int.le_trans hf (srt_below sa ea0 y hy)
end
end Mine

end

/- part S3 -/
section
set_option Elab.async false
set_option linter.unusedVariables false
set_option maxRecDepth 10000
namespace Mine
open PySem PyProof.Rows
section
variable {X : SX} {k : Keyed → Int} {κ : SortKind} {S : Keyed → Prop}
/-- a merge from behind: T is what lies ready -/
structure MH (k : Keyed → Int) (a b T : List Keyed) (na nb : Nat) : Prop where
  la : na ≤ a.length
  lb : nb ≤ b.length
  perm : T.Perm (a.drop na ++ b.drop nb)
  srt : Srt k T
  sa : Srt k a
  sb : Srt k b
  ba : Below k (a.take na) T
  bb : Below k (b.take nb) T
theorem MH.symm {a b T : List Keyed} {na nb : Nat} (m : MH k a b T na nb) : MH k b a T nb na := ⟨m.lb, m.la, m.perm.trans List.perm_append_comm, m.srt, m.sb, m.sa, m.bb, m.ba⟩
theorem MH.size {a b T : List Keyed} {na nb : Nat} (m : MH k a b T na nb) : T.length + na + nb = a.length + b.length := by
  have := m.perm.length_eq
  have h1 := m.la
  have h2 := m.lb
  simp at this
  exact nEq (fun hzz => linN [_, _, _, _, _, _, _] [lt1 (.a (.a x4 x0) x2) (.a x1 x3), qe1 x4 (.a x5 x6), le1 x1 (.a x5 x0), le1 x3 (.a x6 x2)] (Eq.refl true) hzz this (sub_lo _ _) (sub_lo _ _)) (fun hzz => linN [_, _, _, _, _, _, _] [lt1 (.a x1 x3) (.a (.a x4 x0) x2), eq1 x4 (.a x5 x6), eq1 (.a x5 x0) x1, eq1 (.a x6 x2) x3] (Eq.refl true) hzz this (sub_eq (nLe fun hyy => linN [_, _] [lt1 x1 x0, le1 x0 x1] (Eq.refl true) hyy h1)) (sub_eq (nLe fun hyy => linN [_, _] [lt1 x1 x0, le1 x0 x1] (Eq.refl true) hyy h2)))
theorem drop_seg {a : List Keyed} {m n : Nat} (h : m ≤ n) (hn : n ≤ a.length) : a.drop m = (a.take n).drop m ++ a.drop n := by
  have : (a.take n ++ a.drop n).drop m = (a.take n).drop m ++ a.drop n := List.drop_append_of_le_length (by simp; omega)
  rwa [List.take_append_drop] at this
theorem take_seg {a : List Keyed} {m n : Nat} (h : m ≤ n) : a.take n = a.take m ++ (a.take n).drop m := by
  have := List.take_append_drop m (a.take n)
  rw [List.take_take, Nat.min_eq_left h] at this
  exact this.symm
theorem MH.goA {a b T T' : List Keyed} {na nb : Nat} (m : MH k a b T na nb) (n : Nat) (hn : n ≤ na) (hle : Below k (b.take nb) ((a.take na).drop n)) (e : T' = (a.take na).drop n ++ T) : MH k a b T' n nb := by
  subst e
  have hst : Srt k (a.take na) := m.sa.sublist (List.take_sublist _ _)
  refine ⟨Nat.le_trans hn m.la, m.lb, ?_, ?_, m.sa, m.sb, ?_, ?_⟩
  · rw [drop_seg hn m.la, List.append_assoc]
    exact m.perm.append_left _
  · refine List.pairwise_append.mpr ⟨hst.sublist (List.drop_sublist _ _), m.srt, fun x hx y hy => m.ba x (List.mem_of_mem_drop hx) y hy⟩
  · intro x hx y hy
    rw [take_seg hn] at hst
    rcases List.mem_append.mp hy with hy | hy
    · exact (List.pairwise_append.mp hst).2.2 x hx y hy
    · exact m.ba x (by rw [take_seg hn]; exact List.mem_append_left _ hx) y hy
  · intro x hx y hy
    rcases List.mem_append.mp hy with hy | hy
    · exact hle x hx y hy
    · exact m.bb x hx y hy
theorem MH.goB {a b T T' : List Keyed} {na nb : Nat} (m : MH k a b T na nb) (n : Nat) (hn : n ≤ nb) (hle : Below k (a.take na) ((b.take nb).drop n)) (e : T' = (b.take nb).drop n ++ T) : MH k a b T' na n :=
  (m.symm.goA n hn hle e).symm
theorem MH.endA {a b T : List Keyed} {na nb : Nat} (m : MH k a b T na nb) (h : na = 0) : Merged k a b (b.take nb ++ T) := by
  subst h
  refine ⟨?_, List.pairwise_append.mpr ⟨m.sb.sublist (List.take_sublist _ _), m.srt, m.bb⟩⟩
  have := m.perm.append_left (b.take nb)
  refine this.trans ?_
  rw [List.drop_zero]
  refine (List.perm_append_comm).trans ?_
  rw [List.append_assoc]
  refine List.Perm.append_left _ ?_
  refine (List.perm_append_comm).trans ?_
  rw [List.take_append_drop]
theorem MH.endB {a b T : List Keyed} {na nb : Nat} (m : MH k a b T na nb) (h : nb = 0) : Merged k a b (a.take na ++ T) :=
  let ⟨p, s⟩ := m.symm.endA h
  ⟨p.trans List.perm_append_comm, s⟩
theorem MH.endF {a b T : List Keyed} {na nb : Nat} (m : MH k a b T na nb) (h : Below k (b.take nb) (a.take na)) : Merged k a b (b.take nb ++ a.take na ++ T) := by
  have m2 := m.goA 0 (Nat.zero_le _) (by rw [List.drop_zero]; exact h) rfl
  have := m2.endA rfl
  rw [List.drop_zero, ← List.append_assoc] at this
  exact this
theorem ext0 (a : Array Keyed) (n : Nat) : (a.extract 0 n).toList = a.toList.take n := by
  rw [Array.toList_extract, List.extract_eq_take_drop]; simp
structure HiV (X : SX) (k : Keyed → Int) (κ : SortKind) (S : Keyed → Prop) (a b : Array Keyed) (st : SortSt) (Q : Array Keyed → SortSt → Prop) : Prop where
  H : Cmp X k κ S
  hk : kindOf st = κ
  hSa : ∀ p, p ∈ a.toList → S p
  hSb : ∀ p, p ∈ b.toList → S p
  sa : Srt k a.toList
  sb : Srt k b.toList
  firstB : ∀ (out : Array Keyed) (na nb : Nat) (st' : SortSt), MH k a.toList b.toList out.toList.reverse na nb → nb = 1 → Same st st' → Q (b.extract 0 nb ++ a.extract 0 na ++ out.reverse) st'
  doneA : ∀ (out : Array Keyed) (na nb : Nat) (st' : SortSt), MH k a.toList b.toList out.toList.reverse na nb → na = 0 → Same st st' → Q (a.extract 0 na ++ b.extract 0 nb ++ out.reverse) st'
  doneB : ∀ (out : Array Keyed) (na nb : Nat) (st' : SortSt), MH k a.toList b.toList out.toList.reverse na nb → nb = 0 → Same st st' → Q (a.extract 0 na ++ b.extract 0 nb ++ out.reverse) st'
structure HiM (k : Keyed → Int) (a b : Array Keyed) (st : SortSt) (x : Nat) (out : Array Keyed) (na nb : Nat) (st' : SortSt) : Prop where
  s : Same st st'
  m : MH k a.toList b.toList out.toList.reverse na nb
  ha : 0 < na
  hb : 1 < nb
  hx : x < out.size
section
variable {a b : Array Keyed} {st st2 st3 : SortSt} {x na nb : Nat} {out : Array Keyed} {pa pb : Keyed}
theorem HiM.la (m : HiM k a b st x out na nb st2) : na ≤ a.size := by have := m.m.la; rwa [Array.length_toList] at this
theorem HiM.lb (m : HiM k a b st x out na nb st2) : nb ≤ b.size := by have := m.m.lb; rwa [Array.length_toList] at this
theorem HiM.step (m : HiM k a b st x out na nb st2) (s : Same st2 st3) : HiM k a b st x out na nb st3 := ⟨m.s.trans s, m.m, m.ha, m.hb, m.hx⟩
theorem HiM.le {y : Nat} (m : HiM k a b st x out na nb st2) (h : y ≤ x) : HiM k a b st y out na nb st2 := ⟨m.s, m.m, m.ha, m.hb, Nat.lt_of_le_of_lt h m.hx⟩
end
noncomputable abbrev HiC := Option (Array Keyed) × Nat × Nat × Array Keyed × Nat × Nat × Nat
noncomputable def HiI (k : Keyed → Int) (a b : Array Keyed) (st : SortSt) (x : Nat) (c : HiC) (st' : SortSt) : Prop := c.1 = none ∧ HiM k a b st x c.2.2.2.1 c.2.1 c.2.2.1 st'
noncomputable def HiE (k : Keyed → Int) (a b : Array Keyed) (st : SortSt) (Q : Array Keyed → SortSt → Prop) (x : Nat) (c : HiC) (st' : SortSt) : Prop :=
  (∃ r, c.1 = some r ∧ Q r st') ∨ (c.1 = none ∧ HiM k a b st x c.2.2.2.1 c.2.1 c.2.2.1 st')
noncomputable def HiR (k : Keyed → Int) (a b : Array Keyed) (st : SortSt) (Q : Array Keyed → SortSt → Prop) (x : Nat) (r : ForInStep HiC) (st' : SortSt) : Prop :=
  match r with | .done c' => HiE k a b st Q x c' st' | .yield c' => HiI k a b st x c' st'
variable {a b : Array Keyed} {st : SortSt} {Q : Array Keyed → SortSt → Prop}
theorem HiR.ret {x na nb mg ac bc : Nat} {r out : Array Keyed} {st' : SortSt} (h : Q r st') : HiR k a b st Q x (.done (some r, na, nb, out, mg, ac, bc)) st' := .inl ⟨_, rfl, h⟩
theorem HiR.brk {x na nb mg ac bc : Nat} {out : Array Keyed} {st' : SortSt} (h : HiM k a b st x out na nb st') : HiR k a b st Q x (.done (none, na, nb, out, mg, ac, bc)) st' := .inr ⟨rfl, h⟩
theorem HiR.go {x na nb mg ac bc : Nat} {out : Array Keyed} {st' : SortSt} (h : HiM k a b st x out na nb st') : HiR k a b st Q x (.yield (none, na, nb, out, mg, ac, bc)) st' := ⟨rfl, h⟩
theorem HiR.less {x : Nat} {st' : SortSt} : ∀ {r : ForInStep HiC}, HiR k a b st Q (x + 1) r st' → HiR k a b st Q x r st'
  | .done _, h => Or.imp id (fun h => ⟨h.1, h.2.le (Nat.le_succ _)⟩) h
  | .yield _, h => ⟨h.1, h.2.le (Nat.le_succ _)⟩
noncomputable abbrev HiP := Option (Array Keyed) × Nat × Nat × Array Keyed × Nat × Nat
noncomputable def HpI (k : Keyed → Int) (a b : Array Keyed) (st : SortSt) (x : Nat) (c : HiP) (st' : SortSt) : Prop := c.1 = none ∧ HiM k a b st x c.2.2.2.1 c.2.1 c.2.2.1 st'
noncomputable def HpE (k : Keyed → Int) (a b : Array Keyed) (st : SortSt) (Q : Array Keyed → SortSt → Prop) (x : Nat) (c : HiP) (st' : SortSt) : Prop :=
  (∃ r, c.1 = some r ∧ Q r st') ∨ (c.1 = none ∧ HiM k a b st x c.2.2.2.1 c.2.1 c.2.2.1 st')
noncomputable def HpR (k : Keyed → Int) (a b : Array Keyed) (st : SortSt) (Q : Array Keyed → SortSt → Prop) (x y : Nat) (r : ForInStep HiP) (st' : SortSt) : Prop :=
  match r with | .done c' => HpE k a b st Q x c' st' | .yield c' => HpI k a b st y c' st'
theorem HpR.ret {x y na nb ac bc : Nat} {r out : Array Keyed} {st' : SortSt} (h : Q r st') : HpR k a b st Q x y (.done (some r, na, nb, out, ac, bc)) st' := .inl ⟨_, rfl, h⟩
theorem HpR.brk {x y na nb ac bc : Nat} {out : Array Keyed} {st' : SortSt} (h : HiM k a b st x out na nb st') : HpR k a b st Q x y (.done (none, na, nb, out, ac, bc)) st' := .inr ⟨rfl, h⟩
theorem HpR.go {x y na nb ac bc : Nat} {out : Array Keyed} {st' : SortSt} (h : HiM k a b st y out na nb st') : HpR k a b st Q x y (.yield (none, na, nb, out, ac, bc)) st' := ⟨rfl, h⟩
theorem HiV.of (H : Cmp X k κ S) (hk : kindOf st = κ) (hSa : ∀ p, p ∈ a.toList → S p) (hSb : ∀ p, p ∈ b.toList → S p) (sa : Srt k a.toList) (sb : Srt k b.toList) {b0 a0 : Keyed} (eb0 : b.toList[0]? = some b0) (ea0 : a.toList[0]? = some a0) (hf : k b0 ≤ k a0)
    (h : ∀ out st', Merged k a.toList b.toList out.toList → Same st st' → Q out st') : HiV X k κ S a b st Q := by
  refine ⟨H, hk, hSa, hSb, sa, sb, fun out na nb st' m e s => h _ st' ?_ s, fun out na nb st' m e s => h _ st' ?_ s, fun out na nb st' m e s => h _ st' ?_ s⟩
  · rw [Array.toList_append, Array.toList_append, ext0, ext0, Array.toList_reverse]
    refine m.endF (fun x hx y hy => ?_)
    subst e
    have e1 : b.toList.take 1 = [b0] := by have := at_take1 eb0; rwa [List.drop_zero] at this
    rw [e1] at hx
    rw [List.mem_singleton.mp hx]
    exact Int.le_trans hf (srt_below sa ea0 y (by rw [List.drop_zero]; exact List.mem_of_mem_take hy))
  · rw [Array.toList_append, Array.toList_append, ext0, ext0, Array.toList_reverse]
    have := m.endA e
    subst e
    exact this
  · rw [Array.toList_append, Array.toList_append, ext0, ext0, Array.toList_reverse]
    have := m.endB e
    subst e
    rw [List.take_zero, List.append_nil]
    exact this
end
end Mine

end

/- part S4 -/
section
set_option Elab.async false
set_option linter.unusedVariables false
set_option maxRecDepth 10000
namespace Mine
open PySem PyProof.Rows
section
variable {X : SX} {k : Keyed → Int} {κ : SortKind} {S : Keyed → Prop}
/-- the key at a place -/
noncomputable def KA (k : Keyed → Int) (xs : Array Keyed) (i : Nat) : Int := match xs[i]? with
  | some p => k p
  | none => 0
theorem KA_congr {xs ys : Array Keyed} {i j : Nat} (h : xs[i]? = ys[j]?) : KA k xs i = KA k ys j := by unfold KA; rw [h]
noncomputable def SrtAt (k : Keyed → Int) (xs : Array Keyed) (lo hi : Nat) : Prop := ∀ i j, lo ≤ i → i ≤ j → j < hi → KA k xs i ≤ KA k xs j
/-- only places from lo to hi differ, and these by order alone -/
structure Chg (st st' : SortSt) (lo hi : Nat) : Prop where
  kind : kindOf st' = kindOf st
  failed : failedOf st' = failedOf st
  pend : pendingOf st' = pendingOf st
  perm : (arrOf st').toList.Perm (arrOf st).toList
  out : ∀ i, i < lo ∨ hi ≤ i → (arrOf st')[i]? = (arrOf st)[i]?
theorem Chg.refl (st : SortSt) (lo hi : Nat) : Chg st st lo hi := ⟨rfl, rfl, rfl, .refl _, fun _ _ => rfl⟩
theorem Chg.trans {a b c : SortSt} {lo hi : Nat} (x : Chg a b lo hi) (y : Chg b c lo hi) : Chg a c lo hi := ⟨y.kind.trans x.kind, y.failed.trans x.failed, y.pend.trans x.pend, y.perm.trans x.perm, fun i h => (y.out i h).trans (x.out i h)⟩
theorem Chg.size {a b : SortSt} {lo hi : Nat} (x : Chg a b lo hi) : (arrOf b).size = (arrOf a).size := by have := x.perm.length_eq; simpa using this
theorem Chg.mono {a b : SortSt} {lo hi lo' hi' : Nat} (x : Chg a b lo hi) (h1 : lo' ≤ lo) (h2 : hi ≤ hi') : Chg a b lo' hi' := ⟨x.kind, x.failed, x.pend, x.perm, fun i h => x.out i (by exact Or.elim h (fun hd15 => .inl (nLt fun hzz => linN [_, _, _] [le1 x0 x1, le1 x2 x0, lt1 x1 x2] (Eq.refl true) hzz h1 hd15)) (fun hd15 => .inr (nLe fun hzz => linN [_, _, _] [lt1 x1 x0, le1 x0 x2, le1 x2 x1] (Eq.refl true) hzz h2 hd15)))⟩
end
end Mine

end

/- part S5 -/
section
set_option Elab.async false
set_option linter.unusedVariables false
set_option maxRecDepth 10000
namespace Mine
open PySem PyProof.Rows
section
variable {X : SX} {k : Keyed → Int} {κ : SortKind} {S : Keyed → Prop}
theorem getT {L : List Keyed} {lo hi m : Nat} (h : lo + m < hi) : ((L.take hi).drop lo)[m]? = L[lo + m]? := by
  rw [List.getElem?_drop, List.getElem?_take_of_lt h]
theorem lenT {L : List Keyed} {lo hi i : Nat} {x : Keyed} (e : ((L.take hi).drop lo)[i]? = some x) : lo + i < hi := by
  have := (List.getElem?_eq_some_iff.mp e).1
  rw [List.length_drop, List.length_take] at this
  (clear e; omega)
theorem seg_add {L : List Keyed} {a b c : Nat} (h1 : a ≤ b) (h2 : b ≤ c) (h3 : c ≤ L.length) : (L.take c).drop a = (L.take b).drop a ++ (L.take c).drop b := by
  have hl : (L.take b).length = b := List.length_take_of_le (Nat.le_trans h2 h3)
  conv => lhs; rw [take_seg h2, List.drop_append_of_le_length (by exact nLe fun hzz => linN [_, _, _] [lt1 x1 x0, le1 x0 x2, qe1 x1 x2] (Eq.refl true) hzz h1 hl)]
theorem seg_split {l : List Keyed} {a b c : Nat} (h1 : a ≤ b) (h2 : b ≤ c) : l = l.take a ++ ((l.take b).drop a ++ (l.take c).drop b) ++ l.drop c := by
  have e1 : l.take c = l.take b ++ (l.take c).drop b := take_seg h2
  have e2 : l.take b = l.take a ++ (l.take b).drop a := take_seg h1
  rw [← List.append_assoc, ← e2, ← e1, List.take_append_drop]
theorem srt_join {A1 A2 B1 B2 M : List Keyed} {pa pb : Keyed} (sA : Srt k (A1 ++ A2)) (sB : Srt k (B1 ++ B2)) (m : Merged k A2 B1 M) (h1 : ∀ x, x ∈ A1 → k x ≤ k pb) (h2 : ∀ y, y ∈ B1 ++ B2 → k pb ≤ k y) (h3 : ∀ x, x ∈ A1 ++ A2 → k x ≤ k pa) (h4 : ∀ y, y ∈ B2 → k pa ≤ k y) : Srt k (A1 ++ M ++ B2) := by
  have a := List.pairwise_append.mp sA
  have b := List.pairwise_append.mp sB
  have hm : ∀ x, x ∈ M → x ∈ A2 ∨ x ∈ B1 := fun x hx => List.mem_append.mp (m.1.mem_iff.mp hx)
  refine List.pairwise_append.mpr ⟨List.pairwise_append.mpr ⟨a.1, m.2, fun x hx y hy => ?_⟩, b.2.1, fun x hx y hy => ?_⟩
  · rcases hm y hy with hy | hy
    · exact a.2.2 x hx y hy
    · exact Int.le_trans (h1 x hx) (h2 y (List.mem_append_left _ hy))
  · rcases List.mem_append.mp hx with hx | hx
    · exact Int.le_trans (h3 x (List.mem_append_left _ hx)) (h4 y hy)
    · rcases hm x hx with hx | hx
      · exact Int.le_trans (h3 x (List.mem_append_right _ hx)) (h4 y hy)
      · exact b.2.2 x hx y hy
theorem mid_take {L M : List Keyed} {p q lo hi : Nat} (h1 : lo ≤ p) (h2 : p ≤ q) (h3 : q ≤ hi) (h4 : hi ≤ L.length) (hM : M.length = q - p) : ((L.take p ++ M ++ L.drop q).take hi).drop lo = (L.take p).drop lo ++ M ++ (L.take hi).drop q := by
  have hl : (L.take p).length = p := List.length_take_of_le (by exact nLe fun hzz => linN [_, _, _, _] [lt1 x1 x0, le1 x0 x2, le1 x2 x3, le1 x3 x1] (Eq.refl true) hzz h2 h3 h4)
  have hl2 : (L.take p ++ M).length = q := by rw [List.length_append, hl, hM]; exact nEq (fun hzz => linN [_, _, _] [lt1 (.a x0 x2) x1, le1 x1 (.a x2 x0)] (Eq.refl true) hzz (sub_lo _ _)) (fun hzz => linN [_, _, _] [lt1 x1 (.a x0 x2), eq1 (.a x2 x0) x1] (Eq.refl true) hzz (sub_eq (nLe fun hyy => linN [_, _] [lt1 x1 x0, le1 x0 x1] (Eq.refl true) hyy h2)))
  rw [List.take_append, List.take_of_length_le (by exact nLe fun hzz => linN [_, _, _] [lt1 x0 x1, le1 x2 x0, eq1 x1 x2] (Eq.refl true) hzz h3 hl2), hl2, List.append_assoc, List.drop_append_of_le_length (by exact nLe fun hzz => linN [_, _, _] [lt1 x1 x0, le1 x0 x2, qe1 x1 x2] (Eq.refl true) hzz h1 hl), List.append_assoc, ← List.drop_take]
theorem mid_out {L M : List Keyed} {p q j : Nat} (h2 : p ≤ q) (h4 : q ≤ L.length) (hM : M.length = q - p) (h : j < p ∨ q ≤ j) : (L.take p ++ M ++ L.drop q)[j]? = L[j]? := by
  have hl : (L.take p).length = p := List.length_take_of_le (by exact nLe fun hzz => linN [_, _, _] [lt1 x1 x0, le1 x0 x2, le1 x2 x1] (Eq.refl true) hzz h2 h4)
  have hl2 : (L.take p ++ M).length = q := by rw [List.length_append, hl, hM]; exact nEq (fun hzz => linN [_, _, _] [lt1 (.a x0 x2) x1, le1 x1 (.a x2 x0)] (Eq.refl true) hzz (sub_lo _ _)) (fun hzz => linN [_, _, _] [lt1 x1 (.a x0 x2), eq1 (.a x2 x0) x1] (Eq.refl true) hzz (sub_eq (nLe fun hyy => linN [_, _] [lt1 x1 x0, le1 x0 x1] (Eq.refl true) hyy h2)))
  rcases h with h | h
  · rw [List.append_assoc, List.getElem?_append_left (by exact nLt fun hzz => linN [_, _, _] [le1 x0 x1, qe1 x0 x2, lt1 x1 x2] (Eq.refl true) hzz hl h), List.getElem?_take_of_lt h]
  · rw [List.getElem?_append_right (by exact nLe fun hzz => linN [_, _, _] [lt1 x1 x0, eq1 x0 x2, le1 x2 x1] (Eq.refl true) hzz hl2 h), hl2, List.getElem?_drop, Nat.add_sub_cancel' h]
theorem len_seg {L : List Keyed} {a b : Nat} (h : b ≤ L.length) : ((L.take b).drop a).length = b - a := by rw [List.length_drop, List.length_take_of_le h]
/-- what lies there when two neighbours are to be merged -/
structure AtV (k : Keyed → Int) (L : List Keyed) (sa sb hi r r2 : Nat) (pa pb : Keyed) : Prop where
  h1 : sa + r < sb
  h2 : 0 < r2
  h3 : sb + r2 ≤ hi
  h4 : hi ≤ L.length
  sA : Srt k ((L.take sb).drop sa)
  sB : Srt k ((L.take hi).drop sb)
  lowA : ∀ x, x ∈ (L.take (sa + r)).drop sa → k x ≤ k pb
  highB : ∀ x, x ∈ (L.take hi).drop (sb + r2) → k pa ≤ k x
  lowB : ∀ x, x ∈ (L.take (sb + r2)).drop sb → k x ≤ k pa
  highA : ∀ x, x ∈ (L.take sb).drop (sa + r) → k pb ≤ k x
  ea : L[sb - 1]? = some pa
  eb : L[sb]? = some pb
theorem AtV.splitA {L : List Keyed} {sa sb hi r r2 : Nat} {pa pb : Keyed} (V : AtV k L sa sb hi r r2 pa pb) : (L.take sb).drop sa = (L.take (sa + r)).drop sa ++ (L.take sb).drop (sa + r) :=
  seg_add (Nat.le_add_right _ _) (Nat.le_of_lt V.h1) (Nat.le_trans (Nat.le_add_right _ _) (Nat.le_trans V.h3 V.h4))
theorem AtV.splitB {L : List Keyed} {sa sb hi r r2 : Nat} {pa pb : Keyed} (V : AtV k L sa sb hi r r2 pa pb) : (L.take hi).drop sb = (L.take (sb + r2)).drop sb ++ (L.take hi).drop (sb + r2) :=
  seg_add (Nat.le_add_right _ _) V.h3 V.h4
theorem AtV.leA {L : List Keyed} {sa sb hi : Nat} {pa : Keyed} (hab : sa < sb) (sA : Srt k ((L.take sb).drop sa)) (ea : L[sb - 1]? = some pa) : ∀ x, x ∈ (L.take sb).drop sa → k x ≤ k pa := fun x hx => by
  obtain ⟨i, e⟩ := List.getElem?_of_mem hx
  have hi := lenT e
  refine srt_le sA (i := i) (j := sb - 1 - sa) (by exact nLe fun hzz => linN [_, _, _, _, _] [lt1 x1 x0, lt1 (.a x2 x0) x3, le1 x3 (.a x4 (.n 1)), le1 x4 (.a x1 x2)] (Eq.refl true) hzz hi (sub_lo _ _) (sub_lo _ _)) e ?_
  rw [getT (by exact nLt fun hzz => linN [_, _, _, _] [le1 x1 (.a x0 x2), eq1 (.a x3 (.n 1)) x1, eq1 (.a x2 x0) x3] (Eq.refl true) hzz (sub_eq (nLe fun hyy => linN [_, _] [lt1 x0 (.n 1), lt1 x1 x0, le1 (.n 0) x1] (Eq.refl true) hyy hab (Nat.zero_le _))) (sub_eq (nLe fun hyy => linN [_, _, _] [lt1 x1 x0, lt1 x0 x2, le1 x2 (.a x1 (.n 1))] (Eq.refl true) hyy hab (sub_lo _ _)))), show sa + (sb - 1 - sa) = sb - 1 by exact nEq (fun hzz => linN [_, _, _] [lt1 (.a x0 x1) x2, le1 x2 (.a x1 x0)] (Eq.refl true) hzz (sub_lo _ _)) (fun hzz => linN [_, _, _] [lt1 x2 (.a x0 x1), eq1 (.a x1 x0) x2] (Eq.refl true) hzz (sub_eq (nLe fun hyy => linN [_, _, _] [lt1 x1 x0, lt1 x0 x2, le1 x2 (.a x1 (.n 1))] (Eq.refl true) hyy hab (sub_lo _ _))))]; exact ea
theorem AtV.geB {L : List Keyed} {sb hi : Nat} {pb : Keyed} (hab : sb < hi) (sB : Srt k ((L.take hi).drop sb)) (eb : L[sb]? = some pb) : ∀ x, x ∈ (L.take hi).drop sb → k pb ≤ k x := fun x hx => by
  refine srt_below sB (i := 0) ?_ x hx
  rw [getT (by exact nLt fun hzz => linN [_, _] [le1 x1 (.a x0 (.n 0)), lt1 x0 x1] (Eq.refl true) hzz hab)]; exact eb
theorem AtV.done {L M : List Keyed} {sa sb hi r r2 : Nat} {pa pb : Keyed} (V : AtV k L sa sb hi r r2 pa pb) (m : Merged k ((L.take sb).drop (sa + r)) ((L.take (sb + r2)).drop sb) M) :
    (L.take (sa + r) ++ M ++ L.drop (sb + r2)).Perm L ∧ (∀ j, j < sa ∨ hi ≤ j → (L.take (sa + r) ++ M ++ L.drop (sb + r2))[j]? = L[j]?) ∧ Srt k (((L.take (sa + r) ++ M ++ L.drop (sb + r2)).take hi).drop sa) := by
  have h1 := V.h1
  have h2 := V.h2
  have h3 := V.h3
  have h4 := V.h4
  have hM : M.length = sb + r2 - (sa + r) := by
    rw [m.1.length_eq, List.length_append, len_seg (by exact nLe fun hzz => linN [_, _, _, _] [lt1 x1 x0, lt1 (.n 0) x2, le1 (.a x0 x2) x3, le1 x3 x1] (Eq.refl true) hzz h2 h3 h4), len_seg (by exact nLe fun hzz => linN [_, _, _, _] [lt1 x2 (.a x0 x1), le1 (.a x0 x1) x3, le1 x3 x2] (Eq.refl true) hzz h3 h4)]; exact nEq (fun hzz => linN [_, _, _, _, _, _, _] [lt1 (.a x0 x1) x2, le1 x5 (.a x0 (.a x3 x4)), le1 (.a x5 x6) (.a x1 x5), eq1 (.a x2 (.a x3 x4)) (.a x5 x6)] (Eq.refl true) hzz (sub_lo _ _) (sub_lo _ _) (sub_eq (nLe fun hyy => linN [_, _, _, _] [lt1 (.a x2 x3) (.a x0 x1), lt1 (.a x0 x1) x2, lt1 (.n 0) x3] (Eq.refl true) hyy h1 h2))) (fun hzz => linN [_, _, _, _, _, _, _] [lt1 x2 (.a x0 x1), le1 (.a x5 x6) (.a x2 (.a x3 x4)), eq1 (.a x0 (.a x3 x4)) x5, eq1 (.a x1 x5) (.a x5 x6)] (Eq.refl true) hzz (sub_lo _ _) (sub_eq (nLe fun hyy => linN [_, _, _] [lt1 x2 (.a x0 x1), lt1 (.a x0 x1) x2] (Eq.refl true) hyy h1)) (sub_eq (nLe fun hyy => linN [_, _] [lt1 (.a x0 x1) x0, lt1 (.n 0) x1] (Eq.refl true) hyy h2)))
  refine ⟨?_, fun j hj => mid_out (by exact nLe fun hzz => linN [_, _, _, _] [lt1 (.a x2 x3) (.a x0 x1), lt1 (.a x0 x1) x2, lt1 (.n 0) x3] (Eq.refl true) hzz h1 h2) (by exact nLe fun hzz => linN [_, _, _, _] [lt1 x2 (.a x0 x1), le1 (.a x0 x1) x3, le1 x3 x2] (Eq.refl true) hzz h3 h4) hM (by (clear hM h4 h2 h1 m V; exact Or.elim hj (fun hd1 => .inl (nLt fun hzz => linN [_, _, _] [le1 (.a x1 x2) x0, lt1 x0 x1, le1 (.n 0) x2] (Eq.refl true) hzz hd1 (Nat.zero_le _))) (fun hd1 => .inr (nLe fun hzz => linN [_, _, _, _] [lt1 x2 (.a x0 x1), le1 (.a x0 x1) x3, le1 x3 x2] (Eq.refl true) hzz h3 hd1)))), ?_⟩
  · have e4 := seg_split (l := L) (a := sa + r) (b := sb) (c := sb + r2) (Nat.le_of_lt h1) (Nat.le_add_right _ _)
    conv => rhs; rw [e4]
    exact (m.1.append_left _).append_right _
  · rw [mid_take (Nat.le_add_right _ _) (by exact nLe fun hzz => linN [_, _, _, _] [lt1 (.a x2 x3) (.a x0 x1), lt1 (.a x0 x1) x2, lt1 (.n 0) x3] (Eq.refl true) hzz h1 h2) h3 h4 hM]
    have ha := AtV.leA (hi := hi) (by exact nLt fun hzz => linN [_, _, _] [le1 x1 x0, lt1 (.a x0 x2) x1, le1 (.n 0) x2] (Eq.refl true) hzz h1 (Nat.zero_le _)) V.sA V.ea
    have hb := AtV.geB (by exact nLt fun hzz => linN [_, _, _] [le1 x1 x0, lt1 (.n 0) x2, le1 (.a x0 x2) x1] (Eq.refl true) hzz h2 h3) V.sB V.eb
    have sA := V.sA
    have sB := V.sB
    rw [V.splitA] at sA ha
    rw [V.splitB] at sB hb
    exact srt_join sA sB m V.lowA hb ha V.highB
end
end Mine

end

/- part S6 -/
section
set_option Elab.async false
set_option linter.unusedVariables false
set_option maxRecDepth 10000
namespace Mine
open PySem PyProof.Rows
section
variable {X : SX} {k : Keyed → Int} {κ : SortKind} {S : Keyed → Prop}
/-- sorted runs, one behind the other, from s to e -/
noncomputable def Runs3 (k : Keyed → Int) (xs : Array Keyed) : List (Nat × Nat × Nat) → Nat → Nat → Prop
  | [], s, e => s = e
  | q :: r, s, e => q.1 = s ∧ 0 < q.2.1 ∧ SrtAt k xs s (s + q.2.1) ∧ Runs3 k xs r (s + q.2.1) e
theorem Runs3.le {xs : Array Keyed} : ∀ {l : List (Nat × Nat × Nat)} {s e : Nat}, Runs3 k xs l s e → s + l.length ≤ e
  | [], s, e, h => by have : s = e := h; simp; exact nLe fun hzz => linN [_, _] [lt1 x1 x0, eq1 x0 x1] (Eq.refl true) hzz this
  | q :: r, s, e, h => by
    have := Runs3.le h.2.2.2
    have := h.2.1
    simp; omega
theorem Runs3.congr {xs ys : Array Keyed} : ∀ {l : List (Nat × Nat × Nat)} {s e : Nat}, Runs3 k xs l s e → (∀ j, s ≤ j → j < e → ys[j]? = xs[j]?) → Runs3 k ys l s e
  | [], s, e, h, _ => h
  | q :: r, s, e, h, hc => by
    have hle := Runs3.le h.2.2.2
    refine ⟨h.1, h.2.1, fun i j h1 h2 h3 => ?_, Runs3.congr h.2.2.2 fun j h1 h2 => hc j (by exact nLe fun hzz => linN [_, _, _] [lt1 x1 x0, le1 (.a x0 x2) x1, le1 (.n 0) x2] (Eq.refl true) hzz h1 (Nat.zero_le _)) h2⟩
    rw [KA_congr (hc i (by exact nLe fun hzz => linN [_, _] [lt1 x1 x0, le1 x0 x1] (Eq.refl true) hzz h1) (by exact nLt fun hzz => linN [_, _, _, _, _, _] [le1 x0 x1, le1 (.a (.a x2 x3) x4) x0, le1 x1 x5, lt1 x5 (.a x2 x3), le1 (.n 0) x4] (Eq.refl true) hzz hle h2 h3 (Nat.zero_le _))), KA_congr (hc j (by exact nLe fun hzz => linN [_, _, _] [lt1 x1 x0, le1 x0 x2, le1 x2 x1] (Eq.refl true) hzz h1 h2) (by exact nLt fun hzz => linN [_, _, _, _, _] [le1 x0 x1, le1 (.a (.a x2 x3) x4) x0, lt1 x1 (.a x2 x3), le1 (.n 0) x4] (Eq.refl true) hzz hle h3 (Nat.zero_le _)))]
    exact h.2.2.1 i j h1 h2 h3
theorem Runs3.app {xs : Array Keyed} : ∀ {l m : List (Nat × Nat × Nat)} {s e : Nat}, Runs3 k xs (l ++ m) s e ↔ ∃ u, Runs3 k xs l s u ∧ Runs3 k xs m u e
  | [], m, s, e => ⟨fun h => ⟨s, rfl, h⟩, fun ⟨u, h1, h2⟩ => by have : s = u := h1; subst this; exact h2⟩
  | q :: r, m, s, e => by
    constructor
    · rintro ⟨h1, h2, h3, h4⟩
      obtain ⟨u, h5, h6⟩ := Runs3.app.mp h4
      exact ⟨u, ⟨h1, h2, h3, h5⟩, h6⟩
    · rintro ⟨u, ⟨h1, h2, h3, h5⟩, h6⟩
      exact ⟨h1, h2, h3, Runs3.app.mpr ⟨u, h5, h6⟩⟩
/-- the state of the sort -/
structure OkS (k : Keyed → Int) (κ : SortKind) (a₀ : List Keyed) (st : SortSt) : Prop where
  perm : (arrOf st).toList.Perm a₀
  kind : kindOf st = κ
  failed : failedOf st = none
theorem OkS.size {a₀ : List Keyed} {st : SortSt} (h : OkS k κ a₀ st) : (arrOf st).size = a₀.length := by have := h.perm.length_eq; simpa using this

end
end Mine

end

/- part F21 -/
section
set_option Elab.async false
set_option linter.unusedVariables false
set_option maxRecDepth 10000
namespace Mine
open PySem PyProof.Rows

/-! sorted(x, key=f) where f gives pairs of numbers, all different -/
section
variable {prog : Program} {w : World} {A : Around} {E : Value → Shared → Prop} {s : Shared}
end
/-! lists that hang together -/
theorem All2.perm {α β : Type} {R : α → β → Prop} {l l' : List α} (p : l'.Perm l) : ∀ {m : List β}, All2 R l m → ∃ m', m'.Perm m ∧ All2 R l' m' := by
  induction p with
  | nil => intro m h; exact ⟨m, .refl _, h⟩
  | cons x p ih =>
    intro m h
    cases h with
    | cons r rs =>
      obtain ⟨m', p', h'⟩ := ih rs
      exact ⟨_, p'.cons _, .cons r h'⟩
  | swap x y l =>
    intro m h
    cases h with
    | cons r rs =>
      cases rs with
      | cons r' rs' => exact ⟨_, .swap _ _ _, .cons r' (.cons r rs')⟩
  | trans p q ih1 ih2 =>
    intro m h
    obtain ⟨m1, p1, h1⟩ := ih2 h
    obtain ⟨m2, p2, h2⟩ := ih1 h1
    exact ⟨m2, p2.trans p1, h2⟩
theorem All2.zip {α β γ δ : Type} {R : α → γ → Prop} {S : β → δ → Prop} {a : List α} {b : List β} {c : List γ} {d : List δ} (h : All2 R a c) : ∀ {b : List β} {d : List δ}, All2 S b d → All2 (fun x y => R x.1 y.1 ∧ S x.2 y.2) (a.zip b) (c.zip d) := by
  induction h with
  | nil => intro b d h; exact .nil
  | cons r rs ih =>
    intro b d h
    cases h with
    | nil => exact .nil
    | cons s ss => exact .cons ⟨r, s⟩ (ih ss)
end Mine

end

/- part F22 -/
section
set_option Elab.async false
set_option linter.unusedVariables false
set_option maxRecDepth 10000
namespace Mine
open PySem PyProof.Rows

section
variable {G : Gd} {A : Around} {env : Env} {s : Shared} {ρ : List Addr} {σ : Sto} {st : St}
theorem Bel.keep {h h' : Heap} {ρ' : List Addr} (b : Bel G A h ρ) (x : Ev [] h ρ h' ρ') : Bel G A h' ρ' := ⟨b.1, fun fs e => (b.2 fs e).keep x⟩
theorem Bel.only {h h' : Heap} (b : Bel G A h ρ) {S : List Addr} (x : Only S h h') (i : ∀ q, q ∈ S → Own G h ρ σ q) : Bel G A h' ρ := ⟨b.1, fun fs e en m => by
  obtain ⟨hk, L, o, es, n, hf, h0, hr, ho, hd⟩ := b.2 fs e en m
  exact ⟨hk, L, o, es, n, hf, h0, hr, x.1 L o (fun mm => ((i _ mm).ne_dict hr ho).1 _ _ hd) ho, hd⟩⟩

theorem upd_at_list {h : Heap} {q : Addr} {vs : Array Value} {n : Nat} (g : Array Value → Array Value) (e : h.get? q = some (lstO vs n)) : ∃ n', (h.update q (Obj.mapSeq g)).get? q = some (lstO (g vs) n') := ⟨_, get?_update_seq e g⟩

end
end Mine

end

/- part F23 -/
section
set_option Elab.async false
set_option linter.unusedVariables false
set_option maxRecDepth 10000
namespace Mine
open PySem PyProof.Rows

section
variable {G : Gd} {A : Around} {env : Env} {s : Shared} {ρ : List Addr} {σ : Sto} {st : St} {hs : Heap} {b kS : Addr} {e1 : Nat} {kvs : List Value} {ks : List (Int × Int)} {E : Value → Shared → Prop}
theorem Stb.trans {h h' h'' : Heap} {ρ ρ' ρ'' : List Addr} (x : Stb h ρ h' ρ') (y : Stb h' ρ' h'' ρ'') : Stb h ρ h'' ρ'' :=
  ⟨fun k a e => y.pre k a (x.pre k a e), fun a i n t => let ⟨n', t'⟩ := x.tup a i n t; y.tup a i n' t', fun a c n t => let ⟨n', t'⟩ := x.exc a c n t; y.exc a c n' t'⟩
end
end Mine

end

/- part F24 -/
section
set_option Elab.async false
set_option linter.unusedVariables false
set_option maxRecDepth 10000
namespace Mine
open PySem PyProof.Rows

section
variable {G : Gd} {C : Cx} {A : Around} {P : List Addr} {env : Env} {s : Shared} {ρ : List Addr} {st : St}
end
end Mine

end

/- part F25 -/
section
set_option Elab.async false
set_option linter.unusedVariables false
namespace Mine
open PySem PyProof.Rows

section
variable {G : Gd} {C : Cx} {A : Around} {P : List Addr} {env : Env} {s : Shared} {ρ : List Addr} {σ : Sto} {st : St}
/-! enumerate of a list -/
noncomputable def enumed (ds : List D) : List D := ds.zipIdx.map fun p => D.tup [.int p.2, p.1]
theorem enumed_get {ds : List D} {i : Nat} {d : D} (h : (enumed ds)[i]? = some d) : ∃ a, ds[i]? = some a ∧ d = .tup [.int i, a] := by
  simp only [enumed, List.getElem?_map, Option.map_eq_some_iff] at h
  obtain ⟨⟨a, j⟩, h, rfl⟩ := h
  rw [List.getElem?_zipIdx] at h
  obtain ⟨a', h1, h2⟩ := Option.map_eq_some_iff.mp h
  injection h2 with e1 e2
  subst e1
  rw [Nat.zero_add] at e2
  subst e2
  exact ⟨_, h1, rfl⟩
theorem enumed_len {ds : List D} : (enumed ds).length = ds.length := by simp [enumed]
structure EnS (G : Gd) (e it : Addr) (k : Nat) (ds : List D) (out : Option Addr) (rem : List D) (h : Heap) (ρ : List Addr) (σ : Sto) : Prop where
  ie : Itr G h ρ e
  ji : Itr G h ρ it
  s1 : σ[k]? = some (.list ds)
  ne : e ≠ it
  ex : ∃ l i old, ρ[k]? = some l ∧ h.IsListIter it l i ∧ (match out with | none => IsEnum h e it (i : Nat) old | some a => IsEnumOut h e it (i : Nat) old a) ∧ rem = (enumed ds).drop i
noncomputable def enumG (k : Nat) (ds : List D) (σ : Sto) : Prop := σ[k]? = some (.list ds)
theorem itx_enum {e it : Addr} {k : Nat} {ds : List D} : Itx G e [e, it] isTupleT (enumG k ds) (EnS G e it k ds none)
    (fun v rem h ρ σ => ∃ T, v = .ref T ∧ EnS G e it k ds (some T) rem h ρ σ) where
  own rem h ρ σ t q m := by
    simp only [List.mem_cons, List.not_mem_nil, or_false] at m
    rcases m with rfl | rfl
    · exact .inl (.inl t.ie)
    · exact .inl (.inl t.ji)
  ownM v rem h ρ σ t q m := by
    obtain ⟨T, rfl, t⟩ := t
    simp only [List.mem_cons, List.not_mem_nil, or_false] at m
    rcases m with rfl | rfl
    · exact .inl (.inl t.ie)
    · exact .inl (.inl t.ji)
  keep P rem s ρ σ s' ρ' σ' t I0 I' x N g := by
    obtain ⟨l, i, old, e1, h1, h2, e3⟩ := t.ex
    obtain ⟨ie', ee⟩ := t.ie.keep x N
    obtain ⟨ji', ej⟩ := t.ji.keep x N
    obtain ⟨o1, ho1, r1⟩ := h1
    exact ⟨ie', ji', g, t.ne, l, i, old, x.pre _ _ e1, ⟨o1, ej.trans ho1, r1⟩, ee.trans h2, e3⟩
  next A s ρ σ rem Q E hh I0 t h1 h2 := by
    obtain ⟨l, i, old, e1, hi1, he, e3⟩ := t.ex
    replace he : IsEnum s.heap e it i old := he
    obtain ⟨xs, hl1, r1⟩ := I0.sto k l _ e1 t.s1
    have np : ∀ q, q ∈ [e, it] → ¬ Prv s.heap q := fun q m p => by
      simp only [List.mem_cons, List.not_mem_nil, or_false] at m
      rcases m with rfl | rfl
      · exact absurd p t.ie.notPrv
      · exact absurd p t.ji.notPrv
    cases rem with
    | nil =>
      have hend : xs[i]? = none := by
        have h3 := drop_nil e3
        rw [enumed_len, ← r1.size] at h3
        simp; omega
      refine wpAny_szd (wpAny_pyNext_enum_end hh he hi1 hl1.list hend fun h' hk zz => ?_)
      exact h1 rfl h' s.toks ⟨fun c o n ee => hk c o (fun q => n (by simp [q])) ee, zz, fun q m p => absurd p (np q m)⟩
    | cons d rest =>
      obtain ⟨hd, hr⟩ := drop_cons e3
      obtain ⟨da, ha, rfl⟩ := enumed_get hd
      obtain ⟨va, hva, ra⟩ := r1.all2.get i da ha
      refine wpAny_pyNext_enum_item he hi1 hl1.list (by simpa using hva) t.ne fun h' a1 a2 a3 a4 hk => ?_
      have ho : Only [e, it] s.heap h' := ⟨fun c o n ee => hk c o (fun q => n (by simp [q])) (fun q => n (by simp [q])) ee, by rw [a4]; exact Nat.le_succ _, fun q m p => absurd p (np q m)⟩
      have own : ∀ q, q ∈ [e, it] → Own G s.heap ρ σ q := fun q m => by
        simp only [List.mem_cons, List.not_mem_nil, or_false] at m
        rcases m with rfl | rfl
        · exact .inl (.inl t.ie)
        · exact .inl (.inl t.ji)
      have S := ho.stb own
      refine h2 _ rest rfl (.ref s.heap.objs.size) h' (s.toks + 1) ho ?_ ⟨_, rfl, ?_⟩
      · simp only [Rel]
        refine ⟨_, #[.int i s.toks, va], rfl, I0.size_notin, ⟨0, a3⟩, ?_⟩
        simp only [RelL, Rel]
        exact ⟨_, _, rfl, ⟨_, rfl⟩, _, _, rfl, Rel.mono S _ _ ra, rfl⟩
      · have it1 : Itr G h' ρ it := by obtain ⟨o, ho, hc, hd⟩ := a2; exact ⟨t.ji.1, t.ji.2.1, o, _, _, ho, hc, by decide, hd⟩
        exact ⟨⟨t.ie.1, t.ie.2.1, _, _, _, a1, rfl, by decide, rfl⟩, it1, t.s1, t.ne, l, i + 1, va, e1, a2, a1, hr⟩
  go A s ρ σ tgt v rest Q E ht I0 t h := by
    obtain ⟨T, rfl, t⟩ := t
    obtain ⟨elts, k', pos, rfl⟩ := ht
    obtain ⟨l, i, old, e1, hi1, he, e3⟩ := t.ex
    replace he : IsEnumOut s.heap e it i old T := he
    refine wpAny_letOwnedTupleGo_enum he fun h' hz' hs' => h h' ⟨fun b o n ee => hs'.extBut _ _ (fun q => n (by simp [q])) ee, Nat.le_of_eq hs'.1.symm, fun q m p => ?_⟩ ?_
    · obtain ⟨x, y, p⟩ := p
      by_cases hq : q = e
      · subst hq; exact absurd ⟨x, y, p⟩ t.ie.notPrv
      · exact ⟨x, y, hs'.extBut _ _ hq p⟩
    · obtain ⟨_, _, o1, T1, vs1, ho1, hc1, hT1, hd1⟩ := id t.ji
      exact ⟨⟨t.ie.1, t.ie.2.1, _, _, _, hz', rfl, by decide, rfl⟩, ⟨t.ji.1, t.ji.2.1, o1, T1, vs1, hs'.extBut _ _ (Ne.symm t.ne) ho1, hc1, hT1, hd1⟩, t.s1, t.ne, l, i, old, e1, hi1.extBut hs'.extBut (Ne.symm t.ne), hz', e3⟩
theorem pyIter_enum {e it : Addr} {i : Int} {old : Value} {Q : Value → Shared → Prop} {E : Value → Shared → Prop} (he : IsEnum s.heap e it i old) (h : Q (.ref e) s) : wpAny G.M A (pyIter (.ref e)) Q E s := wpAny_pyIter_enum he h
theorem self_enum {e it : Addr} {k : Nat} {ds : List D} : ItSelf G e (EnS G e it k ds none) := fun A s ρ σ rem Q E hh t h => by
  obtain ⟨l, i, old, e1, hi1, he, e3⟩ := t.ex
  exact pyIter_enum he h

noncomputable def pEnum : List D → Mn Src
  | [.ref k] => fun st => match st.sto[k]? with
    | some (.list a) => .ok ⟨enumed a, enumG k a⟩ st
    | _ => .bot
  | _ => botM
theorem ts_enum : TSrc G "enumerate" isTupleT pEnum := fun C A P env s ρ st ds vs hC K r hb => by
  match ds, r with
  | [], _ => exact absurd rfl hb
  | [d], r =>
    simp only [RelL] at r
    obtain ⟨v1, _, rfl, r1, rfl⟩ := r
    cases d <;> first | exact absurd rfl hb | skip
    rename_i k
    simp only [Rel] at r1
    obtain ⟨l1, rfl, e1⟩ := r1
    obtain ⟨a, q1⟩ : ∃ a, st.sto[k]? = some (.list a) := by
      cases q1 : st.sto[k]? with
      | none => exact absurd (by simp only [pEnum, q1]) hb
      | some o1 =>
        cases o1 <;> first | exact ⟨_, rfl⟩ | exact absurd (by simp only [pEnum, q1]) hb
    obtain ⟨xs, hl1, rr1⟩ := K.inv.sto k l1 _ e1 q1
    refine call_enumerate_list hl1.list fun h' he hi hsz hk => ?_
    refine pyIter_enum he ?_
    have zz : s.heap.objs.size ≤ h'.objs.size := by rw [hsz]; exact Nat.le_add_right _ _
    have g : Grow s.heap h' := hk
    have hnew : ∀ j, s.heap.objs.size + j ∉ ρ := fun j m => Nat.lt_irrefl _ (Nat.lt_of_lt_of_le (K.inv.mem_lt m) (Nat.le_add_right _ j))
    have h0 : ∀ j, G.h0.get? (s.heap.objs.size + j) = none := fun j => K.inv.h0_le (Nat.le_add_right _ _)
    obtain ⟨o1, ho1, hc1, hd1⟩ := id hi
    refine ⟨_, ⟨enumed a, enumG k a⟩, _, s.heap.objs.size + 1, [s.heap.objs.size + 1, s.heap.objs.size], _, _, by simp only [pEnum, q1], K.inv.grow g zz s.toks, g.ev zz, rfl, itx_enum, self_enum, ?_, fun q m => ?_⟩
    · exact ⟨⟨h0 1, hnew 1, _, _, _, he, rfl, by decide, rfl⟩, ⟨h0 0, hnew 0, o1, _, _, ho1, hc1, by decide, hd1⟩, q1, Nat.ne_of_gt (Nat.lt_succ_self _), l1, 0, .none, e1, hi, he, rfl⟩
    · simp only [List.mem_cons, List.not_mem_nil, or_false] at m
      rcases m with rfl | rfl
      · exact Nat.le_add_right _ _
      · exact Nat.le_refl _
  | a :: b :: l, _ => exact absurd (by cases a <;> rfl) hb
end
end Mine

end

/- part F26 -/
section
set_option Elab.async false
set_option linter.unusedVariables false
set_option maxRecDepth 10000
namespace Mine
open PySem PyProof.Rows

/-! values as data -/
mutual
noncomputable def flatD : D → Option PyData
  | .none => some .none
  | .bool b => some (.bool b)
  | .int i => some (.int i)
  | .str x => some (.str x)
  | .tup ds => (flatDs ds).map .tuple
  | .ref _ => none
  | .scr _ => none
  | .exc _ => none
noncomputable def flatDs : List D → Option (List PyData)
  | [] => some []
  | d :: ds => (flatD d).bind fun x => (flatDs ds).map (x :: ·)
end
mutual
theorem flat_reads {G : Gd} {h : Heap} {ρ : List Addr} : ∀ (d : D) (v : Value) (p : PyData), flatD d = some p → Rel G h ρ d v → ∃ as, Reads h v p as
  | .none, v, p, e, r => by simp only [flatD, Option.some.injEq] at e; subst e; simp only [Rel] at r; subst r; exact ⟨_, .none⟩
  | .bool b, v, p, e, r => by simp only [flatD, Option.some.injEq] at e; subst e; simp only [Rel] at r; subst r; exact ⟨_, .bool b⟩
  | .int i, v, p, e, r => by simp only [flatD, Option.some.injEq] at e; subst e; simp only [Rel] at r; obtain ⟨t, rfl⟩ := r; exact ⟨_, .int i t⟩
  | .str x, v, p, e, r => by simp only [flatD, Option.some.injEq] at e; subst e; simp only [Rel] at r; obtain ⟨t, rfl⟩ := r; exact ⟨_, .str x t⟩
  | .tup ds, v, p, e, r => by
    simp only [flatD, Option.map_eq_some_iff] at e
    obtain ⟨ps, e1, rfl⟩ := e
    simp only [Rel] at r
    obtain ⟨a, vs, rfl, _, ⟨n, ho⟩, r2⟩ := r
    obtain ⟨as, ra⟩ := flats_reads ds _ ps e1 r2
    exact ⟨_, .tuple ho rfl rfl ra⟩
  | .ref _, _, _, e, _ => by simp [flatD] at e
  | .scr _, _, _, e, _ => by simp [flatD] at e
  | .exc _, _, _, e, _ => by simp [flatD] at e
theorem flats_reads {G : Gd} {h : Heap} {ρ : List Addr} : ∀ (ds : List D) (vs : List Value) (ps : List PyData), flatDs ds = some ps → RelL G h ρ ds vs → ∃ as, ReadsAll h vs ps as
  | [], vs, ps, e, r => by simp only [flatDs, Option.some.injEq] at e; subst e; simp only [RelL] at r; subst r; exact ⟨_, .nil⟩
  | d :: ds, vs, ps, e, r => by
    simp only [flatDs, Option.bind_eq_some_iff, Option.map_eq_some_iff] at e
    obtain ⟨x, e1, xs, e2, rfl⟩ := e
    simp only [RelL] at r
    obtain ⟨v, r', rfl, r1, r2⟩ := r
    obtain ⟨as, h1⟩ := flat_reads d v x e1 r1
    obtain ⟨bs, h2⟩ := flats_reads ds r' xs e2 r2
    exact ⟨_, .cons h1 h2⟩
end
section
variable {G : Gd} {C : Cx} {A : Around} {P : List Addr} {env : Env} {s : Shared} {ρ : List Addr} {st : St}
/-! calls of types that give values -/
noncomputable def TF (G : Gd) (T : String) (F : List D → Mn D) : Prop :=
  ∀ C A P env s ρ st ds vs, Ok G C A P env s ρ st → RelL G s.heap ρ ds vs → At G A env s ρ st (RV G) (call (.type T) vs) (F ds)
theorem se_tcall {T : String} {f : Str} {F : List D → Mn D} {e : Expr} {es : List Expr} {ms : Mn (List D)} {np pos : Pos} (hg : BuiIs G f (.type T)) (hn : C.names.lookup f = some .globalImplicit) (hd : (f == ("__debug__" : Str)) = false)
    (hF : TF G T F) (hs : SA G C (e :: es) ms) (hst : ∀ env, starEach (e :: es) env = (false, eval e env) :: starEach es env) (hpl : ∀ env, (backTo pos (starEach es env)).any (·.1) = false) :
    SE G C (.Call (.Name f np) (e :: es) [] pos) (bnd ms F) := .mk <| fun A P env s ρ st K hb => by
  show wpAny G.M A (eval (.Name f np) env >>= fun fv => callWith pos fv [] (backTo pos (starEach (e :: es) env)) []) _ _ s
  refine wpAny_bind (name_bui K hg hn hd ?_)
  have hev : backTo pos (starEach (e :: es) env) = (false, eval e env) :: backTo pos (starEach es env) := by rw [hst]; rfl
  have h1 := hs.run A P env s ρ st pos K (bnd_ne_bot hb)
  rw [hev] at h1 ⊢
  refine PySem.callWith_type (by show (false || _) = false; rw [Bool.false_or]; exact hpl env) (Calls.evalArgs_plain (wpAny_mono h1 (fun vs s' q => ?_) fun x s' q => ?_))
  · refine OkE.elim q fun ρ' ds σ' e' I' x' r => ?_
    have K' := K.step I' x'
    have e2 : bnd ms F st = F ds ⟨st.loc, σ'⟩ := by simp only [bnd, e']
    rw [e2] at hb ⊢
    refine wpAny_mono (hF C A P env s' ρ' ⟨st.loc, σ'⟩ ds vs K' r hb) (fun w s'' q => ?_) fun w s'' q => ?_
    · exact OkE.tr q x'
    · exact ExcE.tr q x'
  · exact ExcE.bnd q
noncomputable def pListOf : List D → Mn D
  | [.ref k] => fun st => match st.sto[k]? with
    | some (.list ds) => if ds.length ≤ sizeLine then allocL ds st else .bot
    | _ => .bot
  | [.tup ds] => if ds.length ≤ sizeLine then allocL ds else botM
  | _ => botM
theorem list_new {h' : Heap} {ds : List D} {vs : Array Value} {n : Nat} (K : Ok G C A P env s ρ st) (g : Grow s.heap h') (hb : h'.get? s.heap.objs.size = some (lstO vs n)) (r : RelL G s.heap ρ ds vs.toList) :
    OkE G s ρ st (RV G) (allocL ds st) (.ref s.heap.objs.size) { s with heap := h' } := by
  have z : s.heap.objs.size ≤ h'.objs.size := Nat.le_of_lt (Heap.lt_size hb)
  have I1 := K.inv.grow g z s.toks
  obtain ⟨I2, S2⟩ := I1.adopt (q := s.heap.objs.size) (p := .list ds) K.inv.h0_size K.inv.size_notin (fun o ho => by
    have ho' : h'.get? s.heap.objs.size = some o := ho
    rw [hb] at ho'; cases ho'; exact ⟨by simp, fun c z => by cases z⟩) (fun S => ⟨vs, ⟨n, hb⟩, RelL.mono S _ _ (RelL.mono g.stb _ _ r)⟩) s.toks
  refine ⟨ρ ++ [s.heap.objs.size], .ref st.sto.length, st.sto ++ [.list ds], rfl, I2, ev_adopt (g.ev z) (Nat.le_refl _), ?_⟩
  show Rel _ _ _ _ _
  simp only [Rel]
  exact ⟨_, rfl, by rw [← K.inv.len]; simp⟩
theorem tf_list : TF G "list" pListOf := fun C A P env s ρ st ds vs K r hb => by
  match ds, r with
  | [.ref k], r =>
    simp only [RelL, Rel] at r
    obtain ⟨v, r', rfl, ⟨a, rfl, hk⟩, rfl⟩ := r
    cases hds : st.sto[k]? with
    | none => exact absurd (by unfold pListOf; simp only [hds]) hb
    | some o =>
      cases o with
      | list ls =>
        by_cases hl : ls.length ≤ sizeLine
        · obtain ⟨vs, ⟨n, ho⟩, rr⟩ := K.inv.sto k a _ hk hds
          refine call_list_seq a (.inl rfl) ho rfl rfl (fun h' c' hkeep hD => ?_) (by rw [rr.size]; exact hl)
          have := list_new K hkeep hD rr
          have e : pListOf [.ref k] st = allocL ls st := by unfold pListOf; simp only [hds, hl, if_true]
          rw [e]
          exact this
        · exact absurd (by unfold pListOf; simp only [hds, hl, if_false]) hb
      | _ => exact absurd (by unfold pListOf; simp only [hds]) hb
  | [.tup ls], r =>
    simp only [RelL, Rel] at r
    obtain ⟨v, r', rfl, ⟨a, vs, rfl, _, ⟨n, ho⟩, rr⟩, rfl⟩ := r
    by_cases hl : ls.length ≤ sizeLine
    · refine call_list_seq a (.inr rfl) ho rfl rfl (fun h' c' hkeep hD => ?_) (by rw [rr.size]; exact hl)
      have := list_new K hkeep hD rr
      have e : pListOf [.tup ls] st = allocL ls st := by unfold pListOf; simp only [hl, if_true]
      rw [e]
      exact this
    · exact absurd (by unfold pListOf; simp only [hl, if_false]; rfl) hb
  | [], _ => exact absurd rfl hb
  | .none :: _, _ => exact absurd rfl hb
  | .bool _ :: _, _ => exact absurd rfl hb
  | .int _ :: _, _ => exact absurd rfl hb
  | .str _ :: _, _ => exact absurd rfl hb
  | .scr _ :: _, _ => exact absurd rfl hb
  | .exc _ :: _, _ => exact absurd rfl hb
  | .ref _ :: _ :: _, _ => exact absurd rfl hb
  | .tup _ :: _ :: _, _ => exact absurd rfl hb
noncomputable def pIntOf : List D → Mn D
  | [.bool b] => ret1 (.int (if b then 1 else 0))
  | _ => botM
theorem tf_int : TF G "int" pIntOf := fun C A P env s ρ st ds vs K r => by
  refine At.leaf (fun hb => ?_) K
  match ds, r with
  | [.bool b], r =>
    simp only [RelL, Rel] at r
    obtain ⟨v, r', rfl, rfl, rfl⟩ := r
    exact call_int_bool ⟨_, rfl, Grow.same, ⟨_, rfl⟩⟩
  | [], _ => exact absurd rfl hb
  | .none :: _, _ => exact absurd rfl hb
  | .ref _ :: _, _ => exact absurd rfl hb
  | .int _ :: _, _ => exact absurd rfl hb
  | .str _ :: _, _ => exact absurd rfl hb
  | .scr _ :: _, _ => exact absurd rfl hb
  | .exc _ :: _, _ => exact absurd rfl hb
  | .tup _ :: _, _ => exact absurd rfl hb
  | .bool _ :: _ :: _, _ => exact absurd rfl hb
noncomputable def pAbs : List D → Mn D
  | [.int a] => ret1 (.int (if a < 0 then -a else a))
  | _ => botM
theorem bf_abs : BF G "abs" pAbs := fun C A P env s ρ st ds vs hC K r => by
  refine At.leaf (fun hb => ?_) K
  match ds, r with
  | [.int a], r =>
    simp only [RelL, Rel] at r
    obtain ⟨v, r', rfl, ⟨t, rfl⟩, rfl⟩ := r
    exact call_abs_int fun u tk => ⟨_, rfl, Grow.same, ⟨_, rfl⟩⟩
  | [], _ => exact absurd rfl hb
  | .none :: _, _ => exact absurd rfl hb
  | .ref _ :: _, _ => exact absurd rfl hb
  | .bool _ :: _, _ => exact absurd rfl hb
  | .str _ :: _, _ => exact absurd rfl hb
  | .scr _ :: _, _ => exact absurd rfl hb
  | .exc _ :: _, _ => exact absurd rfl hb
  | .tup _ :: _, _ => exact absurd rfl hb
  | .int _ :: _ :: _, _ => exact absurd rfl hb
end
end Mine

end

/- part F27 -/
section
set_option Elab.async false
set_option linter.unusedVariables false
set_option maxRecDepth 10000
namespace Mine
open PySem PyProof.Rows

/-! methods of lists -/
noncomputable def pAppend (k : Nat) (x : D) : Mn D := fun st => match st.sto[k]? with
  | some (.list ds) => if ds.length ≤ sizeLine then .ok .none ⟨st.loc, st.sto.set k (.list (ds ++ [x]))⟩ else .bot
  | _ => .bot
/-- what is to be a list now -/
noncomputable def lstM (F : Nat → Mn D) : D → Mn D
  | .ref k => fun st => match st.sto[k]? with
    | some (.list _) => F k st
    | _ => .bot
  | _ => botM
noncomputable def noneM : D → Mn Fl
  | .none => ret1 .next
  | _ => botM
section
variable {G : Gd} {C : Cx} {A : Around} {P : List Addr} {env : Env} {s : Shared} {ρ : List Addr} {st : St}
theorem put_list {k : Nat} {a : Addr} {vs : Array Value} {n : Nat} {ds : List D} {g : Array Value → Array Value} (K : Ok G C A P env s ρ st) (hk : ρ[k]? = some a) (ho : s.heap.get? a = some (lstO vs n))
    (r : ∀ (S : Stb s.heap ρ (s.heap.update a (Obj.mapSeq g)) ρ), RelL G (s.heap.update a (Obj.mapSeq g)) ρ ds (g vs).toList) :
    Inv G { s with heap := s.heap.update a (Obj.mapSeq g) } ρ (st.sto.set k (.list ds)) ∧ Ev [] s.heap ρ (s.heap.update a (Obj.mapSeq g)) ρ := by
  obtain ⟨n', hu⟩ := upd_at_list g ho
  obtain ⟨I, x⟩ := K.inv.put (k := k) (a := a) (p := .list ds) hk (Heap.SameBut.update s.heap a (Obj.mapSeq g)) (fun S => ⟨g vs, ⟨n', hu⟩, r S⟩) s.toks
  exact ⟨I, x []⟩
theorem se_append {o e : Expr} {mo me : Mn D} {apos pos : Pos} (ho : SE G C o mo) (he : SE G C e me)
    (hbase : ∀ env, attributeBase o (Str.ofString "append") env (eval o env) = eval o env) (hst : ∀ env, starEach [e] env = [(false, eval e env)])
    (hfew : ∀ env, methodCallForm ([e].length + ([] : List Keyword).length) (backTo pos (starEach [e] env)) (backToKw pos (keywordEach [] env)) = true) (hline : (apos.endLine == pos.line) = true) :
    SE G C (.Call (.Attribute o (Str.ofString "append") apos) [e] [] pos) (bnd mo (lstM fun k => bnd me (pAppend k))) := .mk <| fun A P env s ρ st K hb => by
  refine wpAny_Call_method_lateS (hbase env) (hfew env) hline (wpAny_mono (ho.run A P env s ρ st K (bnd_ne_bot hb)) (fun ov s' q => ?_) fun x s' q => ?_)
  · refine OkE.elim q fun ρ' d σ' e' I' x' r => ?_
    have K' := K.step I' x'
    have e2 : bnd mo (lstM fun k => bnd me (pAppend k)) st = lstM (fun k => bnd me (pAppend k)) d ⟨st.loc, σ'⟩ := by simp only [bnd, e']
    rw [e2] at hb ⊢
    have hev : backTo pos (starEach [e] env) = [(false, eval e env)] := by rw [hst]; rfl
    cases d with
    | ref k =>
      simp only [Rel] at r
      obtain ⟨a, rfl, hk⟩ := r
      cases hp : σ'[k]? with
      | none => exact absurd (by unfold lstM; simp only [hp]) hb
      | some p =>
        cases p with
        | list ds0 =>
          have e5 : lstM (fun k => bnd me (pAppend k)) (.ref k) ⟨st.loc, σ'⟩ = bnd me (pAppend k) ⟨st.loc, σ'⟩ := by unfold lstM; simp only [hp]
          rw [e5] at hb ⊢
          obtain ⟨vs, ⟨n, hl⟩, _⟩ := I'.sto k a _ hk hp
          refine ⟨"list", "list.append", F.plainAttrs_list, F.slot_list_append, F.type_list_append, ⟨_, hl, rfl⟩, (fun a' ea => by cases ea; exact ⟨_, hl, rfl⟩), ?_⟩
          rw [hev]
          refine PySem.P.append_list (wpAny_mono (he.run A P env s' ρ' ⟨st.loc, σ'⟩ K' (bnd_ne_bot hb)) (fun v s'' q => ?_) fun y s'' q => ?_)
          · refine OkE.elim q fun ρ'' dx σ'' e3 I'' x'' rx => ?_
            have K'' := K'.step I'' x''
            have e4 : bnd me (pAppend k) ⟨st.loc, σ'⟩ = pAppend k dx ⟨st.loc, σ''⟩ := by simp only [bnd, e3]
            rw [e4] at hb ⊢
            have hk'' := x''.pre k a hk
            cases hds : σ''[k]? with
            | none => exact absurd (by unfold pAppend; simp only [hds]) hb
            | some oo =>
              cases oo with
              | list ds =>
                by_cases hlen : ds.length ≤ sizeLine
                · obtain ⟨ws, ⟨m, how⟩, rw'⟩ := I''.sto k a _ hk'' hds
                  refine ⟨ws, m, by rw [rw'.size]; exact hlen, how, ?_⟩
                  obtain ⟨I3, x3⟩ := put_list (ds := ds ++ [dx]) (g := fun xs => xs.push v) K'' hk'' how (fun S => by
                    have := RelL.of_all2 ((RelL.all2 (RelL.mono S _ _ rw')).append (.cons (Rel.mono S _ _ rx) .nil))
                    simpa using this)
                  exact ⟨ρ'', .none, _, by unfold pAppend; simp only [hds, hlen, if_true], I3, (x'.trans x'').trans x3, rfl⟩
                · exact absurd (by unfold pAppend; simp only [hds, hlen, if_false]) hb
              | _ => exact absurd (by unfold pAppend; simp only [hds]) hb
          · exact ExcE.tr (ExcE.bnd q) x'
        | _ => exact absurd (by unfold lstM; simp only [hp]) hb
    | _ => exact absurd rfl hb
  · exact ExcE.bnd q
theorem ss_expr {e : Expr} {pos : Pos} {m : Mn D} (h : SE G C e m) (hsw : ∀ env, swapsWith e none pos.line env = pure false) : SS G C (.Expr e pos) (bnd m noneM) := .mk <| fun A P env s ρ st K W hb => by
  refine wpAny_Expr ?_ (by unfold interactive; rw [K.frm.kind]; rfl) (hsw env)
  refine wpAny_mono (h.run A P env s ρ st K (bnd_ne_bot hb)) (fun v s' q => ?_) fun x s' q => ?_
  · refine OkE.elim q fun ρ' d σ' e I' x' r => ?_
    have e2 : bnd m noneM st = noneM d ⟨st.loc, σ'⟩ := by simp only [bnd, e]
    rw [e2] at hb ⊢
    cases d with
    | none =>
      cases (show v = .none from r)
      exact ⟨ρ', .next, ⟨st.loc, σ'⟩, rfl, I', x'.nil, K.frm.keep K.inv x', rfl⟩
    | _ => exact absurd rfl hb
  · exact ExcE.toS K q
end
end Mine

end

/- part F30 -/
section
set_option Elab.async false
set_option linter.unusedVariables false
set_option maxRecDepth 10000
namespace Mine
open PySem PySem.W PyProof.Rows

/-! a lambda of one name -/
section
variable {G : Gd} {C : Cx} {A : Around} {P : List Addr} {env : Env} {s : Shared} {ρ : List Addr} {σ : Sto} {st : St}
/-! the making of a lambda: the table of its def's code notes the code -/
end
end Mine

end

/- part C1 -/
section
set_option Elab.async false
set_option linter.unusedVariables false
set_option maxRecDepth 10000
namespace Mine
open PySem PyProof.Rows

/-! from the text to what it does: one function for all texts -/
noncomputable def ob {α β : Type} (o : Option α) (f : α → Option β) : Option β := match o with
  | some a => f a
  | none => none
theorem ob_some {α β : Type} {o : Option α} {f : α → Option β} {b : β} (h : ob o f = some b) : ∃ a, o = some a ∧ f a = some b := by
  cases o with
  | none => cases h
  | some a => exact ⟨a, rfl, h⟩
theorem ob_el {α β : Type} {o : Option α} {f : α → Option β} {b : β} {P : Prop} (h : ob o f = some b) (k : ∀ a, o = some a → f a = some b → P) : P := let ⟨a, x, y⟩ := ob_some h; k a x y
noncomputable def gd {α : Type} (c : Bool) (o : Option α) : Option α := match c with
  | true => o
  | false => none
theorem gd_el {α : Type} {c : Bool} {o : Option α} {a : α} {P : Prop} (h : gd c o = some a) (k : c = true → o = some a → P) : P := by
  cases c with
  | true => exact k rfl h
  | false => cases h
theorem some_el {α : Type} {a b : α} {P : α → Prop} (h : some a = some b) (k : P a) : P b := by cases h; exact k
theorem none_el {α : Type} {b : α} {P : Prop} (h : none = some b) : P := by cases h
theorem and_el {a b : Bool} {P : Prop} (h : (a && b) = true) (k : a = true → b = true → P) : P := by
  cases a with
  | true => exact k rfl h
  | false => cases h
theorem not_true {b : Bool} (h : (!b) = true) : b = false := by cases b <;> first | rfl | cases h

noncomputable def ixOf (x : Str) : List Str → Option Nat
  | [] => none
  | y :: r => match y == x with
    | true => some 0
    | false => ob (ixOf x r) fun i => some (i + 1)
theorem ixOf_get {x : Str} : ∀ {l : List Str} {i : Nat}, ixOf x l = some i → l[i]? = some x
  | [], i, h => by cases h
  | y :: r, i, h => by
    unfold ixOf at h
    cases e : y == x with
    | true => rw [e] at h; cases h; simp [beq_iff_eq.mp e]
    | false => rw [e] at h; exact ob_el h fun j hj h => some_el (P := fun i => (y :: r)[i]? = some x) h (by simpa using ixOf_get hj)

noncomputable def notStar : Expr → Bool
  | .Starred _ _ => false
  | _ => true
theorem star_cons {e : Expr} {es : List Expr} (h : notStar e = true) (env : Env) : starEach (e :: es) env = (false, eval e env) :: starEach es env := by cases e <;> first | rfl | cases h
theorem assign_cons {e : Expr} {es : List Expr} (h : notStar e = true) (env : Env) : assignEach (e :: es) env = (false, assign e env) :: assignEach es env := by cases e <;> first | rfl | cases h
theorem star_plain {pos : Pos} (env : Env) : ∀ {es : List Expr}, es.all notStar = true → (backTo pos (starEach es env)).any (·.1) = false
  | [], _ => rfl
  | e :: es, h => and_el h fun h1 h2 => by
    rw [star_cons h1]
    show (false || (backTo pos (starEach es env)).any (·.1)) = false
    rw [Bool.false_or]; exact star_plain env h2
theorem star_all {pos : Pos} (env : Env) : ∀ {es : List Expr}, es.all notStar = true → (backTo pos (starEach es env)).all (!·.1) = true
  | [], _ => rfl
  | e :: es, h => and_el h fun h1 h2 => by
    rw [star_cons h1]
    show (true && (backTo pos (starEach es env)).all (!·.1)) = true
    rw [Bool.true_and]; exact star_all env h2
theorem few_ok {pos : Pos} (env : Env) {es : List Expr} (h : es.all notStar = true) (hl : decide (es.length < 30) = true) : methodCallForm (es.length + ([] : List Keyword).length) (backTo pos (starEach es env)) (backToKw pos (keywordEach [] env)) = true := by
  unfold methodCallForm
  rw [star_all env h]
  exact hl
noncomputable def notSet : Expr → Bool
  | .Set _ _ _ => false
  | _ => true
theorem folded_ok {e : Expr} (h : notSet e = true) (env : Env) (x : Value) : foldedSetIterable e env x = pure x := by cases e <;> first | rfl | cases h
noncomputable def notComp : Expr → Bool
  | .ListComp _ _ _ _ => false
  | .SetComp _ _ _ _ => false
  | .DictComp _ _ _ _ _ => false
  | _ => true
theorem swaps_no {e : Expr} (h : notComp e = true) (t : Option Expr) (l : Nat) (env : Env) : swapsWith e t l env = pure false := by cases e <;> first | rfl | cases h
noncomputable def baseB : Expr → Bool
  | .Call _ as _ _ => !as.isEmpty
  | _ => true
theorem base_ok {o : Expr} {name : Str} (h : baseB o = true) (env : Env) : attributeBase o name env (eval o env) = eval o env := by
  generalize eval o env = w
  cases o with
  | Call f as ks p =>
    cases as with
    | nil => cases h
    | cons a r => cases f <;> rfl
  | _ => rfl
noncomputable def plainTest : Expr → Bool
  | .UnaryOp .Not _ _ => false
  | .BoolOp _ _ _ => false
  | .IfExp _ _ _ _ => false
  | .Compare _ _ _ _ => false
  | _ => true
theorem test_ok {e : Expr} (h : plainTest e = true) (env : Env) (w : Sem Value) : isTrue e env w = (do let v ← w; standAt e.pos; holding [v] (truthy v)) := by
  cases e with
  | UnaryOp op x p => cases op <;> first | rfl | cases h
  | BoolOp _ _ _ => cases h
  | IfExp _ _ _ _ => cases h
  | Compare _ _ _ _ => cases h
  | _ => rfl
noncomputable def notSlice : Expr → Bool
  | .Slice _ _ _ _ => false
  | _ => true
theorem subs_ok {e : Expr} (h : notSlice e = true) (o i : Value) : subscripted e false o i = operate [o, i] (getItem o i) := by cases e <;> first | rfl | cases h

structure Den where
  e : Cx → Expr → Option (Mn D)
  b : Cx → Expr → Option (Mn Bool)
  s : Cx → List Stmt → Option (Mn Fl)
structure DenOk (G : Gd) (X : Den) : Prop where
  e : ∀ C x m, X.e C x = some m → SE G C x m
  b : ∀ C x m, X.b C x = some m → SB G C x m
  s : ∀ C x m, X.s C x = some m → SSs G C x m

/-- the text's own names, and what they stand for; what of the built-in ones the text uses -/
structure Tb where
  fns : List (Str × (Addr × Nat × (List D → Mn D)))
  nums : List (Str × Int)
  bf : List (Str × (String × (List D → Mn D)))
  tv : List (Str × (String × (List D → Mn D)))
  ts : List (Str × (String × Bool × (List D → Mn Src)))
  sm : List (Str × (String × (Str → List D → Mn D)))
  ty : List (Str × String)
  bin : Operator → Option (D → D → Mn D)
  cmp : CmpOp → Option (D → D → Mn D)
  /-- a call of a method that no text has -/
  me : Str → Mn D → List (Mn D) → Option (Mn D)
  /-- sorted with a key -/
  so : (List D → Mn D) → Option (List D → Mn D)
  /-- sorted with a lambda -/
  sl : (Cx → Expr → Option (Mn D)) → Cx → Expr → Option (List D → Mn D)
  /-- further expressions and statements -/
  xe : Den → Cx → Expr → Option (Mn D)
  xs : Den → Cx → Stmt → Option (Mn Fl)
noncomputable def isTup : Expr → Bool
  | .Tuple _ _ _ => true
  | _ => false
/-- sorted with a key of the text's own -/
noncomputable def SortOk (G : Gd) (F F' : List D → Mn D) : Prop := ∀ (C : Cx) (g : Str) (f : Addr) (n : Nat) (e : Expr) (ms : Mn (List D)) (sp np pos kp : Pos), C.names.lookup (Str.ofString "sorted") = some .globalImplicit → GlobIs G g (.ref f) → C.names.lookup g = some .globalImplicit → (g == ("__debug__" : Str)) = false → SF G n f F → C.inh = false → n + 1 ≤ C.lvl → SA G C [e] ms → (∀ env, starEach [e] env = [(false, eval e env)]) →
  SE G C (.Call (.Name (Str.ofString "sorted") sp) [e] [⟨some (Str.ofString "key"), .Name g np, kp⟩] pos) (bnd ms F')
structure TbOk (G : Gd) (T : Tb) : Prop where
  fns : ∀ f a n F, T.fns.lookup f = some (a, n, F) → GlobIs G f (.ref a) ∧ (∃ o fd, G.h0.get? a = some o ∧ o.data = .func fd) ∧ SF G n a F
  nums : ∀ x i, T.nums.lookup x = some i → ∃ t, GlobIs G x (.int i t)
  bf : ∀ f n F, T.bf.lookup f = some (n, F) → BuiIs G f (.builtin n) ∧ BF G n F
  tv : ∀ f n F, T.tv.lookup f = some (n, F) → BuiIs G f (.type n) ∧ TF G n F
  ts : ∀ f n b F, T.ts.lookup f = some (n, b, F) → BuiIs G f (.type n) ∧ ∃ tg, TSrc G n tg F ∧ ∀ t, (!b || isTup t) = true → tg t
  sm : ∀ f n F, T.sm.lookup f = some (n, F) → SM G f n F
  ty : ∀ f n, T.ty.lookup f = some n → BuiIs G f (.type n) ∧ TyF n
  isi : BuiIs G (Str.ofString "isinstance") (.builtin "isinstance")
  bin : ∀ op f, T.bin op = some f → BinOk G op f
  cmp : ∀ op f, T.cmp op = some f → CmpOk G op f
  me : ∀ C o as name mo ms m apos pos, SE G C o mo → All2 (fun a m => SE G C a m) as ms → T.me name mo ms = some m → baseB o = true → as.all notStar = true → decide (as.length < 30) = true → (apos.endLine == pos.line) = true → SE G C (.Call (.Attribute o name apos) as [] pos) m
  so : ∀ F F', T.so F = some F' → SortOk G F F'
  sl : ∀ X C v F e ms sp pos kp, (∀ C x m, X C x = some m → SE G C x m) → T.sl X C v = some F → C.names.lookup (Str.ofString "sorted") = some .globalImplicit → SA G C [e] ms → (∀ env, starEach [e] env = [(false, eval e env)]) →
    SE G C (.Call (.Name (Str.ofString "sorted") sp) [e] [⟨some (Str.ofString "key"), v, kp⟩] pos) (bnd ms F)
  xe : ∀ X C e m, DenOk G X → T.xe X C e = some m → SE G C e m
  xs : ∀ X C t m, DenOk G X → T.xs X C t = some m → SS G C t m

noncomputable def isGlob (C : Cx) (x : Str) : Bool := match C.names.lookup x with
  | some .globalImplicit => true
  | _ => false
theorem isGlob_iff {C : Cx} {x : Str} (h : isGlob C x = true) : C.names.lookup x = some .globalImplicit := by
  unfold isGlob at h
  cases e : C.names.lookup x with
  | none => rw [e] at h; cases h
  | some k => rw [e] at h; cases k <;> first | rfl | cases h
noncomputable def nameK (T : Tb) (C : Cx) (x : Str) : NameKind → Option (Mn D)
  | .local => ob (ixOf x C.tbl) fun i => some (pvar i)
  | .cell => gd (!(x == ("__classdict__" : Str))) (ob (ixOf x C.tbl) fun i => some (pvar i))
  | .free => gd (!(x == ("__classdict__" : Str))) (ob (ixOf x C.tbl) fun i => some (pvar i))
  | .globalImplicit => ob (T.nums.lookup x) fun i => some (ret1 (.int i))
  | _ => none
noncomputable def nameM (T : Tb) (C : Cx) (x : Str) : Option (Mn D) := gd (!(x == ("__debug__" : Str))) (ob (C.names.lookup x) (nameK T C x))


section
variable (T : Tb) (X : Den) (C : Cx)
noncomputable def argsM : List Expr → Option (Mn (List D))
  | [] => some nilM
  | e :: es => gd (notStar e) (ob (X.e C e) fun m => ob (argsM es) fun ms => some (consM m ms))
noncomputable def eachM : List Expr → Option (List (Mn D))
  | [] => some []
  | e :: es => ob (X.e C e) fun m => ob (eachM es) fun ms => some (m :: ms)
noncomputable def tgtK (b : Bool) (x : Str) : NameKind → Option (D → Loc → Option Loc)
  | .local => ob (ixOf x C.tbl) fun i => some (nameT i)
  | .cell => gd b (ob (ixOf x C.tbl) fun i => some (nameT i))
  | _ => none
noncomputable def tgt1 (b : Bool) : Expr → Option (D → Loc → Option Loc)
  | .Name x _ => ob (C.names.lookup x) (tgtK C b x)
  | _ => none
noncomputable def tgtsM (b : Bool) : List Expr → Option (List D → Loc → Option Loc)
  | [] => some noneL
  | t :: r => ob (tgt1 C b t) fun f => ob (tgtsM b r) fun g => some (consL f g)
noncomputable def tgtM (b : Bool) : Expr → Option (D → Loc → Option Loc)
  | .Tuple ts _ _ => gd (!C.inh) (ob (tgtsM C b ts) fun f => some (tupT ts.length f))
  | .Name x p => tgt1 C b (.Name x p)
  | _ => none
noncomputable def srcF (tgt : Expr) (as : List Expr) (f : Str) : Option (String × Bool × (List D → Mn Src)) → Option (Mn Src)
  | some (_, b, F) => gd (!C.inh && (!b || isTup tgt) && !(f == ("__debug__" : Str)) && isGlob C f && as.all notStar && !as.isEmpty) (ob (argsM X C as) fun ms => some (bnd ms F))
  | none => none
/-- the head of a call by a name, with no keywords -/
noncomputable def headOf : Expr → Option (Str × List Expr)
  | .Call (.Name f _) as [] _ => some (f, as)
  | _ => none
noncomputable def srcM (tgt e : Expr) : Option (Mn Src) := match ob (headOf e) fun p => ob (T.ts.lookup p.1) fun q => some (p, q) with
  | some (p, q) => srcF X C tgt p.2 p.1 (some q)
  | none => ob (X.e C e) fun m => some (bnd m srcOf)
noncomputable def tstM : List Expr → Option (Mn Bool)
  | [] => some (ret1 true)
  | c :: r => gd r.isEmpty (X.b C c)
noncomputable def clsFrom (names : List (Str × NameKind)) : Nat → List Str → List Nat
  | _, [] => []
  | i, x :: r => bif names.lookup x == some .local then i :: clsFrom names (i + 1) r else clsFrom names (i + 1) r
noncomputable def lcM (elt : Expr) (gs : List Comprehension) (scope : Scope) : Option (Mn D) := match gs with
  | [] => none
  | g :: r => gd (!C.inh && r.isEmpty && g.is_async == 0 && compB C scope (clsFrom scope.names 0 C.tbl) && notSet g.iter)
    (ob (srcM T X C g.target g.iter) fun mi => ob (tgtM ⟨scope.names, C.tbl, C.lvl, C.inh, C.code, C.qual⟩ false g.target) fun tf => ob (tstM X ⟨scope.names, C.tbl, C.lvl, C.inh, C.code, C.qual⟩ g.ifs) fun mt => ob (X.e ⟨scope.names, C.tbl, C.lvl, C.inh, C.code, C.qual⟩ elt) fun me => some (bnd mi (compD (clsFrom scope.names 0 C.tbl) tf mt me)))
noncomputable def bopV : BoolOp → Mn D → Mn D → Mn D
  | .And => andV
  | .Or => orV
noncomputable def bopM : BoolOp → Mn Bool → Mn Bool → Mn Bool
  | .And => andM
  | .Or => orM
noncomputable def svM (op : BoolOp) : List Expr → Option (Mn D)
  | [] => none
  | e :: r => match r with
    | [] => X.e C e
    | _ :: _ => ob (X.e C e) fun m => ob (svM op r) fun n => some (bopV op m n)
noncomputable def sbM (op : BoolOp) : List Expr → Option (Mn Bool)
  | [] => none
  | e :: r => match r with
    | [] => X.b C e
    | _ :: _ => ob (X.b C e) fun m => ob (sbM op r) fun n => some (bopM op m n)
noncomputable def optE : Option Expr → Option (Option (Mn D))
  | none => some none
  | some e => ob (X.e C e) fun m => some (some m)
noncomputable def nameOf : Expr → Option Str
  | .Name x _ => some x
  | _ => none
noncomputable def isiM (f : Str) (as : List Expr) : Option (Mn D) := match as with
  | a :: t :: r => gd (f == Str.ofString "isinstance" && r.isEmpty) (ob (nameOf t) fun t => gd (isGlob C t && !(t == ("__debug__" : Str))) (ob (T.ty.lookup t) fun tn => ob (X.e C a) fun m => some (bnd m (pIsi tn))))
  | _ => none
noncomputable def call0 (f : Str) (as : List Expr) : Option (Mn D) := match T.fns.lookup f with
  | some (_, n, F) => gd (!C.inh && decide (n ≤ C.lvl)) (ob (argsM X C as) fun ms => some (bnd ms F))
  | none => match T.bf.lookup f with
    | some (_, F) => gd (!C.inh) (ob (argsM X C as) fun ms => some (bnd ms F))
    | none => match T.tv.lookup f with
      | some (_, F) => ob (argsM X C as) fun ms => some (bnd ms F)
      | none => isiM T X C f as
noncomputable def sortK (f : Str) (as : List Expr) (v : Expr) : Option Str → Option (Mn D)
  | some g => gd (isGlob C g && !(g == ("__debug__" : Str))) (ob (T.fns.lookup g) fun p => gd (!C.inh && decide (p.2.1 + 1 ≤ C.lvl)) (ob (T.so p.2.2) fun F => ob (argsM X C as) fun ms => some (bnd ms F)))
  | none => ob (T.sl X.e C v) fun F => ob (argsM X C as) fun ms => some (bnd ms F)
noncomputable def sortM (f : Str) (as : List Expr) (k : Keyword) : Option (Mn D) :=
  gd (f == Str.ofString "sorted" && isGlob C f && k.arg == some (Str.ofString "key") && as.length == 1 && as.all notStar) (sortK T X C f as k.value (nameOf k.value))
noncomputable def callM (f : Str) (as : List Expr) : List Keyword → Option (Mn D)
  | [] => gd (!(f == ("__debug__" : Str)) && isGlob C f && as.all notStar && !as.isEmpty) (call0 T X C f as)
  | k :: r => gd r.isEmpty (sortM T X C f as k)
noncomputable def methM (o : Expr) (name : Str) (as : List Expr) : Option (Mn D) := match T.sm.lookup name with
  | some (_, F) => gd (!as.isEmpty) (ob (X.e C o) fun m => ob (argsM X C as) fun ms => some (bnd m (strM fun x => bnd ms (F x))))
  | none => ob (X.e C o) fun m => ob (eachM X C as) fun ms => T.me name m ms
noncomputable def constE : Const → Option (Mn D)
  | .int i => some (ret1 (.int i))
  | .str x => some (ret1 (.str x))
  | .bool b => some (ret1 (.bool b))
  | .none => some (ret1 .none)
  | _ => none
noncomputable def unE (e : Expr) : UnaryOp → Option (Mn D)
  | .Not => ob (X.e C e) fun m => some (notV m)
  | .USub => ob (X.e C e) fun m => some (bnd m pNeg)
  | _ => none
noncomputable def cmpE (l : Expr) (ops : List CmpOp) (rs : List Expr) : Option (Mn D) := match ops with
  | op :: o' => (match rs with
    | r :: r' => gd (o'.isEmpty && r'.isEmpty && !behindInMarks op r) (ob (T.cmp op) fun f => ob (X.e C l) fun a => ob (X.e C r) fun b => some (binM f a b))
    | [] => none)
  | [] => none
noncomputable def sliceOf : Expr → Option (Option Expr × Option Expr)
  | .Slice lo hi st _ => gd st.isNone (some (lo, hi))
  | _ => none
noncomputable def subE (v sl : Expr) : Option (Mn D) := match sliceOf sl with
  | some p => ob (X.e C v) fun m => ob (optE X C p.1) fun ml => ob (optE X C p.2) fun mh => some (sliceM m ml mh)
  | none => gd (notSlice sl) (ob (X.e C v) fun m => ob (X.e C sl) fun i => some (binM pIdx m i))
noncomputable def fnE (f : Expr) (as : List Expr) (ks : List Keyword) (pos : Pos) : Option (Mn D) := match f with
  | .Name x _ => callM T X C x as ks
  | .Attribute o name apos => gd (ks.isEmpty && baseB o && as.all notStar && decide (as.length < 30) && apos.endLine == pos.line) (methM T X C o name as)
  | _ => none
noncomputable def stepE : Expr → Option (Mn D)
  | .Constant c _ _ => constE c
  | .Name x _ => nameM T C x
  | .BinOp l op r _ => ob (T.bin op) fun f => ob (X.e C l) fun a => ob (X.e C r) fun b => some (binM f a b)
  | .UnaryOp op e _ => unE X C e op
  | .BoolOp op es _ => svM X C op es
  | .Compare l ops rs _ => cmpE T X C l ops rs
  | .IfExp t a b _ => ob (X.b C t) fun mt => ob (X.e C a) fun ma => ob (X.e C b) fun mb => some (iteM mt ma mb)
  | .Subscript v sl _ => subE X C v sl
  | .List es _ => ob (argsM X C es) fun ms => some (listM ms)
  | .Tuple es _ _ => ob (argsM X C es) fun ms => some (tupM ms)
  | .ListComp elt gs scope _ => lcM T X C elt gs scope
  | .Call f as ks pos => match fnE T X C f as ks pos with
    | some m => some m
    | none => T.xe X C (.Call f as ks pos)
  | e => T.xe X C e
noncomputable def unB (e : Expr) (p : Pos) : UnaryOp → Option (Mn Bool)
  | .Not => ob (X.b C e) fun m => some (notM m)
  | op => ob (X.e C (.UnaryOp op e p)) fun m => some (bnd m truthyD)
noncomputable def cmp1B (l r : Expr) (op : CmpOp) : Option (Mn Bool) := gd (!behindInMarks op r) (ob (T.cmp op) fun f => ob (X.e C l) fun a => ob (X.e C r) fun b => some (cmpM f a b))
noncomputable def cmp2B (l r q : Expr) (op op' : CmpOp) : Option (Mn Bool) := gd (!lastMarks [op, op'] [r, q]) (ob (T.cmp op) fun f => ob (T.cmp op') fun g => ob (X.e C l) fun a => ob (X.e C r) fun b => ob (X.e C q) fun c => some (cmp2M f g a b c))
noncomputable def cmpB (l : Expr) (ops : List CmpOp) (rs : List Expr) : Option (Mn Bool) := match ops with
  | [] => none
  | op :: o1 => (match rs with
    | [] => none
    | r :: r1 => (match o1 with
      | [] => (match r1 with
        | [] => cmp1B T X C l r op
        | _ :: _ => none)
      | op' :: o2 => (match o2 with
        | _ :: _ => none
        | [] => (match r1 with
          | [] => none
          | q :: r2 => (match r2 with
            | _ :: _ => none
            | [] => cmp2B T X C l r q op op')))))
noncomputable def stepB : Expr → Option (Mn Bool)
  | .UnaryOp op e p => unB X C e p op
  | .BoolOp op es _ => sbM X C op es
  | .Compare l ops rs _ => cmpB T X C l ops rs
  | e => gd (plainTest e) (ob (X.e C e) fun m => some (bnd m truthyD))
noncomputable def asgE (k : NameKind) (x : Str) (np : Pos) (i : Nat) (e : Expr) : Option (Mn Fl) := match e with
  | .ListComp elt gs scope cpos => gd (match k with
      | .local => (np.line == cpos.line) && !(scope.names.any fun p => p.1 == x && (p.2 == .local || p.2 == .cell))
      | _ => true) (ob (lcM T X C elt gs scope) fun m => some (bnd m (setvar i)))
  | e => gd (notComp e) (ob (X.e C e) fun m => some (bnd m (setvar i)))
noncomputable def asgK (x : Str) (np : Pos) (e : Expr) : NameKind → Option (Mn Fl)
  | .local => ob (ixOf x C.tbl) fun i => asgE T X C .local x np i e
  | .cell => ob (ixOf x C.tbl) fun i => asgE T X C .cell x np i e
  | _ => none
noncomputable def asgT (e : Expr) : Expr → Option (Mn Fl)
  | .Name x np => ob (C.names.lookup x) (asgK T X C x np e)
  | _ => none
noncomputable def asgM (e : Expr) : List Expr → Option (Mn Fl)
  | [] => none
  | t :: r => gd r.isEmpty (asgT T X C e t)
noncomputable def stepS : Stmt → Option (Mn Fl)
  | .Return v _ => ob v fun e => ob (X.e C e) fun m => some (retM m)
  | .Expr e _ => gd (notComp e) (ob (X.e C e) fun m => some (bnd m noneM))
  | .Pass _ => some (ret1 .next)
  | .Break _ => some (ret1 .brk)
  | .Continue _ => some (ret1 .cont)
  | .If t a b _ => ob (X.b C t) fun mt => ob (X.s C a) fun ma => ob (X.s C b) fun mb => some (ifM mt ma mb)
  | .For t i b o _ => gd (!C.inh && notSet i && o.isEmpty) (ob (srcM T X C t i) fun mi => ob (tgtM C true t) fun tf => ob (X.s C b) fun mb => some (bnd mi fun src => forM tf src.g mb src.ds))
  | .Assign ts e p => match asgM T X C e ts with
    | some m => some m
    | none => T.xs X C (.Assign ts e p)
  | t => T.xs X C t
noncomputable def stsM : List Stmt → Option (Mn Fl)
  | [] => some (ret1 .next)
  | t :: r => ob (stepS T X C t) fun m => ob (stsM r) fun n => some (seqM m n)
end
noncomputable def den (T : Tb) : Nat → Den
  | 0 => ⟨fun _ _ => none, fun _ _ => none, fun _ _ => none⟩
  | n + 1 => ⟨fun C e => stepE T (den T n) C e, fun C e => stepB T (den T n) C e, fun C l => stsM T (den T n) C l⟩
end Mine

end

/- part C2 -/
section
set_option Elab.async false
set_option linter.unusedVariables false
set_option maxRecDepth 10000
namespace Mine
open PySem PyProof.Rows


section
variable {G : Gd} {T : Tb} {X : Den} {C : Cx}
theorem args_ok (hX : DenOk G X) {es : List Expr} : ∀ {ms : Mn (List D)}, argsM X C es = some ms → SA G C es ms := by
  induction es with
  | nil => intro ms h; exact some_el (P := SA G C []) h sa_nil
  | cons e es ih => intro ms h; exact gd_el h fun h1 h => ob_el h fun m h2 h => ob_el h fun ms' h3 h => some_el (P := SA G C (e :: es)) h (sa_cons (hX.e _ _ _ h2) (ih h3) (star_cons h1))
theorem each_ok (hX : DenOk G X) {es : List Expr} : ∀ {ms : List (Mn D)}, eachM X C es = some ms → All2 (fun a m => SE G C a m) es ms := by
  induction es with
  | nil => intro ms h; exact some_el (P := All2 _ []) h .nil
  | cons e es ih => intro ms h; exact ob_el h fun m h2 h => ob_el h fun ms' h3 h => some_el (P := All2 _ (e :: es)) h (.cons (hX.e _ _ _ h2) (ih h3))
theorem tgtK_ok {b : Bool} {x : Str} {p : Pos} {k : NameKind} {f : D → Loc → Option Loc} (hx : C.names.lookup x = some k) (h : tgtK C b x k = some f) : ST G C b (.Name x p) f := by
  cases k with
  | «local» => exact ob_el h fun i hi h => some_el (P := ST G C b (.Name x p)) h (st_name (ixOf_get hi) hx)
  | cell => exact gd_el h fun hb h => ob_el h fun i hi h => some_el (P := ST G C b (.Name x p)) h (by subst hb; exact st_nameC (ixOf_get hi) hx)
  | _ => exact none_el h
theorem tgt1_ok {b : Bool} {t : Expr} {f : D → Loc → Option Loc} (h : tgt1 C b t = some f) : ST G C b t f ∧ notStar t = true := by
  cases t with
  | Name x p => exact ob_el h fun k hk h => ⟨tgtK_ok hk h, rfl⟩
  | _ => exact none_el h
theorem tgts_ok {b : Bool} {ts : List Expr} : ∀ {f : List D → Loc → Option Loc}, tgtsM C b ts = some f → STs G C b ts f ∧ ts.all notStar = true := by
  induction ts with
  | nil => intro f h; exact some_el (P := fun f => STs G C b [] f ∧ _) h ⟨sts_nil, rfl⟩
  | cons t r ih =>
    intro f h
    refine ob_el h fun g h1 h => ob_el h fun k h2 h => some_el (P := fun f => STs G C b (t :: r) f ∧ _) h ?_
    have i := ih h2
    have j := tgt1_ok (G := G) h1
    exact ⟨sts_cons j.1 i.1 (assign_cons j.2), by rw [List.all_cons, j.2, i.2]; rfl⟩
theorem each_len (env : Env) {ts : List Expr} (h : ts.all notStar = true) : (assignEach ts env).length = ts.length ∧ (assignEach ts env).findIdx? (·.1) = none := by
  induction ts with
  | nil => exact ⟨rfl, rfl⟩
  | cons t r ih =>
    refine and_el h fun h1 h2 => ?_
    have i := ih h2
    rw [assign_cons h1]
    exact ⟨congrArg Nat.succ i.1, by rw [List.findIdx?_cons, i.2]; rfl⟩
theorem tgt_ok {b : Bool} {t : Expr} {f : D → Loc → Option Loc} (h : tgtM C b t = some f) : ST G C b t f := by
  cases t with
  | Tuple ts k p => exact gd_el h fun hc h => ob_el h fun g h1 h => some_el (P := ST G C b (.Tuple ts k p)) h (let i := tgts_ok (G := G) h1; st_tuple (not_true hc) i.1 (fun env => (each_len env i.2).1) fun env => (each_len env i.2).2)
  | Name x p => exact (tgt1_ok (show tgt1 C b (.Name x p) = some f from h)).1
  | _ => exact none_el h
theorem nameK_ok (ok : TbOk G T) {x : Str} {pos : Pos} {k : NameKind} {m : Mn D} (hd : (x == ("__debug__" : Str)) = false) (hx : C.names.lookup x = some k) (h : nameK T C x k = some m) : SE G C (.Name x pos) m := by
  cases k with
  | «local» => exact ob_el h fun i hi h => some_el (P := SE G C (.Name x pos)) h (se_local (ixOf_get hi) hx hd)
  | cell => exact gd_el h fun hn h => ob_el h fun i hi h => some_el (P := SE G C (.Name x pos)) h (se_cell (ixOf_get hi) (.inl hx) hd (not_true hn))
  | free => exact gd_el h fun hn h => ob_el h fun i hi h => some_el (P := SE G C (.Name x pos)) h (se_cell (ixOf_get hi) (.inr hx) hd (not_true hn))
  | globalImplicit => exact ob_el h fun i hi h => some_el (P := SE G C (.Name x pos)) h (se_globI (ok.nums _ _ hi) hx hd)
  | _ => exact none_el h
theorem name_ok (ok : TbOk G T) {x : Str} {pos : Pos} {m : Mn D} (h : nameM T C x = some m) : SE G C (.Name x pos) m :=
  gd_el h fun hd h => ob_el h fun k hk h => nameK_ok ok (not_true hd) hk h
theorem head_is {e : Expr} {f : Str} {as : List Expr} (h : headOf e = some (f, as)) : ∃ np pos, e = .Call (.Name f np) as [] pos := by
  cases e with
  | Call g bs ks p => cases g with
    | Name x np => cases ks with
      | nil => cases h; exact ⟨_, _, rfl⟩
      | cons _ _ => exact none_el h
    | _ => exact none_el h
  | _ => exact none_el h
theorem empty_el {α : Type} {l : List α} {P : Prop} (h : (!l.isEmpty) = true) (k : ∀ a r, l = a :: r → P) : P := by
  cases l with
  | nil => cases h
  | cons a r => exact k a r rfl
theorem src_ok (ok : TbOk G T) (hX : DenOk G X) {t e : Expr} {m : Mn Src} (h : srcM T X C t e = some m) : ∃ tg, SI G C e tg m ∧ tg t := by
  unfold srcM at h
  cases q : ob (headOf e) fun p => ob (T.ts.lookup p.1) fun q => some (p, q) with
  | none => rw [q] at h; exact ob_el h fun m' h1 h => some_el (P := fun m => ∃ tg, SI G C e tg m ∧ tg t) h ⟨_, si_val (hX.e _ _ _ h1), trivial⟩
  | some r =>
    rw [q] at h
    refine ob_el q fun p hp q => ob_el q fun s hs q => ?_
    cases q
    obtain ⟨f, as⟩ := p
    obtain ⟨n, b, F⟩ := s
    obtain ⟨np, pos, rfl⟩ := head_is hp
    refine gd_el h fun hc h => and_el hc fun hc h6 => and_el hc fun hc h5 => and_el hc fun hc h4 => and_el hc fun hc h3 => and_el hc fun h1 h2 => ob_el h fun ms h7 hz => ?_
    clear h
    obtain ⟨hb, tg, hF, ht⟩ := ok.ts _ _ _ _ hs
    exact empty_el h6 fun a r e => by
      cases e
      exact and_el h5 fun s1 s2 => some_el (P := fun m => ∃ tg, SI G C _ tg m ∧ tg t) hz ⟨tg, si_tcall hb (isGlob_iff h4) (not_true h3) (not_true h1) hF (args_ok hX h7) (star_cons s1) (fun env => star_plain env s2), ht t h2⟩
theorem nil_of {α : Type} {l : List α} (h : l.isEmpty = true) : l = [] := by cases l <;> first | rfl | cases h
theorem tst_ok (hX : DenOk G X) {ifs : List Expr} {m : Mn Bool} (h : tstM X C ifs = some m) : STst G C ifs m := by
  cases ifs with
  | nil => exact some_el (P := STst G C []) h tst_nil
  | cons c r => exact gd_el h fun hr h => by rw [nil_of hr]; exact tst_one (hX.b _ _ _ h)
inductive LcOk (G : Gd) (C : Cx) (elt : Expr) (gs : List Comprehension) (scope : Scope) (m : Mn D) : Prop
  | mk (t i : Expr) (f : List Expr) (tg : Expr → Prop) (mi : Mn Src) (tf : D → Loc → Option Loc) (mt : Mn Bool) (me : Mn D) : C.inh = false → gs = [⟨t, i, f, 0⟩] → m = bnd mi (compD (clsFrom scope.names 0 C.tbl) tf mt me) → CompSt C scope (clsFrom scope.names 0 C.tbl) → SI G C i tg mi → tg t → ST G ⟨scope.names, C.tbl, C.lvl, C.inh, C.code, C.qual⟩ false t tf →
    STst G ⟨scope.names, C.tbl, C.lvl, C.inh, C.code, C.qual⟩ f mt → SE G ⟨scope.names, C.tbl, C.lvl, C.inh, C.code, C.qual⟩ elt me → (∀ env x, foldedSetIterable i env x = pure x) → LcOk G C elt gs scope m
theorem lc_ok (ok : TbOk G T) (hX : DenOk G X) {elt : Expr} {gs : List Comprehension} {scope : Scope} {m : Mn D} (h : lcM T X C elt gs scope = some m) : LcOk G C elt gs scope m := by
  cases gs with
  | nil => exact none_el h
  | cons g r =>
    obtain ⟨t, i, f, a⟩ := g
    refine gd_el h fun hc h => and_el hc fun hc h5 => and_el hc fun hc h4 => and_el hc fun hc h3 => and_el hc fun h1 h2 => ob_el h fun mi k1 h => ob_el h fun tf k2 h => ob_el h fun mt k3 h => ob_el h fun me k4 hz => ?_
    clear h
    obtain ⟨tg, hI, ht⟩ := src_ok ok hX k1
    have e0 : a = 0 := beq_iff_eq.mp h3
    have er := nil_of h2
    subst e0 er
    exact some_el (P := LcOk G C elt _ scope) hz ⟨t, i, f, tg, mi, tf, mt, me, not_true h1, rfl, rfl, compSt_of h4, hI, ht, tgt_ok k2, tst_ok hX k3, hX.e _ _ _ k4, folded_ok h5⟩
theorem sv_ok (hX : DenOk G X) {op : BoolOp} {es : List Expr} : ∀ {m : Mn D}, svM X C op es = some m → SVs G C op es m := by
  induction es with
  | nil => intro m h; cases h
  | cons e r ih =>
    intro m h
    cases r with
    | nil => exact svs_one (hX.e _ _ _ h)
    | cons e' r =>
      refine ob_el h fun a h1 h => ob_el h fun b h2 h => some_el (P := SVs G C op _) h ?_
      cases op with
      | And => exact svs_and (hX.e _ _ _ h1) (ih h2)
      | Or => exact svs_or (hX.e _ _ _ h1) (ih h2)
theorem sb_ok (hX : DenOk G X) {op : BoolOp} {es : List Expr} : ∀ {m : Mn Bool}, sbM X C op es = some m → SBs G C op es m := by
  induction es with
  | nil => intro m h; cases h
  | cons e r ih =>
    intro m h
    cases r with
    | nil => cases op with
      | And => exact sbs_and1 (hX.b _ _ _ h)
      | Or => exact sbs_or1 (hX.b _ _ _ h)
    | cons e' r =>
      refine ob_el h fun a h1 h => ob_el h fun b h2 h => some_el (P := SBs G C op _) h ?_
      cases op with
      | And => exact sbs_and (hX.b _ _ _ h1) (ih h2)
      | Or => exact sbs_or (hX.b _ _ _ h1) (ih h2)
theorem opt_ok (hX : DenOk G X) {o : Option Expr} {m : Option (Mn D)} (h : optE X C o = some m) : SO G C o m := by
  cases o with
  | none => exact some_el (P := SO G C none) h so_none
  | some e => exact ob_el h fun a h1 h => some_el (P := SO G C (some e)) h (so_some (hX.e _ _ _ h1))
theorem name_is {e : Expr} {x : Str} (h : nameOf e = some x) : ∃ p, e = .Name x p := by
  cases e with
  | Name y p => cases h; exact ⟨p, rfl⟩
  | _ => exact none_el h
theorem isi_ok (ok : TbOk G T) (hX : DenOk G X) {f : Str} {as : List Expr} {np pos : Pos} {m : Mn D} (h2 : C.names.lookup f = some .globalImplicit) (h4 : as.all notStar = true) (h : isiM T X C f as = some m) : SE G C (.Call (.Name f np) as [] pos) m := by
  cases as with
  | nil => exact none_el h
  | cons a r => cases r with
    | nil => exact none_el h
    | cons t r =>
      refine gd_el h fun hc h => and_el hc fun hf hr => ob_el h fun t' ht h => gd_el h fun hc h => and_el hc fun k1 k2 => ob_el h fun tn h5 h => ob_el h fun m' h6 h => some_el (P := SE G C _) h ?_
      obtain ⟨tp, rfl⟩ := name_is ht
      have e1 := beq_iff_eq.mp hf
      have e2 := nil_of hr
      subst e1 e2
      obtain ⟨g1, g2⟩ := ok.ty _ _ h5
      exact and_el h4 fun h3 _ => se_isi g2 ok.isi h2 g1 (isGlob_iff k1) (not_true k2) (hX.e _ _ _ h6) fun env => by rw [star_cons h3]; rfl
theorem call0_ok (ok : TbOk G T) (hX : DenOk G X) {f : Str} {as : List Expr} {np pos : Pos} {m : Mn D} (h1 : (f == ("__debug__" : Str)) = false) (h2 : C.names.lookup f = some .globalImplicit) (h4 : as.all notStar = true) (h5 : (!as.isEmpty) = true) (h : call0 T X C f as = some m) :
    SE G C (.Call (.Name f np) as [] pos) m := by
  refine empty_el h5 fun a r e => ?_
  subst e
  refine and_el h4 fun s1 s2 => ?_
  unfold call0 at h
  cases q : T.fns.lookup f with
  | some p =>
    obtain ⟨ad, n, F⟩ := p
    rw [q] at h
    refine gd_el h fun hc h => and_el hc fun k1 k2 => ob_el h fun ms h5 h => some_el (P := SE G C _) h ?_
    obtain ⟨g1, g2, g3⟩ := ok.fns _ _ _ _ q
    exact se_call g1 h2 h1 g2 g3 (not_true k1) (of_decide_eq_true k2) (args_ok hX h5) (star_cons s1)
  | none =>
    rw [q] at h
    cases q2 : T.bf.lookup f with
    | some p =>
      obtain ⟨n, F⟩ := p
      rw [q2] at h
      refine gd_el h fun hc h => ob_el h fun ms h5 h => some_el (P := SE G C _) h ?_
      obtain ⟨g1, g2⟩ := ok.bf _ _ _ q2
      exact se_bcall g1 h2 h1 (not_true hc) g2 (args_ok hX h5) (star_cons s1) fun env => star_plain env s2
    | none =>
      rw [q2] at h
      cases q3 : T.tv.lookup f with
      | some p =>
        obtain ⟨n, F⟩ := p
        rw [q3] at h
        refine ob_el h fun ms h5 h => some_el (P := SE G C _) h ?_
        obtain ⟨g1, g2⟩ := ok.tv _ _ _ q3
        exact se_tcall g1 h2 h1 g2 (args_ok hX h5) (star_cons s1) fun env => star_plain env s2
      | none =>
        rw [q3] at h
        exact isi_ok ok hX h2 h4 h
theorem sort_ok (ok : TbOk G T) (hX : DenOk G X) {f : Str} {as : List Expr} {k : Keyword} {np pos : Pos} {m : Mn D} (h : sortM T X C f as k = some m) :
    SE G C (.Call (.Name f np) as [k] pos) m := by
  obtain ⟨ka, kv, kp⟩ := k
  refine gd_el h fun hc h => and_el hc fun hc h5 => and_el hc fun hc h4 => and_el hc fun hc h3 => and_el hc fun h1 h2 => ?_
  have e1 := beq_iff_eq.mp h1
  have e2 : ka = _ := beq_iff_eq.mp h3
  have e4 : as.length = 1 := beq_iff_eq.mp h4
  obtain ⟨a, rfl⟩ := List.length_eq_one_iff.mp e4
  subst e1 e2
  refine and_el h5 fun s1 _ => ?_
  change sortK T X C _ [a] kv (nameOf kv) = some m at h
  cases hg : nameOf kv with
  | none =>
    rw [hg] at h
    exact ob_el h fun F hF h => ob_el h fun ms h7 h => some_el (P := SE G C _) h (ok.sl _ _ _ _ _ _ _ _ _ hX.e hF (isGlob_iff h2) (args_ok hX h7) fun env => star_cons s1 env)
  | some g =>
    rw [hg] at h
    refine gd_el h fun hc h => and_el hc fun k1 k2 => ob_el h fun p q h => gd_el h fun hc h => and_el hc fun k3 k4 => ob_el h fun F' hF h => ob_el h fun ms h7 h => some_el (P := SE G C _) h ?_
    obtain ⟨gp, e⟩ := name_is hg
    obtain ⟨ad, n, F⟩ := p
    subst e
    obtain ⟨g1, g2, g3⟩ := ok.fns _ _ _ _ q
    exact ok.so _ _ hF C _ _ _ _ _ _ _ _ _ (isGlob_iff h2) g1 (isGlob_iff k1) (not_true k2) g3 (not_true k3) (of_decide_eq_true k4) (args_ok hX h7) fun env => star_cons s1 env
theorem call_ok (ok : TbOk G T) (hX : DenOk G X) {f : Str} {as : List Expr} {ks : List Keyword} {np pos : Pos} {m : Mn D} (h : callM T X C f as ks = some m) :
    SE G C (.Call (.Name f np) as ks pos) m := by
  cases ks with
  | nil => exact gd_el h fun hc h => and_el hc fun hc h5 => and_el hc fun hc h4 => and_el hc fun h1 h2 => call0_ok ok hX (not_true h1) (isGlob_iff h2) h4 h5 h
  | cons k r => exact gd_el h fun hr h => by rw [nil_of hr]; exact sort_ok ok hX h
theorem meth_ok (ok : TbOk G T) (hX : DenOk G X) {o : Expr} {name : Str} {as : List Expr} {apos pos : Pos} {m : Mn D} (h1 : baseB o = true) (h2 : as.all notStar = true) (h3 : decide (as.length < 30) = true) (h4 : (apos.endLine == pos.line) = true) (h : methM T X C o name as = some m) :
    SE G C (.Call (.Attribute o name apos) as [] pos) m := by
  unfold methM at h
  cases q : T.sm.lookup name with
  | some p =>
    obtain ⟨n, F⟩ := p
    rw [q] at h
    refine gd_el h fun he h => ob_el h fun mo h5 h => ob_el h fun ms h6 h => some_el (P := SE G C _) h ?_
    refine empty_el he fun a r e => ?_
    subst e
    exact and_el h2 fun s1 s2 => se_smeth (ok.sm _ _ _ q) (hX.e _ _ _ h5) (args_ok hX h6) (base_ok h1) (star_cons s1) (fun env => star_plain env s2) (fun env => few_ok env h2 h3) h4
  | none =>
    rw [q] at h
    exact ob_el h fun mo h5 h => ob_el h fun ms h6 h => ok.me C o as name mo ms m apos pos (hX.e _ _ _ h5) (each_ok hX h6) h h1 h2 h3 h4
theorem cmpE_ok (ok : TbOk G T) (hX : DenOk G X) {l : Expr} {ops : List CmpOp} {rs : List Expr} {pos : Pos} {m : Mn D} (h : cmpE T X C l ops rs = some m) : SE G C (.Compare l ops rs pos) m := by
  cases ops with
  | nil => exact none_el h
  | cons op o' => cases rs with
    | nil => exact none_el h
    | cons r r' =>
      refine gd_el h fun hc h => and_el hc fun hc h3 => and_el hc fun h1 h2 => ob_el h fun f k1 h => ob_el h fun a k2 h => ob_el h fun b k3 h => some_el (P := SE G C _) h ?_
      rw [nil_of h1, nil_of h2]
      exact se_cmp (ok.cmp _ _ k1) (hX.e _ _ _ k2) (hX.e _ _ _ k3) (not_true h3)
theorem slice_is {e : Expr} {p : Option Expr × Option Expr} (h : sliceOf e = some p) : ∃ q, e = .Slice p.1 p.2 none q := by
  cases e with
  | Slice lo hi st q => cases st with
    | none => cases h; exact ⟨q, rfl⟩
    | some _ => exact none_el h
  | _ => exact none_el h
theorem sub_ok (hX : DenOk G X) {v sl : Expr} {pos : Pos} {m : Mn D} (h : subE X C v sl = some m) : SE G C (.Subscript v sl pos) m := by
  unfold subE at h
  cases q : sliceOf sl with
  | some p =>
    rw [q] at h
    obtain ⟨pp, rfl⟩ := slice_is q
    exact ob_el h fun a k1 h => ob_el h fun lo k2 h => ob_el h fun hi k3 h => some_el (P := SE G C _) h (se_slice (hX.e _ _ _ k1) (opt_ok hX k2) (opt_ok hX k3))
  | none =>
    rw [q] at h
    exact gd_el h fun hs h => ob_el h fun a k1 h => ob_el h fun b k2 h => some_el (P := SE G C _) h (se_sub (hX.e _ _ _ k1) (hX.e _ _ _ k2) (subs_ok hs))
theorem fn_ok (ok : TbOk G T) (hX : DenOk G X) {f : Expr} {as : List Expr} {ks : List Keyword} {pos : Pos} {m : Mn D} (h : fnE T X C f as ks pos = some m) : SE G C (.Call f as ks pos) m := by
  cases f with
  | Name x np => exact call_ok ok hX h
  | Attribute o name apos => exact gd_el h fun hc h => and_el hc fun hc h5 => and_el hc fun hc h4 => and_el hc fun hc h3 => and_el hc fun h1 h2 => by rw [nil_of h1]; exact meth_ok ok hX h2 h3 h4 h5 h
  | _ => exact none_el h
theorem const_ok {c : Const} {k : Nat} {pos : Pos} {m : Mn D} (h : constE c = some m) : SE G C (.Constant c k pos) m := by
  cases c with
  | int i => exact some_el (P := SE G C _) h se_int
  | str x => exact some_el (P := SE G C _) h se_str
  | bool b => exact some_el (P := SE G C _) h se_bool
  | none => exact some_el (P := SE G C _) h se_none
  | _ => exact none_el h
theorem un_ok (hX : DenOk G X) {op : UnaryOp} {e : Expr} {pos : Pos} {m : Mn D} (h : unE X C e op = some m) : SE G C (.UnaryOp op e pos) m := by
  cases op with
  | Not => exact ob_el h fun a k h => some_el (P := SE G C _) h (se_not (hX.e _ _ _ k))
  | USub => exact ob_el h fun a k h => some_el (P := SE G C _) h (se_neg (hX.e _ _ _ k))
  | _ => exact none_el h
theorem stepE_ok (ok : TbOk G T) (hX : DenOk G X) {e : Expr} {m : Mn D} (h : stepE T X C e = some m) : SE G C e m := by
  cases e with
  | Constant c k p => exact const_ok h
  | Name x p => exact name_ok ok h
  | BinOp l op r p => exact ob_el h fun f h1 h => ob_el h fun a h2 h => ob_el h fun b h3 h => some_el (P := SE G C _) h (se_bin (ok.bin _ _ h1) (hX.e _ _ _ h2) (hX.e _ _ _ h3))
  | UnaryOp op e p => exact un_ok hX h
  | BoolOp op es p => exact se_boolop (sv_ok hX h)
  | Compare l ops rs p => exact cmpE_ok ok hX h
  | IfExp t a b p => exact ob_el h fun f h1 h => ob_el h fun a h2 h => ob_el h fun b h3 h => some_el (P := SE G C _) h (se_ifexp (hX.b _ _ _ h1) (hX.e _ _ _ h2) (hX.e _ _ _ h3))
  | Subscript v sl p => exact sub_ok hX h
  | List es p => exact ob_el h fun ms h1 h => some_el (P := SE G C _) h (se_list (args_ok hX h1))
  | Tuple es k p => exact ob_el h fun ms h1 h => some_el (P := SE G C _) h (se_tuple (args_ok hX h1))
  | ListComp elt gs scope p =>
    obtain ⟨t, i, f, tg, mi, tf, mt, me, k0, rfl, rfl, k1, k2, k3, k4, k5, k6, k7⟩ := lc_ok ok hX h
    exact se_comp k0 k1 k2 k3 k4 k5 k6 k7
  | Call f as ks p =>
    change (match fnE T X C f as ks p with | some m => some m | none => T.xe X C (.Call f as ks p)) = some m at h
    cases q : fnE T X C f as ks p with
    | some m' => rw [q] at h; cases h; exact fn_ok ok hX q
    | none => rw [q] at h; exact ok.xe _ _ _ _ hX h
  | _ => exact ok.xe _ _ _ _ hX h
theorem unB_ok (hX : DenOk G X) {op : UnaryOp} {e : Expr} {pos : Pos} {m : Mn Bool} (h : unB X C e pos op = some m) : SB G C (.UnaryOp op e pos) m := by
  have v : ∀ (e : Expr) (m : Mn Bool), plainTest e = true → (ob (X.e C e) fun m => some (bnd m truthyD)) = some m → SB G C e m := fun e m hp h => ob_el h fun a k h => some_el (P := SB G C _) h (sb_val (hX.e _ _ _ k) (test_ok hp))
  cases op with
  | Not => exact ob_el h fun a k h => some_el (P := SB G C _) h (sb_not (hX.b _ _ _ k))
  | _ => exact v _ _ rfl h
theorem cmpB_ok (ok : TbOk G T) (hX : DenOk G X) {l : Expr} {ops : List CmpOp} {rs : List Expr} {pos : Pos} {m : Mn Bool} (h : cmpB T X C l ops rs = some m) : SB G C (.Compare l ops rs pos) m := by
  cases ops with
  | nil => exact none_el h
  | cons op o1 => cases rs with
    | nil => exact none_el h
    | cons r r1 => cases o1 with
      | nil => cases r1 with
        | nil => exact gd_el h fun hm h => ob_el h fun f k1 h => ob_el h fun a k2 h => ob_el h fun b k3 h => some_el (P := SB G C _) h (sb_cmp (ok.cmp _ _ k1) (hX.e _ _ _ k2) (hX.e _ _ _ k3) (not_true hm))
        | cons _ _ => exact none_el h
      | cons op' o2 => cases o2 with
        | cons _ _ => exact none_el h
        | nil => cases r1 with
          | nil => exact none_el h
          | cons q r2 => cases r2 with
            | cons _ _ => exact none_el h
            | nil => exact gd_el h fun hm h => ob_el h fun f k1 h => ob_el h fun g k4 h => ob_el h fun a k2 h => ob_el h fun b k3 h => ob_el h fun c k5 h => some_el (P := SB G C _) h (sb_cmp2 (ok.cmp _ _ k1) (ok.cmp _ _ k4) (hX.e _ _ _ k2) (hX.e _ _ _ k3) (hX.e _ _ _ k5) (not_true hm))
theorem stepB_ok (ok : TbOk G T) (hX : DenOk G X) {e : Expr} {m : Mn Bool} (h : stepB T X C e = some m) : SB G C e m := by
  have v : ∀ (e : Expr) (m : Mn Bool), (gd (plainTest e) (ob (X.e C e) fun m => some (bnd m truthyD))) = some m → SB G C e m := fun e m h => gd_el h fun hp h => ob_el h fun a k h => some_el (P := SB G C _) h (sb_val (hX.e _ _ _ k) (test_ok hp))
  cases e with
  | UnaryOp op e p => exact unB_ok hX h
  | BoolOp op es p => exact sb_bool (sb_ok hX h)
  | Compare l ops rs p => exact cmpB_ok ok hX h
  | _ => exact v _ _ h
theorem asg_ok (ok : TbOk G T) (hX : DenOk G X) {x : Str} {np pos : Pos} {e : Expr} {k : NameKind} {m : Mn Fl} (hx : C.names.lookup x = some k) (h : asgK T X C x np e k = some m) : SS G C (.Assign [.Name x np] e pos) m := by
  cases k with
  | «local» =>
    refine ob_el h fun i hi h => ?_
    have v : (gd (notComp e) (ob (X.e C e) fun m => some (bnd m (setvar i)))) = some m → SS G C (.Assign [.Name x np] e pos) m := fun h => gd_el h fun hc h => ob_el h fun a h2 h => some_el (P := SS G C _) h (ss_assign (ixOf_get hi) hx (hX.e _ _ _ h2) fun env => swaps_no hc _ _ env)
    cases e with
    | ListComp elt gs scope cpos =>
      refine gd_el h fun hc h => and_el hc fun c1 c2 => ob_el h fun a h2 h => some_el (P := SS G C _) h ?_
      obtain ⟨t, i', f, tg, mi, tf, mt, me, k0, rfl, rfl, k1, k2, k3, k4, k5, k6, k7⟩ := lc_ok ok hX h2
      exact ss_assign_comp (ixOf_get hi) hx k0 k1 k2 k3 k4 k5 k6 k7 (swaps_yes c1 (not_true c2))
    | _ => exact v h
  | cell =>
    refine ob_el h fun i hi h => ?_
    have v : (gd (notComp e) (ob (X.e C e) fun m => some (bnd m (setvar i)))) = some m → SS G C (.Assign [.Name x np] e pos) m := fun h => gd_el h fun hc h => ob_el h fun a h2 h => some_el (P := SS G C _) h (ss_assignC (ixOf_get hi) hx (hX.e _ _ _ h2) fun env _ => swaps_no hc _ _ env)
    cases e with
    | ListComp elt gs scope cpos =>
      refine ob_el (show (ob (lcM T X C elt gs scope) fun m => some (bnd m (setvar i))) = some m from h) fun a h2 h => some_el (P := SS G C _) h ?_
      obtain ⟨t, i', f, tg, mi, tf, mt, me, k0, rfl, rfl, k1, k2, k3, k4, k5, k6, k7⟩ := lc_ok ok hX h2
      exact ss_assignC (ixOf_get hi) hx (se_comp k0 k1 k2 k3 k4 k5 k6 k7) fun env he => swaps_cell env he
    | _ => exact v h
  | _ => exact none_el h
theorem asgM_ok (ok : TbOk G T) (hX : DenOk G X) {ts : List Expr} {e : Expr} {pos : Pos} {m : Mn Fl} (h : asgM T X C e ts = some m) : SS G C (.Assign ts e pos) m := by
  cases ts with
  | nil => exact none_el h
  | cons t r =>
    refine gd_el h fun hr h => ?_
    rw [nil_of hr]
    cases t with
    | Name x np => exact ob_el h fun k hk h => asg_ok ok hX hk h
    | _ => exact none_el h
theorem stepS_ok (ok : TbOk G T) (hX : DenOk G X) {t : Stmt} {m : Mn Fl} (h : stepS T X C t = some m) : SS G C t m := by
  cases t with
  | Return v p => exact ob_el h fun e he h => ob_el h fun a h2 h => some_el (P := SS G C _) h (by subst he; exact ss_return (hX.e _ _ _ h2))
  | Expr e p => exact gd_el h fun hc h => ob_el h fun a h2 h => some_el (P := SS G C _) h (ss_expr (hX.e _ _ _ h2) fun env => swaps_no hc _ _ env)
  | Pass p => exact some_el (P := SS G C _) h ss_pass
  | Break p => exact some_el (P := SS G C _) h ss_break
  | Continue p => exact some_el (P := SS G C _) h ss_continue
  | If t a b p => exact ob_el h fun f h1 h => ob_el h fun a h2 h => ob_el h fun b h3 h => some_el (P := SS G C _) h (ss_if (hX.b _ _ _ h1) (hX.s _ _ _ h2) (hX.s _ _ _ h3))
  | For t i b o p =>
    refine gd_el h fun hc h => and_el hc fun hc c3 => and_el hc fun c1 c2 => ob_el h fun f h1 h => ob_el h fun a h2 h => ob_el h fun b h3 h => some_el (P := SS G C _) h ?_
    obtain ⟨tg, hI, ht⟩ := src_ok ok hX h1
    rw [nil_of c3]
    exact ss_for (not_true c1) hI ht (tgt_ok h2) (hX.s _ _ _ h3) (folded_ok c2)
  | Assign ts e p =>
    change (match asgM T X C e ts with | some m => some m | none => T.xs X C (.Assign ts e p)) = some m at h
    cases q : asgM T X C e ts with
    | some m' => rw [q] at h; cases h; exact asgM_ok ok hX q
    | none => rw [q] at h; exact ok.xs _ _ _ _ hX h
  | _ => exact ok.xs _ _ _ _ hX h
theorem sts_ok (ok : TbOk G T) (hX : DenOk G X) {l : List Stmt} : ∀ {m : Mn Fl}, stsM T X C l = some m → SSs G C l m := by
  induction l with
  | nil => intro m h; exact some_el (P := SSs G C []) h ss_nil
  | cons t r ih => intro m h; exact ob_el h fun a h1 h => ob_el h fun b h2 h => some_el (P := SSs G C (t :: r)) h (ss_cons (stepS_ok ok hX h1) (ih h2))
theorem den_ok (ok : TbOk G T) (n : Nat) : DenOk G (den T n) := by
  induction n with
  | zero => exact ⟨fun _ _ _ h => (by cases h), fun _ _ _ h => (by cases h), fun _ _ _ h => by cases h⟩
  | succ n ih => exact ⟨fun _ _ _ h => stepE_ok ok ih h, fun _ _ _ h => stepB_ok ok ih h, fun _ _ _ h => sts_ok ok ih h⟩
theorem TbOk.add (ok : TbOk G T) {f : Str} {a : Addr} {n : Nat} {F : List D → Mn D} (h1 : GlobIs G f (.ref a)) (h2 : ∃ o fd, G.h0.get? a = some o ∧ o.data = .func fd) (h3 : SF G n a F) : TbOk G { T with fns := (f, a, n, F) :: T.fns } where
  fns g a' n' F' h := by
    have h' : List.lookup g ((f, a, n, F) :: T.fns) = some (a', n', F') := h
    rw [List.lookup_cons] at h'
    cases e : g == f with
    | true => rw [e] at h'; cases h'; rw [beq_iff_eq.mp e]; exact ⟨h1, h2, h3⟩
    | false => rw [e] at h'; exact ok.fns _ _ _ _ h'
  nums := ok.nums
  bf := ok.bf
  tv := ok.tv
  ts := ok.ts
  sm := ok.sm
  ty := ok.ty
  isi := ok.isi
  bin := ok.bin
  cmp := ok.cmp
  me := ok.me
  so := ok.so
  sl := ok.sl
  xe := ok.xe
  xs := ok.xs
end
end Mine

end

/- part C3 -/
section
set_option Elab.async false
set_option linter.unusedVariables false
namespace Mine
open PySem PyProof.Rows
/-! tables -/
theorem look_nil {β : Type} {P : Str → β → Prop} : ∀ f v, ([] : List (Str × β)).lookup f = some v → P f v := fun _ _ h => none_el h
theorem look_cons {β : Type} {P : Str → β → Prop} {x : Str} {v : β} {l : List (Str × β)} (h : P x v) (t : ∀ f w, l.lookup f = some w → P f w) : ∀ f w, ((x, v) :: l).lookup f = some w → P f w := fun f w e => by
  rw [List.lookup_cons] at e
  cases q : f == x with
  | true => rw [q] at e; cases e; rw [beq_iff_eq.mp q]; exact h
  | false => rw [q] at e; exact t f w e
noncomputable abbrev PBf (G : Gd) (f : Str) (p : String × (List D → Mn D)) : Prop := BuiIs G f (.builtin p.1) ∧ BF G p.1 p.2
noncomputable abbrev PTv (G : Gd) (f : Str) (p : String × (List D → Mn D)) : Prop := BuiIs G f (.type p.1) ∧ TF G p.1 p.2
noncomputable abbrev PTs (G : Gd) (f : Str) (p : String × Bool × (List D → Mn Src)) : Prop := BuiIs G f (.type p.1) ∧ ∃ tg, TSrc G p.1 tg p.2.2 ∧ ∀ t, (!p.2.1 || isTup t) = true → tg t
noncomputable abbrev PSm (G : Gd) (f : Str) (p : String × (Str → List D → Mn D)) : Prop := SM G f p.1 p.2
noncomputable abbrev PTy (G : Gd) (f : Str) (n : String) : Prop := BuiIs G f (.type n) ∧ TyF n
noncomputable abbrev PNm (G : Gd) (x : Str) (i : Int) : Prop := ∃ t, GlobIs G x (.int i t)
theorem isTup_of {t : Expr} (h : (!true || isTup t) = true) : isTupleT t := by cases t <;> first | exact ⟨_, _, _, rfl⟩ | cases h
noncomputable def MeOk (G : Gd) (me : Str → Mn D → List (Mn D) → Option (Mn D)) : Prop :=
  ∀ C o as name mo ms m apos pos, SE G C o mo → All2 (fun a m => SE G C a m) as ms → me name mo ms = some m → baseB o = true → as.all notStar = true → decide (as.length < 30) = true → (apos.endLine == pos.line) = true → SE G C (.Call (.Attribute o name apos) as [] pos) m
/-- one method, by its name -/
noncomputable def MeIs (G : Gd) (name : Str) (me : Mn D → List (Mn D) → Option (Mn D)) : Prop :=
  ∀ C o as mo ms m apos pos, SE G C o mo → All2 (fun a m => SE G C a m) as ms → me mo ms = some m → baseB o = true → as.all notStar = true → decide (as.length < 30) = true → (apos.endLine == pos.line) = true → SE G C (.Call (.Attribute o name apos) as [] pos) m
noncomputable def noMe : Str → Mn D → List (Mn D) → Option (Mn D) := fun _ _ _ => none
noncomputable def orMe (x : Str) (a : Mn D → List (Mn D) → Option (Mn D)) (r : Str → Mn D → List (Mn D) → Option (Mn D)) : Str → Mn D → List (Mn D) → Option (Mn D) := fun name m ms => match name == x with
  | true => a m ms
  | false => r name m ms
section
variable {G : Gd}
theorem noMe_ok : MeOk G noMe := fun _ _ _ _ _ _ _ _ _ _ _ h => none_el h
theorem orMe_ok {x : Str} {a : Mn D → List (Mn D) → Option (Mn D)} {r : Str → Mn D → List (Mn D) → Option (Mn D)} (h : MeIs G x a) (t : MeOk G r) : MeOk G (orMe x a r) := fun C o as name mo ms m apos pos h1 h2 h3 => by
  unfold orMe at h3
  cases q : name == x with
  | true => rw [q] at h3; rw [beq_iff_eq.mp q]; exact h C o as mo ms m apos pos h1 h2 h3
  | false => rw [q] at h3; exact t C o as name mo ms m apos pos h1 h2 h3
noncomputable def me_append (m : Mn D) : List (Mn D) → Option (Mn D)
  | [] => none
  | a :: r => gd r.isEmpty (some (bnd m (lstM fun k => bnd a (pAppend k))))
theorem append_is : MeIs G (Str.ofString "append") me_append := fun C o as mo ms m apos pos h1 h2 h3 h4 h5 h6 h7 => by
  cases h2 with
  | nil => exact none_el h3
  | @cons a ma as' ms' ha hr =>
    refine gd_el h3 fun he h3 => some_el (P := SE G C _) h3 ?_
    cases hr with
    | nil => exact and_el h5 fun s1 _ => se_append h1 ha (base_ok h4) (star_cons s1) (fun env => few_ok env h5 h6) h7
    | cons _ _ => cases he
end
end Mine

end

/- part F28 -/
section
set_option Elab.async false
set_option linter.unusedVariables false
set_option maxRecDepth 10000
namespace Mine
open PySem PyProof.Rows

/-! what is gone does not come back -/
noncomputable def Dead (h : Heap) (a : Addr) : Prop := a < h.objs.size ∧ h.get? a = none
theorem Dead.push {h : Heap} {a : Addr} (d : Dead h a) (o : Obj) : Dead (h.push o) a :=
  ⟨by rw [Heap.size_push]; exact Nat.lt_succ_of_lt d.1, by rw [Heap.get?_push_ne _ _ _ (Nat.ne_of_lt d.1)]; exact d.2⟩
theorem Dead.upd {h : Heap} {a b : Addr} (d : Dead h a) (hb : (h.get? b).isSome) (f : Obj → Obj) : Dead (h.update b f) a := by
  have hne : a ≠ b := fun e => by subst e; rw [d.2] at hb; cases hb
  exact ⟨by rw [Heap.size_after_update]; exact d.1, by rw [Heap.get?_update_other _ _ (Ne.symm hne)]; exact d.2⟩
theorem dead_runs {M : Model} {Γ : Ctx} {p : Pos} {t : Sem Fin} {fs : List Frame} {s s' : Shared} {e : End} {a : Addr} (h : Runs M Γ p t fs s e s') : Dead s.heap a → Dead s'.heap a := by
  induction h <;> intro d <;> first
    | exact d
    | (rename_i ih; exact ih d)
    | (rename_i ih; exact ih (d.push _))
    | (rename_i hb _ ih; exact ih (d.upd hb _))
    | (rename_i ih1 ih2; exact ih2 (ih1 d))
    | (rename_i ih1 _ _ ih2; exact ih2 (ih1 d))
    | (rename_i ih1 _ ih2; exact ih2 (ih1 d))
theorem dead_wakes {M : Model} {Γ : Ctx} {p : Pos} {g : Nat} {r : Resume} {s s' : Shared} {res : GenResult} {a : Addr} (h : Wakes M Γ p g r s res s') (d : Dead s.heap a) : Dead s'.heap a := by
  unfold Wakes at h
  split at h
  · exact h.elim
  · split at h
    · obtain ⟨e₁, s₁, hr, _, _, rfl⟩ := h; exact (dead_runs hr d : Dead s₁.heap a)
    · rw [h.2]; exact d
    · rw [h.2]; exact d
  · obtain ⟨e₁, s₁, hr, _, _, rfl⟩ := h; exact (dead_runs hr d : Dead s₁.heap a)
  · rw [h.2]; exact d
  · rw [h.2]; exact d
theorem wp_deadE {α : Type} (M : Model) (Γ : Ctx) (h0 : Heap) (t : Sem α) : ∀ (Q : α → Pos → Shared → Prop) (E : Value → Pos → Shared → Prop) (p : Pos) (s : Shared), (∀ b, Dead h0 b → Dead s.heap b) → Sem.wp M Γ t Q (fun e p' s' => (∀ b, Dead h0 b → Dead s'.heap b) → E e p' s') p s → Sem.wp M Γ t Q E p s := by
  induction t with
  | pure a => intro Q E p s hn h; exact h
  | raise e => intro Q E p s hn h; exact h hn
  | unsupported _ => intro Q E p s _ h; exact h
  | finish _ => intro Q E p s _ h; exact h
  | rule _ k ih => intro Q E p s hn h; exact ih () Q E p s hn h
  | «at» p' k ih => intro Q E p s hn h; exact ih () Q E p' s hn h
  | load a _ k ih => intro Q E p s hn h; obtain ⟨o, ho, h⟩ := h; exact ⟨o, ho, ih o Q E p s hn h⟩
  | update a _ f k ih => intro Q E p s hn h; exact ⟨h.1, ih () Q E p _ (fun b d => (hn b d).upd h.1 _) h.2⟩
  | loadIfAlive a k ih => intro Q E p s hn h; exact ih _ Q E p s hn h
  | point _ k ih => intro Q E p s hn h; exact ih () Q E p s hn h
  | register _ _ => intro Q E p s _ h; exact h
  | alloc o k ih => intro Q E p s hn h; exact ih _ Q E p _ (fun b d => (hn b d).push _) h
  | fresh k ih => intro Q E p s hn h; exact ih _ Q E p _ hn h
  | ask k ih => intro Q E p s hn h; exact ih _ Q E p s hn h
  | choose src m k ih => intro Q E p s hn h; exact ⟨h.1, ih _ Q E p _ hn h.2⟩
  | os q _ k ih => intro Q E p s hn h; exact ih _ Q E p _ hn h
  | call c hd _ _ k ih => intro Q E p s hn h; obtain ⟨r, s', hr, h⟩ := h; exact ⟨r, s', hr, ih r Q E p s' (fun b d => dead_runs hr (hn b d)) h⟩
  | handled own k ih => intro Q E p s hn h; exact ih _ Q E p s hn h
  | genState g k ih => intro Q E p s hn h; obtain ⟨st, hs, h⟩ := h; exact ⟨st, hs, ih _ Q E p s hn h⟩
  | newGen c k ih => intro Q E p s hn h; exact ih _ Q E p _ hn h
  | resume g r _ k ih => intro Q E p s hn h; obtain ⟨res, s', hw, h⟩ := h; exact ⟨res, s', hw, ih res Q E p s' (fun b d => dead_wakes hw (hn b d)) h⟩
  | yield _ _ _ _ => intro Q E p s _ h; exact h
  | stack k ih => intro Q E p s hn h; exact ih _ Q E p s hn h
  | fork _ _ => intro Q E p s _ h; exact h
  | thread k ih => intro Q E p s hn h; exact ih _ Q E p s hn h
  | await _ _ _ _ _ => intro Q E p s _ h; exact h
theorem wpAny_szE {α : Type} {M : Model} {A : Around} {s : Shared} {t : Sem α} {Q : α → Shared → Prop} {E : Value → Shared → Prop} (h : wpAny M A t Q (fun e s' => (∀ b, Dead s.heap b → Dead s'.heap b) → s.heap.objs.size ≤ s'.heap.objs.size → E e s') s) : wpAny M A t Q E s := by
  have h2 := wpAny_size h
  intro Γ p hΓ
  have h3 := h2 Γ p hΓ
  refine wp_deadE M Γ s.heap t _ _ p s (fun _ d => d) ?_
  exact Sem.wp_mono M Γ t (fun a p' s' q => q.2) (fun e p' s' q d => q.2 d q.1) p s h3

/-! the text's own exception classes -/
noncomputable def bmV : List Value := [.type "ValueError", .type "Exception", .type "BaseException", .type "object"]
structure ClsIs (G : Gd) (C : Addr) (bm : List Value) : Prop where
  obj : ∃ nm q N bs hdct sn sub ab col dd k0 k1 k2 k3 k5, G.h0.get? C = some (excClassObj nm q C N bs bm hdct sn sub ab col dd k0 k1 k2 k3 k5 "ValueError.__new__") ∧ ∃ mN, G.h0.Ns N mN ∧ mN "__init__" = none
  tail : OwnTail G.h0 bmV bm
noncomputable def bmAt (K : PySem.W.Frag) (C : Addr) : List Value := match K.lookup C with
  | some o => match o.data with
    | .cls cd => cd.mro.tail
    | _ => []
  | none => []
theorem cls_of {G : Gd} {K : PySem.W.Frag} {C : Addr} (L : Lay G K) (q : PySem.W.excIn K C bmV "ValueError.__new__" = true) : ClsIs G C (bmAt K C) := by
  unfold PySem.W.excIn at q
  split at q
  · rename_i dd cd sl ho
    split at q
    · rename_i C' bm k0 k1 k2 k3 n k5 hm hs
      simp only [Bool.and_eq_true, beq_iff_eq, Bool.not_eq_true'] at q
      obtain ⟨⟨⟨⟨⟨rfl, rfl⟩, hdel⟩, ht⟩, hok⟩, hni⟩ := q
      obtain ⟨nm, bs, mro, ns, qn, hd, sn, sub, ab, col, del⟩ := cd
      dsimp only at hm hdel hok hni
      subst hm hdel
      have hsl : sl = #[k0, k1, k2, k3, some (.builtin "ValueError.__new__"), k5] := by
        have := congrArg List.toArray hs
        simpa using this
      subst hsl
      have e : bmAt K C' = bm := by unfold bmAt; rw [ho]; rfl
      rw [e]
      exact ⟨⟨nm, qn, ns, bs, hd, sn, sub, ab, col, dd, k0, k1, k2, k3, k5, L.kin _ _ ho, _, .of_isNs (PySem.W.isNs_of_in L.kin hok), PySem.W.nsMap_none_of_in L.kin hok hni⟩, PySem.W.tail_of_in L.kin ht⟩
    · cases q
  · cases q
theorem ClsIs.base {G : Gd} {C : Addr} {bm : List Value} (c : ClsIs G C bm) : bm.contains (.type "BaseException") = true := c.tail.hasType (by decide)
end Mine

end

/- part F29 -/
section
set_option Elab.async false
set_option linter.unusedVariables false
set_option maxRecDepth 10000
namespace Mine
open PySem PyProof.Rows

section
variable {G : Gd} {C : Cx} {A : Around} {P : List Addr} {env : Env} {s : Shared} {ρ : List Addr} {st : St}
noncomputable def raiseM (c : Addr) : Mn Fl := fun st => .exc c st
theorem ss_raise {x : Str} {c : Addr} {bm : List Value} {msg : Str} {k : Nat} {np cpos pos mp : Pos} (hi : C.inh = false) (hg : GlobIs G x (.ref c)) (hn : C.names.lookup x = some .globalImplicit) (hd : (x == ("__debug__" : Str)) = false) (hC : ClsIs G c bm) :
    SS G C (.Raise (some (.Call (.Name x np) [.Constant (.str msg) k mp] [] cpos)) none pos) (raiseM c) := .mk <| fun A P env s ρ st K W hb => by
  obtain ⟨nm, q, N, bs, hdct, sn, sub, ab, col, dd, k0, k1, k2, k3, k5, ho, mN, hns, hni⟩ := hC.obj
  refine wpAny_szE ?_
  refine wpAny_Raise_call_subT (C := c) (N := N) (nm := nm) (q := q) (bs := bs) (bm := bm) (hdct := hdct) (sn := sn) (sub := sub) (ab := ab) (col := col) (dd := dd) (k0 := k0) (k1 := k1) (k2 := k2) (k3 := k3) (k5 := k5) (mN := mN) PySem.F.excBase_ValueError hC.base (K.room.hd hi) rfl hni ?_
  refine name_glob K hg hn hd ⟨rfl, ?_⟩
  refine Calls.evalArgs_plain ?_
  show wpAny G.M A (eval (.Constant (.str msg) k mp) env >>= fun v => pure [v] >>= fun here => holding here (pure []) >>= fun r => pure (here ++ r)) _ _ s
  refine wpAny_bind (Calls.Constant_str (wpAny_bind (wpAny_pure (wpAny_bind (wpAny_holding (wpAny_pure (wpAny_pure ?_)))))))
  have g2 : Grow G.h0 s.heap := K.inv.base
  refine ⟨rfl, by show 1 ≤ sizeLine; decide, K.inv.base _ _ ho, hns.keeps g2, hC.tail.keeps g2, fun h' ea hm hdead hz => ?_⟩
  obtain ⟨tt, hte, htn, htt⟩ := hm.there
  have hge : s.heap.objs.size ≤ ea := by
    rcases Nat.lt_or_ge ea s.heap.objs.size with hlt | hge
    · have := (hdead ea ⟨hlt, hm.new⟩).2
      rw [show h'.get? ea = _ from hte] at this; cases this
    · exact hge
  have gg : Grow s.heap h' := hm.keeps
  exact ⟨ρ, c, st, ea, rfl, K.inv.grow gg hz _, (gg.ev hz).nil, K.frm.keep K.inv (gg.ev hz), rfl, hge, _, _, hte, ⟨rfl, rfl⟩, rfl, by simp, .inl rfl⟩
end
end Mine

end

/- part F37 -/
section
set_option Elab.async false
set_option linter.unusedVariables false
set_option maxRecDepth 10000
namespace Mine
open PySem PyProof.Rows

/-! try … except X as n -/
noncomputable def del (l : Loc) (i : Nat) : Loc := fun j => if j = i then none else l j
noncomputable def tryM (body : Mn Fl) (sub : Addr → Bool) (i : Nat) (hd : Mn Fl) : Mn Fl := fun st => match body st with
  | .ok fl st' => .ok fl st'
  | .bot => .bot
  | .exc c st' => match sub c with
    | true => match hd ⟨upd st'.loc i (.exc c), st'.sto⟩ with
      | .ok fl st'' => .ok fl ⟨del st''.loc i, st''.sto⟩
      | .exc _ _ => .bot
      | .bot => .bot
    | false => .bot
section
variable {G : Gd} {C : Cx} {A : Around} {P : List Addr} {env : Env} {s : Shared} {ρ : List Addr} {st : St} {σ : Sto}
/-- a name of a frame is no more known -/
theorem Frm.lose {tbl : List Str} {loc : Loc} (F : Frm G tbl P env s.heap ρ loc) (I : Inv G s ρ σ) {i : Nat} {x : Str} {ov : Option Value} {m : Str → Option Value} {h' : Heap} (hi : tbl[i]? = some x)
    (hm : s.heap.Ns env.locals m) (q : ∀ (i : Nat) (x : Str), tbl[i]? = some x → env.kindOf x = some .local → ∀ d, loc i = some d → ∃ v, m x = some v ∧ Rel G s.heap ρ d v)
    (hn : h'.Ns env.locals (fun y => if y = x then ov else m y)) (hs : Heap.SameBut env.locals s.heap h') (t : Nat) :
    Inv G { s with heap := h', toks := t } ρ σ ∧ Ev P s.heap ρ h' ρ ∧ Frm G tbl P env h' ρ (del loc i) ∧ Stb s.heap ρ h' ρ := by
  have own := F.own _ F.lP
  obtain ⟨oL, esL, epL, hoL, hdL, rL⟩ := id hm
  obtain ⟨I', x', S⟩ := wr_own (P := P) I hs F.lP own.1 F.lrho ⟨oL, hoL, .inl ⟨esL, epL, hdL⟩⟩ t
  have cellne : ∀ y c, env.cells.lookup y = some c → c ≠ env.locals := fun y c e z => by
    obtain ⟨_, ov, o, ho, hd⟩ := F.cok y c e
    rw [z, hoL] at ho; cases ho
    rw [hdL] at hd; cases hd
  have dl : ∀ j d', del loc i j = some d' → j ≠ i ∧ loc j = some d' := fun j d' e => by
    unfold del at e
    by_cases hj : j = i
    · rw [if_pos hj] at e; cases e
    · rw [if_neg hj] at e; exact ⟨hj, e⟩
  refine ⟨I', x', ⟨F.kind, F.glob, F.bi, ⟨_, hn, fun j y e k d' hd' => ?_⟩, fun j y e k => ?_, fun y c e => ?_, F.cinj, F.lrho, F.lP, F.own, F.tnd⟩, S⟩
  · obtain ⟨hj, hd'⟩ := dl _ _ hd'
    obtain ⟨v', e1, e2⟩ := q j y e k d' hd'
    have hy : y ≠ x := fun z => hj (nodup_getElem_inj F.tnd (z ▸ e) hi)
    exact ⟨v', (if_neg hy).trans e1, Rel.mono S _ _ e2⟩
  · obtain ⟨c, e1, ov, n, qq⟩ := F.cell j y e k
    refine ⟨c, e1, ov, n.sameBut hs (cellne y c e1), fun d' hd' => ?_⟩
    obtain ⟨v', e1, e2⟩ := qq d' (dl _ _ hd').2
    exact ⟨v', e1, Rel.mono S _ _ e2⟩
  · obtain ⟨n, ov, z⟩ := F.cok y c e
    exact ⟨n, ov, z.sameBut hs (cellne y c e)⟩
theorem exc_notin (I : Inv G s ρ σ) {a c : Addr} {o : Obj} (ho : s.heap.get? a = some o) (hc : o.cls = .ref c) : a ∉ ρ := fun m => by
  obtain ⟨k, hk, e⟩ := List.getElem_of_mem m
  have hk' : k < σ.length := by rw [← I.len]; exact hk
  have r := I.sto k a σ[k] (by rw [List.getElem?_eq_getElem hk, e]) (List.getElem?_eq_getElem hk')
  generalize σ[k] = p at r
  cases p with
  | list ds => obtain ⟨vs, ⟨n, z⟩, _⟩ := r; rw [ho] at z; cases z; cases hc
  | dict kvs => obtain ⟨xs, ⟨o', es, ep, z, hx, _⟩, _⟩ := r; rw [ho] at z; cases z; rw [hx.1] at hc; cases hc
  | priv => obtain ⟨_, _, z⟩ := r; rw [ho] at z; cases z; cases hc
  | ctab A l cl q k =>
    obtain ⟨rfl, r⟩ := r
    cases k with
    | none => rw [show s.heap.get? a = _ from r] at ho; cases ho; cases hc
    | some k => obtain ⟨c', _, z⟩ := r; rw [z] at ho; cases ho; cases hc
  | code q => obtain ⟨o', vs, t, z, zc, _⟩ := r; rw [ho] at z; cases z; rw [zc] at hc; cases hc
theorem inst_of {h : Heap} {a c : Addr} {o : Obj} {vs : Array Value} (ho : h.get? a = some o) (hc : ExcO o c) (hd : o.data = .fields vs) : PySem.W.InstAt h a o c none :=
  ⟨ho, hc.1, by unfold PySem.W.notCls; rw [hd], by rw [hc.2]; trivial⟩
theorem mark_stk {h : Heap} {v : Value} (S : Stk G A env h ρ) : Stk G (A.mark (some v)) env h ρ := ⟨S.fr, S.ff⟩
theorem ss_try {K : PySem.W.Frag} {body suite : List Stmt} {b₀ : Stmt} {x n : Str} {T : Addr} {i : Nat} {np hp pos : Pos} {mb mh : Mn Fl} {sub : Addr → Bool} (kin : K.In G.h0) (h1 : SSs G C body mb)
    (h2 : SSs G ⟨C.names, C.tbl, C.lvl, true, C.code, C.qual⟩ (b₀ :: suite) mh) (hg : GlobIs G x (.ref T)) (hn : C.names.lookup x = some .globalImplicit) (hd : (x == ("__debug__" : Str)) = false) (hi : C.tbl[i]? = some n) (hl : C.names.lookup n = some .local)
    (hsub : ∀ c, sub c = true → PySem.W.exmOne K (.ref c) (.ref T) = some true) :
    SS G C (.Try body [.ExceptHandler (some (.Name x np)) (some n) (b₀ :: suite) hp] [] [] pos) (tryM mb sub i mh) := .mk <| fun A P env s ρ st K0 W hb => by
  refine wpAny_Try_except ?_
  have hb1 : mb st ≠ .bot := fun z => hb (by unfold tryM; rw [z])
  have hb0 : ∀ b, s.heap.objs.size ≤ b → G.h0.get? b = none := fun b z => K0.inv.h0_le z
  refine wpAny_mono (h1.run A P env s ρ st K0 W hb1) (fun f s1 q => ?_) fun e s1 q => ?_
  · obtain ⟨ρ1, fl, st1, e1, I1, x1, F1, rr⟩ := q
    have e2 : tryM mb sub i mh st = .ok fl st1 := by unfold tryM; rw [e1]
    rw [e2]
    cases fl with
    | next => cases (show f = .next from rr); exact wpAny_execs_nil ⟨ρ1, .next, st1, rfl, I1, x1, F1, rfl⟩
    | brk => cases (show f = .brk from rr); exact ⟨ρ1, .brk, st1, rfl, I1, x1, F1, rfl⟩
    | cont => cases (show f = .cont from rr); exact ⟨ρ1, .cont, st1, rfl, I1, x1, F1, rfl⟩
    | ret d => obtain ⟨v, rfl, r⟩ := rr; exact ⟨ρ1, .ret d, st1, rfl, I1, x1, F1, v, rfl, r⟩
  · obtain ⟨ρ1, c, st1, a, e1, I1, x1, F1, rfl, fl⟩ := q
    cases hs : sub c with
    | false => exact absurd (by unfold tryM; simp only [e1, hs]) hb
    | true =>
      cases hm : mh ⟨upd st1.loc i (.exc c), st1.sto⟩ with
      | bot => exact absurd (by unfold tryM; simp only [e1, hs, hm]) hb
      | exc c' st' => exact absurd (by unfold tryM; simp only [e1, hs, hm]) hb
      | ok fl2 st2 =>
        have e2 : tryM mb sub i mh st = .ok fl2 ⟨del st2.loc i, st2.sto⟩ := by unfold tryM; simp only [e1, hs, hm]
        rw [e2]
        have K1 := K0.stepS I1 x1 F1
        refine note_fly K1.stk fl x1.size fun L h2' hL N T1 => ?_
        refine flight_fly (G := G) (ρ := ρ1) (s := { s1 with heap := h2' }) (fr := none) T1 fun h3 N3 T3 => ?_
        have N13 := N.trans N3
        have I3 := N13.inv I1 hb0 s1.toks
        have x3 := N13.ev x1
        have F3 := N13.frm F1
        have K3 : Ok G ⟨C.names, C.tbl, C.lvl, true, C.code, C.qual⟩ (A.mark (some (.ref a))) P env { s1 with heap := h3 } ρ1 st1 :=
          ⟨⟨fun z => absurd z Bool.noConfusion, K0.room.depth, K0.room.units⟩, K0.sees, I3, F3, mark_stk (N13.stk K1.stk), K0.code, K0.qual⟩
        refine wpAny_handleBy_cons (codeAny_handlers_test ?_) (by intro q; cases q)
        refine name_glob K3 hg hn hd ?_
        obtain ⟨hna, o, vs, T', oT, ts, ho, hc, hdd, hsz, t1, t2, t3, t4, t5, t6, t7⟩ := id T3
        have kin3 : K.In h3 := fun b o e => I3.base b o (kin b o e)
        refine (PySem.W.exm_one (M := G.M) kin3 (inst_of ho hc hdd).type (hsub c hs)).at ?_
        refine codeAny_handlers_suite_as ?_
        refine flight_fly (G := G) (ρ := ρ1) (s := { s1 with heap := h3 }) (fr := none) T3 fun h4 N4 T4 => ?_
        have N14 := N13.trans N4
        have I4 := N14.inv I1 hb0 s1.toks
        have x4 := N14.ev x1
        have F4 := N14.frm F1
        have K4 : Ok G ⟨C.names, C.tbl, C.lvl, true, C.code, C.qual⟩ (A.mark (some (.ref a))) P env { s1 with heap := h4 } ρ1 st1 :=
          ⟨⟨fun z => absurd z Bool.noConfusion, K0.room.depth, K0.room.units⟩, K0.sees, I4, F4, mark_stk (N14.stk K1.stk), K0.code, K0.qual⟩
        obtain ⟨hna4, o4, vs4, _, _, _, ho4, hc4, hd4, _⟩ := id T4
        refine at_store K4 hi hl (d := .exc c) (v := .ref a) (by simp only [Rel]; exact ⟨a, rfl, exc_notin I4 ho4 hc4.1, o4, ho4, hc4, vs4, hd4⟩) fun s5 I5 x5 F5 => ?_
        have K5 := K4.stepS (st' := ⟨upd st1.loc i (.exc c), st1.sto⟩) I5 x5 F5
        have x15 := x4.trans x5
        refine wpAny_mono (h2.run (A.mark (some (.ref a))) P env s5 ρ1 ⟨upd st1.loc i (.exc c), st1.sto⟩ K5 W (by rw [hm]; intro z; cases z)) (fun f s6 q => ?_) fun x6 s6 q => ?_
        · obtain ⟨ρ6, fl6, st6, e6, I6, x6, F6, rr⟩ := q
          rw [hm] at e6
          cases e6
          obtain ⟨mL, nL, qL⟩ := F6.ns
          refine wpAny_nameGoes_keeps (K0.sees.loc n hl) nL (by rw [F6.kind]; rfl) fun h7 v7 n7 sb7 => ?_
          obtain ⟨I7, x7, F7, S7⟩ := F6.lose I6 hi nL qL n7 sb7 (s6.toks + 1)
          refine ⟨ρ6, fl2, ⟨del st2.loc i, st2.sto⟩, rfl, I7, (x15.trans x6).trans x7, F7, ?_⟩
          cases fl2 with
          | next => exact rr
          | brk => exact rr
          | cont => exact rr
          | ret d => obtain ⟨v, e, r⟩ := rr; exact ⟨v, e, Rel.mono S7 _ _ r⟩
        · obtain ⟨_, _, _, _, e6, _⟩ := q
          rw [hm] at e6
          cases e6
end
end Mine

end

/- part F38 -/
section
set_option Elab.async false
set_option linter.unusedVariables false
set_option maxRecDepth 10000
namespace Mine
open PySem PyProof.Rows

/-! exceptions and classes: isinstance, raise, try, for the compiler -/
noncomputable abbrev ETab := List (Addr × Bool)
noncomputable def pIsX (t : ETab) : D → Mn D
  | .exc c => optM ((t.lookup c).map D.bool)
  | _ => botM
open PySem.W in
theorem exc_check {prog : Program} {w : World} {A : Around} {E : Value → Shared → Prop} {K : Frag} {a c : Addr} {o : Obj} {nameV : Value} {s : Shared} {Q : Unit → Shared → Prop} (X : K.In s.heap) (I : InstAt s.heap a o c none) (hmB : mroIn K c (.type "BaseException") = some true) (hq : Q () s) :
    wpAny (model prog w) A (checkBuiltinCall "BaseException.__getattribute__" ⟨[.ref a, nameV], []⟩) Q E s := by
  have hk : builtinKind "BaseException.__getattribute__" = some .slot := by decide +kernel
  have hsplit : splitId "BaseException.__getattribute__" = some ("BaseException", "__getattribute__") := by decide +kernel
  obtain ⟨hh, g, d, t, os⟩ := s
  have L0 := I.type (M := model prog w)
  have LB := looks_mroIn (M := model prog w) X hmB
  have ha := F.args_bexc_ga (.ref a) nameV
  simp only [checkBuiltinCall, hk, hsplit]
  refine wpAny_bind ?_
  unfold isInstance
  repeat (first | lk | wp_step)
  exact hq
open PySem.W in
theorem exc_class {prog : Program} {w : World} {A : Around} {E : Value → Shared → Prop} {K : Frag} {a c : Addr} {o : Obj} {s : Shared} {Q : Option Value → Shared → Prop} (X : K.In s.heap) (I : InstAt s.heap a o c none) (hga : findIn K (.ref c) "__getattribute__" = some (some (.builtin "BaseException.__getattribute__"))) (hgt : findIn K (.ref c) "__getattr__" = some none)
    (hf : findObj K c none "__class__" = some (.bind (.builtin "getset_descriptor.__get__") (.builtin "object.__class__"))) (hmB : mroIn K c (.type "BaseException") = some true) (hm : mroIn K c (.type "object") = some true) (k : Q (some (.ref c)) { s with toks := s.toks + 1 }) :
    wpAny (model prog w) A (getAttr? (.ref a) "__class__") Q E s := by
  obtain ⟨hh, g, d, t, os⟩ := s
  have L0 := I.type (M := model prog w)
  have L1 := looks_findIn (M := model prog w) X hga
  have L2 := looks_findIn (M := model prog w) X hgt
  have Lf := looks_find (M := model prog w) X I hf
  unfold getAttr? getAttrBy? getAttrBy
  refine wpAny_bind (wpAny_mkText (wpAny_bind (wpAny_attempt (wpAny_holding (wpAny_bind (L0.at (wpAny_bind (L1.at ?_))))))))
  have hx2 : (Value.builtin "BaseException.__getattribute__" == Value.builtin "object.__getattribute__") = false := by decide +kernel
  dsimp only
  rw [hx2, Bool.and_false, if_neg Bool.false_ne_true]
  unfold getAttrByItsOwn hookBefore
  refine wpAny_bind (L2.at (wpAny_bind (wpAny_attempt (wpAny_holding ?_))))
  unfold callGetattribute boundAndCalled
  rw [Bool.false_and, if_neg Bool.false_ne_true]
  rw [F.excAttr_ValueError.ga.bind (.ref a)]
  refine wpAny_bind (wpAny_pure ?_)
  refine wpAny_call (codeAny_call_builtin F.excAttr_ValueError.ga.plain F.entry_bexc_ga (exc_check X I hmB ?_))
  show wpAny _ _ (Builtin.«object.__getattribute__» ⟨[.ref a, .str "__class__" t], []⟩) _ _ _
  refine wpAny_bind (wpAny_pure (wpAny_bind (wpAny_pure (wpAny_bind (L0.at (wpAny_bind (Lf.at ?_)))))))
  show wpAny _ _ (holding [.builtin "object.__class__"] (call (.builtin "getset_descriptor.__get__") [.builtin "object.__class__", .ref a, .ref c]) >>= ret) _ _ _
  refine wpAny_bind (wpAny_holding (wpAny_call (class_get (ox := o) (od := none) X I hm ?_)))
  refine wpAny_pure (a := Fin.done (.ret (.ref c))) ?_
  exact wpAny_pure (wpAny_pure k)
open PySem.W in
noncomputable def excB (K : Frag) (c : Addr) : Bool := (clsIn K c).isSome && (findIn K (.ref c) "__getattribute__" == some (some (.builtin "BaseException.__getattribute__"))) && (findIn K (.ref c) "__getattr__" == some none) && (match findObj K c none "__class__" with | some (.bind (.builtin g) (.builtin a)) => g == "getset_descriptor.__get__" && a == "object.__class__" | _ => false) && (mroIn K c (.type "BaseException") == some true) && (mroIn K c (.type "object") == some true)
open PySem.W in
theorem kitx_exc {K : Frag} {a c : Addr} {o : Obj} (h : excB K c = true) : KitX K (.ref a) (.ref c) (fun h => InstAt h a o c none) := by
  refine and_el h fun h h4 => and_el h fun h h5 => and_el h fun h h3 => and_el h fun h h6 => and_el h fun h1 h2 => ?_
  obtain ⟨cd, hcd⟩ := Option.isSome_iff_exists.mp h1
  have hf : findObj K c none "__class__" = some (.bind (.builtin "getset_descriptor.__get__") (.builtin "object.__class__")) := by
    split at h3
    · rename_i g a e
      refine and_el h3 fun q1 q2 => ?_
      rw [beq_iff_eq.mp q1, beq_iff_eq.mp q2] at e
      exact e
    · cases h3
  refine ⟨fun _ _ _ I => I.type, fun _ _ X _ => ?_, fun h tp dd its n sl X htp => ?_, fun X I k => exc_class X I (beq_iff_eq.mp h2) (beq_iff_eq.mp h6) hf (beq_iff_eq.mp h5) (beq_iff_eq.mp h4) k⟩
  · unfold clsIn at hcd
    split at hcd
    · rename_i c' d' cd' sl' ho
      intro A' Q' E' s' k q
      unfold isType loadHead
      exact wpAny_bind (wpAny_loadPart (k _ _ (X _ _ ho)) (wpAny_pure q))
    · cases hcd
  · refine Bool.eq_false_iff.mpr fun q => ?_
    have e : c = tp := Value.ref.inj (beq_iff_eq.mp q)
    subst e
    unfold clsIn at hcd
    split at hcd
    · rename_i c' d' cd' sl' ho
      have z := (X _ _ ho).symm.trans htp
      cases z
    · cases hcd
section
variable {G : Gd} {C : Cx} {A : Around} {P : List Addr} {env : Env} {s : Shared} {ρ : List Addr} {st : St} {K : PySem.W.Frag}
/-- what the table says of the class V is so -/
noncomputable def EOk (K : PySem.W.Frag) (V : Value) (t : ETab) : Prop := ∀ c b, t.lookup c = some b → excB K c = true ∧ PySem.W.kitOne K (.ref c) V = some b
theorem at_isX {V : Value} {t : ETab} {d : D} {v : Value} (kin : K.In G.h0) (ht : EOk K V t) (K' : Ok G C A P env s ρ st) (r : Rel G s.heap ρ d v) : At G A env s ρ st (RV G) (call (.builtin "isinstance") [v, V]) (pIsX t d) := by
  refine At.leaf (fun hb => ?_) K'
  cases d <;> first | exact absurd rfl hb | skip
  rename_i c
  simp only [Rel] at r
  obtain ⟨a, rfl, hna, o, ho, hc, vs, hd⟩ := r
  cases hf : t.lookup c with
  | none => exact absurd (by unfold pIsX; simp only [hf]; rfl) hb
  | some b =>
    obtain ⟨h1, h2⟩ := ht c b hf
    exact PySem.W.kia_one (kitx_exc h1) (fun b o e => K'.inv.base b o (kin b o e)) (inst_of ho hc hd) h2 (by intro z; cases z) fun tk => ⟨.bool b, by unfold pIsX; simp only [hf]; rfl, Grow.same, rfl⟩
theorem se_isX {V : Value} {t : ETab} {x : Str} {e : Expr} {m : Mn D} {np tp pos : Pos} (kin : K.In G.h0) (ht : EOk K V t) (hg : BuiIs G "isinstance" (.builtin "isinstance")) (hn : C.names.lookup ("isinstance" : Str) = some .globalImplicit)
    (hV : GlobIs G x V ∨ BuiIs G x V) (hnT : C.names.lookup x = some .globalImplicit) (hdT : (x == ("__debug__" : Str)) = false) (he : SE G C e m) (hst : ∀ env, starEach [e, .Name x tp] env = [(false, eval e env), (false, eval (.Name x tp) env)]) :
    SE G C (.Call (.Name "isinstance" np) [e, .Name x tp] [] pos) (bnd m (pIsX t)) := .mk <| fun A P env s ρ st K0 hb => by
  show wpAny G.M A (eval (.Name "isinstance" np) env >>= fun fv => callWith pos fv [] (backTo pos (starEach [e, .Name x tp] env)) []) _ _ s
  refine wpAny_bind (name_bui K0 hg hn (by decide) ?_)
  rw [hst]
  refine Calls.callWith_builtin rfl (Calls.evalArgs_plain (Calls.spliced_cons (wpAny_mono (he.run A P env s ρ st K0 (bnd_ne_bot hb)) (fun v s' q => ?_) fun x s' q => ?_)))
  · refine OkE.elim q fun ρ' d σ' e' I' x' r => ?_
    have K' := K0.step I' x'
    have e2 : bnd m (pIsX t) st = pIsX t d ⟨st.loc, σ'⟩ := by simp only [bnd, e']
    rw [e2] at hb ⊢
    have go := wpAny_mono (at_isX (V := V) kin ht K' r hb) (fun w s'' q => OkE.tr q x') fun w s'' q => ExcE.tr q x'
    rcases hV with hV | hV
    · exact Calls.spliced_cons (name_glob K' hV hnT hdT (Calls.spliced_nil go))
    · exact Calls.spliced_cons (name_bui K' hV hnT hdT (Calls.spliced_nil go))
  · exact ExcE.bnd q
/-- the classes' names: what they stand for, what is one of them -/
noncomputable abbrev CTab := List (Str × (Value × ETab))
noncomputable def isiX (cl : CTab) (X : Den) (C : Cx) : List Expr → Option (Mn D)
  | a :: t :: r => gd (r.isEmpty && notStar a) (ob (nameOf t) fun x => gd (isGlob C x && !(x == ("__debug__" : Str))) (ob (cl.lookup x) fun p => ob (X.e C a) fun m => some (bnd m (pIsX p.2))))
  | _ => none
noncomputable def xeExc (cl : CTab) (X : Den) (C : Cx) : Expr → Option (Mn D)
  | .Call f as ks _ => gd (ks.isEmpty && nameOf f == some (Str.ofString "isinstance") && isGlob C (Str.ofString "isinstance")) (isiX cl X C as)
  | _ => none
structure ClOk (G : Gd) (K : PySem.W.Frag) (cl : CTab) : Prop where
  kin : K.In G.h0
  nm : ∀ x V t, cl.lookup x = some (V, t) → (GlobIs G x V ∨ BuiIs G x V) ∧ EOk K V t
  isi : BuiIs G (Str.ofString "isinstance") (.builtin "isinstance")
theorem xeExc_ok {cl : CTab} (ok : ClOk G K cl) : ∀ X C e m, DenOk G X → xeExc cl X C e = some m → SE G C e m := fun X C e m hX h0 => by
  cases e with
  | Call f as ks p =>
    refine gd_el h0 fun hc h => and_el hc fun hc h3 => and_el hc fun h1 h2 => ?_
    obtain ⟨np, rfl⟩ := name_is (beq_iff_eq.mp h2)
    rw [nil_of h1]
    cases as with
    | nil => exact none_el h
    | cons a r => cases r with
      | nil => exact none_el h
      | cons t r =>
        refine gd_el h fun hc h1' => and_el hc fun hr hs => ob_el h1' fun x hx h => gd_el h fun hc h => and_el hc fun k1 k2 => ob_el h fun q hq h => ob_el h fun m' hm h => some_el (P := SE G C _) h ?_
        obtain ⟨tp, rfl⟩ := name_is hx
        rw [nil_of hr]
        obtain ⟨V, tt⟩ := q
        obtain ⟨g1, g2⟩ := ok.nm _ _ _ hq
        exact se_isX ok.kin g2 ok.isi (isGlob_iff h3) g1 (isGlob_iff k1) (not_true k2) (hX.e _ _ _ hm) fun env => by rw [star_cons hs]; rfl
  | _ => exact none_el h0
noncomputable def raiseOf : Expr → Option Str
  | .Call (.Name x _) [.Constant (.str _) _ _] [] _ => some x
  | _ => none
theorem raise_is {e : Expr} {x : Str} (h : raiseOf e = some x) : ∃ np msg k mp cpos, e = .Call (.Name x np) [.Constant (.str msg) k mp] [] cpos := by
  unfold raiseOf at h
  split at h
  · cases h; exact ⟨_, _, _, _, _, rfl⟩
  · cases h
noncomputable def refOf : Value → Option Addr
  | .ref a => some a
  | _ => none
theorem ref_is {v : Value} {a : Addr} (h : refOf v = some a) : v = .ref a := by cases v <;> first | (cases h; rfl) | cases h
noncomputable def handOf : List ExceptHandler → Option (Str × Str × List Stmt)
  | [.ExceptHandler (some (.Name x _)) (some n) b _] => some (x, n, b)
  | _ => none
theorem hand_is {l : List ExceptHandler} {x n : Str} {b : List Stmt} (h : handOf l = some (x, n, b)) : ∃ np hp, l = [.ExceptHandler (some (.Name x np)) (some n) b hp] := by
  unfold handOf at h
  split at h
  · cases h; exact ⟨_, _, rfl⟩
  · cases h
noncomputable def subT (t : ETab) (c : Addr) : Bool := match t.lookup c with
  | some b => b
  | none => false
noncomputable def tryX (cl : CTab) (X : Den) (C : Cx) (body : List Stmt) (p : Str × Str × List Stmt) : Option (Mn Fl) :=
  gd (isGlob C p.1 && !(p.1 == ("__debug__" : Str)) && !p.2.2.isEmpty && C.names.lookup p.2.1 == some .local) (ob (ixOf p.2.1 C.tbl) fun i => ob (cl.lookup p.1) fun q => ob (refOf q.1) fun T =>
    ob (X.s C body) fun mb => ob (X.s ⟨C.names, C.tbl, C.lvl, true, C.code, C.qual⟩ p.2.2) fun mh => some (tryM mb (subT q.2) i mh))
noncomputable def xsExc (cl : CTab) (X : Den) (C : Cx) : Stmt → Option (Mn Fl)
  | .Raise e c _ => gd (!C.inh && c.isNone) (ob e fun e => ob (raiseOf e) fun x => gd (isGlob C x && !(x == ("__debug__" : Str))) (ob (cl.lookup x) fun q => ob (refOf q.1) fun c => some (raiseM c)))
  | .Try body hs oe fe _ => gd (oe.isEmpty && fe.isEmpty) (ob (handOf hs) (tryX cl X C body))
  | _ => none
structure ClsOk (G : Gd) (K : PySem.W.Frag) (cl : CTab) : Prop extends ClOk G K cl where
  cls : ∀ x c t, cl.lookup x = some (.ref c, t) → ∃ bm, ClsIs G c bm
  exm : ∀ x T t, cl.lookup x = some (.ref T, t) → ∀ c, t.lookup c = some true → PySem.W.exmOne K (.ref c) (.ref T) = some true
  glob : ∀ x c t, cl.lookup x = some (.ref c, t) → GlobIs G x (.ref c)
theorem xsExc_ok {cl : CTab} (ok : ClsOk G K cl) : ∀ X C t m, DenOk G X → xsExc cl X C t = some m → SS G C t m := fun X C t m hX h0 => by
  cases t with
  | Raise e c p =>
    refine gd_el h0 fun hc h => and_el hc fun h1 h2 => ob_el h fun e' he h => ob_el h fun x hx h => gd_el h fun hc h => and_el hc fun h3 h4 => ob_el h fun q hq h => ob_el h fun a ha h => some_el (P := SS G C _) h ?_
    obtain ⟨np, msg, k, mp, cpos, rfl⟩ := raise_is hx
    obtain ⟨V, t⟩ := q
    obtain rfl := ref_is ha
    subst he
    cases c with
    | some _ => cases h2
    | none =>
      obtain ⟨bm, hC⟩ := ok.cls _ _ _ hq
      exact ss_raise (not_true h1) (ok.glob _ _ _ hq) (isGlob_iff h3) (not_true h4) hC
  | Try body hs oe fe p =>
    refine gd_el h0 fun hc h => and_el hc fun h1 h2 => ob_el h fun q hq h => ?_
    obtain ⟨x, n, b⟩ := q
    obtain ⟨np, hp, rfl⟩ := hand_is hq
    rw [nil_of h1, nil_of h2]
    refine gd_el h fun hc h' => and_el hc fun hc h6 => and_el hc fun hc h5 => and_el hc fun h3 h4 => ob_el h' fun i hi h => ob_el h fun q' hq' h => ob_el h fun T hT h => ob_el h fun mb hmb h => ob_el h fun mh hmh h => some_el (P := SS G C _) h ?_
    obtain ⟨V, t⟩ := q'
    obtain rfl := ref_is hT
    refine empty_el h5 fun b0 r e => ?_
    have e : b = b0 :: r := e
    subst e
    exact ss_try ok.kin (hX.s _ _ _ hmb) (hX.s _ _ _ hmh) (ok.glob _ _ _ hq') (isGlob_iff h3) (not_true h4) (ixOf_get hi) (beq_iff_eq.mp h6) fun c hc => ok.exm _ _ _ hq' c (by
      unfold subT at hc
      cases z : t.lookup c with
      | none => rw [z] at hc; cases hc
      | some v => rw [z] at hc; rw [show v = true from hc])
  | _ => exact none_el h0
theorem lookup_all {t : ETab} {p : Addr × Bool → Bool} (h : t.all p = true) {c : Addr} {b : Bool} (e : t.lookup c = some b) : p (c, b) = true := by
  induction t with
  | nil => cases e
  | cons x l ih =>
    refine and_el h fun h1 h2 => ?_
    rw [List.lookup_cons] at e
    cases q : c == x.1 with
    | true => rw [q] at e; cases e; rw [beq_iff_eq.mp q]; exact h1
    | false => rw [q] at e; exact ih h2 e
theorem eok_of {V : Value} {t : ETab} (h : (t.all fun p => excB K p.1 && (PySem.W.kitOne K (.ref p.1) V == some p.2)) = true) : EOk K V t := fun c b e => and_el (lookup_all h e) fun h1 h2 => ⟨h1, beq_iff_eq.mp h2⟩
theorem exm_of {T : Addr} {t : ETab} (h : (t.all fun p => !p.2 || (PySem.W.exmOne K (.ref p.1) (.ref T) == some true)) = true) : ∀ c, t.lookup c = some true → PySem.W.exmOne K (.ref c) (.ref T) = some true := fun c e => by
  have := lookup_all h e
  exact beq_iff_eq.mp this
end
end Mine

end

/- part F31 -/
section
set_option Elab.async false
set_option linter.unusedVariables false
set_option maxRecDepth 10000
namespace Mine
open PySem PySem.W PyProof.Rows

end Mine

end

/- part P1 -/
section
set_option Elab.async false
set_option linter.unusedVariables false
namespace Mine
open PySem PyProof.Rows PySem.Builtin.Str

/-- the pure run ends well, in a state of which Q is true -/
noncomputable def W {α : Type} (m : Mn α) (st : St) (Q : α → St → Prop) : Prop := ∃ a st', m st = .ok a st' ∧ Q a st'

/-- one half of a ↔ -/
structure Mpr (a b : Prop) : Prop where
  mpr : b → a
section
variable {α β : Type} {st : St} {Q : α → St → Prop}
theorem W.mono {m : Mn α} {Q' : α → St → Prop} (h : W m st Q) (hq : ∀ a st', Q a st' → Q' a st') : W m st Q' := let ⟨a, st', e, q⟩ := h; ⟨a, st', e, hq a st' q⟩
theorem W_bnd {m : Mn β} {f : β → Mn α} : W (bnd m f) st Q ↔ W m st (fun b st' => W (f b) st' Q) := by
  unfold W bnd
  constructor
  · rintro ⟨a, st', e, q⟩
    cases h : m st with
    | ok b st'' => rw [h] at e; exact ⟨b, st'', rfl, a, st', e, q⟩
    | exc c st'' => rw [h] at e; cases e
    | bot => rw [h] at e; cases e
  · rintro ⟨b, st'', h, a, st', e, q⟩
    exact ⟨a, st', by rw [h]; exact e, q⟩
theorem W_ret1 {a : α} : W (ret1 a) st Q ↔ Q a st := by
  unfold W ret1
  constructor
  · rintro ⟨b, st', e, q⟩; cases e; exact q
  · intro q; exact ⟨a, st, rfl, q⟩
theorem W_botM : W (botM : Mn α) st Q ↔ False := by
  unfold W botM
  constructor
  · rintro ⟨b, st', e, q⟩; cases e
  · exact False.elim
theorem W_optM {o : Option α} : W (optM o) st Q ↔ ∃ a, o = some a ∧ Q a st := by
  cases o with
  | none => simp only [optM, W_botM]; simp
  | some a => simp only [optM, W_ret1]; simp
theorem W_guard {c : Prop} [Decidable c] {m : Mn α} : W (if c then m else botM) st Q ↔ c ∧ W m st Q := by
  by_cases h : c
  · simp [h]
  · simp [h, W_botM]
end
section
variable {st : St}
theorem W_pvar {i : Nat} {Q : D → St → Prop} : W (pvar i) st Q ↔ ∃ d, st.loc i = some d ∧ Q d st := by
  unfold W pvar
  cases e : st.loc i with
  | none => simp
  | some d =>
    constructor
    · rintro ⟨a, st', e', q⟩; cases e'; exact ⟨d, rfl, q⟩
    · rintro ⟨a, e', q⟩; cases e'; exact ⟨d, st, rfl, q⟩
/-- what comes behind a statement -/
noncomputable def thn (m2 : Mn Fl) (Q : Fl → St → Prop) : Fl → St → Prop
  | .next, st' => W m2 st' Q
  | .brk, st' => Q .brk st'
  | .cont, st' => Q .cont st'
  | .ret d, st' => Q (.ret d) st'
theorem W_seqM {m1 m2 : Mn Fl} {Q : Fl → St → Prop} : W (seqM m1 m2) st Q ↔ W m1 st (thn m2 Q) := by
  unfold seqM
  rw [W_bnd]
  constructor
  · intro h
    refine h.mono fun fl st' q => ?_
    cases fl <;> simp only [thn] <;> first | exact q | exact W_ret1.mp q
  · intro h
    refine h.mono fun fl st' q => ?_
    cases fl <;> simp only [thn] at q <;> first | exact q | exact W_ret1.mpr q
theorem thn_next {m2 : Mn Fl} {Q : Fl → St → Prop} : thn m2 Q .next st ↔ W m2 st Q := Iff.rfl
theorem thn_ret {m2 : Mn Fl} {Q : Fl → St → Prop} {d : D} : thn m2 Q (.ret d) st ↔ Q (.ret d) st := Iff.rfl
theorem W_ifM {c : Mn Bool} {m1 m2 : Mn Fl} {Q : Fl → St → Prop} : W (ifM c m1 m2) st Q ↔ W c st (fun b st' => if b = true then W m1 st' Q else W m2 st' Q) := by
  unfold ifM
  rw [W_bnd]
  constructor <;> intro h <;> refine h.mono fun b st' q => ?_ <;> cases b <;> exact q
theorem W_truthy_bool {b : Bool} {Q : Bool → St → Prop} : W (truthyD (.bool b)) st Q ↔ Q b st := by unfold truthyD; exact W_ret1
theorem W_notM {m : Mn Bool} {Q : Bool → St → Prop} : W (notM m) st Q ↔ W m st (fun b st' => Q (!b) st') := by unfold notM; rw [W_bnd]; simp only [W_ret1]
theorem W_andM {m n : Mn Bool} {Q : Bool → St → Prop} : W (andM m n) st Q ↔ W m st (fun b st' => if b = true then W n st' Q else Q false st') := by
  unfold andM; rw [W_bnd]
  constructor <;> intro h <;> refine h.mono fun b st' q => ?_ <;> cases b <;> first | exact q | exact W_ret1.mp q | exact W_ret1.mpr q
theorem W_orM {m n : Mn Bool} {Q : Bool → St → Prop} : W (orM m n) st Q ↔ W m st (fun b st' => if b = true then Q true st' else W n st' Q) := by
  unfold orM; rw [W_bnd]
  constructor <;> intro h <;> refine h.mono fun b st' q => ?_ <;> cases b <;> first | exact q | exact W_ret1.mp q | exact W_ret1.mpr q
theorem W_andV {m n : Mn D} {Q : D → St → Prop} : W (andV m n) st Q ↔ W m st (fun d st' => W (truthyD d) st' fun b st'' => if b = true then W n st'' Q else Q d st'') := by
  unfold andV; rw [W_bnd]; simp only [W_bnd]
  constructor <;> intro h <;> refine h.mono fun d st' q => q.mono fun b st'' q => ?_ <;> cases b <;> first | exact q | exact W_ret1.mp q | exact W_ret1.mpr q
/-! operations -/
variable {a b : Int} {x y : Str} {Q : D → St → Prop}
theorem W_gtI : W (pGt (.int a) (.int b)) st Q ↔ Q (.bool (decide (a > b))) st := W_ret1
theorem W_isi {T : String} {d : D} : W (pIsi T d) st Q ↔ ∃ T', tyD d st.sto = some T' ∧ Q (.bool (subB T' T)) st := by
  unfold W pIsi
  cases e : tyD d st.sto with
  | none => simp
  | some T' =>
    constructor
    · rintro ⟨a, st', e, q⟩; cases e; exact ⟨_, rfl, q⟩
    · rintro ⟨T'', e, q⟩; cases e; exact ⟨_, _, rfl, q⟩
theorem W_lenS : W (pLen [.str x]) st Q ↔ x.length < 2 ^ 62 ∧ Q (.int x.length) st := by unfold pLen; rw [W_guard, W_ret1]
theorem W_lenR {k : Nat} : Mpr (W (pLen [.ref k]) st Q) (∃ ds, st.sto[k]? = some (.list ds) ∧ ds.length < 2 ^ 62 ∧ Q (.int ds.length) st) := .mk <| by
  unfold W pLen
  rintro ⟨ds, h, h2, q⟩
  exact ⟨_, _, by simp only [h, h2, if_true], q⟩
theorem W_strM {F : Str → Mn D} : W (strM F (.str x)) st Q ↔ W (F x) st Q := Iff.rfl
theorem W_range1 {n : Int} {Q : Src → St → Prop} : W (pRange [.int n]) st Q ↔ okR n = true ∧ Q ⟨rngL 0 1 n.toNat, fun _ => True⟩ st := by
  show W (if okR n = true then ret1 _ else botM) st Q ↔ _
  rw [W_guard, W_ret1]
theorem W_range2 {Q : Src → St → Prop} : W (pRange [.int a, .int b]) st Q ↔ (okR a && okR b) = true ∧ Q ⟨rngL a 1 (b - a).toNat, fun _ => True⟩ st := by
  show W (if (okR a && okR b) = true then ret1 _ else botM) st Q ↔ _
  rw [W_guard, W_ret1]
theorem W_allocL {ds : List D} : W (allocL ds) st Q ↔ Q (.ref st.sto.length) ⟨st.loc, st.sto ++ [.list ds]⟩ := by
  unfold W allocL
  constructor
  · rintro ⟨b, st', e, q⟩; cases e; exact q
  · intro q; exact ⟨_, _, rfl, q⟩
theorem W_split : W (pSplit x [.str y]) st Q ↔ ((y.length == 0) = false ∧ x.length ≤ sizeLine ∧ (partsBetween x (occurrences x y 0 x.length (x.length + 1)) y.length).length ≤ sizeLine) ∧ Q (.ref st.sto.length) ⟨st.loc, st.sto ++ [.list ((Txt.split x y).map D.str)]⟩ := by
  unfold pSplit; rw [W_guard, W_allocL]
theorem W_join {k : Nat} : Mpr (W (pJoin x [.ref k]) st Q) (∃ ds xs, st.sto[k]? = some (.list ds) ∧ strsOf ds = some xs ∧ JoinOk x xs = true ∧ Q (.str (Str.join x xs)) st) := .mk <| by
  unfold W pJoin
  rintro ⟨ds, xs, h, h2, h3, q⟩
  exact ⟨_, _, by simp only [h, h2, h3, if_true], q⟩
theorem W_srcR {k : Nat} {Q : Src → St → Prop} : Mpr (W (srcOf (.ref k)) st Q) (∃ ds, st.sto[k]? = some (.list ds) ∧ Q ⟨ds, fun σ => σ[k]? = some (.list ds)⟩ st) := .mk <| by
  unfold W srcOf
  rintro ⟨ds, h, q⟩
  exact ⟨_, _, by simp only [h], q⟩
theorem W_srcS {Q : Src → St → Prop} : W (srcOf (.str x)) st Q ↔ Q ⟨signs x, fun _ => True⟩ st := W_ret1
theorem W_idxN {ns : List Int} {i : Int} : W (pIdx (.scr ns) (.int i)) st Q ↔ (0 ≤ i ∧ i < 2 ^ 63) ∧ ∃ n, ns[i.toNat]? = some n ∧ Q (.int n) st := by
  unfold pIdx
  rw [W_guard, W_optM]
  simp only [Option.map_eq_some_iff]
  constructor
  · rintro ⟨h, d, ⟨n, e, rfl⟩, q⟩; exact ⟨h, n, e, q⟩
  · rintro ⟨h, n, e, q⟩; exact ⟨h, .int n, ⟨n, e, rfl⟩, q⟩
theorem W_idxS {i : Int} (h0 : 0 ≤ i) (h1 : i < x.length) (h2 : x.length ≤ 2 ^ 62) : W (pIdx (.str x) (.int i)) st Q ↔ Q (.str ⟨#[x.cps[i.toNat]'(by show i.toNat < x.length; exact d_lt (iLt fun hzz => linI [_, _, _] [le1 x0 x1, lt1 x2 x0, eq1 x1 x2] (Eq.refl true) hzz h1 (tn_eq (iLe fun hyy => linI [_] [lt1 x0 (.n 0), le1 (.n 0) x0] (Eq.refl true) hyy h0))))]⟩) st := by
  have hi : inLong i = true := inLong_iff.mpr ⟨by omega, by omega⟩
  have hlt : i.toNat < x.cps.size := by show i.toNat < x.length; exact d_lt (iLt fun hzz => linI [_, _, _] [le1 x0 x1, lt1 x2 x0, eq1 x1 x2] (Eq.refl true) hzz h1 (tn_eq (iLe fun hyy => linI [_] [lt1 x0 (.n 0), le1 (.n 0) x0] (Eq.refl true) hyy h0)))
  unfold pIdx
  rw [W_guard, W_optM, StrLaws.seqIndex_nonneg h0 h1]
  simp only [Option.bind_some, Array.getElem?_eq_getElem hlt, Option.map_some, hi, true_and]
  constructor
  · rintro ⟨d, e, q⟩; cases e; exact q
  · intro q; exact ⟨_, rfl, q⟩
end

theorem upd_at {loc : Loc} {i j : Nat} {d : D} : upd loc i d j = bif j == i then some d else loc j := by
  unfold upd
  by_cases h : j = i
  · simp [h]
  · rw [if_neg h, beq_false_of_ne h]; rfl
/-! calls -/
theorem W_mkFn {ps : List Nat} {body : Mn Fl} {ds : List D} {st : St} {Q : D → St → Prop} (hl : ds.length = ps.length) (h : W body ⟨bindP emptyL ps ds, st.sto⟩ (fun fl st' => match fl with | .ret d => Q d ⟨st.loc, st'.sto⟩ | _ => Q .none ⟨st.loc, st'.sto⟩)) :
    W (mkFn ps body ds) st Q := by
  obtain ⟨fl, st', e, q⟩ := h
  unfold W mkFn
  rw [if_pos hl, e]
  cases fl <;> exact ⟨_, _, rfl, q⟩

/-! loops -/
theorem W_forM {tgt : D → Loc → Option Loc} {g : Sto → Prop} {body : Mn Fl} {Q : Fl → St → Prop} (J : List D → St → Prop) (hstep : ∀ d rest st, J (d :: rest) st → g st.sto ∧ ∃ loc', tgt d st.loc = some loc' ∧ W body ⟨loc', st.sto⟩ (fun fl st' => match fl with
      | .next => J rest st'
      | .cont => J rest st'
      | .brk => Q .next st'
      | .ret d => Q (.ret d) st'))
    (hend : ∀ st, J [] st → g st.sto ∧ Q .next st) : ∀ (ds : List D) (st : St), J ds st → W (forM tgt g body ds) st Q
  | [], st, h => by
    obtain ⟨h1, h2⟩ := hend st h
    exact ⟨.next, st, by simp only [forM, h1, if_true], h2⟩
  | d :: rest, st, h => by
    obtain ⟨h1, loc', h2, fl, st', e, q⟩ := hstep d rest st h
    cases fl with
    | next =>
      obtain ⟨fl', st'', e', q'⟩ := W_forM J hstep hend rest st' q
      exact ⟨fl', st'', by simp only [forM, h1, if_true, h2, e]; exact e', q'⟩
    | cont =>
      obtain ⟨fl', st'', e', q'⟩ := W_forM J hstep hend rest st' q
      exact ⟨fl', st'', by simp only [forM, h1, if_true, h2, e]; exact e', q'⟩
    | brk => exact ⟨_, _, by simp only [forM, h1, if_true, h2, e], q⟩
    | ret d => exact ⟨_, _, by simp only [forM, h1, if_true, h2, e], q⟩

/-- the store has only grown -/
noncomputable def Ext (σ σ' : Sto) : Prop := ∃ j, σ' = σ ++ j
theorem Ext.refl (σ : Sto) : Ext σ σ := ⟨[], by simp⟩
theorem Ext.trans {a b c : Sto} (x : Ext a b) (y : Ext b c) : Ext a c := by
  obtain ⟨j, rfl⟩ := x; obtain ⟨k, rfl⟩ := y; exact ⟨j ++ k, by simp⟩
theorem Ext.get {a b : Sto} (x : Ext a b) {k : Nat} {o : PO} (e : a[k]? = some o) : b[k]? = some o := by
  obtain ⟨j, rfl⟩ := x
  rw [List.getElem?_append_left (List.getElem?_eq_some_iff.mp e).1]; exact e
theorem Ext.app (σ j : Sto) : Ext σ (σ ++ j) := ⟨j, rfl⟩
theorem Ext.len {a b : Sto} (x : Ext a b) : a.length ≤ b.length := by obtain ⟨j, rfl⟩ := x; simp

/-- a comprehension whose element and test only grow the store -/
theorem compM_ext {tgt : D → Loc → Option Loc} {g : Sto → Prop} {mt : Mn Bool} {me : Mn D} (keep : D → Bool) (V : D → D → Sto → Prop) (A : Loc → Prop) {σ₀ : Sto} (hV : ∀ d x σ σ', Ext σ σ' → V d x σ → V d x σ') (hg : ∀ σ, Ext σ₀ σ → g σ) :
    ∀ (ds acc : List D) (loc : Loc) (σ : Sto), (∀ d, d ∈ ds → ∀ loc σ, A loc → Ext σ₀ σ → ∃ loc', tgt d loc = some loc' ∧ A loc' ∧ W mt ⟨loc', σ⟩ (fun b st' => b = keep d ∧ st'.loc = loc' ∧ Ext σ st'.sto ∧ (b = true → W me st' (fun x st'' => st''.loc = loc' ∧ Ext st'.sto st''.sto ∧ V d x st''.sto)))) →
      A loc → Ext σ₀ σ → ∃ xs loc' σ', compM tgt g mt me ds acc ⟨loc, σ⟩ = .ok (acc ++ xs) ⟨loc', σ'⟩ ∧ A loc' ∧ Ext σ σ' ∧ All2 (fun x d => V d x σ') xs (ds.filter keep)
  | [], acc, loc, σ, _, hA, hx => ⟨[], loc, σ, by simp only [compM, hg σ hx, if_true, List.append_nil], hA, .refl _, .nil⟩
  | d :: rest, acc, loc, σ, h, hA, hx => by
    obtain ⟨loc', e1, hA', b, st', e2, rfl, hl, hx', he⟩ := h d List.mem_cons_self loc σ hA hx
    obtain ⟨l2, σ2⟩ := st'
    cases hl
    have hrest := fun d' m => h d' (List.mem_cons_of_mem _ m)
    cases hk : keep d with
    | false =>
      rw [hk] at e2
      obtain ⟨xs, l3, σ3, e3, hA3, hx3, r⟩ := compM_ext keep V A hV hg rest acc l2 σ2 hrest hA' (hx.trans hx')
      refine ⟨xs, l3, σ3, ?_, hA3, hx'.trans hx3, ?_⟩
      · simp only [compM, hg σ hx, if_true, e1, e2]; exact e3
      · simp only [List.filter, hk]; exact r
    | true =>
      rw [hk] at e2
      obtain ⟨x, st3, e3, hl3, hx3, hv⟩ := he hk
      obtain ⟨l3, σ3⟩ := st3
      have hl4 : l3 = l2 := hl3
      subst hl4
      obtain ⟨xs, l4, σ4, e4, hA4, hx4, r⟩ := compM_ext keep V A hV hg rest (acc ++ [x]) l3 σ3 hrest hA' ((hx.trans hx').trans hx3)
      refine ⟨x :: xs, l4, σ4, ?_, hA4, (hx'.trans hx3).trans hx4, ?_⟩
      · simp only [compM, hg σ hx, if_true, e1, e2, e3]; simpa using e4
      · simp only [List.filter, hk]; exact .cons (hV _ _ _ _ hx4 hv) r
theorem W_compD {cls : List Nat} {tgt : D → Loc → Option Loc} {mt : Mn Bool} {me : Mn D} {src : Src} {st : St} {Q : D → St → Prop} (keep : D → Bool) (V : D → D → Sto → Prop) (A : Loc → Prop) (hlen : src.ds.length ≤ sizeLine) (hV : ∀ d x σ σ', Ext σ σ' → V d x σ → V d x σ') (hg : ∀ σ, Ext st.sto σ → src.g σ)
    (hA : A (clearL cls st.loc)) (h : ∀ d, d ∈ src.ds → ∀ loc σ, A loc → Ext st.sto σ → ∃ loc', tgt d loc = some loc' ∧ A loc' ∧ W mt ⟨loc', σ⟩ (fun b st' => b = keep d ∧ st'.loc = loc' ∧ Ext σ st'.sto ∧ (b = true → W me st' (fun x st'' => st''.loc = loc' ∧ Ext st'.sto st''.sto ∧ V d x st''.sto))))
    (hQ : ∀ xs σ', Ext st.sto σ' → All2 (fun x d => V d x σ') xs (src.ds.filter keep) → Q (.ref σ'.length) ⟨st.loc, σ' ++ [.list xs]⟩) : W (compD cls tgt mt me src) st Q := by
  obtain ⟨xs, l, σ', e, _, hx, r⟩ := compM_ext keep V A hV hg src.ds [] (clearL cls st.loc) st.sto h hA (.refl _)
  refine ⟨_, _, ?_, hQ xs σ' hx r⟩
  unfold compD
  rw [if_pos hlen, e]
  simp
end Mine

end

/- part P2 -/
section
set_option Elab.async false
set_option linter.unusedVariables false
namespace Mine
open PySem PyProof.Rows PySem.Builtin.Str

/-! texts as lists of signs -/
noncomputable def cl (x : Str) : List Nat := x.cps.toList
theorem cl_append (x y : Str) : cl (x ++ y) = cl x ++ cl y := by
  show (x.cps ++ y.cps).toList = _
  simp [cl]
theorem cl_length (x : Str) : (cl x).length = x.length := by simp [cl, Str.length]
noncomputable def joinL (c : Nat) : List (List Nat) → List Nat
  | [] => []
  | [a] => a
  | a :: b :: r => a ++ c :: joinL c (b :: r)
theorem cl_join (c : Nat) : ∀ xs : List Str, cl (Str.join ⟨#[c]⟩ xs) = joinL c (xs.map cl)
  | [] => rfl
  | [x] => rfl
  | x :: y :: r => by
    have := cl_join c (y :: r)
    show cl (x ++ ⟨#[c]⟩ ++ Str.join ⟨#[c]⟩ (y :: r)) = _
    rw [cl_append, cl_append, this]
    simp [joinL, cl]
theorem app_inj {c : Nat} : ∀ {a b r s : List Nat}, c ∉ a → c ∉ b → a ++ c :: r = b ++ c :: s → a = b ∧ r = s
  | [], [], r, s, _, _, e => by simpa using e
  | [], y :: b, r, s, _, hb, e => by simp at e; exact absurd (by rw [e.1]; exact List.mem_cons_self) hb
  | x :: a, [], r, s, ha, _, e => by simp at e; exact absurd (by rw [e.1]; exact List.mem_cons_self) ha
  | x :: a, y :: b, r, s, ha, hb, e => by
    simp only [List.cons_append, List.cons.injEq] at e
    obtain ⟨h1, h2⟩ := app_inj (fun m => ha (List.mem_cons_of_mem _ m)) (fun m => hb (List.mem_cons_of_mem _ m)) e.2
    exact ⟨by rw [e.1, h1], h2⟩
theorem joinL_inj {c : Nat} : ∀ {as bs : List (List Nat)}, as ≠ [] → bs ≠ [] → (∀ a, a ∈ as → c ∉ a) → (∀ b, b ∈ bs → c ∉ b) → joinL c as = joinL c bs → as = bs
  | [], _, h, _, _, _, _ => absurd rfl h
  | _, [], _, h, _, _, _ => absurd rfl h
  | [a], [b], _, _, _, _, e => by simpa [joinL] using e
  | [a], b :: b' :: r, _, _, ha, _, e => by
    simp only [joinL] at e
    exact absurd (by rw [e]; simp) (ha a List.mem_cons_self)
  | a :: a' :: r, [b], _, _, _, hb, e => by
    simp only [joinL] at e
    exact absurd (by rw [← e]; simp) (hb b List.mem_cons_self)
  | a :: a' :: r, b :: b' :: s, _, _, ha, hb, e => by
    simp only [joinL] at e
    obtain ⟨h1, h2⟩ := app_inj (ha a List.mem_cons_self) (hb b List.mem_cons_self) e
    rw [h1, joinL_inj (by simp) (by simp) (fun x m => ha x (List.mem_cons_of_mem _ m)) (fun x m => hb x (List.mem_cons_of_mem _ m)) h2]

/-- a text cut at a sign, as lists -/
noncomputable def splitL (c : Nat) : List Nat → List (List Nat)
  | [] => [[]]
  | x :: r => if x = c then [] :: splitL c r else match splitL c r with
    | [] => [[x]]
    | a :: s => (x :: a) :: s
theorem splitL_ne (c : Nat) : ∀ l, splitL c l ≠ []
  | [] => by simp [splitL]
  | x :: r => by
    unfold splitL
    split
    · simp
    · split <;> simp
theorem join_splitL (c : Nat) : ∀ l, joinL c (splitL c l) = l
  | [] => rfl
  | x :: r => by
    have ih := join_splitL c r
    unfold splitL
    by_cases h : x = c
    · rw [if_pos h]
      cases e : splitL c r with
      | nil => exact absurd e (splitL_ne c r)
      | cons a s => rw [e] at ih; show [] ++ c :: joinL c (a :: s) = _; rw [ih, h]; rfl
    · rw [if_neg h]
      cases e : splitL c r with
      | nil => exact absurd e (splitL_ne c r)
      | cons a s =>
        rw [e] at ih
        cases s with
        | nil => show x :: a = _; rw [← ih]; rfl
        | cons b t => show (x :: a) ++ c :: joinL c (b :: t) = _; rw [← ih]; rfl
theorem splitL_free (c : Nat) : ∀ l, ∀ p, p ∈ splitL c l → c ∉ p
  | [], p, m => by simp [splitL] at m; rw [m]; simp
  | x :: r, p, m => by
    have ih := splitL_free c r
    unfold splitL at m
    by_cases h : x = c
    · rw [if_pos h] at m
      rcases List.mem_cons.mp m with rfl | m
      · simp
      · exact ih p m
    · rw [if_neg h] at m
      cases e : splitL c r with
      | nil => exact absurd e (splitL_ne c r)
      | cons a s =>
        rw [e] at m ih
        rcases List.mem_cons.mp m with rfl | m
        · intro q
          rcases List.mem_cons.mp q with q | q
          · exact h q.symm
          · exact ih a List.mem_cons_self q
        · exact ih p (List.mem_cons_of_mem _ m)
theorem split_ne (x : Str) (c : Nat) : Txt.split x ⟨#[c]⟩ ≠ [] := by
  unfold Txt.split
  split
  · simp
  · split
    · simp
    · rw [StrLaws.partsBetween_eq]
      obtain ⟨p, r, e⟩ := StrLaws.partsFrom_ne x (⟨#[c]⟩ : Str).length 0 (occurrences x ⟨#[c]⟩ 0 x.length (x.length + 1))
      rw [e]; simp
theorem cl_split (x : Str) (c : Nat) : (Txt.split x ⟨#[c]⟩).map cl = splitL c (cl x) := by
  refine joinL_inj (c := c) (by simpa using split_ne x c) (splitL_ne _ _) (fun a m => ?_) (splitL_free c _) ?_
  · obtain ⟨p, mp, rfl⟩ := List.mem_map.mp m
    exact StrLaws.split_free x c p mp
  · rw [← cl_join, StrLaws.join_split, join_splitL]
theorem splitL_joinL {c : Nat} {as : List (List Nat)} (h : as ≠ []) (hf : ∀ a, a ∈ as → c ∉ a) : splitL c (joinL c as) = as :=
  joinL_inj (splitL_ne _ _) h (splitL_free c _) hf (join_splitL c _)
theorem partsFrom_len (x : Str) (w : Nat) : ∀ (cuts : List Nat) (a : Nat), (StrLaws.partsFrom x w a cuts).length = cuts.length + 1
  | [], a => rfl
  | c :: r, a => by
    have := partsFrom_len x w r (c + w)
    simp only [StrLaws.partsFrom, List.length_cons, this]
theorem W_split1 {x : Str} {c : Nat} {st : St} {Q : D → St → Prop} (hx : x.length + 2 ≤ sizeLine) (h : Q (.ref st.sto.length) ⟨st.loc, st.sto ++ [.list ((Txt.split x ⟨#[c]⟩).map D.str)]⟩) : W (pSplit x [.str ⟨#[c]⟩]) st Q := by
  refine W_split.mpr ⟨⟨rfl, by exact nLe fun hzz => linN [_, _] [lt1 x1 x0, le1 (.a x0 (.n 2)) x1] (Eq.refl true) hzz hx, ?_⟩, h⟩
  rw [StrLaws.partsBetween_eq, partsFrom_len]
  have := StrLaws.occ_length_le_len x ⟨#[c]⟩ 0 x.length (x.length + 1)
  exact nLe fun hzz => linN [_, _, _, _] [lt1 x0 (.a x1 (.n 1)), le1 (.a x2 (.n 2)) x0, le1 x1 x3, le1 x3 (.a x2 (.n 1))] (Eq.refl true) hzz hx this (sub_hi _ _)
theorem strsOf_map (xs : List Str) : strsOf (xs.map D.str) = some xs := by
  induction xs with
  | nil => rfl
  | cons x r ih => simp [strsOf, ih]
theorem intsOf_map (xs : List Int) : intsOf (xs.map D.int) = some xs := by
  induction xs with
  | nil => rfl
  | cons x r ih => simp [intsOf, ih]
theorem joinOk_of {sep : Str} {xs : List Str} {B : Nat} (hB : ∀ x, x ∈ xs → x.length ≤ B) (h : xs.length * B + xs.length * sep.length ≤ 16777216) : JoinOk sep xs = true := by
  unfold JoinOk
  rw [StrLaws.joinFits hB h]; rfl
theorem empty_eq : Str.ofString "" = ⟨#[]⟩ := rfl
theorem nl_eq : Str.ofString "\n" = ⟨#[10]⟩ := rfl
theorem cl_join0 : ∀ xs : List Str, cl (Str.join ⟨#[]⟩ xs) = (xs.map cl).flatten
  | [] => rfl
  | [x] => by simp [Str.join]
  | x :: y :: r => by
    have := cl_join0 (y :: r)
    show cl (x ++ ⟨#[]⟩ ++ Str.join ⟨#[]⟩ (y :: r)) = _
    rw [cl_append, cl_append, this]
    simp [cl]
theorem filter_all {α : Type} (l : List α) : l.filter (fun _ => true) = l := List.filter_eq_self.mpr fun _ _ => rfl
theorem rngL_mem {a s : Int} {n : Nat} {d : D} (h : d ∈ rngL a s n) : ∃ j : Nat, j < n ∧ d = .int (a + j * s) := by
  simp only [rngL, List.mem_map, List.mem_range] at h
  obtain ⟨j, hj, rfl⟩ := h
  exact ⟨j, hj, rfl⟩
theorem rngL_len {a s : Int} {n : Nat} : (rngL a s n).length = n := by simp [rngL]
end Mine

end

/- part P3 -/
section
set_option Elab.async false
set_option linter.unusedVariables false
namespace Mine
open PySem PyProof.Rows PySem.Builtin.Str

section
variable {st : St} {a b : Int} {x y : Str} {Q : D → St → Prop}
theorem W_add_ref {k l : Nat} : Mpr (W (pAdd (.ref k) (.ref l)) st Q) (∃ ds es, st.sto[k]? = some (.list ds) ∧ st.sto[l]? = some (.list es) ∧ ds.length + es.length ≤ sizeLine ∧ Q (.ref st.sto.length) ⟨st.loc, st.sto ++ [.list (ds ++ es)]⟩) := .mk <| by
  unfold W pAdd
  rintro ⟨d1, d2, h1, h2, h3, q⟩
  exact ⟨_, _, by simp only [h1, h2, h3, if_true, allocL], q⟩
theorem W_ltS : W (pLt (.str x) (.str y)) st Q ↔ Q (.bool (decide (cl x < cl y))) st := W_ret1
theorem W_gtS : W (pGt (.str x) (.str y)) st Q ↔ Q (.bool (decide (cl y < cl x))) st := W_ret1
theorem W_ends : W (pEndswith x [.str y]) st Q ↔ Q (.bool (Txt.endswith x y)) st := W_ret1
theorem W_cut_ref {k : Nat} {l h : Option Int} : Mpr (W (pSlice (.ref k) l h) st Q) (∃ ds, st.sto[k]? = some (.list ds) ∧ ds.length ≤ sizeLine ∧ Q (.ref st.sto.length) ⟨st.loc, st.sto ++ [.list (cutL l h ds)]⟩) := .mk <| by
  unfold W pSlice
  rintro ⟨d1, h1, h3, q⟩
  exact ⟨_, _, by simp only [h1, h3, if_true, allocL], q⟩
theorem W_listM {ms : Mn (List D)} : W (listM ms) st Q ↔ W ms st fun ds st1 => ds.length ≤ sizeLine ∧ Q (.ref st1.sto.length) ⟨st1.loc, st1.sto ++ [.list ds]⟩ := by
  unfold listM
  simp only [W_bnd, W_guard, W_allocL]
theorem W_tupM {ms : Mn (List D)} : W (tupM ms) st Q ↔ W ms st fun ds st1 => ds.length ≤ sizeLine ∧ Q (.tup ds) st1 := by
  unfold tupM
  simp only [W_bnd, W_guard, W_ret1]
theorem W_idxR {k : Nat} {i : Int} (h0 : 0 ≤ i) {ds : List D} (hk : st.sto[k]? = some (.list ds)) (h1 : i < ds.length) (h2 : ds.length ≤ 2 ^ 62) : W (pIdx (.ref k) (.int i)) st Q ↔ Q (ds[i.toNat]'(by exact d_lt (iLt fun hzz => linI [_, _, _] [le1 x0 x1, lt1 x2 x0, eq1 x1 x2] (Eq.refl true) hzz h1 (tn_eq (iLe fun hyy => linI [_] [lt1 x0 (.n 0), le1 (.n 0) x0] (Eq.refl true) hyy h0))))) st := by
  have hi : inLong i = true := inLong_iff.mpr ⟨by omega, by omega⟩
  have hs : seqIndex? i ds.length = some i.toNat := StrLaws.seqIndex_nonneg h0 h1
  have hlt : i.toNat < ds.length := by exact d_lt (iLt fun hzz => linI [_, _, _] [le1 x0 x1, lt1 x2 x0, eq1 x1 x2] (Eq.refl true) hzz h1 (tn_eq (iLe fun hyy => linI [_] [lt1 x0 (.n 0), le1 (.n 0) x0] (Eq.refl true) hyy h0)))
  unfold W pIdx
  dsimp only
  rw [hk]
  simp only [hi, if_true, hs, Option.bind_some, List.getElem?_eq_getElem hlt, optM, ret1]
  constructor
  · rintro ⟨d, st', e, q⟩; cases e; exact q
  · intro q; exact ⟨_, _, rfl, q⟩
end

/-- a loop that looks for what is not ok -/
theorem W_forM_search {tgt : D → Loc → Option Loc} {g : Sto → Prop} {body : Mn Fl} {Q : Fl → St → Prop} (A : Loc → Prop) (ok : D → Bool) (r : D) {σ₀ : Sto} (hg : ∀ σ, Ext σ₀ σ → g σ) : ∀ (ds : List D) (loc : Loc) (σ : Sto),
    (∀ d, d ∈ ds → ∀ loc σ, A loc → Ext σ₀ σ → ∃ loc', tgt d loc = some loc' ∧ W body ⟨loc', σ⟩ (fun fl st' => A st'.loc ∧ Ext σ st'.sto ∧ fl = if ok d = true then .next else .ret r)) → A loc → Ext σ₀ σ →
    (∀ loc' σ', A loc' → Ext σ σ' → Q (if ds.all ok = true then .next else .ret r) ⟨loc', σ'⟩) → W (forM tgt g body ds) ⟨loc, σ⟩ Q
  | [], loc, σ, _, hA, hx, hQ => ⟨.next, ⟨loc, σ⟩, by simp only [forM, hg σ hx, if_true], hQ loc σ hA (.refl _)⟩
  | d :: rest, loc, σ, h, hA, hx, hQ => by
    obtain ⟨loc', e1, fl, ⟨l2, σ2⟩, e2, hA2, hx2, rfl⟩ := h d List.mem_cons_self loc σ hA hx
    cases hk : ok d with
    | true =>
      simp only [hk, if_true] at e2
      obtain ⟨fl, st', e3, q⟩ := W_forM_search A ok r hg rest l2 σ2 (fun d m => h d (List.mem_cons_of_mem _ m)) hA2 (hx.trans hx2) (Q := Q) fun l3 σ3 hA3 hx3 => by
        have := hQ l3 σ3 hA3 (hx2.trans hx3)
        simpa [hk] using this
      exact ⟨fl, st', by simp only [forM, hg σ hx, if_true, e1, e2]; exact e3, q⟩
    | false =>
      simp only [hk, Bool.false_eq_true, if_false] at e2
      refine ⟨.ret r, ⟨l2, σ2⟩, by simp only [forM, hg σ hx, if_true, e1, e2], ?_⟩
      have := hQ l2 σ2 hA2 hx2
      simpa [hk] using this
end Mine

end

/- part P4 -/
section
set_option Elab.async false
set_option linter.unusedVariables false
set_option linter.unusedSimpArgs false
namespace Mine
open PySem PyProof.Rows PySem.Builtin.Str

section
variable {st : St} {a b : Int} {x y : Str} {Q : D → St → Prop}
theorem W_lst {F : Nat → Mn D} {k : Nat} : Mpr (W (lstM F (.ref k)) st Q) ((∃ ds, st.sto[k]? = some (.list ds)) ∧ W (F k) st Q) := .mk <| by
  unfold W lstM
  rintro ⟨⟨ds, h⟩, a, st', e, q⟩
  exact ⟨a, st', by simp only [h]; exact e, q⟩
theorem W_append {k : Nat} {d : D} : Mpr (W (pAppend k d) st Q) (∃ ds, st.sto[k]? = some (.list ds) ∧ ds.length ≤ sizeLine ∧ Q .none ⟨st.loc, st.sto.set k (.list (ds ++ [d]))⟩) := .mk <| by
  unfold W pAppend
  rintro ⟨ds, h, h2, q⟩
  exact ⟨_, _, by simp only [h, h2, if_true], q⟩
theorem W_listOf {k : Nat} {ds : List D} (h : st.sto[k]? = some (.list ds)) (hl : ds.length ≤ sizeLine) (hQ : Q (.ref st.sto.length) ⟨st.loc, st.sto ++ [.list ds]⟩) : W (pListOf [.ref k]) st Q :=
  ⟨_, _, by unfold pListOf; simp only [h, hl, if_true, allocL], hQ⟩
theorem W_enum {k : Nat} {Q : Src → St → Prop} : Mpr (W (pEnum [.ref k]) st Q) (∃ ds, st.sto[k]? = some (.list ds) ∧ Q ⟨enumed ds, enumG k ds⟩ st) := .mk <| by
  unfold W pEnum
  rintro ⟨ds, h, q⟩
  exact ⟨_, _, by simp only [h], q⟩
theorem W_range3 {c : Int} {Q : Src → St → Prop} : W (pRange [.int a, .int b, .int c]) st Q ↔ (okR a && okR b && (decide (1 ≤ c) && decide (c < 1000))) = true ∧ Q ⟨rngL a c (Builtin.Range.rangeSize a b c).toNat, fun _ => True⟩ st := by
  show W (if (okR a && okR b && (decide (1 ≤ c) && decide (c < 1000))) = true then ret1 _ else botM) st Q ↔ _
  rw [W_guard, W_ret1]
end
theorem fmod_range {a b : Int} (h : 0 < b) : 0 ≤ a.fmod b ∧ a.fmod b < b := ⟨Int.fmod_nonneg_of_pos a h, Int.fmod_lt_of_pos a h⟩
theorem small64_of {a : Int} (h : -1000000 < a) (h2 : a < 1000000) : small64 a = true := by simp only [small64, Bool.and_eq_true, decide_eq_true_eq]; omega
end Mine

end

/- part P5 -/
section
set_option Elab.async false
set_option linter.unusedVariables false
namespace Mine
open PySem PyProof.Rows
/-! steps that are computed -/
section
variable {α : Type} {st st1 : St}
theorem W_run {m : Mn α} {a : α} {Q : α → St → Prop} (e : m st = .ok a st1) (h : Q a st1) : W m st Q := ⟨a, st1, e, h⟩
theorem W_seq1 {m1 m2 : Mn Fl} {Q : Fl → St → Prop} (e : m1 st = .ok .next st1) (h : W m2 st1 Q) : W (seqM m1 m2) st Q := W_seqM.mpr ⟨_, _, e, h⟩
theorem W_seqR {m1 m2 : Mn Fl} {d : D} {Q : Fl → St → Prop} (e : m1 st = .ok (.ret d) st1) (h : Q (.ret d) st1) : W (seqM m1 m2) st Q := W_seqM.mpr ⟨_, _, e, h⟩
theorem W_seqW {m1 m2 : Mn Fl} {Q : Fl → St → Prop} (h : W m1 st (thn m2 Q)) : W (seqM m1 m2) st Q := W_seqM.mpr h
/-- a test in a chain of statements: the chain goes on behind the suite that runs -/
theorem W_seqI {c : Mn Bool} {b : Bool} {m1 m2 k : Mn Fl} {Q : Fl → St → Prop} (e : c st = .ok b st1) (ht : b = true → W m1 st1 (thn k Q)) (hf : b = false → W m2 st1 (thn k Q)) : W (seqM (ifM c m1 m2) k) st Q := by
  refine W_seqM.mpr (W_ifM.mpr ⟨_, _, e, ?_⟩)
  cases b with
  | true => exact ht rfl
  | false => exact hf rfl
theorem W_ifT {c : Mn Bool} {b : Bool} {m1 m2 : Mn Fl} {Q : Fl → St → Prop} (e : c st = .ok b st1) (h : b = true) (ht : W m1 st1 Q) : W (ifM c m1 m2) st Q := by
  subst h; exact W_ifM.mpr ⟨_, _, e, ht⟩
theorem W_ifF {c : Mn Bool} {b : Bool} {m1 m2 : Mn Fl} {Q : Fl → St → Prop} (e : c st = .ok b st1) (h : b = false) (hf : W m2 st1 Q) : W (ifM c m1 m2) st Q := by
  subst h; exact W_ifM.mpr ⟨_, _, e, hf⟩
theorem W_ifAF {c d : Mn Bool} {b : Bool} {m1 m2 : Mn Fl} {Q : Fl → St → Prop} (e : c st = .ok b st1) (h : b = false) (hf : W m2 st1 Q) : W (ifM (andM c d) m1 m2) st Q := by
  subst h; exact W_ifM.mpr (W_andM.mpr ⟨_, _, e, hf⟩)
theorem W_ifAT {c d : Mn Bool} {b : Bool} {m1 m2 : Mn Fl} {Q : Fl → St → Prop} (e : c st = .ok b st1) (h : b = true) (hf : W (ifM d m1 m2) st1 Q) : W (ifM (andM c d) m1 m2) st Q := by
  subst h; exact W_ifM.mpr (W_andM.mpr ⟨_, _, e, W_ifM.mp hf⟩)
theorem run_of {m : Mn α} {a : α} (h : W m st fun d s => d = a ∧ s = st1) : m st = .ok a st1 := by
  obtain ⟨d, s, e, rfl, rfl⟩ := h; exact e
theorem run_var {i : Nat} {d : D} (h : st.loc i = some d) : pvar i st = .ok d st := by unfold pvar; rw [h]
theorem run_bnd {β : Type} {m : Mn β} {f : β → Mn α} {b : β} {a : α} {st2 : St} (e : m st = .ok b st1) (e2 : f b st1 = .ok a st2) : bnd m f st = .ok a st2 := by unfold bnd; rw [e]; exact e2
theorem run_bin {f : D → D → Mn D} {m1 m2 : Mn D} {a b c : D} {st2 st3 : St} (e1 : m1 st = .ok a st1) (e2 : m2 st1 = .ok b st2) (e3 : f a b st2 = .ok c st3) : binM f m1 m2 st = .ok c st3 := run_bnd e1 (run_bnd e2 e3)
theorem run_cmp {f : D → D → Mn D} {m1 m2 : Mn D} {a b c : D} {t : Bool} {st2 st3 : St} (e1 : m1 st = .ok a st1) (e2 : m2 st1 = .ok b st2) (e3 : f a b st2 = .ok c st3) (e4 : truthyD c st3 = .ok t st3) : cmpM f m1 m2 st = .ok t st3 := run_bnd e1 (run_bnd e2 (run_bnd e3 e4))
theorem run_set {m : Mn D} {i : Nat} {d : D} (e : m st = .ok d st1) : bnd m (setvar i) st = .ok .next ⟨upd st1.loc i d, st1.sto⟩ := run_bnd e rfl
theorem W_bin {f : D → D → Mn D} {m1 m2 : Mn D} {Q : D → St → Prop} (h : W m1 st fun a s1 => W m2 s1 fun b s2 => W (f a b) s2 Q) : W (binM f m1 m2) st Q := W_bnd.mpr (h.mono fun _ _ q => W_bnd.mpr q)
noncomputable def locOf (l : List (Option D)) : Loc := fun i => l.getD i none
theorem upd_locOf {l : List (Option D)} {i : Nat} {d : D} (h : i < l.length) : upd (locOf l) i d = locOf (l.set i (some d)) := by
  funext j
  unfold upd locOf
  rw [List.getD_eq_getElem?_getD, List.getD_eq_getElem?_getD]
  by_cases e : j = i
  · subst e; rw [if_pos rfl, List.getElem?_set_self h]; rfl
  · rw [if_neg e, List.getElem?_set_ne (Ne.symm e)]
end
end Mine

end

/- part F33 -/
section
set_option Elab.async false
set_option linter.unusedVariables false
set_option maxRecDepth 10000
namespace Mine
open PySem PyProof.Rows
/-! != of lists and tuples -/
section
variable {G : Gd} {C : Cx} {A : Around} {P : List Addr} {env : Env} {s : Shared} {ρ : List Addr} {st : St}
end
end Mine

end

/- part F34 -/
section
set_option Elab.async false
set_option linter.unusedVariables false
set_option maxRecDepth 10000
namespace Mine
open PySem PyProof.Rows

/-! dicts whose keys are tuples of ints -/
noncomputable def pIn : D → D → Mn D
  | .tup ds, .ref k => fun st => match st.sto[k]?, intsOf ds with
    | some (.dict ks), some n => .ok (.bool (ks.contains n)) st
    | _, _ => .bot
  | _, _ => botM
noncomputable def putK (ks : List (List Int)) (n : List Int) : List (List Int) := if ks.contains n = true then ks else ks ++ [n]
noncomputable def pSetD : D → D → Mn Fl
  | .ref k, .tup ds => fun st => match st.sto[k]?, intsOf ds with
    | some (.dict ks), some n => if ks.length ≤ sizeLine then .ok .next ⟨st.loc, st.sto.set k (.dict (putK ks n))⟩ else .bot
    | _, _ => .bot
  | _, _ => botM
noncomputable def pLenD : List D → Mn D
  | [.ref k] => fun st => match st.sto[k]? with
    | some (.dict ks) => if ks.length < 2 ^ 62 then .ok (.int ks.length) st else .bot
    | _ => pLen [.ref k] st
  | ds => pLen ds
noncomputable def allocP (p : PO) : Mn D := fun st => .ok (.ref st.sto.length) ⟨st.loc, st.sto ++ [p]⟩

theorem contains_key (xs : List (List Int × Addr × Value)) (n : List Int) : (atKey xs n).isSome = (xs.map (·.1)).contains n := by
  induction xs with
  | nil => rfl
  | cons x xs ih =>
    unfold atKey at ih ⊢
    rw [List.find?_cons, List.map_cons, List.contains_cons]
    by_cases h : x.1 = n
    · simp [h]
    · have h' : (n == x.1) = false := by simpa using fun z => h z.symm
      simp only [h, decide_false, h', Bool.false_or]
      exact ih
theorem keys_stored (xs : List (List Int × Addr × Value)) (n : List Int) (a : Addr) (v : Value) : (storedH xs n a v).map (·.1) = putK (xs.map (·.1)) n := by
  unfold storedH putK
  rw [contains_key]
  split
  · rw [List.map_map]
    congr 1
    funext x
    show (putAt n v x).1 = x.1
    unfold putAt
    split <;> rfl
  · rw [List.map_append]; rfl
section
variable {G : Gd} {C : Cx} {A : Around} {P : List Addr} {env : Env} {s : Shared} {ρ : List Addr} {st : St}
theorem ints_rel {h : Heap} : ∀ {ds : List D} {vs : List Value} {ns : List Int}, intsOf ds = some ns → RelL G h ρ ds vs → IsInts vs ns
  | [], vs, ns, e, r => by
    simp only [RelL] at r
    simp only [intsOf] at e
    cases e; subst r; exact .nil
  | .int i :: ds, vs, ns, e, r => by
    simp only [RelL, Rel] at r
    obtain ⟨v, w, rfl, ⟨t, rfl⟩, r⟩ := r
    simp only [intsOf, Option.map_eq_some_iff] at e
    obtain ⟨m, e, rfl⟩ := e
    exact .cons ⟨t, rfl⟩ (ints_rel e r)
  | .none :: _, _, _, e, _ => by cases e
  | .bool _ :: _, _, _, e, _ => by cases e
  | .str _ :: _, _, _, e, _ => by cases e
  | .tup _ :: _, _, _, e, _ => by cases e
  | .ref _ :: _, _, _, e, _ => by cases e
  | .scr _ :: _, _, _, e, _ => by cases e
  | .exc _ :: _, _, _, e, _ => by cases e
theorem cmp_in : CmpOk G .In pIn := fun C A P env s ρ st d1 d2 v1 v2 K r1 r2 => by
  refine At.leaf (fun hb => ?_) K
  match d1, d2, r1, r2, hb with
  | .tup ds, .ref k, r1, r2, hb =>
    simp only [Rel] at r1 r2
    obtain ⟨a, vs, rfl, hna, ht, rr⟩ := r1
    obtain ⟨d, rfl, hk⟩ := r2
    cases e1 : st.sto[k]? with
    | none => exact absurd (by unfold pIn; simp only [e1]) hb
    | some o =>
      cases o with
      | dict ks =>
        cases e2 : intsOf ds with
        | none => exact absurd (by unfold pIn; simp only [e1, e2]) hb
        | some n =>
          obtain ⟨xs, hm, hs, rfl, _⟩ := K.inv.sto k d _ hk e1
          refine wpAny_in_heap (knd := keyKd G) (tupleKind_room_in1 (by have := K.room.units; have hl : cLine = 9900 := rfl; omega)) (KeyT.is ⟨vs, ht, ints_rel e2 rr⟩) hs hm ⟨.bool ((xs.map (·.1)).contains n), by unfold pIn; simp only [e1, e2], Grow.same, ?_⟩
          rw [contains_key]; rfl
      | _ => exact absurd (by unfold pIn; simp only [e1]) hb
  | .none, _, _, _, hb => exact absurd rfl hb
  | .bool _, _, _, _, hb => exact absurd rfl hb
  | .int _, _, _, _, hb => exact absurd rfl hb
  | .str _, _, _, _, hb => exact absurd rfl hb
  | .ref _, _, _, _, hb => exact absurd rfl hb
  | .scr _, _, _, _, hb => exact absurd rfl hb
  | .exc _, _, _, _, hb => exact absurd rfl hb
  | .tup _, .none, _, _, hb => exact absurd rfl hb
  | .tup _, .bool _, _, _, hb => exact absurd rfl hb
  | .tup _, .int _, _, _, hb => exact absurd rfl hb
  | .tup _, .str _, _, _, hb => exact absurd rfl hb
  | .tup _, .tup _, _, _, hb => exact absurd rfl hb
  | .tup _, .scr _, _, _, hb => exact absurd rfl hb
  | .tup _, .exc _, _, _, hb => exact absurd rfl hb
theorem len_dictH {d : Addr} {xs : List (List Int × Addr × Value)} {Q : Value → Shared → Prop} {E : Value → Shared → Prop} (hd : (d == sysModules) = false) (hm : s.heap.DictOfH (keyKd G) d xs) (hfit : (xs.length : Int) < 2 ^ 63)
    (h : Q (.int xs.length (s.toks + 1)) { s with toks := s.toks + 1 + 1 }) : wpAny G.M A (call (.builtin "len") [.ref d]) Q E s := by
  refine Calls.call_function_entry kind_len plain_len entry_len (args_len1 _) ?_
  unfold Builtin.«len»
  refine wpAny_bind (m := oneArg "len" _) (wpAny_pure ?_)
  have hmt : MeetsIn G.prog G.w (Builtin.«dict.__len__» ⟨[.ref d], []⟩) (fun _ R s => ∃ xs, s.heap.DictOfH (keyKd G) d xs ∧ R (.ok (.ret (.int xs.length s.toks))) { s with toks := s.toks + 1 }) :=
    .of_wp fun A R s ⟨xs, hm, h⟩ => by
      obtain ⟨o, es, ep, ho, hc, hdat, he, hi, hn⟩ := hm
      show wpAny _ _ (dictSize d >>= _) _ _ s
      unfold dictSize
      refine wpAny_bind (wpAny_bind (wpAny_dictEntries ho hdat (wpAny_pure ?_)))
      show wpAny _ _ (Builtin.Dict.pendingCount d >>= _) _ _ s
      refine wpAny_bind (wpAny_pendingCount_other hd ?_)
      refine wpAny_ret_mkInt ?_
      have : es.size = xs.length := size_of_entries he
      rw [Nat.add_zero, this]; exact h
  refine wpAny_bind (m := callSpecial? (.ref d) (Str.ofString "__len__")) (wpAny_callSpecial?_slot (name := Str.ofString "__len__") hm.typeIs F.slot_dict_len
    (call_meetsIn F.slot_dict_len hm.typeIs F.entry_dict_len (F.args_dict_len_1 _) hmt ⟨xs, hm, ?_⟩))
  show wpAny _ _ _ _ _ { s with toks := s.toks + 1 }
  refine wpAny_bind (wpAny_holding (wpAny_pure ?_))
  refine wpAny_bind (wpAny_letGo ?_)
  show wpAny _ _ (if ((xs.length : Nat) : Int) < 0 then _ else _) _ _ _
  rw [if_neg (by omega)]
  show wpAny _ _ (if ((xs.length : Nat) : Int) ≥ 2 ^ 63 then _ else _) _ _ _
  rw [if_neg (by omega)]
  exact wpAny_bind (wpAny_mkInt (wpAny_pure ⟨_, rfl, h⟩))
theorem bf_lenD : BF G "len" pLenD := fun C A P env s ρ st ds vs hC K r => by
  by_cases h : ∃ k ks, ds = [.ref k] ∧ st.sto[k]? = some (.dict ks)
  · obtain ⟨k, ks, rfl, e⟩ := h
    refine At.leaf (fun hb => ?_) K
    simp only [RelL, Rel] at r
    obtain ⟨v, _, rfl, ⟨a, rfl, hk⟩, rfl⟩ := r
    obtain ⟨xs, hm, hs, rfl, _⟩ := K.inv.sto k a _ hk e
    have h1 : (xs.map (·.1)).length < 2 ^ 62 := by
      by_cases h : (xs.map (·.1)).length < 2 ^ 62
      · exact h
      · exact absurd (by unfold pLenD; simp only [e]; rw [if_neg h]) hb
    have h2 := h1
    rw [List.length_map] at h2
    exact len_dictH hs hm (by omega) ⟨_, by unfold pLenD; simp only [e]; rw [if_pos h1], Grow.same, by rw [List.length_map]; exact ⟨_, rfl⟩⟩
  · have e : ∀ b : Out D, pLenD ds st = b ↔ pLen ds st = b := fun b => by
      match ds with
      | [.ref k] =>
        cases q : st.sto[k]? with
        | none => simp only [pLenD, q]
        | some o =>
          cases o with
          | dict ks => exact absurd ⟨k, ks, rfl, q⟩ h
          | _ => simp only [pLenD, q]
      | [] => rfl
      | [.none] => rfl
      | [.bool _] => rfl
      | [.int _] => rfl
      | [.str _] => rfl
      | [.tup _] => rfl
      | [.scr _] => rfl
      | [.exc _] => rfl
      | d :: _ :: _ => cases d <;> rfl
    have e' : pLenD ds st = pLen ds st := (e _).mpr rfl
    intro hb
    rw [e'] at hb ⊢
    exact bf_len C A P env s ρ st ds vs hC K r hb
end
end Mine

end

/- part F35 -/
section
set_option Elab.async false
set_option linter.unusedVariables false
set_option maxRecDepth 10000
namespace Mine
open PySem PyProof.Rows
section
variable {G : Gd} {C : Cx} {A : Around} {P : List Addr} {env : Env} {s : Shared} {ρ : List Addr} {st : St}
theorem ExcE.toS0 {s' : Shared} {r : Out Fl} {x : Value} (K : Ok G C A P env s ρ st) (q : ExcE G env s ρ st r x s') : ExcS G C.tbl P env s ρ r x s' :=
  let ⟨ρ', c, σ', a, e, I', x', ex, fl⟩ := q; ⟨ρ', c, ⟨st.loc, σ'⟩, a, e, I', x'.nil, K.frm.keep K.inv x', ex, fl⟩
theorem se_dict0 {pos : Pos} (hg : ∃ m, G.h0.Ns mainGlobals m) : SE G C (.Dict [] [] pos) (allocP (.dict [])) := .mk <| fun A P env s ρ st K hb => by
  refine wpAny_Dict_empty ?_
  have hbig : (s.heap.objs.size == sysModules) = false := by
    obtain ⟨m, o, es, ep, ho, _⟩ := hg
    have this : 3 < s.heap.objs.size := Heap.lt_size (K.inv.base _ _ ho)
    simp only [beq_eq_false_iff_ne]
    intro z
    rw [z] at this
    exact absurd this (by decide)
  obtain ⟨I, x⟩ := K.inv.alloc (o := { cls := .type "dict", data := .dict #[] }) (p := .dict []) ⟨by simp, fun c z => by cases z⟩ rfl (fun S => ⟨[], ⟨_, _, _, Heap.get?_push_size _ rfl, ⟨rfl, rfl, rfl⟩, rfl, rfl, fun x m => (nomatch m), List.nodup_nil⟩, hbig, rfl, fun x m => nomatch m⟩) s.toks
  refine ⟨_, .ref st.sto.length, _, rfl, I, x [], ?_⟩
  show Rel G _ _ _ _
  simp only [Rel]
  exact ⟨_, rfl, by rw [← K.inv.len]; simp⟩
/-- an empty dict -/
noncomputable def xeDict (X : Den) (C : Cx) : Expr → Option (Mn D)
  | .Dict ks vs _ => gd (ks.isEmpty && vs.isEmpty) (some (allocP (.dict [])))
  | _ => none
theorem xeDict_ok (hg : ∃ m, G.h0.Ns mainGlobals m) : ∀ X C e m, DenOk G X → xeDict X C e = some m → SE G C e m := fun X C e m hX h => by
  cases e with
  | Dict ks vs p => exact gd_el h fun hc h => and_el hc fun h1 h2 => some_el (P := SE G C _) h (by rw [List.isEmpty_iff.mp h1, List.isEmpty_iff.mp h2]; exact se_dict0 hg)
  | _ => exact none_el h
end
end Mine

end

/- part F36 -/
section
set_option Elab.async false
set_option linter.unusedVariables false
set_option maxRecDepth 10000
namespace Mine
open PySem PyProof.Rows

/-! an item of a list set; a value in a list; a range that goes down -/
noncomputable def pSetL : D → D → D → Mn Fl
  | .ref k, .int i, v => fun st => match st.sto[k]? with
    | some (.list ds) => if 0 ≤ i ∧ i < ds.length ∧ ds.length ≤ sizeLine then .ok .next ⟨st.loc, st.sto.set k (.list (ds.set i.toNat v))⟩ else .bot
    | _ => .bot
  | _, _, _ => botM
noncomputable abbrev setM (f : D → D → D → Mn Fl) (mv mo mi : Mn D) : Mn Fl := bnd mv fun v => bnd mo fun d => bnd mi fun e => f d e v
noncomputable def pMin2I : List (Option Int) → Mn D
  | [some a, some b] => ret1 (.int (min a b))
  | _ => botM
/-- the lesser of two numbers -/
noncomputable def pMin2 (ds : List D) : Mn D := pMin2I (ds.map iof)
section
variable {G : Gd} {C : Cx} {A : Around} {P : List Addr} {env : Env} {s : Shared} {ρ : List Addr} {st : St}
theorem bf_min2 : BF G "min" pMin2 := fun C A P env s ρ st ds vs hC K r => by
  refine At.leaf (fun hb => ?_) K
  have hb : pMin2I (ds.map iof) st ≠ .bot := hb
  show wpAny _ _ _ _ _ _
  rcases ds with _ | ⟨d, _ | ⟨e, _ | ⟨f, l⟩⟩⟩
  · exact absurd rfl hb
  · rw [List.map_cons, List.map_nil] at hb
    cases h : iof d <;> (rw [h] at hb; exact absurd rfl hb)
  · rw [List.map_cons, List.map_cons, List.map_nil] at hb
    cases h : iof d with
    | none => rw [h] at hb; exact absurd rfl hb
    | some a =>
      cases k : iof e with
      | none => rw [h, k] at hb; exact absurd rfl hb
      | some b =>
        obtain rfl := iof_some h
        obtain rfl := iof_some k
        obtain ⟨v1, _, rfl, ⟨t, rfl⟩, v2, _, rfl, ⟨u, rfl⟩, rfl⟩ := r
        refine min_two_ints (K.room.hd hC) fun h' tk g => ⟨.int (min a b), rfl, ⟨h', tk, rfl, g⟩, ?_⟩
        by_cases z : b < a
        · rw [if_pos z]; exact ⟨u, by rw [Int.min_eq_right (Int.le_of_lt z)]⟩
        · rw [if_neg z]; exact ⟨t, by rw [Int.min_eq_left (Int.not_lt.mp z)]⟩
  · rw [List.map_cons, List.map_cons, List.map_cons] at hb
    cases h : iof d <;> cases k : iof e <;> (rw [h, k] at hb; exact absurd rfl hb)
/-- an item set -/
noncomputable def SetOk (G : Gd) (f : D → D → D → Mn Fl) : Prop := ∀ C A P env s ρ st d e v ov iv vv (E : Value → Shared → Prop), Ok G C A P env s ρ st → Rel G s.heap ρ d ov → Rel G s.heap ρ e iv → Rel G s.heap ρ v vv → f d e v st ≠ .bot →
  wpAny G.M A (setItem ov iv vv) (fun _ s' => ∃ ρ' σ', f d e v st = .ok .next ⟨st.loc, σ'⟩ ∧ Inv G s' ρ' σ' ∧ Ev [] s.heap ρ s'.heap ρ') E s
theorem ss_set {f : D → D → D → Mn Fl} {o i v : Expr} {mv mo mi : Mn D} {p' pos : Pos} (hf : SetOk G f) (hv : SE G C v mv) (ho : SE G C o mo) (hi : SE G C i mi) (hsw : ∀ env, swapsWith v (some (.Subscript o i p')) pos.line env = pure false) : SS G C (.Assign [.Subscript o i p'] v pos) (setM f mv mo mi) := .mk <| fun A P env s ρ st K W hb => by
  refine wpAny_Assign_Subscript ?_ (hsw env)
  refine wpAny_mono (hv.run A P env s ρ st K (bnd_ne_bot hb)) (fun vv s1 q => ?_) fun x s' q => ExcE.toS0 K (ExcE.bnd q)
  refine OkE.elim q fun ρ1 dv σ1 e1 I1 x1 rv => ?_
  have K1 := K.step I1 x1
  have e2 : setM f mv mo mi st = bnd mo (fun d => bnd mi fun e => f d e dv) ⟨st.loc, σ1⟩ := by simp only [setM, bnd, e1]
  rw [e2] at hb ⊢
  refine wpAny_mono (ho.run A P env s1 ρ1 _ K1 (bnd_ne_bot hb)) (fun ov s2 q => ?_) fun x s' q => ExcE.toS0 K (ExcE.tr (ExcE.bnd q) x1)
  refine OkE.elim q fun ρ2 dd σ2 e3 I2 x2 rd => ?_
  have K2 := K1.step I2 x2
  have e4 : bnd mo (fun d => bnd mi fun e => f d e dv) ⟨st.loc, σ1⟩ = bnd mi (fun e => f dd e dv) ⟨st.loc, σ2⟩ := by simp only [bnd, e3]
  rw [e4] at hb ⊢
  refine wpAny_mono (hi.run A P env s2 ρ2 _ K2 (bnd_ne_bot hb)) (fun iv s3 q => ?_) fun x s' q => ExcE.toS0 K (ExcE.tr (ExcE.tr (ExcE.bnd q) x2) x1)
  refine OkE.elim q fun ρ3 di σ3 e5 I3 x3 ri => ?_
  have K3 := K2.step I3 x3
  have e6 : bnd mi (fun e => f dd e dv) ⟨st.loc, σ2⟩ = f dd di dv ⟨st.loc, σ3⟩ := by simp only [bnd, e5]
  rw [e6] at hb ⊢
  refine wpAny_mono (hf C A P env s3 ρ3 ⟨st.loc, σ3⟩ dd di dv ov iv vv _ K3 (Rel.mono (x3.stb I2 .nil) _ _ rd) ri (Rel.mono (x3.stb I2 .nil) _ _ (Rel.mono (x2.stb I1 .nil) _ _ rv)) hb) (fun _ s4 q => ?_) fun _ _ q => q
  obtain ⟨ρ4, σ4, e7, I4, x4⟩ := q
  have xa := (x1.trans x2).trans (x3.trans x4)
  exact ⟨ρ4, .next, ⟨st.loc, σ4⟩, e7, I4, xa.nil, K.frm.keep K.inv xa, rfl⟩
theorem set_list : SetOk G pSetL := fun C A P env s ρ st d e v ov iv vv E K rd re rv hb => by
  cases d <;> first | exact absurd rfl hb | skip
  rename_i k
  cases e <;> first | exact absurd rfl hb | skip
  rename_i i
  simp only [Rel] at rd re
  obtain ⟨a, rfl, hk⟩ := rd
  obtain ⟨t, rfl⟩ := re
  cases hp : st.sto[k]? with
  | none => exact absurd (by unfold pSetL; simp only [hp]) hb
  | some p =>
    cases p with
    | list ds =>
      by_cases hl : 0 ≤ i ∧ i < ds.length ∧ ds.length ≤ sizeLine
      · obtain ⟨vs, ⟨n, ho⟩, rr⟩ := K.inv.sto k a _ hk hp
        have hsz := rr.size
        have hsl : sizeLine < 2 ^ 62 := by decide
        refine PySem.W.ki_setAt ho hl.1 (by exact iLt fun hzz => linI [_, _, _] [le1 (.n 9223372036854775808) x0, lt1 x0 x1, le1 x1 x2, lt1 x2 (.n 4611686018427387904)] (Eq.refl true) hzz hl.2.1 (c_le hl.2.2) (c_lt hsl)) (by exact iLt fun hzz => linI [_, _, _] [le1 x1 x0, lt1 x0 x2, qe1 x1 x2] (Eq.refl true) hzz hl.2.1 (c_eq hsz)) ?_
        obtain ⟨I3, x3⟩ := put_list (ds := ds.set i.toNat v) (g := fun xs => xs.setIfInBounds i.toNat vv) K hk ho (fun S => by
          have := RelL.of_all2 ((RelL.all2 (RelL.mono S _ _ rr)).set (Rel.mono S _ _ rv) i.toNat)
          rw [Array.toList_setIfInBounds]; exact this)
        exact ⟨ρ, _, by unfold pSetL; simp only [hp]; rw [if_pos hl], I3, x3⟩
      · exact absurd (by unfold pSetL; simp only [hp]; rw [if_neg hl]) hb
    | _ => exact absurd (by unfold pSetL; simp only [hp]) hb
noncomputable def xsSetL (f : D → D → D → Mn Fl) (X : Den) (C : Cx) (v : Expr) : Expr → Option (Mn Fl)
  | .Subscript o i _ => gd (notComp v) (ob (X.e C v) fun mv => ob (X.e C o) fun mo => ob (X.e C i) fun mi => some (setM f mv mo mi))
  | _ => none
noncomputable def xsList (f : D → D → D → Mn Fl) (X : Den) (C : Cx) : Stmt → Option (Mn Fl)
  | .Assign ts v _ => gd (ts.length == 1) (ob ts.head? (xsSetL f X C v))
  | _ => none
theorem xsList_ok {f : D → D → D → Mn Fl} (hf : SetOk G f) : ∀ X C t m, DenOk G X → xsList f X C t = some m → SS G C t m := fun X C t m hX h => by
  cases t with
  | Assign ts v p =>
    refine gd_el h fun hc h => ob_el h fun t ht h => ?_
    obtain ⟨t', e'⟩ := List.length_eq_one_iff.mp (beq_iff_eq.mp hc)
    subst e'
    obtain rfl : t' = t := Option.some.inj ht
    cases t' with
    | Subscript o i p' => exact gd_el h fun hn h => ob_el h fun mv h1 h => ob_el h fun mo h2 h => ob_el h fun mi h3 h => some_el (P := SS G C _) h (ss_set hf (hX.e _ _ _ h1) (hX.e _ _ _ h2) (hX.e _ _ _ h3) fun env => swaps_no hn _ _ env)
    | _ => exact none_el h
  | _ => exact none_el h
end
end Mine

end

/- part F39 -/
section
set_option Elab.async false
set_option linter.unusedVariables false
set_option maxRecDepth 10000
namespace Mine
open PySem PyProof.Rows

/-! hooks joined; an item of a dict or a list set; == of lists that hold lists -/
noncomputable def orXe (f g : Den → Cx → Expr → Option (Mn D)) (X : Den) (C : Cx) (e : Expr) : Option (Mn D) := match f X C e with
  | some m => some m
  | none => g X C e
noncomputable def orXs (f g : Den → Cx → Stmt → Option (Mn Fl)) (X : Den) (C : Cx) (e : Stmt) : Option (Mn Fl) := match f X C e with
  | some m => some m
  | none => g X C e
/-- sorted with a key, never reached -/
noncomputable def xeNo (X : Den) (C : Cx) : Expr → Option (Mn D)
  | .Call f _ ks _ => gd (nameOf f == some (Str.ofString "sorted") && !ks.isEmpty) (some botM)
  | _ => none
noncomputable def pSetDL : D → D → D → Mn Fl
  | d, .tup ds, _ => pSetD d (.tup ds)
  | d, e, v => pSetL d e v
mutual
noncomputable def flatB (f : Nat → Option PyData) : D → Option PyData
  | .none => some .none
  | .bool b => some (.bool b)
  | .int i => some (.int i)
  | .str x => some (.str x)
  | .tup ds => (flatBs f ds).map .tuple
  | .ref k => f k
  | .scr _ => none
  | .exc _ => none
noncomputable def flatBs (f : Nat → Option PyData) : List D → Option (List PyData)
  | [] => some []
  | d :: ds => (flatB f d).bind fun x => (flatBs f ds).map (x :: ·)
end
/-- lists in lists, n deep -/
noncomputable def dataN (σ : Sto) : Nat → Nat → Option PyData
  | 0, _ => none
  | n + 1, k => match σ[k]? with
    | some (.list ds) => (flatBs (dataN σ n) ds).map .list
    | _ => none
noncomputable def pEqS (k l : Nat) : Mn D := fun st => match dataN st.sto 3 k, dataN st.sto 3 l with
  | some x, some y => if x.canLay0 = true ∧ y.canLay0 = true ∧ x.depth ≤ 50 then .ok (.bool (x.eqv y)) st else .bot
  | _, _ => .bot
noncomputable def pEq3 : D → D → Mn D
  | .ref k, .ref l => pEqS k l
  | a, b => pEq1 a b
section
variable {G : Gd} {C : Cx} {A : Around} {P : List Addr} {env : Env} {s : Shared} {ρ : List Addr} {st : St} {σ : Sto}
theorem orXe_ok {f g : Den → Cx → Expr → Option (Mn D)} (hf : ∀ X C e m, DenOk G X → f X C e = some m → SE G C e m) (hg : ∀ X C e m, DenOk G X → g X C e = some m → SE G C e m) : ∀ X C e m, DenOk G X → orXe f g X C e = some m → SE G C e m := fun X C e m hX h => by
  unfold orXe at h
  cases h1 : f X C e with
  | none => rw [h1] at h; exact hg X C e m hX h
  | some m' => rw [h1] at h; cases h; exact hf X C e _ hX h1
theorem orXs_ok {f g : Den → Cx → Stmt → Option (Mn Fl)} (hf : ∀ X C e m, DenOk G X → f X C e = some m → SS G C e m) (hg : ∀ X C e m, DenOk G X → g X C e = some m → SS G C e m) : ∀ X C e m, DenOk G X → orXs f g X C e = some m → SS G C e m := fun X C e m hX h => by
  unfold orXs at h
  cases h1 : f X C e with
  | none => rw [h1] at h; exact hg X C e m hX h
  | some m' => rw [h1] at h; cases h; exact hf X C e _ hX h1
theorem xeNo_ok : ∀ X C e m, DenOk G X → xeNo X C e = some m → SE G C e m := fun X C e m hX h => by
  cases e with
  | Call f as ks p => exact gd_el h fun _ h => some_el (P := SE G C _) h (.mk <| fun A P env s ρ st K hb => absurd rfl hb)
  | _ => exact none_el h
theorem set_dl : SetOk G pSetDL := fun C A P env s ρ st d e v ov iv vv E K rd re rv hb => by
  by_cases h : ∃ ds, e = .tup ds
  · obtain ⟨ds, rfl⟩ := h
    have hb : pSetD d (.tup ds) st ≠ .bot := hb
    cases d with
    | ref k =>
      simp only [Rel] at rd re
      obtain ⟨a, vs, rfl, hna, ht, rr⟩ := re
      obtain ⟨d, rfl, hk⟩ := rd
      cases q1 : st.sto[k]? with
      | none => exact absurd (by unfold pSetD; simp only [q1]) hb
      | some oo =>
        cases oo with
        | dict ks =>
          cases q2 : intsOf ds with
          | none => exact absurd (by unfold pSetD; simp only [q1, q2]) hb
          | some n =>
            by_cases hl : ks.length ≤ sizeLine
            · obtain ⟨xs, hm, hs, rfl, r⟩ := K.inv.sto k d _ hk q1
              have kt : KeyT s.heap a n := ⟨vs, ht, ints_rel q2 rr⟩
              refine wpAny_setItem_heap (knd := keyKd G) (tupleKind_room_in1 (by have := K.room.units; have hl : cLine = 9900 := rfl; omega)) kt.is hm (fun h' hm' hs' => ?_) (by rw [List.length_map] at hl; exact hl)
              obtain ⟨I4, x4⟩ := K.inv.put (k := k) (a := d) (p := .dict (putK (xs.map (·.1)) n)) hk hs' (fun S => ⟨_, hm', hs, keys_stored xs n a vv, fun x mx => by
                rcases mem_storedH mx with ⟨y, my, z1, z2⟩ | ⟨z1, z2⟩
                · rw [z1, z2]; exact (r y my).2.mono S (r y my).1
                · rw [z1, z2]; exact kt.mono S hna⟩) (s.toks + (keyKd G).draws n)
              exact ⟨ρ, st.sto.set k (.dict (putK (xs.map (·.1)) n)), by show pSetD (.ref k) (.tup ds) st = _; unfold pSetD; simp only [q1, q2]; rw [if_pos hl], I4, x4 []⟩
            · exact absurd (by unfold pSetD; simp only [q1, q2]; rw [if_neg hl]) hb
        | _ => exact absurd (by unfold pSetD; simp only [q1]) hb
    | _ => exact absurd rfl hb
  · have e' : pSetDL d e v = pSetL d e v := by cases e <;> first | rfl | exact absurd ⟨_, rfl⟩ h
    rw [e'] at hb ⊢
    exact set_list C A P env s ρ st d e v ov iv vv E K rd re rv hb
mutual
theorem flatB_reads {f : Nat → Option PyData} (hf : ∀ k p a, f k = some p → ρ[k]? = some a → ∃ as, Reads s.heap (.ref a) p as) : ∀ (d : D) (v : Value) (p : PyData), flatB f d = some p → Rel G s.heap ρ d v → ∃ as, Reads s.heap v p as
  | .none, v, p, e, r => flat_reads (.none) v p (by simpa only [flatB, flatD] using e) r
  | .bool b, v, p, e, r => flat_reads (.bool b) v p (by simpa only [flatB, flatD] using e) r
  | .int i, v, p, e, r => flat_reads (.int i) v p (by simpa only [flatB, flatD] using e) r
  | .str x, v, p, e, r => flat_reads (.str x) v p (by simpa only [flatB, flatD] using e) r
  | .tup ds, v, p, e, r => by
    simp only [flatB, Option.map_eq_some_iff] at e
    obtain ⟨ps, e1, rfl⟩ := e
    simp only [Rel] at r
    obtain ⟨a, vs, rfl, _, ⟨n, ho⟩, r2⟩ := r
    obtain ⟨as, ra⟩ := flatBs_reads hf ds _ ps e1 r2
    exact ⟨_, .tuple ho rfl rfl ra⟩
  | .ref k, v, p, e, r => by
    simp only [Rel] at r
    obtain ⟨a, rfl, hk⟩ := r
    exact hf k p a e hk
  | .scr _, _, _, e, _ => by simp [flatB] at e
  | .exc _, _, _, e, _ => by simp [flatB] at e
theorem flatBs_reads {f : Nat → Option PyData} (hf : ∀ k p a, f k = some p → ρ[k]? = some a → ∃ as, Reads s.heap (.ref a) p as) : ∀ (ds : List D) (vs : List Value) (ps : List PyData), flatBs f ds = some ps → RelL G s.heap ρ ds vs → ∃ as, ReadsAll s.heap vs ps as
  | [], vs, ps, e, r => by simp only [flatBs, Option.some.injEq] at e; subst e; simp only [RelL] at r; subst r; exact ⟨_, .nil⟩
  | d :: ds, vs, ps, e, r => by
    simp only [flatBs, Option.bind_eq_some_iff, Option.map_eq_some_iff] at e
    obtain ⟨x, e1, xs, e2, rfl⟩ := e
    simp only [RelL] at r
    obtain ⟨v, r', rfl, r1, r2⟩ := r
    obtain ⟨as, h1⟩ := flatB_reads hf d v x e1 r1
    obtain ⟨bs, h2⟩ := flatBs_reads hf ds r' xs e2 r2
    exact ⟨_, .cons h1 h2⟩
end
theorem dataN_reads (I : Inv G s ρ σ) : ∀ n k p a, dataN σ n k = some p → ρ[k]? = some a → ∃ as, Reads s.heap (.ref a) p as
  | 0, _, _, _, e, _ => by cases e
  | n + 1, k, p, a, e, hk => by
    unfold dataN at e
    cases hs : σ[k]? with
    | none => rw [hs] at e; cases e
    | some o =>
      rw [hs] at e
      cases o with
      | list ds =>
        obtain ⟨ps, e1, rfl⟩ := Option.map_eq_some_iff.mp e
        obtain ⟨vs, ⟨n', ho⟩, rr⟩ := I.sto k a _ hk hs
        obtain ⟨as, ra⟩ := flatBs_reads (dataN_reads I n) ds _ ps e1 rr
        exact ⟨_, .list ho rfl rfl ra⟩
      | _ => cases e
theorem eqS_ok {k l : Nat} {v1 v2 : Value} (K : Ok G C A P env s ρ st) (r1 : Rel G s.heap ρ (.ref k) v1) (r2 : Rel G s.heap ρ (.ref l) v2) : At G A env s ρ st (RV G) (compareOp .Eq v1 v2) (pEqS k l) := by
  refine At.leaf (fun hb => ?_) K
  simp only [Rel] at r1 r2
  obtain ⟨a, rfl, ha⟩ := r1
  obtain ⟨b, rfl, hb'⟩ := r2
  cases e1 : dataN st.sto 3 k with
  | none => exact absurd (by unfold pEqS; simp only [e1]) hb
  | some x =>
    cases e2 : dataN st.sto 3 l with
    | none => exact absurd (by unfold pEqS; simp only [e1, e2]) hb
    | some y =>
      by_cases hc : x.canLay0 = true ∧ y.canLay0 = true ∧ x.depth ≤ 50
      · obtain ⟨as, ra⟩ := dataN_reads K.inv 3 k x a e1 ha
        obtain ⟨bs, rb⟩ := dataN_reads K.inv 3 l y b e2 hb'
        refine SeqAt.compareEq_reads ra rb hc.1 hc.2.1 ?_ ⟨.bool (x.eqv y), by unfold pEqS; simp only [e1, e2]; rw [if_pos hc], Grow.same0, rfl⟩
        have := K.room.units
        have hl : cLine = 9900 := rfl
        have := hc.2.2
        omega
      · exact absurd (by unfold pEqS; simp only [e1, e2]; rw [if_neg hc]) hb
theorem cmp_eq3 : CmpOk G .Eq pEq3 := fun C A P env s ρ st d1 d2 v1 v2 K r1 r2 => by
  by_cases h1 : ∃ k l, d1 = .ref k ∧ d2 = .ref l
  · obtain ⟨k, l, rfl, rfl⟩ := h1
    exact eqS_ok K r1 r2
  have e : pEq3 d1 d2 = pEq1 d1 d2 := by cases d1 <;> cases d2 <;> first | rfl | exact absurd ⟨_, _, rfl, rfl⟩ h1
  rw [e]
  exact cmp_eq1 C A P env s ρ st d1 d2 v1 v2 K r1 r2
end
end Mine

end

/- part F32 -/
section
set_option Elab.async false
set_option linter.unusedVariables false
namespace Mine
open PySem PySem.W PyProof.Rows

end Mine

end

/- part G1 -/
section
/-! boxes of a grid: no program in sight -/
set_option Elab.async false
set_option linter.unusedVariables false
namespace Mine
/-- first row, first column, rows, columns -/
structure Bx where
  t : Int
  l : Int
  h : Int
  w : Int
noncomputable def Bx.Good (R C : Int) (b : Bx) : Prop := 0 ≤ b.t ∧ 0 ≤ b.l ∧ 1 ≤ b.h ∧ 1 ≤ b.w ∧ b.t + b.h ≤ R ∧ b.l + b.w ≤ C
noncomputable def Bx.Disj (a b : Bx) : Prop := a.t + a.h ≤ b.t ∨ b.t + b.h ≤ a.t ∨ a.l + a.w ≤ b.l ∨ b.l + b.w ≤ a.l
noncomputable def Bx.Sub (a b : Bx) : Prop := b.t ≤ a.t ∧ b.l ≤ a.l ∧ a.t + a.h ≤ b.t + b.h ∧ a.l + a.w ≤ b.l + b.w
noncomputable def Bx.In (b : Bx) (r c : Int) : Prop := b.t ≤ r ∧ r < b.t + b.h ∧ b.l ≤ c ∧ c < b.l + b.w
theorem Bx.Disj.symm {a b : Bx} (h : a.Disj b) : b.Disj a := by unfold Bx.Disj at *; exact Or.elim h (fun hd2 => .inr (.inl (iLe fun hzz => linI [_, _, _] [lt1 x2 (.a x0 x1), le1 (.a x0 x1) x2] (Eq.refl true) hzz hd2))) (fun hd2 => Or.elim hd2 (fun hd3 => .inl (iLe fun hzz => linI [_, _, _] [lt1 x0 (.a x1 x2), le1 (.a x1 x2) x0] (Eq.refl true) hzz hd3)) (fun hd3 => Or.elim hd3 (fun hd4 => .inr (.inr (.inr (iLe fun hzz => linI [_, _, _] [lt1 x2 (.a x0 x1), le1 (.a x0 x1) x2] (Eq.refl true) hzz hd4)))) (fun hd4 => .inr (.inr (.inl (iLe fun hzz => linI [_, _, _] [lt1 x0 (.a x1 x2), le1 (.a x1 x2) x0] (Eq.refl true) hzz hd4))))))
theorem Bx.Disj.sub {a b c : Bx} (h : a.Disj b) (s : c.Sub b) : a.Disj c := by unfold Bx.Disj Bx.Sub at *; exact Or.elim h (fun hd6 => .inl (iLe fun hzz => linI [_, _, _, _] [lt1 x2 (.a x0 x1), le1 x3 x2, le1 (.a x0 x1) x3] (Eq.refl true) hzz s.1 hd6)) (fun hd6 => Or.elim hd6 (fun hd7 => .inr (.inl (iLe fun hzz => linI [_, _, _, _, _] [lt1 x0 (.a x1 x2), le1 (.a x1 x2) (.a x3 x4), le1 (.a x3 x4) x0] (Eq.refl true) hzz s.2.2.1 hd7))) (fun hd7 => Or.elim hd7 (fun hd8 => .inr (.inr (.inl (iLe fun hzz => linI [_, _, _, _] [lt1 x2 (.a x0 x1), le1 x3 x2, le1 (.a x0 x1) x3] (Eq.refl true) hzz s.2.1 hd8)))) (fun hd8 => .inr (.inr (.inr (iLe fun hzz => linI [_, _, _, _, _] [lt1 x0 (.a x1 x2), le1 (.a x1 x2) (.a x3 x4), le1 (.a x3 x4) x0] (Eq.refl true) hzz s.2.2.2 hd8))))))
/-- a list of boxes of the grid, none over another -/
noncomputable def Til (R C : Int) (bs : List Bx) : Prop := (∀ b, b ∈ bs → b.Good R C) ∧ bs.Pairwise Bx.Disj
/-- the parts of one box -/
noncomputable def Parts (R C : Int) (b : Bx) (ps : List Bx) : Prop := (∀ p, p ∈ ps → p.Good R C ∧ p.Sub b) ∧ ps.Pairwise Bx.Disj ∧ ∀ r c, b.In r c → ∃ p, p ∈ ps ∧ p.In r c
theorem Til.swap {R C : Int} {a c : List Bx} {b : Bx} {ps : List Bx} (h : Til R C (a ++ b :: c)) (p : Parts R C b ps) : Til R C (a ++ ps ++ c) := by
  obtain ⟨g, d⟩ := h
  obtain ⟨p1, p2, _⟩ := p
  rw [List.pairwise_append] at d
  obtain ⟨d1, d2, d3⟩ := d
  rw [List.pairwise_cons] at d2
  refine ⟨fun x m => ?_, ?_⟩
  · rcases List.mem_append.mp m with m | m
    · rcases List.mem_append.mp m with m | m
      · exact g x (List.mem_append_left _ m)
      · exact (p1 x m).1
    · exact g x (List.mem_append_right _ (List.mem_cons_of_mem _ m))
  · refine List.pairwise_append.mpr ⟨List.pairwise_append.mpr ⟨d1, p2, fun x mx y my => ?_⟩, d2.2, fun x mx y my => ?_⟩
    · exact (d3 x mx b List.mem_cons_self).sub (p1 y my).2
    · rcases List.mem_append.mp mx with mx | mx
      · exact d3 x mx y (List.mem_cons_of_mem _ my)
      · exact ((d2.1 y my).symm.sub (p1 x mx).2).symm
/-- all squares are in a box -/
noncomputable def Cov (R C : Int) (bs : List Bx) : Prop := ∀ r c, 0 ≤ r → r < R → 0 ≤ c → c < C → ∃ b, b ∈ bs ∧ b.In r c
theorem Cov.swap {R C : Int} {a c : List Bx} {b : Bx} {ps : List Bx} (h : Cov R C (a ++ b :: c)) (p : Parts R C b ps) : Cov R C (a ++ ps ++ c) := fun r k h1 h2 h3 h4 => by
  obtain ⟨x, m, i⟩ := h r k h1 h2 h3 h4
  rcases List.mem_append.mp m with m | m
  · exact ⟨x, List.mem_append_left _ (List.mem_append_left _ m), i⟩
  · rcases List.mem_cons.mp m with rfl | m
    · obtain ⟨q, mq, iq⟩ := p.2.2 r k i
      exact ⟨q, List.mem_append_left _ (List.mem_append_right _ mq), iq⟩
    · exact ⟨x, List.mem_append_right _ m, i⟩
theorem parts_one {R C : Int} {b : Bx} (g : b.Good R C) : Parts R C b [b] := ⟨fun p m => by rw [List.mem_singleton.mp m]; exact ⟨g, by unfold Bx.Sub; exact ⟨iLe fun hzz => linI [_] [lt1 x0 x0] (Eq.refl true) hzz, ⟨iLe fun hzz => linI [_] [lt1 x0 x0] (Eq.refl true) hzz, ⟨iLe fun hzz => linI [_, _] [lt1 (.a x0 x1) (.a x0 x1)] (Eq.refl true) hzz, iLe fun hzz => linI [_, _] [lt1 (.a x0 x1) (.a x0 x1)] (Eq.refl true) hzz⟩⟩⟩⟩, by simp, fun r c i => ⟨b, by simp, i⟩⟩
theorem parts_rows {R C : Int} {b : Bx} (g : b.Good R C) {k : Int} (h1 : 1 ≤ k) (h2 : k < b.h) : Parts R C b [⟨b.t, b.l, k, b.w⟩, ⟨b.t + k, b.l, b.h - k, b.w⟩] := by
  unfold Bx.Good at g
  refine ⟨fun p m => ?_, ?_, fun r c i => ?_⟩
  · simp only [List.mem_cons, List.not_mem_nil, or_false] at m
    rcases m with rfl | rfl
    · unfold Bx.Good Bx.Sub; dsimp only; exact ⟨⟨iLe fun hzz => linI [_] [lt1 x0 (.n 0), le1 (.n 0) x0] (Eq.refl true) hzz g.1, ⟨iLe fun hzz => linI [_] [lt1 x0 (.n 0), le1 (.n 0) x0] (Eq.refl true) hzz g.2.1, ⟨iLe fun hzz => linI [_] [lt1 x0 (.n 1), le1 (.n 1) x0] (Eq.refl true) hzz h1, ⟨iLe fun hzz => linI [_] [lt1 x0 (.n 1), le1 (.n 1) x0] (Eq.refl true) hzz g.2.2.2.1, ⟨iLe fun hzz => linI [_, _, _, _] [lt1 x1 (.a x0 x2), le1 (.a x0 x3) x1, lt1 x2 x3] (Eq.refl true) hzz g.2.2.2.2.1 h2, iLe fun hzz => linI [_, _, _] [lt1 x2 (.a x0 x1), le1 (.a x0 x1) x2] (Eq.refl true) hzz g.2.2.2.2.2⟩⟩⟩⟩⟩, ⟨iLe fun hzz => linI [_] [lt1 x0 x0] (Eq.refl true) hzz, ⟨iLe fun hzz => linI [_] [lt1 x0 x0] (Eq.refl true) hzz, ⟨iLe fun hzz => linI [_, _, _] [lt1 (.a x0 x1) (.a x0 x2), lt1 x2 x1] (Eq.refl true) hzz h2, iLe fun hzz => linI [_, _] [lt1 (.a x0 x1) (.a x0 x1)] (Eq.refl true) hzz⟩⟩⟩⟩
    · unfold Bx.Good Bx.Sub; dsimp only; exact ⟨⟨iLe fun hzz => linI [_, _] [lt1 (.a x0 x1) (.n 0), le1 (.n 0) x0, le1 (.n 1) x1] (Eq.refl true) hzz g.1 h1, ⟨iLe fun hzz => linI [_] [lt1 x0 (.n 0), le1 (.n 0) x0] (Eq.refl true) hzz g.2.1, ⟨iLe fun hzz => linI [_, _] [lt1 (.s x0 x1) (.n 1), lt1 x1 x0] (Eq.refl true) hzz h2, ⟨iLe fun hzz => linI [_] [lt1 x0 (.n 1), le1 (.n 1) x0] (Eq.refl true) hzz g.2.2.2.1, ⟨iLe fun hzz => linI [_, _, _, _] [lt1 x2 (.a (.a x0 x3) (.s x1 x3)), le1 (.a x0 x1) x2] (Eq.refl true) hzz g.2.2.2.2.1, iLe fun hzz => linI [_, _, _] [lt1 x2 (.a x0 x1), le1 (.a x0 x1) x2] (Eq.refl true) hzz g.2.2.2.2.2⟩⟩⟩⟩⟩, ⟨iLe fun hzz => linI [_, _] [lt1 (.a x0 x1) x0, le1 (.n 1) x1] (Eq.refl true) hzz h1, ⟨iLe fun hzz => linI [_] [lt1 x0 x0] (Eq.refl true) hzz, ⟨iLe fun hzz => linI [_, _, _] [lt1 (.a x0 x1) (.a (.a x0 x2) (.s x1 x2))] (Eq.refl true) hzz, iLe fun hzz => linI [_, _] [lt1 (.a x0 x1) (.a x0 x1)] (Eq.refl true) hzz⟩⟩⟩⟩
  · simp [Bx.Disj]
  · unfold Bx.In at i
    by_cases hr : r < b.t + k
    · exact ⟨_, List.mem_cons_self, by unfold Bx.In; dsimp only; exact ⟨iLe fun hzz => linI [_, _] [lt1 x1 x0, le1 x0 x1] (Eq.refl true) hzz i.1, ⟨iLt fun hzz => linI [_, _, _] [le1 (.a x0 x1) x2, lt1 x2 (.a x0 x1)] (Eq.refl true) hzz hr, ⟨iLe fun hzz => linI [_, _] [lt1 x1 x0, le1 x0 x1] (Eq.refl true) hzz i.2.2.1, iLt fun hzz => linI [_, _, _] [le1 (.a x0 x1) x2, lt1 x2 (.a x0 x1)] (Eq.refl true) hzz i.2.2.2⟩⟩⟩⟩
    · exact ⟨_, List.mem_cons_of_mem _ List.mem_cons_self, by unfold Bx.In; dsimp only; exact ⟨iLe fun hzz => linI [_, _, _] [lt1 x2 (.a x0 x1), le1 (.a x0 x1) x2] (Eq.refl true) hzz (Int.not_lt.mp hr), ⟨iLt fun hzz => linI [_, _, _, _] [le1 (.a (.a x0 x2) (.s x1 x2)) x3, lt1 x3 (.a x0 x1)] (Eq.refl true) hzz i.2.1, ⟨iLe fun hzz => linI [_, _] [lt1 x1 x0, le1 x0 x1] (Eq.refl true) hzz i.2.2.1, iLt fun hzz => linI [_, _, _] [le1 (.a x0 x1) x2, lt1 x2 (.a x0 x1)] (Eq.refl true) hzz i.2.2.2⟩⟩⟩⟩
theorem parts_cols {R C : Int} {b : Bx} (g : b.Good R C) {k : Int} (h1 : 1 ≤ k) (h2 : k < b.w) : Parts R C b [⟨b.t, b.l, b.h, k⟩, ⟨b.t, b.l + k, b.h, b.w - k⟩] := by
  unfold Bx.Good at g
  refine ⟨fun p m => ?_, ?_, fun r c i => ?_⟩
  · simp only [List.mem_cons, List.not_mem_nil, or_false] at m
    rcases m with rfl | rfl
    · unfold Bx.Good Bx.Sub; dsimp only; exact ⟨⟨iLe fun hzz => linI [_] [lt1 x0 (.n 0), le1 (.n 0) x0] (Eq.refl true) hzz g.1, ⟨iLe fun hzz => linI [_] [lt1 x0 (.n 0), le1 (.n 0) x0] (Eq.refl true) hzz g.2.1, ⟨iLe fun hzz => linI [_] [lt1 x0 (.n 1), le1 (.n 1) x0] (Eq.refl true) hzz g.2.2.1, ⟨iLe fun hzz => linI [_] [lt1 x0 (.n 1), le1 (.n 1) x0] (Eq.refl true) hzz h1, ⟨iLe fun hzz => linI [_, _, _] [lt1 x2 (.a x0 x1), le1 (.a x0 x1) x2] (Eq.refl true) hzz g.2.2.2.2.1, iLe fun hzz => linI [_, _, _, _] [lt1 x1 (.a x0 x2), le1 (.a x0 x3) x1, lt1 x2 x3] (Eq.refl true) hzz g.2.2.2.2.2 h2⟩⟩⟩⟩⟩, ⟨iLe fun hzz => linI [_] [lt1 x0 x0] (Eq.refl true) hzz, ⟨iLe fun hzz => linI [_] [lt1 x0 x0] (Eq.refl true) hzz, ⟨iLe fun hzz => linI [_, _] [lt1 (.a x0 x1) (.a x0 x1)] (Eq.refl true) hzz, iLe fun hzz => linI [_, _, _] [lt1 (.a x0 x1) (.a x0 x2), lt1 x2 x1] (Eq.refl true) hzz h2⟩⟩⟩⟩
    · unfold Bx.Good Bx.Sub; dsimp only; exact ⟨⟨iLe fun hzz => linI [_] [lt1 x0 (.n 0), le1 (.n 0) x0] (Eq.refl true) hzz g.1, ⟨iLe fun hzz => linI [_, _] [lt1 (.a x0 x1) (.n 0), le1 (.n 0) x0, le1 (.n 1) x1] (Eq.refl true) hzz g.2.1 h1, ⟨iLe fun hzz => linI [_] [lt1 x0 (.n 1), le1 (.n 1) x0] (Eq.refl true) hzz g.2.2.1, ⟨iLe fun hzz => linI [_, _] [lt1 (.s x0 x1) (.n 1), lt1 x1 x0] (Eq.refl true) hzz h2, ⟨iLe fun hzz => linI [_, _, _] [lt1 x2 (.a x0 x1), le1 (.a x0 x1) x2] (Eq.refl true) hzz g.2.2.2.2.1, iLe fun hzz => linI [_, _, _, _] [lt1 x2 (.a (.a x0 x3) (.s x1 x3)), le1 (.a x0 x1) x2] (Eq.refl true) hzz g.2.2.2.2.2⟩⟩⟩⟩⟩, ⟨iLe fun hzz => linI [_] [lt1 x0 x0] (Eq.refl true) hzz, ⟨iLe fun hzz => linI [_, _] [lt1 (.a x0 x1) x0, le1 (.n 1) x1] (Eq.refl true) hzz h1, ⟨iLe fun hzz => linI [_, _] [lt1 (.a x0 x1) (.a x0 x1)] (Eq.refl true) hzz, iLe fun hzz => linI [_, _, _] [lt1 (.a x0 x1) (.a (.a x0 x2) (.s x1 x2))] (Eq.refl true) hzz⟩⟩⟩⟩
  · simp [Bx.Disj]
  · unfold Bx.In at i
    by_cases hr : c < b.l + k
    · exact ⟨_, List.mem_cons_self, by unfold Bx.In; dsimp only; exact ⟨iLe fun hzz => linI [_, _] [lt1 x1 x0, le1 x0 x1] (Eq.refl true) hzz i.1, ⟨iLt fun hzz => linI [_, _, _] [le1 (.a x0 x1) x2, lt1 x2 (.a x0 x1)] (Eq.refl true) hzz i.2.1, ⟨iLe fun hzz => linI [_, _] [lt1 x1 x0, le1 x0 x1] (Eq.refl true) hzz i.2.2.1, iLt fun hzz => linI [_, _, _] [le1 (.a x0 x1) x2, lt1 x2 (.a x0 x1)] (Eq.refl true) hzz hr⟩⟩⟩⟩
    · exact ⟨_, List.mem_cons_of_mem _ List.mem_cons_self, by unfold Bx.In; dsimp only; exact ⟨iLe fun hzz => linI [_, _] [lt1 x1 x0, le1 x0 x1] (Eq.refl true) hzz i.1, ⟨iLt fun hzz => linI [_, _, _] [le1 (.a x0 x1) x2, lt1 x2 (.a x0 x1)] (Eq.refl true) hzz i.2.1, ⟨iLe fun hzz => linI [_, _, _] [lt1 x2 (.a x0 x1), le1 (.a x0 x1) x2] (Eq.refl true) hzz (Int.not_lt.mp hr), iLt fun hzz => linI [_, _, _, _] [le1 (.a (.a x0 x2) (.s x1 x2)) x3, lt1 x3 (.a x0 x1)] (Eq.refl true) hzz i.2.2.2⟩⟩⟩⟩
end Mine

end

/- part PM -/
section
/-! a reordering of a mapped list -/
namespace Mine
end Mine

end

/- part G3 -/
section
set_option Elab.async false
set_option linter.unusedVariables false
namespace Mine
/-! lists by keys -/
end Mine

end

/- part G4 -/
section
set_option Elab.async false
set_option linter.unusedVariables false
namespace Mine
/-! the squares of boxes -/
noncomputable def sqRow (l : Int) (w : Nat) (r : Int) : List (List Int) := (List.range w).map fun (j : Nat) => [r, l + (j : Int)]
noncomputable def sq (b : Bx) : List (List Int) := (List.range b.h.toNat).flatMap fun (i : Nat) => sqRow b.l b.w.toNat (b.t + (i : Int))
theorem mem_sq {b : Bx} {x : List Int} (h : x ∈ sq b) : ∃ r c, x = [r, c] ∧ b.In r c := by
  obtain ⟨i, mi, m⟩ := List.mem_flatMap.mp h
  obtain ⟨j, mj, rfl⟩ := List.mem_map.mp m
  have hi := List.mem_range.mp mi
  have hj := List.mem_range.mp mj
  exact ⟨_, _, rfl, by unfold Bx.In; omega⟩
theorem in_sq {b : Bx} {r c : Int} (h : b.In r c) : [r, c] ∈ sq b := by
  unfold Bx.In at h
  refine List.mem_flatMap.mpr ⟨(r - b.t).toNat, List.mem_range.mpr (by exact d_lt (iLt fun hzz => linI [_, _, _, _, _] [le1 x1 x0, lt1 x3 (.a x2 x4), le1 x4 x1, eq1 x0 (.s x3 x2)] (Eq.refl true) hzz h.2.1 (tn_lo _) (tn_eq (iLe fun hyy => linI [_, _] [lt1 (.s x1 x0) (.n 0), le1 x0 x1] (Eq.refl true) hyy h.1)))), List.mem_map.mpr ⟨(c - b.l).toNat, List.mem_range.mpr (by exact d_lt (iLt fun hzz => linI [_, _, _, _, _] [le1 x1 x0, lt1 x3 (.a x2 x4), le1 x4 x1, eq1 x0 (.s x3 x2)] (Eq.refl true) hzz h.2.2.2 (tn_lo _) (tn_eq (iLe fun hyy => linI [_, _] [lt1 (.s x1 x0) (.n 0), le1 x0 x1] (Eq.refl true) hyy h.2.2.1)))), ?_⟩⟩
  rw [show b.t + ((r - b.t).toNat : Int) = r by exact iEq (fun hzz => linI [_, _, _] [lt1 (.a x0 x2) x1, le1 (.s x1 x0) x2] (Eq.refl true) hzz (tn_lo _)) (fun hzz => linI [_, _, _] [lt1 x1 (.a x0 x2), eq1 x2 (.s x1 x0)] (Eq.refl true) hzz (tn_eq (iLe fun hyy => linI [_, _] [lt1 (.s x1 x0) (.n 0), le1 x0 x1] (Eq.refl true) hyy h.1))), show b.l + ((c - b.l).toNat : Int) = c by exact iEq (fun hzz => linI [_, _, _] [lt1 (.a x0 x2) x1, le1 (.s x1 x0) x2] (Eq.refl true) hzz (tn_lo _)) (fun hzz => linI [_, _, _] [lt1 x1 (.a x0 x2), eq1 x2 (.s x1 x0)] (Eq.refl true) hzz (tn_eq (iLe fun hyy => linI [_, _] [lt1 (.s x1 x0) (.n 0), le1 x0 x1] (Eq.refl true) hyy h.2.2.1)))]
theorem nodup_flat {α β : Type} {f : α → List β} : ∀ {l : List α}, (∀ a, a ∈ l → (f a).Nodup) → l.Pairwise (fun a b => ∀ x, x ∈ f a → x ∉ f b) → (l.flatMap f).Nodup
  | [], _, _ => List.nodup_nil
  | a :: l, h, p => by
    have p' := List.pairwise_cons.mp p
    rw [List.flatMap_cons]
    refine List.nodup_append.mpr ⟨h a List.mem_cons_self, nodup_flat (fun b m => h b (List.mem_cons_of_mem _ m)) p'.2, fun x m y m' e => ?_⟩
    subst e
    obtain ⟨b, mb, mx⟩ := List.mem_flatMap.mp m'
    exact p'.1 b mb x m mx
theorem nodup_row {l : Int} {w : Nat} {r : Int} : (sqRow l w r).Nodup := by
  unfold sqRow
  refine List.pairwise_map.mpr ((List.nodup_range (n := w)).imp fun {a b} h e => h ?_)
  injection e with _ e
  injection e with e _
  exact d_eq (iEq (fun hzz => linI [_, _, _] [lt1 x0 x1, qe1 (.a x2 x0) (.a x2 x1)] (Eq.refl true) hzz e) (fun hzz => linI [_, _, _] [lt1 x1 x0, eq1 (.a x2 x0) (.a x2 x1)] (Eq.refl true) hzz e))
theorem nodup_sq {b : Bx} : (sq b).Nodup := by
  refine nodup_flat (fun i _ => nodup_row) ((List.nodup_range (n := b.h.toNat)).imp fun {a c} h x m m' => h ?_)
  obtain ⟨j, _, rfl⟩ := List.mem_map.mp m
  obtain ⟨k, _, e⟩ := List.mem_map.mp m'
  injection e with e _
  exact d_eq (iEq (fun hzz => linI [_, _, _] [lt1 x1 x0, eq1 (.a x2 x0) (.a x2 x1)] (Eq.refl true) hzz e) (fun hzz => linI [_, _, _] [lt1 x0 x1, qe1 (.a x2 x0) (.a x2 x1)] (Eq.refl true) hzz e))
theorem sq_apart {a b : Bx} (d : a.Disj b) : ∀ x, x ∈ sq a → x ∉ sq b := fun x m m' => by
  obtain ⟨r, c, rfl, i⟩ := mem_sq m
  obtain ⟨r', c', e, i'⟩ := mem_sq m'
  injection e with e1 e
  injection e with e2 _
  subst e1 e2
  unfold Bx.Disj at d
  unfold Bx.In at i i'
  exact Or.elim d (fun hd2 => linI [_, _, _, _] [lt1 x2 (.a x0 x1), le1 x3 x2, le1 (.a x0 x1) x3] (Eq.refl true) i.2.1 i'.1 hd2) (fun hd2 => Or.elim hd2 (fun hd3 => linI [_, _, _, _] [le1 x0 x1, lt1 x1 (.a x2 x3), le1 (.a x2 x3) x0] (Eq.refl true) i.1 i'.2.1 hd3) (fun hd3 => Or.elim hd3 (fun hd4 => linI [_, _, _, _] [lt1 x2 (.a x0 x1), le1 x3 x2, le1 (.a x0 x1) x3] (Eq.refl true) i.2.2.2 i'.2.2.1 hd4) (fun hd4 => linI [_, _, _, _] [le1 x0 x1, lt1 x1 (.a x2 x3), le1 (.a x2 x3) x0] (Eq.refl true) i.2.2.1 i'.2.2.2 hd4)))
theorem nodup_squares {R C : Int} {bs : List Bx} (h : Til R C bs) : (bs.flatMap sq).Nodup := nodup_flat (fun _ _ => nodup_sq) (h.2.imp fun d => sq_apart d)
theorem sub_len {α : Type} [DecidableEq α] : ∀ {l m : List α}, l.Nodup → (∀ x, x ∈ l → x ∈ m) → l.length ≤ m.length
  | [], _, _, _ => Nat.zero_le _
  | a :: l, m, hn, hs => by
    have hn' := List.nodup_cons.mp hn
    have ma := hs a List.mem_cons_self
    have ih := sub_len (l := l) (m := m.erase a) hn'.2 fun x mx => (List.mem_erase_of_ne (fun (e : x = a) => hn'.1 (by rw [← e]; exact mx))).mpr (hs x (List.mem_cons_of_mem _ mx))
    rw [List.length_erase_of_mem ma] at ih
    have : 0 < m.length := List.length_pos_of_mem ma
    rw [List.length_cons]
    exact nLe fun hzz => linN [_, _, _] [lt1 x1 (.a x0 (.n 1)), le1 x0 x2, eq1 (.a x2 (.n 1)) x1] (Eq.refl true) hzz ih (sub_eq (nLe fun hyy => linN [_] [lt1 x0 (.n 1), lt1 (.n 0) x0] (Eq.refl true) hyy this))
theorem len_row (l : Int) (w : Nat) (r : Int) : (sqRow l w r).length = w := by unfold sqRow; rw [List.length_map, List.length_range]
theorem len_rows (l t : Int) (w : Nat) : ∀ n : Nat, ((List.range n).flatMap fun (i : Nat) => sqRow l w (t + (i : Int))).length = n * w
  | 0 => by rw [List.range_zero, List.flatMap_nil, Nat.zero_mul]; rfl
  | n + 1 => by
    rw [List.range_succ, List.flatMap_append, List.length_append, len_rows l t w n, List.flatMap_cons, List.flatMap_nil, List.append_nil, len_row, Nat.succ_mul]
theorem len_sq (b : Bx) : (sq b).length = b.h.toNat * b.w.toNat := len_rows b.l b.t b.w.toNat b.h.toNat
end Mine

end

/- part G5 -/
section
set_option Elab.async false
set_option linter.unusedVariables false
namespace Mine

/-! rows that are kept: those up to a, and those where something begins -/
end Mine

end

/- part G6 -/
section
set_option Elab.async false
set_option linter.unusedVariables false
namespace Mine
/-! squares told one by one; lists of boxes with a fault -/
theorem row_div (t l : Int) (w : Nat) (hw : 0 < w) : ∀ n : Nat, ((List.range (n * w)).map fun (k : Nat) => [t + ((k / w : Nat) : Int), l + ((k % w : Nat) : Int)]) = (List.range n).flatMap fun (i : Nat) => sqRow l w (t + (i : Int))
  | 0 => by rw [Nat.zero_mul, List.range_zero]; rfl
  | n + 1 => by
    rw [Nat.succ_mul, List.range_add, List.map_append, row_div t l w hw n, List.range_succ, List.flatMap_append, List.flatMap_cons, List.flatMap_nil, List.append_nil]
    congr 1
    unfold sqRow
    rw [List.map_map]
    refine List.map_congr_left fun j mj => ?_
    have hj := List.mem_range.mp mj
    show [t + (((n * w + j) / w : Nat) : Int), l + (((n * w + j) % w : Nat) : Int)] = _
    rw [Nat.mul_comm n w, Nat.mul_add_div hw, Nat.mul_add_mod, Nat.div_eq_of_lt hj, Nat.mod_eq_of_lt hj, Nat.add_zero]
theorem sq_div (b : Bx) (hw : 1 ≤ b.w) : ((List.range (b.h.toNat * b.w.toNat)).map fun (k : Nat) => [b.t + ((k / b.w.toNat : Nat) : Int), b.l + ((k % b.w.toNat : Nat) : Int)]) = sq b :=
  row_div b.t b.l b.w.toNat (by exact d_lt (iLt fun hzz => linI [_, _] [le1 x0 (.n 0), le1 (.n 1) x1, le1 x1 x0] (Eq.refl true) hzz hw (tn_lo _))) b.h.toNat
theorem tot_le {R C : Nat} {bs : List Bx} (h : ∀ b, b ∈ bs → b.Good R C) (hn : (bs.flatMap sq).Nodup) : (bs.flatMap sq).length ≤ R * C := by
  have e := len_sq ⟨0, 0, R, C⟩
  simp only [Int.toNat_natCast] at e
  rw [← e]
  refine sub_len hn fun x m => ?_
  obtain ⟨b, mb, mx⟩ := List.mem_flatMap.mp m
  obtain ⟨r, c, rfl, i⟩ := mem_sq mx
  have g := h b mb
  refine in_sq ?_
  unfold Bx.In Bx.Good at *
  simp only
  exact ⟨iLe fun hzz => linI [_, _] [lt1 x0 (.n 0), le1 x1 x0, le1 (.n 0) x1] (Eq.refl true) hzz i.1 g.1, ⟨iLt fun hzz => linI [_, _, _, _] [le1 (.a (.n 0) x1) x0, lt1 x0 (.a x2 x3), le1 (.a x2 x3) x1] (Eq.refl true) hzz i.2.1 g.2.2.2.2.1, ⟨iLe fun hzz => linI [_, _] [lt1 x0 (.n 0), le1 x1 x0, le1 (.n 0) x1] (Eq.refl true) hzz i.2.2.1 g.2.1, iLt fun hzz => linI [_, _, _, _] [le1 (.a (.n 0) x1) x0, lt1 x0 (.a x2 x3), le1 (.a x2 x3) x1] (Eq.refl true) hzz i.2.2.2 g.2.2.2.2.2⟩⟩⟩
theorem shared_of {l1 l2 : List Bx} {b c : Bx} {x : List Int} (hb : x ∈ sq b) (hc : x ∈ sq c) (m : c ∈ l1 ++ l2) : ¬ ((l1 ++ b :: l2).flatMap sq).Nodup := fun hn => by
  rw [List.flatMap_append, List.flatMap_cons] at hn
  obtain ⟨_, h2, h3⟩ := List.nodup_append.mp hn
  rcases List.mem_append.mp m with m | m
  · exact h3 x (List.mem_flatMap.mpr ⟨c, m, hc⟩) x (List.mem_append_left _ hb) rfl
  · exact (List.nodup_append.mp h2).2.2 x hb x (List.mem_flatMap.mpr ⟨c, m, hc⟩) rfl
theorem corner_in {R C : Int} {b : Bx} (g : b.Good R C) : [b.t, b.l] ∈ sq b := in_sq (by unfold Bx.In Bx.Good at *; exact ⟨iLe fun hzz => linI [_] [lt1 x0 x0] (Eq.refl true) hzz, ⟨iLt fun hzz => linI [_, _] [le1 (.a x0 x1) x0, le1 (.n 1) x1] (Eq.refl true) hzz g.2.2.1, ⟨iLe fun hzz => linI [_] [lt1 x0 x0] (Eq.refl true) hzz, iLt fun hzz => linI [_, _] [le1 (.a x0 x1) x0, le1 (.n 1) x1] (Eq.refl true) hzz g.2.2.2.1⟩⟩⟩)
theorem shared_two {R C : Int} {l1 l2 : List Bx} {b : Bx} (g : b.Good R C) (m : b ∈ l1 ++ l2) : ¬ ((l1 ++ b :: l2).flatMap sq).Nodup := shared_of (corner_in g) (corner_in g) m
theorem sum_len (l1 l2 : List Bx) (b : Bx) : ((l1 ++ b :: l2).flatMap sq).length = (l1.flatMap sq).length + (sq b).length + (l2.flatMap sq).length := by
  rw [List.flatMap_append, List.flatMap_cons, List.length_append, List.length_append, Nat.add_assoc]
theorem bare_one {R C : Nat} {l1 l2 : List Bx} {b : Bx} (ht : Til R C (l1 ++ b :: l2)) : ((l1 ++ l2).flatMap sq).Nodup ∧ ((l1 ++ l2).flatMap sq).length < R * C := by
  have hn := nodup_squares ht
  have hl := tot_le ht.1 hn
  have g := ht.1 b (List.mem_append_right _ List.mem_cons_self)
  rw [sum_len] at hl
  have hp : 0 < (sq b).length := List.length_pos_of_mem (corner_in g)
  refine ⟨?_, ?_⟩
  · have : (l1 ++ l2).Sublist (l1 ++ b :: l2) := List.Sublist.append (List.Sublist.refl _) (List.sublist_cons_self _ _)
    exact nodup_flat (fun _ _ => nodup_sq) ((ht.2.sublist this).imp fun d => sq_apart d)
  · rw [List.flatMap_append, List.length_append]; exact nLt fun hzz => linN [_, _, _, _] [le1 x2 (.a x0 x1), le1 (.a (.a x0 x3) x1) x2, lt1 (.n 0) x3] (Eq.refl true) hzz hl hp
theorem moved_bad {R C : Nat} {l1 l2 : List Bx} {b b' : Bx} (ht : Til R C (l1 ++ b :: l2)) (hv : Cov R C (l1 ++ b :: l2)) (g : b'.Good R C) (hm : (∃ r c, b'.In r c ∧ ¬ b.In r c) ∨ (sq b').length < (sq b).length) :
    ¬ ((l1 ++ b' :: l2).flatMap sq).Nodup ∨ ((l1 ++ b' :: l2).flatMap sq).length < R * C := by
  rcases hm with ⟨r, c, hi, hn⟩ | hm
  · left
    have hi' := hi
    unfold Bx.In at hi'
    unfold Bx.Good at g
    obtain ⟨e, me, he⟩ := hv r c (by exact iLe fun hzz => linI [_, _] [lt1 x0 (.n 0), le1 (.n 0) x1, le1 x1 x0] (Eq.refl true) hzz g.1 hi'.1) (by exact iLt fun hzz => linI [_, _, _, _] [le1 x0 x1, le1 (.a x2 x3) x0, lt1 x1 (.a x2 x3)] (Eq.refl true) hzz g.2.2.2.2.1 hi'.2.1) (by exact iLe fun hzz => linI [_, _] [lt1 x0 (.n 0), le1 (.n 0) x1, le1 x1 x0] (Eq.refl true) hzz g.2.1 hi'.2.2.1) (by exact iLt fun hzz => linI [_, _, _, _] [le1 x0 x1, le1 (.a x2 x3) x0, lt1 x1 (.a x2 x3)] (Eq.refl true) hzz g.2.2.2.2.2 hi'.2.2.2)
    refine shared_of (in_sq hi) (in_sq he) ?_
    rcases List.mem_append.mp me with m | m
    · exact List.mem_append_left _ m
    · rcases List.mem_cons.mp m with rfl | m
      · exact absurd he hn
      · exact List.mem_append_right _ m
  · right
    have hl := tot_le ht.1 (nodup_squares ht)
    rw [sum_len] at hl ⊢
    exact nLt fun hzz => linN [_, _, _, _, _] [le1 x3 (.a (.a x1 x0) x2), lt1 x0 x4, le1 (.a (.a x1 x4) x2) x3] (Eq.refl true) hzz hm hl
/-- a box one of whose numbers is one more or one less -/
theorem moved_one {R C : Int} {b b' : Bx} (g : b.Good R C) (g' : b'.Good R C) (h : (b'.l = b.l ∧ b'.h = b.h ∧ b'.w = b.w ∧ (b'.t = b.t + 1 ∨ b'.t = b.t - 1)) ∨ (b'.t = b.t ∧ b'.h = b.h ∧ b'.w = b.w ∧ (b'.l = b.l + 1 ∨ b'.l = b.l - 1)) ∨ (b'.t = b.t ∧ b'.l = b.l ∧ b'.w = b.w ∧ (b'.h = b.h + 1 ∨ b'.h = b.h - 1)) ∨ (b'.t = b.t ∧ b'.l = b.l ∧ b'.h = b.h ∧ (b'.w = b.w + 1 ∨ b'.w = b.w - 1))) :
    (∃ r c, b'.In r c ∧ ¬ b.In r c) ∨ (sq b').length < (sq b).length := by
  unfold Bx.Good at g g'
  unfold Bx.In
  rcases h with ⟨h1, h2, h3, h4 | h4⟩ | ⟨h1, h2, h3, h4 | h4⟩ | ⟨h1, h2, h3, h4 | h4⟩ | ⟨h1, h2, h3, h4 | h4⟩
  · exact .inl ⟨b.t + b.h, b.l, by exact ⟨iLe fun hzz => linI [_, _, _] [lt1 (.a x0 x1) x2, le1 (.n 1) x1, eq1 x2 (.a x0 (.n 1))] (Eq.refl true) hzz g.2.2.1 h4, ⟨iLt fun hzz => linI [_, _, _, _] [le1 (.a x2 x3) (.a x0 x1), qe1 x3 x1, qe1 x2 (.a x0 (.n 1))] (Eq.refl true) hzz h2 h4, ⟨iLe fun hzz => linI [_, _] [lt1 x0 x1, eq1 x1 x0] (Eq.refl true) hzz h1, iLt fun hzz => linI [_, _, _] [le1 (.a x1 x2) x0, le1 (.n 1) x2, qe1 x1 x0] (Eq.refl true) hzz g'.2.2.2.1 h1⟩⟩⟩, by omega⟩
  · exact .inl ⟨b.t - 1, b.l, by exact ⟨iLe fun hzz => linI [_, _] [lt1 (.s x0 (.n 1)) x1, eq1 x1 (.s x0 (.n 1))] (Eq.refl true) hzz h4, ⟨iLt fun hzz => linI [_, _, _] [le1 (.a x1 x2) (.s x0 (.n 1)), le1 (.n 1) x2, qe1 x1 (.s x0 (.n 1))] (Eq.refl true) hzz g'.2.2.1 h4, ⟨iLe fun hzz => linI [_, _] [lt1 x0 x1, eq1 x1 x0] (Eq.refl true) hzz h1, iLt fun hzz => linI [_, _, _] [le1 (.a x1 x2) x0, le1 (.n 1) x2, qe1 x1 x0] (Eq.refl true) hzz g'.2.2.2.1 h1⟩⟩⟩, by omega⟩
  · exact .inl ⟨b.t, b.l + b.w, by exact ⟨iLe fun hzz => linI [_, _] [lt1 x0 x1, eq1 x1 x0] (Eq.refl true) hzz h1, ⟨iLt fun hzz => linI [_, _, _] [le1 (.a x1 x2) x0, le1 (.n 1) x2, qe1 x1 x0] (Eq.refl true) hzz g'.2.2.1 h1, ⟨iLe fun hzz => linI [_, _, _] [lt1 (.a x0 x1) x2, le1 (.n 1) x1, eq1 x2 (.a x0 (.n 1))] (Eq.refl true) hzz g.2.2.2.1 h4, iLt fun hzz => linI [_, _, _, _] [le1 (.a x2 x3) (.a x0 x1), qe1 x3 x1, qe1 x2 (.a x0 (.n 1))] (Eq.refl true) hzz h3 h4⟩⟩⟩, by omega⟩
  · exact .inl ⟨b.t, b.l - 1, by exact ⟨iLe fun hzz => linI [_, _] [lt1 x0 x1, eq1 x1 x0] (Eq.refl true) hzz h1, ⟨iLt fun hzz => linI [_, _, _] [le1 (.a x1 x2) x0, le1 (.n 1) x2, qe1 x1 x0] (Eq.refl true) hzz g'.2.2.1 h1, ⟨iLe fun hzz => linI [_, _] [lt1 (.s x0 (.n 1)) x1, eq1 x1 (.s x0 (.n 1))] (Eq.refl true) hzz h4, iLt fun hzz => linI [_, _, _] [le1 (.a x1 x2) (.s x0 (.n 1)), le1 (.n 1) x2, qe1 x1 (.s x0 (.n 1))] (Eq.refl true) hzz g'.2.2.2.1 h4⟩⟩⟩, by omega⟩
  · exact .inl ⟨b.t + b.h, b.l, by exact ⟨iLe fun hzz => linI [_, _, _] [lt1 (.a x0 x1) x2, le1 (.n 1) x1, eq1 x2 x0] (Eq.refl true) hzz g.2.2.1 h1, ⟨iLt fun hzz => linI [_, _, _, _] [le1 (.a x2 x3) (.a x0 x1), qe1 x2 x0, qe1 x3 (.a x1 (.n 1))] (Eq.refl true) hzz h1 h4, ⟨iLe fun hzz => linI [_, _] [lt1 x0 x1, eq1 x1 x0] (Eq.refl true) hzz h2, iLt fun hzz => linI [_, _, _] [le1 (.a x1 x2) x0, le1 (.n 1) x2, qe1 x1 x0] (Eq.refl true) hzz g'.2.2.2.1 h2⟩⟩⟩, by omega⟩
  · right
    rw [len_sq, len_sq, h3]
    exact Nat.mul_lt_mul_of_pos_right (by exact d_lt (iLt fun hzz => linI [_, _, _, _] [le1 x1 x0, eq1 x3 (.s x2 (.n 1)), le1 x2 x1, eq1 x0 x3] (Eq.refl true) hzz h4 (tn_lo _) (tn_eq (iLe fun hyy => linI [_] [lt1 x0 (.n 0), le1 (.n 1) x0] (Eq.refl true) hyy g'.2.2.1)))) (by exact d_lt (iLt fun hzz => linI [_, _] [le1 x0 (.n 0), le1 (.n 1) x1, le1 x1 x0] (Eq.refl true) hzz g.2.2.2.1 (tn_lo _)))
  · exact .inl ⟨b.t, b.l + b.w, by exact ⟨iLe fun hzz => linI [_, _] [lt1 x0 x1, eq1 x1 x0] (Eq.refl true) hzz h1, ⟨iLt fun hzz => linI [_, _, _] [le1 (.a x1 x2) x0, le1 (.n 1) x2, qe1 x1 x0] (Eq.refl true) hzz g'.2.2.1 h1, ⟨iLe fun hzz => linI [_, _, _] [lt1 (.a x0 x1) x2, le1 (.n 1) x1, eq1 x2 x0] (Eq.refl true) hzz g.2.2.2.1 h2, iLt fun hzz => linI [_, _, _, _] [le1 (.a x2 x3) (.a x0 x1), qe1 x2 x0, qe1 x3 (.a x1 (.n 1))] (Eq.refl true) hzz h2 h4⟩⟩⟩, by omega⟩
  · right
    rw [len_sq, len_sq, h3]
    exact Nat.mul_lt_mul_of_pos_left (by exact d_lt (iLt fun hzz => linI [_, _, _, _] [le1 x1 x0, eq1 x3 (.s x2 (.n 1)), le1 x2 x1, eq1 x0 x3] (Eq.refl true) hzz h4 (tn_lo _) (tn_eq (iLe fun hyy => linI [_] [lt1 x0 (.n 0), le1 (.n 1) x0] (Eq.refl true) hyy g'.2.2.2.1)))) (by exact d_lt (iLt fun hzz => linI [_, _] [le1 x0 (.n 0), le1 (.n 1) x1, le1 x1 x0] (Eq.refl true) hzz g.2.2.1 (tn_lo _)))
end Mine

end

/- part RS -/
section
set_option Elab.async false
set_option linter.unusedVariables false
namespace Mine
open PySem PyProof.Rows PySem.Builtin.Str
theorem take_strip (p : Nat → Bool) (l : List Nat) : l.take (l.length - (l.reverse.takeWhile p).length) = (l.reverse.dropWhile p).reverse := by
  have h := List.takeWhile_append_dropWhile (p := p) (l := l.reverse)
  have h2 : l = (l.reverse.dropWhile p).reverse ++ (l.reverse.takeWhile p).reverse := by
    rw [← List.reverse_append, h, List.reverse_reverse]
  have h3 : l.length = (l.reverse.dropWhile p).length + (l.reverse.takeWhile p).length := by
    have := congrArg List.length h2
    simpa using this
  have h4 : l.length - (l.reverse.takeWhile p).length = (l.reverse.dropWhile p).reverse.length := by rw [List.length_reverse]; omega
  rw [h4]
  conv => lhs; arg 2; rw [h2]
  exact List.take_left ..
theorem rstrip_last (x : Str) : (cl (Txt.rstripChars x (Str.ofString " "))).getLast? ≠ some 32 := by
  have e : cl (Txt.rstripChars x (Str.ofString " ")) = ((cl x).reverse.dropWhile (Str.ofString " ").cps.contains).reverse := by
    show cl (Txt.stripBy (Str.ofString " ").cps.contains false true x) = _
    rw [stripBy_eq, ← take_strip]
    simp [cl, strSub, stripLo, stripHi, Str.length]
  rw [e, List.getLast?_reverse]
  intro h
  have := List.head?_dropWhile_not (Str.ofString " ").cps.contains (cl x).reverse
  rw [h] at this
  simp only at this
  exact absurd this (by decide +kernel)
end Mine

end

/- part GT -/
section
set_option Elab.async false
set_option linter.unusedVariables false
namespace Mine
open PySem PyProof.Rows PySem.Builtin.Str
noncomputable def plainC (c : Nat) : Bool := decide (32 ≤ c) && decide (c ≤ 126)
/-- a good line, as signs -/
noncomputable def LnG (l : List Nat) : Prop := l.all plainC = true ∧ l.getLast? ≠ some 32
noncomputable def goodT (l : List Nat) : Bool := if decide ((l.length : Int) > 200) || l.getLast? == some 10 then false else (splitL 10 l).all (fun p => p.getLast? != some 32 && p.all (fun c => decide (32 ≤ c) && decide (c ≤ 126)))
theorem LnG.no10 {l : List Nat} (h : LnG l) : 10 ∉ l := fun m => by
  have := List.all_eq_true.mp h.1 10 m
  cases this
theorem good_lines {as : List (List Nat)} (hne : as ≠ []) (h : ∀ a, a ∈ as → LnG a) (hl : (joinL 10 as).length ≤ 200) (hz : (joinL 10 as).getLast? ≠ some 10) : goodT (joinL 10 as) = true := by
  unfold goodT
  have h1 : decide (((joinL 10 as).length : Int) > 200) = false := decide_eq_false (by omega)
  have h2 : ((joinL 10 as).getLast? == some 10) = false := by simpa using hz
  rw [h1, h2, splitL_joinL hne fun a m => (h a m).no10]
  simp only [Bool.or_self, Bool.false_eq_true, if_false]
  refine List.all_eq_true.mpr fun a m => ?_
  have g := h a m
  rw [Bool.and_eq_true]
  exact ⟨by simpa using g.2, g.1⟩
theorem good_line {l : List Nat} (h : LnG l) (hl : l.length ≤ 200) : goodT l = true :=
  good_lines (as := [l]) (by simp) (fun a m => by rw [List.mem_singleton.mp m]; exact h) hl fun z => h.no10 (List.mem_of_getLast? z)
end Mine

end

/- part HD -/
section
set_option Elab.async false
set_option linter.unusedVariables false
namespace Mine
open PySem PySem.W PyProof.Rows
/-! the head of a law: its top, run by the kernel; what of the heap is written out -/
noncomputable def ke (P : Params) (x : Str) (t : Nat) (v : Value) : DictEntry := ⟨PyData.keyHash P x, .str x t, v⟩
noncomputable def fnO (p : Program) (i : Nat) (md : Str) (t : Nat) (c : Addr) : Obj := match p.main.body[i]? with
  | some (.FunctionDef nm args b _ _ _ sc _ _ _) => { cls := .type "function", data := .func { name := nm, qualname := nm, params := args, body := .stmts b, scope := sc, globals := 3, closure := [], defaults := .none, kwdefaults := .none, pyModule := .str md t, code := .ref c } }
  | _ => default
theorem head_of {l : OpenLaw} {keep : List Nat} {K : Params → Frag} {as : List Addr} {N : Nat} (e : ∀ P, as = (K P).map (·.1)) (ws : l.wellSaid = true)
    (left : ∀ w, (openEnds treeTable l.prog w N).map (fun s => (openSeen (view l.prog keep) [] (importedModules l.prog.main.body) (fun s => xlAt (view l.prog keep) [] s && recOk [] s) true s, as.map s.heap.get?)) = some (openGood (view l.prog keep) [], (K w.params).map fun p => some p.2))
    (hx : (defOf (view l.prog keep) l.name).isSome = true) (hp : l.prog.theDef l.name = some (((defOf (view l.prog keep) l.name).get hx).1.params, ((defOf (view l.prog keep) l.name).get hx).1.body, ((defOf (view l.prog keep) l.name).get hx).1.scope))
    (hk : kwWritten? ((defOf (view l.prog keep) l.name).get hx).1.params.kwonlyargs ((defOf (view l.prog keep) l.name).get hx).1.params.kw_defaults = some ((defOf (view l.prog keep) l.name).get hx).2)
    (hwr : (!l.row.writes || l.row.records.isEmpty) = true) (ok : (chainsOk (view l.prog keep) && opensWell l.prog && (frees l.row.toRowW && l.row.within.isEmpty)) = true) (hb : l.prog.bare) (hw : l.row.toRowW.promised)
    (walk : WalkO (view l.prog keep) [] (XL (view l.prog keep) []) (kHook K as e).says l.row.toRowW ((defOf (view l.prog keep) l.name).get hx).1 ((defOf (view l.prog keep) l.name).get hx).2 fun f vs => PySem.call f vs) : l.Holds :=
  holds_law ws fun said => holds_open (r := l.row) (q := view l.prog keep) (loose := []) (Xt := fun s => xlAt (view l.prog keep) [] s && recOk [] s) (XP := XL (view l.prog keep) []) (Yf := (kHook K as e).obs) (Ya := (kHook K as e).val) (YP := (kHook K as e).says) (N := N) left (kHook K as e).of (kHook K as e).keeps
    (fun s h => xl_of s (Bool.and_eq_true_iff.mp h).1) XL.keeps (Option.some_get hx).symm hp hk (fun s h => recFacts_of (Bool.and_eq_true_iff.mp h).2) hwr said ok hb hw walk
end Mine

end

/- part X04 -/
section
set_option Elab.async false
set_option linter.unusedVariables false
namespace Mine
open PySem PyProof.Rows
/-! what raises -/
noncomputable def X {α : Type} (m : Mn α) (st : St) (c : Addr) (Q : St → Prop) : Prop := ∃ st', m st = .exc c st' ∧ Q st'
section
variable {α β : Type} {st st1 : St} {c : Addr} {Q : St → Prop}
theorem X_bnd {m : Mn α} {f : α → Mn β} (h : X m st c Q) : X (bnd m f) st c Q := by
  obtain ⟨s, e, q⟩ := h; exact ⟨s, by unfold bnd; rw [e], q⟩
theorem X_bndW {m : Mn α} {f : α → Mn β} (h : W m st fun a s => X (f a) s c Q) : X (bnd m f) st c Q := by
  obtain ⟨a, s, e, s', e', q⟩ := h; exact ⟨s', by unfold bnd; rw [e]; exact e', q⟩
theorem X_seq {m n : Mn Fl} (h : X m st c Q) : X (seqM m n) st c Q := X_bnd h
theorem X_seqW {m n : Mn Fl} (h : W m st fun fl s => fl = .next ∧ X n s c Q) : X (seqM m n) st c Q := by
  obtain ⟨a, s, e, rfl, h⟩ := h; exact X_bndW ⟨_, _, e, h⟩
theorem X_if {m : Mn Bool} {a b : Mn Fl} (h : W m st fun t s => X (if t = true then a else b) s c Q) : X (ifM m a b) st c Q := X_bndW h
theorem X_ifT {m : Mn Bool} {t : Bool} {a b : Mn Fl} (e : m st = .ok t st1) (ht : t = true) (h : X a st1 c Q) : X (ifM m a b) st c Q := X_if ⟨_, _, e, by show X (if t = true then a else b) st1 c Q; rw [if_pos ht]; exact h⟩
theorem X_raise (h : Q st) : X (raiseM c) st c Q := ⟨st, rfl, h⟩
theorem X_fn {ps : List Nat} {body : Mn Fl} {ds : List D} (hl : ds.length = ps.length) (h : X body ⟨bindP emptyL ps ds, st.sto⟩ c fun s => Q ⟨st.loc, s.sto⟩) : X (mkFn ps body ds) st c Q := by
  obtain ⟨s, e, q⟩ := h
  exact ⟨_, by unfold mkFn; rw [if_pos hl, e], q⟩
theorem X_forM {tgt : D → Loc → Option Loc} {g : Sto → Prop} {body : Mn Fl} (J : List D → St → Prop) (hstep : ∀ d rest st, J (d :: rest) st → g st.sto ∧ ∃ loc', tgt d st.loc = some loc' ∧ (X body ⟨loc', st.sto⟩ c Q ∨ W body ⟨loc', st.sto⟩ fun fl s => fl = .next ∧ J rest s))
    (hend : ∀ st, ¬ J [] st) : ∀ (ds : List D) (st : St), J ds st → X (forM tgt g body ds) st c Q
  | [], st, h => absurd h (hend st)
  | d :: rest, st, h => by
    obtain ⟨h1, loc', h2, h3⟩ := hstep d rest st h
    rcases h3 with ⟨s, e, q⟩ | ⟨fl, s, e, rfl, hj⟩
    · exact ⟨s, by unfold forM; rw [if_pos h1]; simp only [h2, e], q⟩
    · obtain ⟨s', e', q⟩ := X_forM J hstep hend rest s hj
      exact ⟨s', by unfold forM; rw [if_pos h1]; simp only [h2, e]; exact e', q⟩
theorem W_tryX {b h : Mn Fl} {sub : Addr → Bool} {i : Nat} {Q' : Fl → St → Prop} (h1 : X b st c Q) (hs : sub c = true) (h2 : ∀ s, Q s → W h ⟨upd s.loc i (.exc c), s.sto⟩ fun fl s' => Q' fl ⟨del s'.loc i, s'.sto⟩) : W (tryM b sub i h) st Q' := by
  obtain ⟨s, e, q⟩ := h1
  obtain ⟨fl, s', e', q'⟩ := h2 s q
  exact ⟨fl, _, by unfold tryM; simp only [e, hs, e'], q'⟩
end
/-- lists stay -/
noncomputable def Kp (σ σ' : Sto) : Prop := σ.length ≤ σ'.length ∧ ∀ (i : Nat) (ds : List D), σ[i]? = some (PO.list ds) → σ'[i]? = some (PO.list ds)
theorem Ext.kp {σ σ' : Sto} (x : Ext σ σ') : Kp σ σ' := ⟨x.len, fun _ _ e => x.get e⟩
theorem Kp.trans {a b c : Sto} (x : Kp a b) (y : Kp b c) : Kp a c := ⟨Nat.le_trans x.1 y.1, fun i ds e => y.2 i ds (x.2 i ds e)⟩
theorem Kp.refl (σ : Sto) : Kp σ σ := ⟨Nat.le_refl _, fun _ _ e => e⟩
theorem Kp.app (σ j : Sto) : Kp σ (σ ++ j) := (Ext.app σ j).kp
theorem Kp.setD {σ : Sto} {k : Nat} {ks es : List (List Int)} (hk : σ[k]? = some (.dict ks)) : Kp σ (σ.set k (.dict es)) :=
  ⟨by rw [List.length_set]; exact Nat.le_refl _, fun i ds e => by rw [List.getElem?_set_ne (fun z => by rw [z, e] at hk; cases hk)]; exact e⟩
/-! lists that hold lists, compared with themselves -/
noncomputable def LayD (σ : Sto) (l m : Nat) (d : D) : Prop := ∀ σ' n, Kp σ σ' → l ≤ n → ∃ p, flatB (dataN σ' n) d = some p ∧ p.canLay0 = true ∧ p.depth ≤ m
theorem LayD.kp {σ σ' : Sto} {l m : Nat} {d : D} (h : LayD σ l m d) (k : Kp σ σ') : LayD σ' l m d := fun σ2 n k2 hn => h σ2 n (k.trans k2) hn
theorem LayD.mono {σ : Sto} {l m l' m' : Nat} {d : D} (h : LayD σ l m d) (h1 : l ≤ l') (h2 : m ≤ m') : LayD σ l' m' d := fun σ2 n k2 hn => by
  obtain ⟨p, a, b, c⟩ := h σ2 n k2 (Nat.le_trans h1 hn)
  exact ⟨p, a, b, Nat.le_trans c h2⟩
theorem lay_all {σ : Sto} {l m : Nat} : ∀ {ds : List D}, (∀ d, d ∈ ds → LayD σ l m d) → ∀ σ' n, Kp σ σ' → l ≤ n → ∃ ps, flatBs (dataN σ' n) ds = some ps ∧ PyData.canLayAll0 ps = true ∧ PyData.depthAll ps ≤ m
  | [], h, σ', n, k, hn => ⟨[], rfl, rfl, by simp [PyData.depthAll]⟩
  | d :: ds, h, σ', n, k, hn => by
    obtain ⟨p, a1, a2, a3⟩ := h d List.mem_cons_self σ' n k hn
    obtain ⟨ps, b1, b2, b3⟩ := lay_all (fun d m => h d (List.mem_cons_of_mem _ m)) σ' n k hn
    refine ⟨p :: ps, ?_, ?_, ?_⟩
    · unfold flatBs; rw [a1, b1]; rfl
    · unfold PyData.canLayAll0; rw [a2, b2]; rfl
    · rw [PyData.depthAll]; omega
theorem LayD.tup {σ : Sto} {l m : Nat} {ds : List D} (h : ∀ d, d ∈ ds → LayD σ l m d) : LayD σ l (m + 1) (.tup ds) := fun σ' n k hn => by
  obtain ⟨ps, a, b, c⟩ := lay_all h σ' n k hn
  refine ⟨.tuple ps, by unfold flatB; rw [a]; rfl, by unfold PyData.canLay0; exact b, by rw [PyData.depth]; omega⟩
theorem LayD.ref {σ : Sto} {l m k : Nat} {ds : List D} (hk : σ[k]? = some (.list ds)) (h : ∀ d, d ∈ ds → LayD σ l m d) : LayD σ (l + 1) (m + 1) (.ref k) := fun σ' n kp hn => by
  obtain ⟨n, rfl⟩ : ∃ n', n = n' + 1 := ⟨n - 1, by omega⟩
  obtain ⟨ps, a, b, c⟩ := lay_all h σ' n kp (by omega)
  refine ⟨.list ps, ?_, by unfold PyData.canLay0; exact b, by rw [PyData.depth]; omega⟩
  show dataN σ' (n + 1) k = _
  unfold dataN
  rw [kp.2 _ _ hk]
  show (flatBs (dataN σ' n) ds).map _ = _
  rw [a]; rfl
theorem LayD.int {σ : Sto} {m : Nat} {i : Int} (h : 1 ≤ m) : LayD σ 0 m (.int i) := fun σ' n _ _ => ⟨.int i, rfl, by simp [PyData.canLay0], by simp [PyData.depth] <;> omega⟩
theorem LayD.bool {σ : Sto} {m : Nat} {i : Bool} (h : 1 ≤ m) : LayD σ 0 m (.bool i) := fun σ' n _ _ => ⟨.bool i, rfl, by simp [PyData.canLay0], by simp [PyData.depth] <;> omega⟩
theorem LayD.none {σ : Sto} {m : Nat} (h : 1 ≤ m) : LayD σ 0 m .none := fun σ' n _ _ => ⟨.none, rfl, by simp [PyData.canLay0], by simp [PyData.depth] <;> omega⟩
theorem LayD.str {σ : Sto} {m : Nat} {x : Str} (hx : PyData.strOk x = true) (h : 1 ≤ m) : LayD σ 0 m (.str x) := fun σ' n _ _ => ⟨.str x, rfl, by simp [PyData.canLay0, hx], by simp [PyData.depth] <;> omega⟩
theorem W_eq3_same {k l : Nat} {ds : List D} {σ : Sto} {st : St} {m : Nat} {Q : D → St → Prop} (h : ∀ d, d ∈ ds → LayD σ 2 m d) (hm : m ≤ 49) (kp : Kp σ st.sto) (h1 : st.sto[k]? = some (.list ds)) (h2 : st.sto[l]? = some (.list ds)) (hQ : Q (.bool true) st) : W (pEq3 (.ref k) (.ref l)) st Q := by
  obtain ⟨ps, a, b, c⟩ := lay_all h st.sto 2 kp (Nat.le_refl 2)
  have e : ∀ k, st.sto[k]? = some (.list ds) → dataN st.sto 3 k = some (.list ps) := fun k hk => by
    unfold dataN
    rw [hk]
    show (flatBs (dataN st.sto 2) ds).map _ = _
    rw [a]; rfl
  have hcl : PyData.canLay0 (.list ps) = true := by simpa [PyData.canLay0] using b
  refine ⟨.bool true, st, ?_, hQ⟩
  show pEqS k l st = _
  unfold pEqS
  simp only [e k h1, e l h2]
  rw [if_pos ⟨hcl, hcl, by rw [PyData.depth]; omega⟩, SeqAt.eqv_refl _ hcl]
end Mine

end

/- part H04 -/
section
set_option Elab.async false
set_option maxRecDepth 100000
set_option maxHeartbeats 8000000
namespace Mine
open PySem PySem.W PyProof.Rows
noncomputable abbrev pw : Program := PySem.Challenge.pw_uf030034_04
noncomputable def hKeep : List Nat := [1, 2, 3, 4, 5, 6, 7, 8, 9, 11, 12, 13, 15, 16, 17, 18, 19, 20, 21, 22, 24, 25, 26, 27, 28, 29, 30, 31, 32, 33, 34]
noncomputable def hK (P : Params) : Frag := [
  (3, { cls := (.type "dict"), data := .dict #[ke P (Str.ofString "__name__") 165 (.str (Str.ofString "law_uf030034_04") 424), ke P (Str.ofString "__doc__") 166 .none, ke P (Str.ofString "__package__") 167 .none, ke P (Str.ofString "__loader__") 168 (.builtin "__main__.__loader__#opaque"), ke P (Str.ofString "__spec__") 169 .none, ke P (Str.ofString "__annotations__") 170 (.ref 6), ke P (Str.ofString "__builtins__") 171 (.ref 4), ke P (Str.ofString "__file__") 173 (.str (Str.ofString "/claim/cut.py") 172), ke P (Str.ofString "__cached__") 174 .none, ke P (Str.ofString "TableError") 206 (.ref 24), ke P (Str.ofString "BadSize") 222 (.ref 37), ke P (Str.ofString "BadCell") 238 (.ref 49), ke P (Str.ofString "BadText") 254 (.ref 61), ke P (Str.ofString "Shared") 270 (.ref 73), ke P (Str.ofString "Bare") 286 (.ref 85), ke P (Str.ofString "NoSquare") 302 (.ref 97), ke P (Str.ofString "Cut") 318 (.ref 109), ke P (Str.ofString "NoDrawing") 334 (.ref 121), ke P (Str.ofString "MOST") 338 (.int 200 337), ke P (Str.ofString "lines_of") 345 (.ref 130), ke P (Str.ofString "is_good") 354 (.ref 137), ke P (Str.ofString "MOST_LINES") 358 (.int 20 357), ke P (Str.ofString "is_whole") 365 (.ref 144), ke P (Str.ofString "in_order") 372 (.ref 151), ke P (Str.ofString "is_size") 379 (.ref 158), ke P (Str.ofString "lies_in") 392 (.ref 165), ke P (Str.ofString "squares_of") 402 (.ref 172), ke P (Str.ofString "look_at") 411 (.ref 179), ke P (Str.ofString "made") 423 (.ref 186), ke P (Str.ofString "_law_at") 433 (.ref 193), ke P (Str.ofString "_law_line") 439 (.ref 198), ke P (Str.ofString "_law_size") 446 (.ref 205), ke P (Str.ofString "_law_parts") 456 (.ref 212), ke P (Str.ofString "_law_cells") 462 (.ref 217), ke P (Str.ofString "_law_bad_cell") 475 (.ref 224), ke P (Str.ofString "_law_bad_text") 484 (.ref 231), ke P (Str.ofString "_law_outcome") 495 (.ref 238), ke P (Str.ofString "_law_spoilt") 511 (.ref 245), ke P (Str.ofString "_law_moved") 529 (.ref 252), ke P (Str.ofString "law") 544 (.ref 259)] 40 }),
  (24, { cls := (.type "type"), data := .cls { name := (Str.ofString "TableError"), bases := [(.type "ValueError")], mro := [(.ref 24), (.type "ValueError"), (.type "Exception"), (.type "BaseException"), (.type "object")], ns := 23, qualname := (Str.ofString "TableError"), hasDict := true, slotNames := [], subclasses := [(.ref 37), (.ref 49), (.ref 61), (.ref 73), (.ref 85), (.ref 97), (.ref 109), (.ref 121)], abstract := false, collection := none, hasDel := false }, slots := #[(some (.ref 15)), none, (some (.str (Str.ofString "TableError") 189)), (some (.str (Str.ofString "TableError") 197)), (some (.builtin "ValueError.__new__")), (some (.bool true))] }),
  (37, { cls := (.type "type"), data := .cls { name := (Str.ofString "BadSize"), bases := [(.ref 24)], mro := [(.ref 37), (.ref 24), (.type "ValueError"), (.type "Exception"), (.type "BaseException"), (.type "object")], ns := 36, qualname := (Str.ofString "BadSize"), hasDict := true, slotNames := [], subclasses := [], abstract := false, collection := none, hasDel := false }, slots := #[(some (.ref 28)), none, (some (.str (Str.ofString "BadSize") 207)), (some (.str (Str.ofString "BadSize") 215)), (some (.builtin "ValueError.__new__")), (some (.bool true))] }),
  (49, { cls := (.type "type"), data := .cls { name := (Str.ofString "BadCell"), bases := [(.ref 24)], mro := [(.ref 49), (.ref 24), (.type "ValueError"), (.type "Exception"), (.type "BaseException"), (.type "object")], ns := 48, qualname := (Str.ofString "BadCell"), hasDict := true, slotNames := [], subclasses := [], abstract := false, collection := none, hasDel := false }, slots := #[(some (.ref 40)), none, (some (.str (Str.ofString "BadCell") 223)), (some (.str (Str.ofString "BadCell") 231)), (some (.builtin "ValueError.__new__")), (some (.bool true))] }),
  (61, { cls := (.type "type"), data := .cls { name := (Str.ofString "BadText"), bases := [(.ref 24)], mro := [(.ref 61), (.ref 24), (.type "ValueError"), (.type "Exception"), (.type "BaseException"), (.type "object")], ns := 60, qualname := (Str.ofString "BadText"), hasDict := true, slotNames := [], subclasses := [], abstract := false, collection := none, hasDel := false }, slots := #[(some (.ref 52)), none, (some (.str (Str.ofString "BadText") 239)), (some (.str (Str.ofString "BadText") 247)), (some (.builtin "ValueError.__new__")), (some (.bool true))] }),
  (73, { cls := (.type "type"), data := .cls { name := (Str.ofString "Shared"), bases := [(.ref 24)], mro := [(.ref 73), (.ref 24), (.type "ValueError"), (.type "Exception"), (.type "BaseException"), (.type "object")], ns := 72, qualname := (Str.ofString "Shared"), hasDict := true, slotNames := [], subclasses := [], abstract := false, collection := none, hasDel := false }, slots := #[(some (.ref 64)), none, (some (.str (Str.ofString "Shared") 255)), (some (.str (Str.ofString "Shared") 263)), (some (.builtin "ValueError.__new__")), (some (.bool true))] }),
  (85, { cls := (.type "type"), data := .cls { name := (Str.ofString "Bare"), bases := [(.ref 24)], mro := [(.ref 85), (.ref 24), (.type "ValueError"), (.type "Exception"), (.type "BaseException"), (.type "object")], ns := 84, qualname := (Str.ofString "Bare"), hasDict := true, slotNames := [], subclasses := [], abstract := false, collection := none, hasDel := false }, slots := #[(some (.ref 76)), none, (some (.str (Str.ofString "Bare") 271)), (some (.str (Str.ofString "Bare") 279)), (some (.builtin "ValueError.__new__")), (some (.bool true))] }),
  (97, { cls := (.type "type"), data := .cls { name := (Str.ofString "NoSquare"), bases := [(.ref 24)], mro := [(.ref 97), (.ref 24), (.type "ValueError"), (.type "Exception"), (.type "BaseException"), (.type "object")], ns := 96, qualname := (Str.ofString "NoSquare"), hasDict := true, slotNames := [], subclasses := [], abstract := false, collection := none, hasDel := false }, slots := #[(some (.ref 88)), none, (some (.str (Str.ofString "NoSquare") 287)), (some (.str (Str.ofString "NoSquare") 295)), (some (.builtin "ValueError.__new__")), (some (.bool true))] }),
  (109, { cls := (.type "type"), data := .cls { name := (Str.ofString "Cut"), bases := [(.ref 24)], mro := [(.ref 109), (.ref 24), (.type "ValueError"), (.type "Exception"), (.type "BaseException"), (.type "object")], ns := 108, qualname := (Str.ofString "Cut"), hasDict := true, slotNames := [], subclasses := [], abstract := false, collection := none, hasDel := false }, slots := #[(some (.ref 100)), none, (some (.str (Str.ofString "Cut") 303)), (some (.str (Str.ofString "Cut") 311)), (some (.builtin "ValueError.__new__")), (some (.bool true))] }),
  (121, { cls := (.type "type"), data := .cls { name := (Str.ofString "NoDrawing"), bases := [(.ref 24)], mro := [(.ref 121), (.ref 24), (.type "ValueError"), (.type "Exception"), (.type "BaseException"), (.type "object")], ns := 120, qualname := (Str.ofString "NoDrawing"), hasDict := true, slotNames := [], subclasses := [], abstract := false, collection := none, hasDel := false }, slots := #[(some (.ref 112)), none, (some (.str (Str.ofString "NoDrawing") 319)), (some (.str (Str.ofString "NoDrawing") 327)), (some (.builtin "ValueError.__new__")), (some (.bool true))] }),
  (130, fnO pw 12 (Str.ofString "boxtable.texts") 335 129),
  (137, fnO pw 13 (Str.ofString "boxtable.texts") 335 136),
  (144, fnO pw 16 (Str.ofString "boxtable.tables") 355 143),
  (151, fnO pw 17 (Str.ofString "boxtable.tables") 355 150),
  (158, fnO pw 18 (Str.ofString "boxtable.tables") 355 157),
  (165, fnO pw 19 (Str.ofString "boxtable.tables") 355 164),
  (172, fnO pw 20 (Str.ofString "boxtable.tables") 355 171),
  (179, fnO pw 21 (Str.ofString "boxtable.tables") 355 178),
  (186, fnO pw 22 (Str.ofString "boxtable.tables") 355 185),
  (193, fnO pw 24 (Str.ofString "law_uf030034_04") 424 192),
  (198, fnO pw 25 (Str.ofString "law_uf030034_04") 424 197),
  (205, fnO pw 26 (Str.ofString "law_uf030034_04") 424 204),
  (212, fnO pw 27 (Str.ofString "law_uf030034_04") 424 211),
  (217, fnO pw 28 (Str.ofString "law_uf030034_04") 424 216),
  (224, fnO pw 29 (Str.ofString "law_uf030034_04") 424 223),
  (231, fnO pw 30 (Str.ofString "law_uf030034_04") 424 230),
  (238, fnO pw 31 (Str.ofString "law_uf030034_04") 424 237),
  (245, fnO pw 32 (Str.ofString "law_uf030034_04") 424 244),
  (252, fnO pw 33 (Str.ofString "law_uf030034_04") 424 251),
  (259, fnO pw 34 (Str.ofString "law_uf030034_04") 424 258),
  (23, { cls := (.type "dict"), data := .dict #[ke P (Str.ofString "__module__") 196 (.str (Str.ofString "boxtable.errors") 187), ke P (Str.ofString "__firstlineno__") 200 (.int 2 199), ke P (Str.ofString "__static_attributes__") 201 (.ref 22), ke P (Str.ofString "__weakref__") 203 (.ref 25), ke P (Str.ofString "__doc__") 204 .none] 3 }),
  (36, { cls := (.type "dict"), data := .dict #[ke P (Str.ofString "__module__") 214 (.str (Str.ofString "boxtable.errors") 187), ke P (Str.ofString "__firstlineno__") 218 (.int 4 217), ke P (Str.ofString "__static_attributes__") 219 (.ref 35), ke P (Str.ofString "__doc__") 220 .none] 2 }),
  (48, { cls := (.type "dict"), data := .dict #[ke P (Str.ofString "__module__") 230 (.str (Str.ofString "boxtable.errors") 187), ke P (Str.ofString "__firstlineno__") 234 (.int 6 233), ke P (Str.ofString "__static_attributes__") 235 (.ref 47), ke P (Str.ofString "__doc__") 236 .none] 2 }),
  (60, { cls := (.type "dict"), data := .dict #[ke P (Str.ofString "__module__") 246 (.str (Str.ofString "boxtable.errors") 187), ke P (Str.ofString "__firstlineno__") 250 (.int 8 249), ke P (Str.ofString "__static_attributes__") 251 (.ref 59), ke P (Str.ofString "__doc__") 252 .none] 2 }),
  (72, { cls := (.type "dict"), data := .dict #[ke P (Str.ofString "__module__") 262 (.str (Str.ofString "boxtable.errors") 187), ke P (Str.ofString "__firstlineno__") 266 (.int 10 265), ke P (Str.ofString "__static_attributes__") 267 (.ref 71), ke P (Str.ofString "__doc__") 268 .none] 2 }),
  (84, { cls := (.type "dict"), data := .dict #[ke P (Str.ofString "__module__") 278 (.str (Str.ofString "boxtable.errors") 187), ke P (Str.ofString "__firstlineno__") 282 (.int 12 281), ke P (Str.ofString "__static_attributes__") 283 (.ref 83), ke P (Str.ofString "__doc__") 284 .none] 2 }),
  (96, { cls := (.type "dict"), data := .dict #[ke P (Str.ofString "__module__") 294 (.str (Str.ofString "boxtable.errors") 187), ke P (Str.ofString "__firstlineno__") 298 (.int 14 297), ke P (Str.ofString "__static_attributes__") 299 (.ref 95), ke P (Str.ofString "__doc__") 300 .none] 2 }),
  (108, { cls := (.type "dict"), data := .dict #[ke P (Str.ofString "__module__") 310 (.str (Str.ofString "boxtable.errors") 187), ke P (Str.ofString "__firstlineno__") 314 (.int 16 313), ke P (Str.ofString "__static_attributes__") 315 (.ref 107), ke P (Str.ofString "__doc__") 316 .none] 2 }),
  (120, { cls := (.type "dict"), data := .dict #[ke P (Str.ofString "__module__") 326 (.str (Str.ofString "boxtable.errors") 187), ke P (Str.ofString "__firstlineno__") 330 (.int 18 329), ke P (Str.ofString "__static_attributes__") 331 (.ref 119), ke P (Str.ofString "__doc__") 332 .none] 2 }),
  (129, { cls := (.type "code"), data := .fields #[(.str (Str.ofString "lines_of") 339), (.str (Str.ofString "lines_of") 340), (.str (Str.ofString "/claim/cut.py") 341), (.int 22 0), (.int 1 0), (.int 0 0), (.int 0 0), (.int 3 0), (.ref 124), (.bool true), (.int 181 0), (.ref 125), .none, (.ref 126), (.ref 127), (.ref 128), (.int 343 0), (.int 22 0), (.str (Str.ofString "/claim/cut.py") 344)] }),
  (136, { cls := (.type "code"), data := .fields #[(.str (Str.ofString "is_good") 346), (.str (Str.ofString "is_good") 347), (.str (Str.ofString "/claim/cut.py") 348), (.int 24 0), (.int 1 0), (.int 0 0), (.int 0 0), (.int 3 0), (.ref 131), (.bool true), (.int 181 0), (.ref 132), .none, (.ref 133), (.ref 134), (.ref 135), (.int 352 0), (.int 24 0), (.str (Str.ofString "/claim/cut.py") 353)] }),
  (143, { cls := (.type "code"), data := .fields #[(.str (Str.ofString "is_whole") 359), (.str (Str.ofString "is_whole") 360), (.str (Str.ofString "/claim/cut.py") 361), (.int 36 0), (.int 1 0), (.int 0 0), (.int 0 0), (.int 3 0), (.ref 138), (.bool true), (.int 181 0), (.ref 139), .none, (.ref 140), (.ref 141), (.ref 142), (.int 363 0), (.int 36 0), (.str (Str.ofString "/claim/cut.py") 364)] }),
  (150, { cls := (.type "code"), data := .fields #[(.str (Str.ofString "in_order") 366), (.str (Str.ofString "in_order") 367), (.str (Str.ofString "/claim/cut.py") 368), (.int 38 0), (.int 1 0), (.int 0 0), (.int 0 0), (.int 3 0), (.ref 145), (.bool true), (.int 181 0), (.ref 146), .none, (.ref 147), (.ref 148), (.ref 149), (.int 370 0), (.int 38 0), (.str (Str.ofString "/claim/cut.py") 371)] }),
  (157, { cls := (.type "code"), data := .fields #[(.str (Str.ofString "is_size") 373), (.str (Str.ofString "is_size") 374), (.str (Str.ofString "/claim/cut.py") 375), (.int 40 0), (.int 1 0), (.int 0 0), (.int 0 0), (.int 3 0), (.ref 152), (.bool true), (.int 181 0), (.ref 153), .none, (.ref 154), (.ref 155), (.ref 156), (.int 377 0), (.int 40 0), (.str (Str.ofString "/claim/cut.py") 378)] }),
  (164, { cls := (.type "code"), data := .fields #[(.str (Str.ofString "lies_in") 380), (.str (Str.ofString "lies_in") 381), (.str (Str.ofString "/claim/cut.py") 382), (.int 42 0), (.int 6 0), (.int 0 0), (.int 0 0), (.int 3 0), (.ref 159), (.bool true), (.int 181 0), (.ref 160), .none, (.ref 161), (.ref 162), (.ref 163), (.int 390 0), (.int 42 0), (.str (Str.ofString "/claim/cut.py") 391)] }),
  (171, { cls := (.type "code"), data := .fields #[(.str (Str.ofString "squares_of") 393), (.str (Str.ofString "squares_of") 394), (.str (Str.ofString "/claim/cut.py") 395), (.int 49 0), (.int 1 0), (.int 0 0), (.int 0 0), (.int 3 0), (.ref 166), (.bool true), (.int 181 0), (.ref 167), .none, (.ref 168), (.ref 169), (.ref 170), (.int 400 0), (.int 49 0), (.str (Str.ofString "/claim/cut.py") 401)] }),
  (178, { cls := (.type "code"), data := .fields #[(.str (Str.ofString "look_at") 403), (.str (Str.ofString "look_at") 404), (.str (Str.ofString "/claim/cut.py") 405), (.int 55 0), (.int 3 0), (.int 0 0), (.int 0 0), (.int 3 0), (.ref 173), (.bool true), (.int 181 0), (.ref 174), .none, (.ref 175), (.ref 176), (.ref 177), (.int 409 0), (.int 55 0), (.str (Str.ofString "/claim/cut.py") 410)] }),
  (185, { cls := (.type "code"), data := .fields #[(.str (Str.ofString "made") 412), (.str (Str.ofString "made") 413), (.str (Str.ofString "/claim/cut.py") 414), (.int 62 0), (.int 3 0), (.int 0 0), (.int 0 0), (.int 3 0), (.ref 180), (.bool true), (.int 181 0), (.ref 181), .none, (.ref 182), (.ref 183), (.ref 184), (.int 421 0), (.int 62 0), (.str (Str.ofString "/claim/cut.py") 422)] }),
  (192, { cls := (.type "code"), data := .fields #[(.str (Str.ofString "_law_at") 426), (.str (Str.ofString "_law_at") 427), (.str (Str.ofString "/claim/cut.py") 428), (.int 77 0), (.int 2 0), (.int 0 0), (.int 0 0), (.int 3 0), (.ref 187), (.bool true), (.int 181 0), (.ref 188), .none, (.ref 189), (.ref 190), (.ref 191), (.int 431 0), (.int 77 0), (.str (Str.ofString "/claim/cut.py") 432)] }),
  (197, { cls := (.type "code"), data := .fields #[(.str (Str.ofString "_law_line") 434), (.str (Str.ofString "_law_line") 435), (.str (Str.ofString "/claim/cut.py") 436), (.int 81 0), (.int 2 0), (.int 0 0), (.int 0 0), (.int 3 0), (.ref 194), (.bool true), (.int 181 0), (.ref 195), .none, .none, .none, (.ref 196), (.int 437 0), (.int 81 0), (.str (Str.ofString "/claim/cut.py") 438)] }),
  (204, { cls := (.type "code"), data := .fields #[(.str (Str.ofString "_law_size") 440), (.str (Str.ofString "_law_size") 441), (.str (Str.ofString "/claim/cut.py") 442), (.int 85 0), (.int 1 0), (.int 0 0), (.int 0 0), (.int 3 0), (.ref 199), (.bool true), (.int 181 0), (.ref 200), .none, (.ref 201), (.ref 202), (.ref 203), (.int 444 0), (.int 85 0), (.str (Str.ofString "/claim/cut.py") 445)] }),
  (211, { cls := (.type "code"), data := .fields #[(.str (Str.ofString "_law_parts") 447), (.str (Str.ofString "_law_parts") 448), (.str (Str.ofString "/claim/cut.py") 449), (.int 89 0), (.int 2 0), (.int 0 0), (.int 0 0), (.int 3 0), (.ref 206), (.bool true), (.int 181 0), (.ref 207), .none, (.ref 208), (.ref 209), (.ref 210), (.int 454 0), (.int 89 0), (.str (Str.ofString "/claim/cut.py") 455)] }),
  (216, { cls := (.type "code"), data := .fields #[(.str (Str.ofString "_law_cells") 457), (.str (Str.ofString "_law_cells") 458), (.str (Str.ofString "/claim/cut.py") 459), (.int 98 0), (.int 3 0), (.int 0 0), (.int 0 0), (.int 3 0), (.ref 213), (.bool true), (.int 181 0), (.ref 214), .none, .none, .none, (.ref 215), (.int 460 0), (.int 98 0), (.str (Str.ofString "/claim/cut.py") 461)] }),
  (223, { cls := (.type "code"), data := .fields #[(.str (Str.ofString "_law_bad_cell") 463), (.str (Str.ofString "_law_bad_cell") 464), (.str (Str.ofString "/claim/cut.py") 465), (.int 104 0), (.int 2 0), (.int 0 0), (.int 0 0), (.int 3 0), (.ref 218), (.bool true), (.int 181 0), (.ref 219), .none, (.ref 220), (.ref 221), (.ref 222), (.int 473 0), (.int 104 0), (.str (Str.ofString "/claim/cut.py") 474)] }),
  (230, { cls := (.type "code"), data := .fields #[(.str (Str.ofString "_law_bad_text") 476), (.str (Str.ofString "_law_bad_text") 477), (.str (Str.ofString "/claim/cut.py") 478), (.int 113 0), (.int 2 0), (.int 0 0), (.int 0 0), (.int 3 0), (.ref 225), (.bool true), (.int 181 0), (.ref 226), .none, (.ref 227), (.ref 228), (.ref 229), (.int 482 0), (.int 113 0), (.str (Str.ofString "/claim/cut.py") 483)] }),
  (237, { cls := (.type "code"), data := .fields #[(.str (Str.ofString "_law_outcome") 485), (.str (Str.ofString "_law_outcome") 486), (.str (Str.ofString "/claim/cut.py") 487), (.int 117 0), (.int 3 0), (.int 0 0), (.int 0 0), (.int 3 0), (.ref 232), (.bool true), (.int 181 0), (.ref 233), .none, (.ref 234), (.ref 235), (.ref 236), (.int 493 0), (.int 117 0), (.str (Str.ofString "/claim/cut.py") 494)] }),
  (244, { cls := (.type "code"), data := .fields #[(.str (Str.ofString "_law_spoilt") 496), (.str (Str.ofString "_law_spoilt") 497), (.str (Str.ofString "/claim/cut.py") 498), (.int 136 0), (.int 3 0), (.int 0 0), (.int 0 0), (.int 3 0), (.ref 239), (.bool true), (.int 181 0), (.ref 240), .none, (.ref 241), (.ref 242), (.ref 243), (.int 509 0), (.int 136 0), (.str (Str.ofString "/claim/cut.py") 510)] }),
  (251, { cls := (.type "code"), data := .fields #[(.str (Str.ofString "_law_moved") 512), (.str (Str.ofString "_law_moved") 513), (.str (Str.ofString "/claim/cut.py") 514), (.int 165 0), (.int 4 0), (.int 0 0), (.int 0 0), (.int 3 0), (.ref 246), (.bool true), (.int 181 0), (.ref 247), .none, (.ref 248), (.ref 249), (.ref 250), (.int 527 0), (.int 165 0), (.str (Str.ofString "/claim/cut.py") 528)] }),
  (258, { cls := (.type "code"), data := .fields #[(.str (Str.ofString "law") 530), (.str (Str.ofString "law") 531), (.str (Str.ofString "/claim/cut.py") 532), (.int 181 0), (.int 1 0), (.int 0 0), (.int 0 0), (.int 3 0), (.ref 253), (.bool true), (.int 181 0), (.ref 254), .none, (.ref 255), (.ref 256), (.ref 257), (.int 542 0), (.int 181 0), (.str (Str.ofString "/claim/cut.py") 543)] })]
noncomputable def hA : List Addr := [3, 24, 37, 49, 61, 73, 85, 97, 109, 121, 130, 137, 144, 151, 158, 165, 172, 179, 186, 193, 198, 205, 212, 217, 224, 231, 238, 245, 252, 259, 23, 36, 48, 60, 72, 84, 96, 108, 120, 129, 136, 143, 150, 157, 164, 171, 178, 185, 192, 197, 204, 211, 216, 223, 230, 237, 244, 251, 258]
theorem hE (P : Params) : hA = (hK P).map (·.1) := by kernel_rfl
theorem hX : (defOf (view pw hKeep) PySem.Challenge.rw_uf030034_04.name).isSome = true := by kernel_rfl
theorem hL (w : World) : (openEnds treeTable pw w 5286).map (fun s => (openSeen (view pw hKeep) [] (importedModules pw.main.body) (fun s => xlAt (view pw hKeep) [] s && recOk [] s) true s, hA.map s.heap.get?)) = some (openGood (view pw hKeep) [], (hK w.params).map fun p => some p.2) := by kernel_rfl
theorem hd (walk : WalkO (view pw hKeep) [] (XL (view pw hKeep) []) (kHook hK hA hE).says PySem.Challenge.rw_uf030034_04.row.toRowW ((defOf (view pw hKeep) PySem.Challenge.rw_uf030034_04.name).get hX).1 ((defOf (view pw hKeep) PySem.Challenge.rw_uf030034_04.name).get hX).2 fun f vs => PySem.call f vs) : PySem.Challenge.rw_uf030034_04.Holds :=
  head_of (l := PySem.Challenge.rw_uf030034_04) (keep := hKeep) hE (by decide +kernel) hL hX (by kernel_rfl) (by kernel_rfl) (by kernel_rfl) (by decide +kernel) ⟨by kernel_rfl, by kernel_rfl, by kernel_rfl, by kernel_rfl, by kernel_rfl, by decide +kernel⟩ ⟨[.list []], by decide +kernel, by decide +kernel⟩ walk
end Mine

end

/- part L04 -/
section
set_option Elab.async false
set_option linter.unusedVariables false
set_option maxRecDepth 100000
set_option maxHeartbeats 2000000
namespace Mine
open PySem PySem.W PyProof.Rows
noncomputable abbrev et_BadCell : ETab := [(49, true), (37, false), (61, false), (85, false), (73, false)]
noncomputable abbrev et_BadSize : ETab := [(49, false), (37, true), (61, false), (85, false), (73, false)]
noncomputable abbrev et_BadText : ETab := [(49, false), (37, false), (61, true), (85, false), (73, false)]
noncomputable abbrev et_Bare : ETab := [(49, false), (37, false), (61, false), (85, true), (73, false)]
noncomputable abbrev et_Cut : ETab := [(49, false), (37, false), (61, false), (85, false), (73, false)]
noncomputable abbrev et_NoDrawing : ETab := [(49, false), (37, false), (61, false), (85, false), (73, false)]
noncomputable abbrev et_NoSquare : ETab := [(49, false), (37, false), (61, false), (85, false), (73, false)]
noncomputable abbrev et_Shared : ETab := [(49, false), (37, false), (61, false), (85, false), (73, true)]
noncomputable abbrev et_TableError : ETab := [(49, true), (37, true), (61, true), (85, true), (73, true)]
noncomputable abbrev et_ValueError : ETab := [(49, true), (37, true), (61, true), (85, true), (73, true)]
noncomputable def clT : CTab := [((Str.ofString "BadCell"), (.ref 49, et_BadCell)), ((Str.ofString "BadSize"), (.ref 37, et_BadSize)), ((Str.ofString "BadText"), (.ref 61, et_BadText)), ((Str.ofString "Bare"), (.ref 85, et_Bare)), ((Str.ofString "Cut"), (.ref 109, et_Cut)), ((Str.ofString "NoDrawing"), (.ref 121, et_NoDrawing)), ((Str.ofString "NoSquare"), (.ref 97, et_NoSquare)), ((Str.ofString "Shared"), (.ref 73, et_Shared)), ((Str.ofString "TableError"), (.ref 24, et_TableError)), ((Str.ofString "ValueError"), (.type "ValueError", et_ValueError))]
theorem clok {G : Gd} {P : Params} (L : Lay G (Mine.hK P)) : ClsOk G (Mine.hK P) clT where
  kin := L.kin
  nm x V t h := (look_cons (P := fun x (p : Value × ETab) => (GlobIs G x p.1 ∨ BuiIs G x p.1) ∧ EOk (Mine.hK P) p.1 p.2) (x := (Str.ofString "BadCell")) ⟨.inl (L.glob (by kernel_rfl)), eok_of (by kernel_rfl)⟩ (look_cons (P := fun x (p : Value × ETab) => (GlobIs G x p.1 ∨ BuiIs G x p.1) ∧ EOk (Mine.hK P) p.1 p.2) (x := (Str.ofString "BadSize")) ⟨.inl (L.glob (by kernel_rfl)), eok_of (by kernel_rfl)⟩ (look_cons (P := fun x (p : Value × ETab) => (GlobIs G x p.1 ∨ BuiIs G x p.1) ∧ EOk (Mine.hK P) p.1 p.2) (x := (Str.ofString "BadText")) ⟨.inl (L.glob (by kernel_rfl)), eok_of (by kernel_rfl)⟩ (look_cons (P := fun x (p : Value × ETab) => (GlobIs G x p.1 ∨ BuiIs G x p.1) ∧ EOk (Mine.hK P) p.1 p.2) (x := (Str.ofString "Bare")) ⟨.inl (L.glob (by kernel_rfl)), eok_of (by kernel_rfl)⟩ (look_cons (P := fun x (p : Value × ETab) => (GlobIs G x p.1 ∨ BuiIs G x p.1) ∧ EOk (Mine.hK P) p.1 p.2) (x := (Str.ofString "Cut")) ⟨.inl (L.glob (by kernel_rfl)), eok_of (by kernel_rfl)⟩ (look_cons (P := fun x (p : Value × ETab) => (GlobIs G x p.1 ∨ BuiIs G x p.1) ∧ EOk (Mine.hK P) p.1 p.2) (x := (Str.ofString "NoDrawing")) ⟨.inl (L.glob (by kernel_rfl)), eok_of (by kernel_rfl)⟩ (look_cons (P := fun x (p : Value × ETab) => (GlobIs G x p.1 ∨ BuiIs G x p.1) ∧ EOk (Mine.hK P) p.1 p.2) (x := (Str.ofString "NoSquare")) ⟨.inl (L.glob (by kernel_rfl)), eok_of (by kernel_rfl)⟩ (look_cons (P := fun x (p : Value × ETab) => (GlobIs G x p.1 ∨ BuiIs G x p.1) ∧ EOk (Mine.hK P) p.1 p.2) (x := (Str.ofString "Shared")) ⟨.inl (L.glob (by kernel_rfl)), eok_of (by kernel_rfl)⟩ (look_cons (P := fun x (p : Value × ETab) => (GlobIs G x p.1 ∨ BuiIs G x p.1) ∧ EOk (Mine.hK P) p.1 p.2) (x := (Str.ofString "TableError")) ⟨.inl (L.glob (by kernel_rfl)), eok_of (by kernel_rfl)⟩ (look_cons (P := fun x (p : Value × ETab) => (GlobIs G x p.1 ∨ BuiIs G x p.1) ∧ EOk (Mine.hK P) p.1 p.2) (x := (Str.ofString "ValueError")) ⟨.inr (L.bui (by kernel_rfl) (by boot_by_name) (by kernel_rfl)), eok_of (by kernel_rfl)⟩ (look_nil (P := fun x (p : Value × ETab) => (GlobIs G x p.1 ∨ BuiIs G x p.1) ∧ EOk (Mine.hK P) p.1 p.2)))))))))))) x (V, t) h
  isi := (L.bui (by kernel_rfl) (by boot_by_name) (by kernel_rfl))
  cls x c t h := (look_cons (P := fun x (p : Value × ETab) => ∀ c, p.1 = .ref c → ∃ bm, ClsIs G c bm) (x := (Str.ofString "BadCell")) (fun c e => by cases e; exact ⟨_, cls_of L (by kernel_rfl)⟩) (look_cons (P := fun x (p : Value × ETab) => ∀ c, p.1 = .ref c → ∃ bm, ClsIs G c bm) (x := (Str.ofString "BadSize")) (fun c e => by cases e; exact ⟨_, cls_of L (by kernel_rfl)⟩) (look_cons (P := fun x (p : Value × ETab) => ∀ c, p.1 = .ref c → ∃ bm, ClsIs G c bm) (x := (Str.ofString "BadText")) (fun c e => by cases e; exact ⟨_, cls_of L (by kernel_rfl)⟩) (look_cons (P := fun x (p : Value × ETab) => ∀ c, p.1 = .ref c → ∃ bm, ClsIs G c bm) (x := (Str.ofString "Bare")) (fun c e => by cases e; exact ⟨_, cls_of L (by kernel_rfl)⟩) (look_cons (P := fun x (p : Value × ETab) => ∀ c, p.1 = .ref c → ∃ bm, ClsIs G c bm) (x := (Str.ofString "Cut")) (fun c e => by cases e; exact ⟨_, cls_of L (by kernel_rfl)⟩) (look_cons (P := fun x (p : Value × ETab) => ∀ c, p.1 = .ref c → ∃ bm, ClsIs G c bm) (x := (Str.ofString "NoDrawing")) (fun c e => by cases e; exact ⟨_, cls_of L (by kernel_rfl)⟩) (look_cons (P := fun x (p : Value × ETab) => ∀ c, p.1 = .ref c → ∃ bm, ClsIs G c bm) (x := (Str.ofString "NoSquare")) (fun c e => by cases e; exact ⟨_, cls_of L (by kernel_rfl)⟩) (look_cons (P := fun x (p : Value × ETab) => ∀ c, p.1 = .ref c → ∃ bm, ClsIs G c bm) (x := (Str.ofString "Shared")) (fun c e => by cases e; exact ⟨_, cls_of L (by kernel_rfl)⟩) (look_cons (P := fun x (p : Value × ETab) => ∀ c, p.1 = .ref c → ∃ bm, ClsIs G c bm) (x := (Str.ofString "TableError")) (fun c e => by cases e; exact ⟨_, cls_of L (by kernel_rfl)⟩) (look_cons (P := fun x (p : Value × ETab) => ∀ c, p.1 = .ref c → ∃ bm, ClsIs G c bm) (x := (Str.ofString "ValueError")) (fun c e => by cases e) (look_nil (P := fun x (p : Value × ETab) => ∀ c, p.1 = .ref c → ∃ bm, ClsIs G c bm)))))))))))) x (.ref c, t) h c rfl
  exm x c t h := (look_cons (P := fun x (p : Value × ETab) => ∀ T, p.1 = .ref T → ∀ c, p.2.lookup c = some true → PySem.W.exmOne (Mine.hK P) (.ref c) (.ref T) = some true) (x := (Str.ofString "BadCell")) (fun T e => by cases e; exact exm_of (by kernel_rfl)) (look_cons (P := fun x (p : Value × ETab) => ∀ T, p.1 = .ref T → ∀ c, p.2.lookup c = some true → PySem.W.exmOne (Mine.hK P) (.ref c) (.ref T) = some true) (x := (Str.ofString "BadSize")) (fun T e => by cases e; exact exm_of (by kernel_rfl)) (look_cons (P := fun x (p : Value × ETab) => ∀ T, p.1 = .ref T → ∀ c, p.2.lookup c = some true → PySem.W.exmOne (Mine.hK P) (.ref c) (.ref T) = some true) (x := (Str.ofString "BadText")) (fun T e => by cases e; exact exm_of (by kernel_rfl)) (look_cons (P := fun x (p : Value × ETab) => ∀ T, p.1 = .ref T → ∀ c, p.2.lookup c = some true → PySem.W.exmOne (Mine.hK P) (.ref c) (.ref T) = some true) (x := (Str.ofString "Bare")) (fun T e => by cases e; exact exm_of (by kernel_rfl)) (look_cons (P := fun x (p : Value × ETab) => ∀ T, p.1 = .ref T → ∀ c, p.2.lookup c = some true → PySem.W.exmOne (Mine.hK P) (.ref c) (.ref T) = some true) (x := (Str.ofString "Cut")) (fun T e => by cases e; exact exm_of (by kernel_rfl)) (look_cons (P := fun x (p : Value × ETab) => ∀ T, p.1 = .ref T → ∀ c, p.2.lookup c = some true → PySem.W.exmOne (Mine.hK P) (.ref c) (.ref T) = some true) (x := (Str.ofString "NoDrawing")) (fun T e => by cases e; exact exm_of (by kernel_rfl)) (look_cons (P := fun x (p : Value × ETab) => ∀ T, p.1 = .ref T → ∀ c, p.2.lookup c = some true → PySem.W.exmOne (Mine.hK P) (.ref c) (.ref T) = some true) (x := (Str.ofString "NoSquare")) (fun T e => by cases e; exact exm_of (by kernel_rfl)) (look_cons (P := fun x (p : Value × ETab) => ∀ T, p.1 = .ref T → ∀ c, p.2.lookup c = some true → PySem.W.exmOne (Mine.hK P) (.ref c) (.ref T) = some true) (x := (Str.ofString "Shared")) (fun T e => by cases e; exact exm_of (by kernel_rfl)) (look_cons (P := fun x (p : Value × ETab) => ∀ T, p.1 = .ref T → ∀ c, p.2.lookup c = some true → PySem.W.exmOne (Mine.hK P) (.ref c) (.ref T) = some true) (x := (Str.ofString "TableError")) (fun T e => by cases e; exact exm_of (by kernel_rfl)) (look_cons (P := fun x (p : Value × ETab) => ∀ T, p.1 = .ref T → ∀ c, p.2.lookup c = some true → PySem.W.exmOne (Mine.hK P) (.ref c) (.ref T) = some true) (x := (Str.ofString "ValueError")) (fun c e => by cases e) (look_nil (P := fun x (p : Value × ETab) => ∀ T, p.1 = .ref T → ∀ c, p.2.lookup c = some true → PySem.W.exmOne (Mine.hK P) (.ref c) (.ref T) = some true)))))))))))) x (.ref c, t) h c rfl
  glob x c t h := (look_cons (P := fun x (p : Value × ETab) => ∀ c, p.1 = .ref c → GlobIs G x (.ref c)) (x := (Str.ofString "BadCell")) (fun c e => by cases e; exact L.glob (by kernel_rfl)) (look_cons (P := fun x (p : Value × ETab) => ∀ c, p.1 = .ref c → GlobIs G x (.ref c)) (x := (Str.ofString "BadSize")) (fun c e => by cases e; exact L.glob (by kernel_rfl)) (look_cons (P := fun x (p : Value × ETab) => ∀ c, p.1 = .ref c → GlobIs G x (.ref c)) (x := (Str.ofString "BadText")) (fun c e => by cases e; exact L.glob (by kernel_rfl)) (look_cons (P := fun x (p : Value × ETab) => ∀ c, p.1 = .ref c → GlobIs G x (.ref c)) (x := (Str.ofString "Bare")) (fun c e => by cases e; exact L.glob (by kernel_rfl)) (look_cons (P := fun x (p : Value × ETab) => ∀ c, p.1 = .ref c → GlobIs G x (.ref c)) (x := (Str.ofString "Cut")) (fun c e => by cases e; exact L.glob (by kernel_rfl)) (look_cons (P := fun x (p : Value × ETab) => ∀ c, p.1 = .ref c → GlobIs G x (.ref c)) (x := (Str.ofString "NoDrawing")) (fun c e => by cases e; exact L.glob (by kernel_rfl)) (look_cons (P := fun x (p : Value × ETab) => ∀ c, p.1 = .ref c → GlobIs G x (.ref c)) (x := (Str.ofString "NoSquare")) (fun c e => by cases e; exact L.glob (by kernel_rfl)) (look_cons (P := fun x (p : Value × ETab) => ∀ c, p.1 = .ref c → GlobIs G x (.ref c)) (x := (Str.ofString "Shared")) (fun c e => by cases e; exact L.glob (by kernel_rfl)) (look_cons (P := fun x (p : Value × ETab) => ∀ c, p.1 = .ref c → GlobIs G x (.ref c)) (x := (Str.ofString "TableError")) (fun c e => by cases e; exact L.glob (by kernel_rfl)) (look_cons (P := fun x (p : Value × ETab) => ∀ c, p.1 = .ref c → GlobIs G x (.ref c)) (x := (Str.ofString "ValueError")) (fun c e => by cases e) (look_nil (P := fun x (p : Value × ETab) => ∀ c, p.1 = .ref c → GlobIs G x (.ref c))))))))))))) x (.ref c, t) h c rfl
noncomputable def binT : Operator → Option (D → D → Mn D)
  | .Add => some pAdd
  | .Sub => some pSub
  | .FloorDiv => some pDiv
  | .Mod => some pMod
  | .Mult => some pMul
  | _ => none
noncomputable def cmpT : CmpOp → Option (D → D → Mn D)
  | .Lt => some pLt
  | .Gt => some pGt
  | .LtE => some pLe
  | .Eq => some pEq3
  | .NotEq => some pNe1
  | .In => some pIn
  | _ => none
noncomputable def T0 : Tb where
  fns := []
  nums := [((Str.ofString "MOST"), 200), ((Str.ofString "MOST_LINES"), 20)]
  bf := [((Str.ofString "abs"), ("abs", pAbs)), ((Str.ofString "len"), ("len", pLenD)), ((Str.ofString "min"), ("min", pMin2))]
  tv := [((Str.ofString "int"), ("int", pIntOf)), ((Str.ofString "list"), ("list", pListOf))]
  ts := [((Str.ofString "enumerate"), ("enumerate", true, pEnum)), ((Str.ofString "range"), ("range", false, pRange))]
  sm := [((Str.ofString "endswith"), ("str.endswith", pEndswith)), ((Str.ofString "join"), ("str.join", pJoin)), ((Str.ofString "rstrip"), ("str.rstrip", pRstrip)), ((Str.ofString "split"), ("str.split", pSplit))]
  ty := [((Str.ofString "bool"), "bool"), ((Str.ofString "int"), "int"), ((Str.ofString "str"), "str"), ((Str.ofString "tuple"), "tuple")]
  bin := binT
  cmp := cmpT
  me := (orMe (Str.ofString "append") me_append noMe)
  so := fun _ => none
  sl := fun _ _ _ => none
  xe := orXe (xeExc clT) (orXe xeDict xeNo)
  xs := orXs (xsExc clT) (xsList pSetDL)
theorem ok0 {G : Gd} {P : Params} (L : Lay G (Mine.hK P)) : TbOk G T0 where
  fns _ _ _ _ h := none_el h
  nums := (look_cons (P := PNm G) (x := (Str.ofString "MOST")) (L.globInt (by kernel_rfl)) (look_cons (P := PNm G) (x := (Str.ofString "MOST_LINES")) (L.globInt (by kernel_rfl)) (look_nil (P := PNm G))))
  bf f n F h := (look_cons (P := PBf G) (x := (Str.ofString "abs")) ⟨(L.bui (by kernel_rfl) (by boot_by_name) (by kernel_rfl)), bf_abs⟩ (look_cons (P := PBf G) (x := (Str.ofString "len")) ⟨(L.bui (by kernel_rfl) (by boot_by_name) (by kernel_rfl)), bf_lenD⟩ (look_cons (P := PBf G) (x := (Str.ofString "min")) ⟨(L.bui (by kernel_rfl) (by boot_by_name) (by kernel_rfl)), bf_min2⟩ (look_nil (P := PBf G))))) f (n, F) h
  tv f n F h := (look_cons (P := PTv G) (x := (Str.ofString "int")) ⟨(L.bui (by kernel_rfl) (by boot_by_name) (by kernel_rfl)), tf_int⟩ (look_cons (P := PTv G) (x := (Str.ofString "list")) ⟨(L.bui (by kernel_rfl) (by boot_by_name) (by kernel_rfl)), tf_list⟩ (look_nil (P := PTv G)))) f (n, F) h
  ts f n b F h := (look_cons (P := PTs G) (x := (Str.ofString "enumerate")) ⟨(L.bui (by kernel_rfl) (by boot_by_name) (by kernel_rfl)), _, ts_enum, fun t h => isTup_of h⟩ (look_cons (P := PTs G) (x := (Str.ofString "range")) ⟨(L.bui (by kernel_rfl) (by boot_by_name) (by kernel_rfl)), _, ts_range, fun _ _ => trivial⟩ (look_nil (P := PTs G)))) f (n, b, F) h
  sm f n F h := (look_cons (P := PSm G) (x := (Str.ofString "endswith")) sm_endswith (look_cons (P := PSm G) (x := (Str.ofString "join")) sm_join (look_cons (P := PSm G) (x := (Str.ofString "rstrip")) sm_rstrip (look_cons (P := PSm G) (x := (Str.ofString "split")) sm_split (look_nil (P := PSm G)))))) f (n, F) h
  ty := (look_cons (P := PTy G) (x := (Str.ofString "bool")) ⟨(L.bui (by kernel_rfl) (by boot_by_name) (by kernel_rfl)), tyF_bool⟩ (look_cons (P := PTy G) (x := (Str.ofString "int")) ⟨(L.bui (by kernel_rfl) (by boot_by_name) (by kernel_rfl)), tyF_int⟩ (look_cons (P := PTy G) (x := (Str.ofString "str")) ⟨(L.bui (by kernel_rfl) (by boot_by_name) (by kernel_rfl)), tyF_str⟩ (look_cons (P := PTy G) (x := (Str.ofString "tuple")) ⟨(L.bui (by kernel_rfl) (by boot_by_name) (by kernel_rfl)), tyF_tuple⟩ (look_nil (P := PTy G))))))
  isi := (L.bui (by kernel_rfl) (by boot_by_name) (by kernel_rfl))
  bin op f h := by
    cases op with
    | Add => exact some_el (P := BinOk G _) h bin_add
    | Sub => exact some_el (P := BinOk G _) h bin_sub
    | FloorDiv => exact some_el (P := BinOk G _) h bin_div
    | Mod => exact some_el (P := BinOk G _) h bin_mod
    | Mult => exact some_el (P := BinOk G _) h bin_mul
    | _ => exact none_el h
  cmp op f h := by
    cases op with
    | Lt => exact some_el (P := CmpOk G _) h cmp_lt
    | Gt => exact some_el (P := CmpOk G _) h cmp_gt
    | LtE => exact some_el (P := CmpOk G _) h cmp_le
    | Eq => exact some_el (P := CmpOk G _) h cmp_eq3
    | NotEq => exact some_el (P := CmpOk G _) h cmp_ne1
    | In => exact some_el (P := CmpOk G _) h cmp_in
    | _ => exact none_el h
  me := (orMe_ok append_is noMe_ok)
  so F F' h := none_el h
  sl := fun _ _ _ _ _ _ _ _ _ _ h _ _ _ => none_el h
  xe := orXe_ok (xeExc_ok (clok L).toClOk) (orXe_ok (xeDict_ok L.g) xeNo_ok)
  xs := orXs_ok (xsExc_ok (clok L)) (xsList_ok set_dl)
-- _law_at: 0 _law_script, 1 _law_k
noncomputable def d__law_at : Mn Fl := (seqM (ifM (cmpM pLt (pvar 1) (bnd (consM (pvar 0) nilM) pLenD)) (seqM (retM (binM pIdx (pvar 0) (pvar 1)))
  (ret1 .next)) (ret1 .next))
  (seqM (retM (ret1 (.int 0)))
  (ret1 .next)))
noncomputable def F__law_at : List D → Mn D := mkFn [0, 1] d__law_at
theorem sf__law_at {G : Gd} {P : Params} (L : Lay G (Mine.hK P)) : SF G 1 193 F__law_at :=
  sf_of (xs := [Str.ofString "_law_script", Str.ofString "_law_k"]) (tbl := [Str.ofString "_law_script", Str.ofString "_law_k"]) (n := 0) (fnIs_of L (by kernel_rfl) (by kernel_rfl) (bind2 (by intros; kernel_rfl))) (by kernel_rfl) (code := .ref 192) (by kernel_rfl) (qual := Str.ofString "_law_at.<locals>.") (by kernel_rfl) (by decide +kernel) rfl ((den_ok (ok0 L) 60).s ⟨namesAt pw 24, _, _, _, _, _⟩ (bodyAt pw 24) d__law_at (by kernel_rfl))
noncomputable def T__law_at : Tb := { T0 with fns := ((Str.ofString "_law_at"), 193, 1, F__law_at) :: T0.fns }
theorem ok__law_at {G : Gd} {P : Params} (L : Lay G (Mine.hK P)) : TbOk G T__law_at := (ok0 L).add (L.glob (by kernel_rfl)) (L.fd (by kernel_rfl)) (sf__law_at L)
-- _law_line: 0 _law_number, 1 _law_size_here, 2 _law_some, 3 _law_k
noncomputable def d__law_line : Mn Fl := (seqM (bnd (ret1 (.str (Str.ofString " !\"#$&'()*+,-./0123456789:;<=>?@ABCDEFGHIJKLMNOPQRSTUVWXYZ[\\]^_`"))) (setvar 2))
  (seqM (bnd (binM pAdd (pvar 2) (ret1 (.str (Str.ofString "abcdefghijklmnopqrstuvwxyz{|}~")))) (setvar 2))
  (seqM (retM (bnd (bnd (ret1 (.str (Str.ofString ""))) (strM fun x => bnd (consM (bnd (bnd (consM (pvar 1) nilM) pRange) (compD [3] (nameT 3) (ret1 true) (binM pIdx (pvar 2) (binM pMod (binM pAdd (pvar 0) (binM pMul (pvar 3) (binM pAdd (ret1 (.int 1)) (binM pMod (binM pDiv (pvar 0) (ret1 (.int 94))) (ret1 (.int 93)))))) (ret1 (.int 94)))))) nilM) (pJoin x))) (strM fun x => bnd (consM (ret1 (.str (Str.ofString " "))) nilM) (pRstrip x))))
  (ret1 .next))))
noncomputable def F__law_line : List D → Mn D := mkFn [0, 1] d__law_line
theorem sf__law_line {G : Gd} {P : Params} (L : Lay G (Mine.hK P)) : SF G 1 198 F__law_line :=
  sf_of (xs := [Str.ofString "_law_number", Str.ofString "_law_size_here"]) (tbl := [Str.ofString "_law_number", Str.ofString "_law_size_here", Str.ofString "_law_some", Str.ofString "_law_k"]) (n := 0) (fnIs_of L (by kernel_rfl) (by kernel_rfl) (bind2 (by intros; kernel_rfl))) (by kernel_rfl) (code := .ref 197) (by kernel_rfl) (qual := Str.ofString "_law_line.<locals>.") (by kernel_rfl) (by decide +kernel) rfl ((den_ok (ok__law_at L) 60).s ⟨namesAt pw 25, _, _, _, _, _⟩ (bodyAt pw 25) d__law_line (by kernel_rfl))
noncomputable def T__law_line : Tb := { T__law_at with fns := ((Str.ofString "_law_line"), 198, 1, F__law_line) :: T__law_at.fns }
theorem ok__law_line {G : Gd} {P : Params} (L : Lay G (Mine.hK P)) : TbOk G T__law_line := (ok__law_at L).add (L.glob (by kernel_rfl)) (L.fd (by kernel_rfl)) (sf__law_line L)
-- _law_parts: 0 _law_box, 1 _law_number, 2 _law_more, 3 _law_cut
noncomputable def d__law_parts : Mn Fl := (seqM (bnd (binM pDiv (pvar 1) (ret1 (.int 2))) (setvar 2))
  (seqM (ifM (andM (cmpM pEq3 (binM pMod (pvar 1) (ret1 (.int 2))) (ret1 (.int 0))) (cmpM pGt (binM pIdx (pvar 0) (ret1 (.int 2))) (ret1 (.int 1)))) (seqM (bnd (binM pAdd (ret1 (.int 1)) (binM pMod (pvar 2) (binM pSub (binM pIdx (pvar 0) (ret1 (.int 2))) (ret1 (.int 1))))) (setvar 3))
  (seqM (retM (listM (consM (tupM (consM (binM pIdx (pvar 0) (ret1 (.int 0))) (consM (binM pIdx (pvar 0) (ret1 (.int 1))) (consM (pvar 3) (consM (binM pIdx (pvar 0) (ret1 (.int 3))) nilM))))) (consM (tupM (consM (binM pAdd (binM pIdx (pvar 0) (ret1 (.int 0))) (pvar 3)) (consM (binM pIdx (pvar 0) (ret1 (.int 1))) (consM (binM pSub (binM pIdx (pvar 0) (ret1 (.int 2))) (pvar 3)) (consM (binM pIdx (pvar 0) (ret1 (.int 3))) nilM))))) nilM))))
  (ret1 .next))) (ret1 .next))
  (seqM (ifM (andM (cmpM pEq3 (binM pMod (pvar 1) (ret1 (.int 2))) (ret1 (.int 1))) (cmpM pGt (binM pIdx (pvar 0) (ret1 (.int 3))) (ret1 (.int 1)))) (seqM (bnd (binM pAdd (ret1 (.int 1)) (binM pMod (pvar 2) (binM pSub (binM pIdx (pvar 0) (ret1 (.int 3))) (ret1 (.int 1))))) (setvar 3))
  (seqM (retM (listM (consM (tupM (consM (binM pIdx (pvar 0) (ret1 (.int 0))) (consM (binM pIdx (pvar 0) (ret1 (.int 1))) (consM (binM pIdx (pvar 0) (ret1 (.int 2))) (consM (pvar 3) nilM))))) (consM (tupM (consM (binM pIdx (pvar 0) (ret1 (.int 0))) (consM (binM pAdd (binM pIdx (pvar 0) (ret1 (.int 1))) (pvar 3)) (consM (binM pIdx (pvar 0) (ret1 (.int 2))) (consM (binM pSub (binM pIdx (pvar 0) (ret1 (.int 3))) (pvar 3)) nilM))))) nilM))))
  (ret1 .next))) (ret1 .next))
  (seqM (retM (listM (consM (pvar 0) nilM)))
  (ret1 .next)))))
noncomputable def F__law_parts : List D → Mn D := mkFn [0, 1] d__law_parts
theorem sf__law_parts {G : Gd} {P : Params} (L : Lay G (Mine.hK P)) : SF G 1 212 F__law_parts :=
  sf_of (xs := [Str.ofString "_law_box", Str.ofString "_law_number"]) (tbl := [Str.ofString "_law_box", Str.ofString "_law_number", Str.ofString "_law_more", Str.ofString "_law_cut"]) (n := 0) (fnIs_of L (by kernel_rfl) (by kernel_rfl) (bind2 (by intros; kernel_rfl))) (by kernel_rfl) (code := .ref 211) (by kernel_rfl) (qual := Str.ofString "_law_parts.<locals>.") (by kernel_rfl) (by decide +kernel) rfl ((den_ok (ok__law_line L) 60).s ⟨namesAt pw 27, _, _, _, _, _⟩ (bodyAt pw 27) d__law_parts (by kernel_rfl))
noncomputable def T__law_parts : Tb := { T__law_line with fns := ((Str.ofString "_law_parts"), 212, 1, F__law_parts) :: T__law_line.fns }
theorem ok__law_parts {G : Gd} {P : Params} (L : Lay G (Mine.hK P)) : TbOk G T__law_parts := (ok__law_line L).add (L.glob (by kernel_rfl)) (L.fd (by kernel_rfl)) (sf__law_parts L)
-- _law_cells: 0 _law_script, 1 _law_rows, 2 _law_columns, 3 _law_boxes, 4 _law_k, 5 _law_at_here, 6 _law_box
noncomputable def d__law_cells : Mn Fl := (seqM (bnd (listM (consM (tupM (consM (ret1 (.int 0)) (consM (ret1 (.int 0)) (consM (pvar 1) (consM (pvar 2) nilM))))) nilM)) (setvar 3))
  (seqM (bnd (bnd (consM (ret1 (.int 5)) (consM (bnd (consM (pvar 0) nilM) pLenD) (consM (ret1 (.int 2)) nilM))) pRange) fun src => forM (nameT 4) src.g (seqM (bnd (binM pMod (binM pIdx (pvar 0) (pvar 4)) (bnd (consM (pvar 3) nilM) pLenD)) (setvar 5))
  (seqM (bnd (binM pAdd (binM pAdd (sliceM (pvar 3) none (some (pvar 5))) (bnd (consM (binM pIdx (pvar 3) (pvar 5)) (consM (binM pDiv (binM pIdx (pvar 0) (pvar 4)) (bnd (consM (pvar 3) nilM) pLenD)) nilM)) F__law_parts)) (sliceM (pvar 3) (some (binM pAdd (pvar 5) (ret1 (.int 1)))) none)) (setvar 3))
  (ret1 .next))) src.ds)
  (seqM (retM (bnd (bnd (consM (pvar 3) nilM) pEnum) (compD [4, 6] (tupT 2 (consL (nameT 4) (consL (nameT 6) noneL))) (ret1 true) (binM pAdd (pvar 6) (tupM (consM (bnd (consM (binM pDiv (bnd (consM (pvar 0) (consM (binM pAdd (ret1 (.int 6)) (binM pMul (ret1 (.int 2)) (pvar 4))) nilM)) F__law_at) (ret1 (.int 7))) (consM (binM pMod (pvar 4) (ret1 (.int 7))) nilM)) F__law_line) nilM))))))
  (ret1 .next))))
noncomputable def F__law_cells : List D → Mn D := mkFn [0, 1, 2] d__law_cells
theorem sf__law_cells {G : Gd} {P : Params} (L : Lay G (Mine.hK P)) : SF G 2 217 F__law_cells :=
  sf_of (xs := [Str.ofString "_law_script", Str.ofString "_law_rows", Str.ofString "_law_columns"]) (tbl := [Str.ofString "_law_script", Str.ofString "_law_rows", Str.ofString "_law_columns", Str.ofString "_law_boxes", Str.ofString "_law_k", Str.ofString "_law_at_here", Str.ofString "_law_box"]) (n := 1) (fnIs_of L (by kernel_rfl) (by kernel_rfl) (bind3 (by intros; kernel_rfl))) (by kernel_rfl) (code := .ref 216) (by kernel_rfl) (qual := Str.ofString "_law_cells.<locals>.") (by kernel_rfl) (by decide +kernel) rfl ((den_ok (ok__law_parts L) 60).s ⟨namesAt pw 28, _, _, _, _, _⟩ (bodyAt pw 28) d__law_cells (by kernel_rfl))
noncomputable def T__law_cells : Tb := { T__law_parts with fns := ((Str.ofString "_law_cells"), 217, 2, F__law_cells) :: T__law_parts.fns }
theorem ok__law_cells {G : Gd} {P : Params} (L : Lay G (Mine.hK P)) : TbOk G T__law_cells := (ok__law_parts L).add (L.glob (by kernel_rfl)) (L.fd (by kernel_rfl)) (sf__law_cells L)
-- _law_moved: 0 _law_cells_here, 1 _law_rows, 2 _law_columns, 3 _law_number, 4 _law_at_here, 5 _law_more, 6 _law_one, 7 _law_found, 8 _law_squares, 9 _law_cell, 10 _law_k, 11 _law_square
noncomputable def d__law_moved : Mn Fl := (seqM (bnd (binM pMod (pvar 3) (bnd (consM (pvar 0) nilM) pLenD)) (setvar 4))
  (seqM (bnd (binM pDiv (pvar 3) (bnd (consM (pvar 0) nilM) pLenD)) (setvar 5))
  (seqM (bnd (bnd (consM (binM pIdx (pvar 0) (pvar 4)) nilM) pListOf) (setvar 6))
  (seqM (setM pSetDL (binM pAdd (binM pIdx (pvar 6) (binM pMod (pvar 5) (ret1 (.int 4)))) (binM pIdx (listM (consM (ret1 (.int 1)) (consM (bnd (ret1 (.int 1)) pNeg) nilM))) (binM pMod (binM pDiv (pvar 5) (ret1 (.int 4))) (ret1 (.int 2))))) (pvar 6) (binM pMod (pvar 5) (ret1 (.int 4))))
  (seqM (bnd (binM pAdd (binM pAdd (sliceM (pvar 0) none (some (pvar 4))) (listM (consM (tupM (consM (binM pIdx (pvar 6) (ret1 (.int 0))) (consM (binM pIdx (pvar 6) (ret1 (.int 1))) (consM (binM pIdx (pvar 6) (ret1 (.int 2))) (consM (binM pIdx (pvar 6) (ret1 (.int 3))) (consM (binM pIdx (pvar 6) (ret1 (.int 4))) nilM)))))) nilM))) (sliceM (pvar 0) (some (binM pAdd (pvar 4) (ret1 (.int 1)))) none)) (setvar 7))
  (seqM (ifM (orM (cmpM pLt (bnd (consM (binM pIdx (pvar 6) (ret1 (.int 0))) (consM (binM pIdx (pvar 6) (ret1 (.int 1))) nilM)) pMin2) (ret1 (.int 0))) (orM (cmpM pLt (bnd (consM (binM pIdx (pvar 6) (ret1 (.int 2))) (consM (binM pIdx (pvar 6) (ret1 (.int 3))) nilM)) pMin2) (ret1 (.int 1))) (orM (cmpM pGt (binM pAdd (binM pIdx (pvar 6) (ret1 (.int 0))) (binM pIdx (pvar 6) (ret1 (.int 2)))) (pvar 1)) (cmpM pGt (binM pAdd (binM pIdx (pvar 6) (ret1 (.int 1))) (binM pIdx (pvar 6) (ret1 (.int 3)))) (pvar 2))))) (seqM (retM (tupM (consM (pvar 7) (consM (ret1 (.str (Str.ofString "cell"))) nilM))))
  (ret1 .next)) (ret1 .next))
  (seqM (bnd (allocP (.dict [])) (setvar 8))
  (seqM (bnd (bnd (pvar 7) srcOf) fun src => forM (nameT 9) src.g (seqM (bnd (bnd (consM (binM pMul (binM pIdx (pvar 9) (ret1 (.int 2))) (binM pIdx (pvar 9) (ret1 (.int 3)))) nilM) pRange) fun src => forM (nameT 10) src.g (seqM (bnd (tupM (consM (binM pAdd (binM pIdx (pvar 9) (ret1 (.int 0))) (binM pDiv (pvar 10) (binM pIdx (pvar 9) (ret1 (.int 3))))) (consM (binM pAdd (binM pIdx (pvar 9) (ret1 (.int 1))) (binM pMod (pvar 10) (binM pIdx (pvar 9) (ret1 (.int 3))))) nilM))) (setvar 11))
  (seqM (ifM (cmpM pIn (pvar 11) (pvar 8)) (seqM (retM (tupM (consM (pvar 7) (consM (ret1 (.str (Str.ofString "shared"))) nilM))))
  (ret1 .next)) (ret1 .next))
  (seqM (setM pSetDL (ret1 (.bool true)) (pvar 8) (pvar 11))
  (ret1 .next)))) src.ds)
  (ret1 .next)) src.ds)
  (seqM (retM (tupM (consM (pvar 7) (consM (binM pIdx (listM (consM (ret1 (.str (Str.ofString "made"))) (consM (ret1 (.str (Str.ofString "bare"))) nilM))) (bnd (consM (binM pLt (bnd (consM (pvar 8) nilM) pLenD) (binM pMul (pvar 1) (pvar 2))) nilM) pIntOf)) nilM))))
  (ret1 .next))))))))))
noncomputable def F__law_moved : List D → Mn D := mkFn [0, 1, 2, 3] d__law_moved
theorem sf__law_moved {G : Gd} {P : Params} (L : Lay G (Mine.hK P)) : SF G 1 252 F__law_moved :=
  sf_of (xs := [Str.ofString "_law_cells_here", Str.ofString "_law_rows", Str.ofString "_law_columns", Str.ofString "_law_number"]) (tbl := [Str.ofString "_law_cells_here", Str.ofString "_law_rows", Str.ofString "_law_columns", Str.ofString "_law_number", Str.ofString "_law_at_here", Str.ofString "_law_more", Str.ofString "_law_one", Str.ofString "_law_found", Str.ofString "_law_squares", Str.ofString "_law_cell", Str.ofString "_law_k", Str.ofString "_law_square"]) (n := 0) (fnIs_of L (by kernel_rfl) (by kernel_rfl) (bind4 (by intros; kernel_rfl))) (by kernel_rfl) (code := .ref 251) (by kernel_rfl) (qual := Str.ofString "_law_moved.<locals>.") (by kernel_rfl) (by decide +kernel) rfl ((den_ok (ok__law_cells L) 60).s ⟨namesAt pw 33, _, _, _, _, _⟩ (bodyAt pw 33) d__law_moved (by kernel_rfl))
noncomputable def T__law_moved : Tb := { T__law_cells with fns := ((Str.ofString "_law_moved"), 252, 1, F__law_moved) :: T__law_cells.fns }
theorem ok__law_moved {G : Gd} {P : Params} (L : Lay G (Mine.hK P)) : TbOk G T__law_moved := (ok__law_cells L).add (L.glob (by kernel_rfl)) (L.fd (by kernel_rfl)) (sf__law_moved L)
-- in_order: 0 cells
noncomputable def d_in_order : Mn Fl := (seqM (retM botM)
  (ret1 .next))
noncomputable def F_in_order : List D → Mn D := mkFn [0] d_in_order
theorem sf_in_order {G : Gd} {P : Params} (L : Lay G (Mine.hK P)) : SF G 3 151 F_in_order :=
  sf_of (xs := [Str.ofString "cells"]) (tbl := [Str.ofString "cells"]) (n := 2) (fnIs_of L (by kernel_rfl) (by kernel_rfl) (bind1 (by intros; kernel_rfl))) (by kernel_rfl) (code := .ref 150) (by kernel_rfl) (qual := Str.ofString "in_order.<locals>.") (by kernel_rfl) (by decide +kernel) rfl ((den_ok (ok__law_moved L) 60).s ⟨namesAt pw 17, _, _, _, _, _⟩ (bodyAt pw 17) d_in_order (by kernel_rfl))
noncomputable def T_in_order : Tb := { T__law_moved with fns := ((Str.ofString "in_order"), 151, 3, F_in_order) :: T__law_moved.fns }
theorem ok_in_order {G : Gd} {P : Params} (L : Lay G (Mine.hK P)) : TbOk G T_in_order := (ok__law_moved L).add (L.glob (by kernel_rfl)) (L.fd (by kernel_rfl)) (sf_in_order L)
-- is_whole: 0 value
noncomputable def d_is_whole : Mn Fl := (seqM (retM (andV (bnd (pvar 0) (pIsi "int")) (notV (bnd (pvar 0) (pIsi "bool")))))
  (ret1 .next))
noncomputable def F_is_whole : List D → Mn D := mkFn [0] d_is_whole
theorem sf_is_whole {G : Gd} {P : Params} (L : Lay G (Mine.hK P)) : SF G 1 144 F_is_whole :=
  sf_of (xs := [Str.ofString "value"]) (tbl := [Str.ofString "value"]) (n := 0) (fnIs_of L (by kernel_rfl) (by kernel_rfl) (bind1 (by intros; kernel_rfl))) (by kernel_rfl) (code := .ref 143) (by kernel_rfl) (qual := Str.ofString "is_whole.<locals>.") (by kernel_rfl) (by decide +kernel) rfl ((den_ok (ok_in_order L) 60).s ⟨namesAt pw 16, _, _, _, _, _⟩ (bodyAt pw 16) d_is_whole (by kernel_rfl))
noncomputable def T_is_whole : Tb := { T_in_order with fns := ((Str.ofString "is_whole"), 144, 1, F_is_whole) :: T_in_order.fns }
theorem ok_is_whole {G : Gd} {P : Params} (L : Lay G (Mine.hK P)) : TbOk G T_is_whole := (ok_in_order L).add (L.glob (by kernel_rfl)) (L.fd (by kernel_rfl)) (sf_is_whole L)
-- is_size: 0 value
noncomputable def d_is_size : Mn Fl := (seqM (retM (andV (bnd (consM (pvar 0) nilM) F_is_whole) (andV (binM pLe (ret1 (.int 1)) (pvar 0)) (binM pLe (pvar 0) (ret1 (.int 20))))))
  (ret1 .next))
noncomputable def F_is_size : List D → Mn D := mkFn [0] d_is_size
theorem sf_is_size {G : Gd} {P : Params} (L : Lay G (Mine.hK P)) : SF G 2 158 F_is_size :=
  sf_of (xs := [Str.ofString "value"]) (tbl := [Str.ofString "value"]) (n := 1) (fnIs_of L (by kernel_rfl) (by kernel_rfl) (bind1 (by intros; kernel_rfl))) (by kernel_rfl) (code := .ref 157) (by kernel_rfl) (qual := Str.ofString "is_size.<locals>.") (by kernel_rfl) (by decide +kernel) rfl ((den_ok (ok_is_whole L) 60).s ⟨namesAt pw 18, _, _, _, _, _⟩ (bodyAt pw 18) d_is_size (by kernel_rfl))
noncomputable def T_is_size : Tb := { T_is_whole with fns := ((Str.ofString "is_size"), 158, 2, F_is_size) :: T_is_whole.fns }
theorem ok_is_size {G : Gd} {P : Params} (L : Lay G (Mine.hK P)) : TbOk G T_is_size := (ok_is_whole L).add (L.glob (by kernel_rfl)) (L.fd (by kernel_rfl)) (sf_is_size L)
-- lines_of: 0 text
noncomputable def d_lines_of : Mn Fl := (seqM (retM (bnd (pvar 0) (strM fun x => bnd (consM (ret1 (.str (Str.ofString "\n"))) nilM) (pSplit x))))
  (ret1 .next))
noncomputable def F_lines_of : List D → Mn D := mkFn [0] d_lines_of
theorem sf_lines_of {G : Gd} {P : Params} (L : Lay G (Mine.hK P)) : SF G 1 130 F_lines_of :=
  sf_of (xs := [Str.ofString "text"]) (tbl := [Str.ofString "text"]) (n := 0) (fnIs_of L (by kernel_rfl) (by kernel_rfl) (bind1 (by intros; kernel_rfl))) (by kernel_rfl) (code := .ref 129) (by kernel_rfl) (qual := Str.ofString "lines_of.<locals>.") (by kernel_rfl) (by decide +kernel) rfl ((den_ok (ok_is_size L) 60).s ⟨namesAt pw 12, _, _, _, _, _⟩ (bodyAt pw 12) d_lines_of (by kernel_rfl))
noncomputable def T_lines_of : Tb := { T_is_size with fns := ((Str.ofString "lines_of"), 130, 1, F_lines_of) :: T_is_size.fns }
theorem ok_lines_of {G : Gd} {P : Params} (L : Lay G (Mine.hK P)) : TbOk G T_lines_of := (ok_is_size L).add (L.glob (by kernel_rfl)) (L.fd (by kernel_rfl)) (sf_lines_of L)
-- is_good: 0 text, 1 line, 2 sign
noncomputable def d_is_good : Mn Fl := (seqM (ifM (orM (notM (bnd (bnd (pvar 0) (pIsi "str")) truthyD)) (orM (cmpM pGt (bnd (consM (pvar 0) nilM) pLenD) (ret1 (.int 200))) (bnd (bnd (pvar 0) (strM fun x => bnd (consM (ret1 (.str (Str.ofString "\n"))) nilM) (pEndswith x))) truthyD))) (seqM (retM (ret1 (.bool false)))
  (ret1 .next)) (ret1 .next))
  (seqM (bnd (bnd (bnd (consM (pvar 0) nilM) F_lines_of) srcOf) fun src => forM (nameT 1) src.g (seqM (ifM (bnd (bnd (pvar 1) (strM fun x => bnd (consM (ret1 (.str (Str.ofString " "))) nilM) (pEndswith x))) truthyD) (seqM (retM (ret1 (.bool false)))
  (ret1 .next)) (ret1 .next))
  (seqM (bnd (bnd (pvar 1) srcOf) fun src => forM (nameT 2) src.g (seqM (ifM (orM (cmpM pLt (pvar 2) (ret1 (.str (Str.ofString " ")))) (cmpM pGt (pvar 2) (ret1 (.str (Str.ofString "~"))))) (seqM (retM (ret1 (.bool false)))
  (ret1 .next)) (ret1 .next))
  (ret1 .next)) src.ds)
  (ret1 .next))) src.ds)
  (seqM (retM (ret1 (.bool true)))
  (ret1 .next))))
noncomputable def F_is_good : List D → Mn D := mkFn [0] d_is_good
theorem sf_is_good {G : Gd} {P : Params} (L : Lay G (Mine.hK P)) : SF G 2 137 F_is_good :=
  sf_of (xs := [Str.ofString "text"]) (tbl := [Str.ofString "text", Str.ofString "line", Str.ofString "sign"]) (n := 1) (fnIs_of L (by kernel_rfl) (by kernel_rfl) (bind1 (by intros; kernel_rfl))) (by kernel_rfl) (code := .ref 136) (by kernel_rfl) (qual := Str.ofString "is_good.<locals>.") (by kernel_rfl) (by decide +kernel) rfl ((den_ok (ok_lines_of L) 60).s ⟨namesAt pw 13, _, _, _, _, _⟩ (bodyAt pw 13) d_is_good (by kernel_rfl))
noncomputable def T_is_good : Tb := { T_lines_of with fns := ((Str.ofString "is_good"), 137, 2, F_is_good) :: T_lines_of.fns }
theorem ok_is_good {G : Gd} {P : Params} (L : Lay G (Mine.hK P)) : TbOk G T_is_good := (ok_lines_of L).add (L.glob (by kernel_rfl)) (L.fd (by kernel_rfl)) (sf_is_good L)
-- lies_in: 0 rows, 1 columns, 2 top, 3 left, 4 high, 5 wide, 6 value
noncomputable def d_lies_in : Mn Fl := (seqM (bnd (bnd (tupM (consM (pvar 2) (consM (pvar 3) (consM (pvar 4) (consM (pvar 5) nilM))))) srcOf) fun src => forM (nameT 6) src.g (seqM (ifM (notM (bnd (bnd (consM (pvar 6) nilM) F_is_whole) truthyD)) (seqM (retM (ret1 (.bool false)))
  (ret1 .next)) (ret1 .next))
  (ret1 .next)) src.ds)
  (seqM (ifM (orM (cmpM pLt (pvar 2) (ret1 (.int 0))) (orM (cmpM pLt (pvar 3) (ret1 (.int 0))) (orM (cmpM pLt (pvar 4) (ret1 (.int 1))) (cmpM pLt (pvar 5) (ret1 (.int 1)))))) (seqM (retM (ret1 (.bool false)))
  (ret1 .next)) (ret1 .next))
  (seqM (retM (andV (binM pLe (binM pAdd (pvar 2) (pvar 4)) (pvar 0)) (binM pLe (binM pAdd (pvar 3) (pvar 5)) (pvar 1))))
  (ret1 .next))))
noncomputable def F_lies_in : List D → Mn D := mkFn [0, 1, 2, 3, 4, 5] d_lies_in
theorem sf_lies_in {G : Gd} {P : Params} (L : Lay G (Mine.hK P)) : SF G 2 165 F_lies_in :=
  sf_of (xs := [Str.ofString "rows", Str.ofString "columns", Str.ofString "top", Str.ofString "left", Str.ofString "high", Str.ofString "wide"]) (tbl := [Str.ofString "rows", Str.ofString "columns", Str.ofString "top", Str.ofString "left", Str.ofString "high", Str.ofString "wide", Str.ofString "value"]) (n := 1) (fnIs_of L (by kernel_rfl) (by kernel_rfl) (bind6 (by intros; kernel_rfl))) (by kernel_rfl) (code := .ref 164) (by kernel_rfl) (qual := Str.ofString "lies_in.<locals>.") (by kernel_rfl) (by decide +kernel) rfl ((den_ok (ok_is_good L) 60).s ⟨namesAt pw 19, _, _, _, _, _⟩ (bodyAt pw 19) d_lies_in (by kernel_rfl))
noncomputable def T_lies_in : Tb := { T_is_good with fns := ((Str.ofString "lies_in"), 165, 2, F_lies_in) :: T_is_good.fns }
theorem ok_lies_in {G : Gd} {P : Params} (L : Lay G (Mine.hK P)) : TbOk G T_lies_in := (ok_is_good L).add (L.glob (by kernel_rfl)) (L.fd (by kernel_rfl)) (sf_lies_in L)
-- look_at: 0 cell, 1 rows, 2 columns
noncomputable def d_look_at : Mn Fl := (seqM (ifM (orM (notM (bnd (bnd (pvar 0) (pIsi "tuple")) truthyD)) (cmpM pNe1 (bnd (consM (pvar 0) nilM) pLenD) (ret1 (.int 5)))) (seqM (raiseM 49)
  (ret1 .next)) (ret1 .next))
  (seqM (ifM (notM (bnd (bnd (consM (pvar 1) (consM (pvar 2) (consM (binM pIdx (pvar 0) (ret1 (.int 0))) (consM (binM pIdx (pvar 0) (ret1 (.int 1))) (consM (binM pIdx (pvar 0) (ret1 (.int 2))) (consM (binM pIdx (pvar 0) (ret1 (.int 3))) nilM)))))) F_lies_in) truthyD)) (seqM (raiseM 49)
  (ret1 .next)) (ret1 .next))
  (seqM (ifM (notM (bnd (bnd (consM (binM pIdx (pvar 0) (ret1 (.int 4))) nilM) F_is_good) truthyD)) (seqM (raiseM 61)
  (ret1 .next)) (ret1 .next))
  (ret1 .next))))
noncomputable def F_look_at : List D → Mn D := mkFn [0, 1, 2] d_look_at
theorem sf_look_at {G : Gd} {P : Params} (L : Lay G (Mine.hK P)) : SF G 3 179 F_look_at :=
  sf_of (xs := [Str.ofString "cell", Str.ofString "rows", Str.ofString "columns"]) (tbl := [Str.ofString "cell", Str.ofString "rows", Str.ofString "columns"]) (n := 2) (fnIs_of L (by kernel_rfl) (by kernel_rfl) (bind3 (by intros; kernel_rfl))) (by kernel_rfl) (code := .ref 178) (by kernel_rfl) (qual := Str.ofString "look_at.<locals>.") (by kernel_rfl) (by decide +kernel) rfl ((den_ok (ok_lies_in L) 60).s ⟨namesAt pw 21, _, _, _, _, _⟩ (bodyAt pw 21) d_look_at (by kernel_rfl))
noncomputable def T_look_at : Tb := { T_lies_in with fns := ((Str.ofString "look_at"), 179, 3, F_look_at) :: T_lies_in.fns }
theorem ok_look_at {G : Gd} {P : Params} (L : Lay G (Mine.hK P)) : TbOk G T_look_at := (ok_lies_in L).add (L.glob (by kernel_rfl)) (L.fd (by kernel_rfl)) (sf_look_at L)
-- squares_of: 0 cell, 1 found, 2 row, 3 column
noncomputable def d_squares_of : Mn Fl := (seqM (bnd (listM nilM) (setvar 1))
  (seqM (bnd (bnd (consM (binM pIdx (pvar 0) (ret1 (.int 0))) (consM (binM pAdd (binM pIdx (pvar 0) (ret1 (.int 0))) (binM pIdx (pvar 0) (ret1 (.int 2)))) nilM)) pRange) fun src => forM (nameT 2) src.g (seqM (bnd (bnd (consM (binM pIdx (pvar 0) (ret1 (.int 1))) (consM (binM pAdd (binM pIdx (pvar 0) (ret1 (.int 1))) (binM pIdx (pvar 0) (ret1 (.int 3)))) nilM)) pRange) fun src => forM (nameT 3) src.g (seqM (bnd (bnd (pvar 1) (lstM fun k => bnd (tupM (consM (pvar 2) (consM (pvar 3) nilM))) (pAppend k))) noneM)
  (ret1 .next)) src.ds)
  (ret1 .next)) src.ds)
  (seqM (retM (pvar 1))
  (ret1 .next))))
noncomputable def F_squares_of : List D → Mn D := mkFn [0] d_squares_of
theorem sf_squares_of {G : Gd} {P : Params} (L : Lay G (Mine.hK P)) : SF G 1 172 F_squares_of :=
  sf_of (xs := [Str.ofString "cell"]) (tbl := [Str.ofString "cell", Str.ofString "found", Str.ofString "row", Str.ofString "column"]) (n := 0) (fnIs_of L (by kernel_rfl) (by kernel_rfl) (bind1 (by intros; kernel_rfl))) (by kernel_rfl) (code := .ref 171) (by kernel_rfl) (qual := Str.ofString "squares_of.<locals>.") (by kernel_rfl) (by decide +kernel) rfl ((den_ok (ok_look_at L) 60).s ⟨namesAt pw 20, _, _, _, _, _⟩ (bodyAt pw 20) d_squares_of (by kernel_rfl))
noncomputable def T_squares_of : Tb := { T_look_at with fns := ((Str.ofString "squares_of"), 172, 1, F_squares_of) :: T_look_at.fns }
theorem ok_squares_of {G : Gd} {P : Params} (L : Lay G (Mine.hK P)) : TbOk G T_squares_of := (ok_look_at L).add (L.glob (by kernel_rfl)) (L.fd (by kernel_rfl)) (sf_squares_of L)
-- made: 0 rows, 1 columns, 2 cells, 3 cell, 4 taken, 5 square
noncomputable def d_made : Mn Fl := (seqM (ifM (orM (notM (bnd (bnd (consM (pvar 0) nilM) F_is_size) truthyD)) (notM (bnd (bnd (consM (pvar 1) nilM) F_is_size) truthyD))) (seqM (raiseM 37)
  (ret1 .next)) (ret1 .next))
  (seqM (bnd (bnd (pvar 2) srcOf) fun src => forM (nameT 3) src.g (seqM (bnd (bnd (consM (pvar 3) (consM (pvar 0) (consM (pvar 1) nilM))) F_look_at) noneM)
  (ret1 .next)) src.ds)
  (seqM (bnd (allocP (.dict [])) (setvar 4))
  (seqM (bnd (bnd (pvar 2) srcOf) fun src => forM (nameT 3) src.g (seqM (bnd (bnd (bnd (consM (pvar 3) nilM) F_squares_of) srcOf) fun src => forM (nameT 5) src.g (seqM (ifM (cmpM pIn (pvar 5) (pvar 4)) (seqM (raiseM 73)
  (ret1 .next)) (ret1 .next))
  (seqM (setM pSetDL (ret1 (.bool true)) (pvar 4) (pvar 5))
  (ret1 .next))) src.ds)
  (ret1 .next)) src.ds)
  (seqM (ifM (cmpM pLt (bnd (consM (pvar 4) nilM) pLenD) (binM pMul (pvar 0) (pvar 1))) (seqM (raiseM 85)
  (ret1 .next)) (ret1 .next))
  (seqM (retM (tupM (consM (pvar 0) (consM (pvar 1) (consM (bnd (consM (pvar 2) nilM) F_in_order) nilM)))))
  (ret1 .next)))))))
noncomputable def F_made : List D → Mn D := mkFn [0, 1, 2] d_made
theorem sf_made {G : Gd} {P : Params} (L : Lay G (Mine.hK P)) : SF G 4 186 F_made :=
  sf_of (xs := [Str.ofString "rows", Str.ofString "columns", Str.ofString "cells"]) (tbl := [Str.ofString "rows", Str.ofString "columns", Str.ofString "cells", Str.ofString "cell", Str.ofString "taken", Str.ofString "square"]) (n := 3) (fnIs_of L (by kernel_rfl) (by kernel_rfl) (bind3 (by intros; kernel_rfl))) (by kernel_rfl) (code := .ref 185) (by kernel_rfl) (qual := Str.ofString "made.<locals>.") (by kernel_rfl) (by decide +kernel) rfl ((den_ok (ok_squares_of L) 60).s ⟨namesAt pw 22, _, _, _, _, _⟩ (bodyAt pw 22) d_made (by kernel_rfl))
noncomputable def T_made : Tb := { T_squares_of with fns := ((Str.ofString "made"), 186, 4, F_made) :: T_squares_of.fns }
theorem ok_made {G : Gd} {P : Params} (L : Lay G (Mine.hK P)) : TbOk G T_made := (ok_squares_of L).add (L.glob (by kernel_rfl)) (L.fd (by kernel_rfl)) (sf_made L)
-- _law_outcome: 0 _law_rows, 1 _law_columns, 2 _law_cells_here, 3 _law_found, 4 e
noncomputable def d__law_outcome : Mn Fl := (seqM (bnd (ret1 (.str (Str.ofString "made"))) (setvar 3))
  (seqM (tryM (seqM (bnd (bnd (consM (pvar 0) (consM (pvar 1) (consM (pvar 2) nilM))) F_made) noneM)
  (ret1 .next)) (subT et_TableError) 4 (seqM (bnd (binM pIdx (listM (consM (ret1 (.str (Str.ofString ""))) (consM (ret1 (.str (Str.ofString "no value error "))) nilM))) (bnd (consM (notV (bnd (pvar 4) (pIsX et_ValueError))) nilM) pIntOf)) (setvar 3))
  (seqM (ifM (bnd (bnd (pvar 4) (pIsX et_BadSize)) truthyD) (seqM (bnd (binM pAdd (pvar 3) (ret1 (.str (Str.ofString "size")))) (setvar 3))
  (ret1 .next)) (ret1 .next))
  (seqM (ifM (bnd (bnd (pvar 4) (pIsX et_BadCell)) truthyD) (seqM (bnd (binM pAdd (pvar 3) (ret1 (.str (Str.ofString "cell")))) (setvar 3))
  (ret1 .next)) (ret1 .next))
  (seqM (ifM (bnd (bnd (pvar 4) (pIsX et_BadText)) truthyD) (seqM (bnd (binM pAdd (pvar 3) (ret1 (.str (Str.ofString "text")))) (setvar 3))
  (ret1 .next)) (ret1 .next))
  (seqM (ifM (bnd (bnd (pvar 4) (pIsX et_Shared)) truthyD) (seqM (bnd (binM pAdd (pvar 3) (ret1 (.str (Str.ofString "shared")))) (setvar 3))
  (ret1 .next)) (ret1 .next))
  (seqM (ifM (bnd (bnd (pvar 4) (pIsX et_Bare)) truthyD) (seqM (bnd (binM pAdd (pvar 3) (ret1 (.str (Str.ofString "bare")))) (setvar 3))
  (ret1 .next)) (ret1 .next))
  (seqM (ifM (orM (bnd (bnd (pvar 4) (pIsX et_NoSquare)) truthyD) (orM (bnd (bnd (pvar 4) (pIsX et_Cut)) truthyD) (bnd (bnd (pvar 4) (pIsX et_NoDrawing)) truthyD))) (seqM (bnd (binM pAdd (pvar 3) (ret1 (.str (Str.ofString "another")))) (setvar 3))
  (ret1 .next)) (ret1 .next))
  (ret1 .next)))))))))
  (seqM (retM (pvar 3))
  (ret1 .next))))
noncomputable def F__law_outcome : List D → Mn D := mkFn [0, 1, 2] d__law_outcome
theorem sf__law_outcome {G : Gd} {P : Params} (L : Lay G (Mine.hK P)) : SF G 5 238 F__law_outcome :=
  sf_of (xs := [Str.ofString "_law_rows", Str.ofString "_law_columns", Str.ofString "_law_cells_here"]) (tbl := [Str.ofString "_law_rows", Str.ofString "_law_columns", Str.ofString "_law_cells_here", Str.ofString "_law_found", Str.ofString "e"]) (n := 4) (fnIs_of L (by kernel_rfl) (by kernel_rfl) (bind3 (by intros; kernel_rfl))) (by kernel_rfl) (code := .ref 237) (by kernel_rfl) (qual := Str.ofString "_law_outcome.<locals>.") (by kernel_rfl) (by decide +kernel) rfl ((den_ok (ok_made L) 60).s ⟨namesAt pw 31, _, _, _, _, _⟩ (bodyAt pw 31) d__law_outcome (by kernel_rfl))
noncomputable def T__law_outcome : Tb := { T_made with fns := ((Str.ofString "_law_outcome"), 238, 5, F__law_outcome) :: T_made.fns }
theorem ok__law_outcome {G : Gd} {P : Params} (L : Lay G (Mine.hK P)) : TbOk G T__law_outcome := (ok_made L).add (L.glob (by kernel_rfl)) (L.fd (by kernel_rfl)) (sf__law_outcome L)
-- _law_size: 0 _law_number
noncomputable def d__law_size : Mn Fl := (seqM (ifM (cmpM pEq3 (binM pMod (pvar 0) (ret1 (.int 9))) (ret1 (.int 1))) (seqM (retM (binM pAdd (ret1 (.int 1)) (binM pMod (binM pDiv (pvar 0) (ret1 (.int 9))) (ret1 (.int 20)))))
  (ret1 .next)) (ret1 .next))
  (seqM (retM (binM pAdd (ret1 (.int 1)) (binM pMod (binM pDiv (pvar 0) (ret1 (.int 9))) (ret1 (.int 5)))))
  (ret1 .next)))
noncomputable def F__law_size : List D → Mn D := mkFn [0] d__law_size
theorem sf__law_size {G : Gd} {P : Params} (L : Lay G (Mine.hK P)) : SF G 1 205 F__law_size :=
  sf_of (xs := [Str.ofString "_law_number"]) (tbl := [Str.ofString "_law_number"]) (n := 0) (fnIs_of L (by kernel_rfl) (by kernel_rfl) (bind1 (by intros; kernel_rfl))) (by kernel_rfl) (code := .ref 204) (by kernel_rfl) (qual := Str.ofString "_law_size.<locals>.") (by kernel_rfl) (by decide +kernel) rfl ((den_ok (ok__law_outcome L) 60).s ⟨namesAt pw 26, _, _, _, _, _⟩ (bodyAt pw 26) d__law_size (by kernel_rfl))
noncomputable def T__law_size : Tb := { T__law_outcome with fns := ((Str.ofString "_law_size"), 205, 1, F__law_size) :: T__law_outcome.fns }
theorem ok__law_size {G : Gd} {P : Params} (L : Lay G (Mine.hK P)) : TbOk G T__law_size := (ok__law_outcome L).add (L.glob (by kernel_rfl)) (L.fd (by kernel_rfl)) (sf__law_size L)
-- _law_bad_cell: 0 _law_cell, 1 _law_number, 2 _law_more, 3 _law_at_here, 4 _law_least, 5 _law_odd, 6 _law_bad
noncomputable def d__law_bad_cell : Mn Fl := (seqM (bnd (binM pDiv (pvar 1) (ret1 (.int 6))) (setvar 2))
  (seqM (ifM (cmpM pLt (binM pMod (pvar 1) (ret1 (.int 6))) (ret1 (.int 4))) (seqM (bnd (binM pMod (pvar 1) (ret1 (.int 6))) (setvar 3))
  (seqM (bnd (binM pIdx (listM (consM (bnd (ret1 (.int 1)) pNeg) (consM (bnd (ret1 (.int 1)) pNeg) (consM (ret1 (.int 0)) (consM (ret1 (.int 0)) nilM))))) (pvar 3)) (setvar 4))
  (seqM (bnd (binM pIdx (listM (consM (ret1 (.str (Str.ofString "1"))) (consM (ret1 .none) (consM (ret1 (.bool true)) (consM (ret1 (.bool false)) nilM))))) (binM pMod (binM pDiv (pvar 2) (ret1 (.int 6))) (ret1 (.int 4)))) (setvar 5))
  (seqM (bnd (binM pIdx (listM (consM (pvar 4) (consM (binM pAdd (ret1 (.int 21)) (binM pDiv (bnd (consM (pvar 2) nilM) pAbs) (ret1 (.int 6)))) (consM (pvar 4) (consM (pvar 5) (consM (ret1 (.int 21)) (consM (binM pSub (pvar 4) (binM pMod (binM pDiv (pvar 2) (ret1 (.int 6))) (ret1 (.int 9)))) nilM))))))) (binM pMod (pvar 2) (ret1 (.int 6)))) (setvar 6))
  (seqM (retM (binM pAdd (binM pAdd (sliceM (pvar 0) none (some (pvar 3))) (tupM (consM (pvar 6) nilM))) (sliceM (pvar 0) (some (binM pAdd (pvar 3) (ret1 (.int 1)))) none)))
  (ret1 .next)))))) (ret1 .next))
  (seqM (retM (binM pIdx (listM (consM (bnd (consM (pvar 0) nilM) pListOf) (consM (sliceM (pvar 0) none (some (ret1 (.int 4)))) (consM (binM pAdd (pvar 0) (tupM (consM (ret1 (.int 0)) nilM))) (consM (ret1 (.str (Str.ofString "cells"))) (consM (ret1 .none) (consM (tupM nilM) nilM))))))) (binM pMod (pvar 2) (ret1 (.int 6)))))
  (ret1 .next))))
noncomputable def F__law_bad_cell : List D → Mn D := mkFn [0, 1] d__law_bad_cell
theorem sf__law_bad_cell {G : Gd} {P : Params} (L : Lay G (Mine.hK P)) : SF G 1 224 F__law_bad_cell :=
  sf_of (xs := [Str.ofString "_law_cell", Str.ofString "_law_number"]) (tbl := [Str.ofString "_law_cell", Str.ofString "_law_number", Str.ofString "_law_more", Str.ofString "_law_at_here", Str.ofString "_law_least", Str.ofString "_law_odd", Str.ofString "_law_bad"]) (n := 0) (fnIs_of L (by kernel_rfl) (by kernel_rfl) (bind2 (by intros; kernel_rfl))) (by kernel_rfl) (code := .ref 223) (by kernel_rfl) (qual := Str.ofString "_law_bad_cell.<locals>.") (by kernel_rfl) (by decide +kernel) rfl ((den_ok (ok__law_size L) 60).s ⟨namesAt pw 29, _, _, _, _, _⟩ (bodyAt pw 29) d__law_bad_cell (by kernel_rfl))
noncomputable def T__law_bad_cell : Tb := { T__law_size with fns := ((Str.ofString "_law_bad_cell"), 224, 1, F__law_bad_cell) :: T__law_size.fns }
theorem ok__law_bad_cell {G : Gd} {P : Params} (L : Lay G (Mine.hK P)) : TbOk G T__law_bad_cell := (ok__law_size L).add (L.glob (by kernel_rfl)) (L.fd (by kernel_rfl)) (sf__law_bad_cell L)
-- _law_bad_text: 0 _law_cell, 1 _law_number, 2 _law_bad
noncomputable def d__law_bad_text : Mn Fl := (seqM (bnd (listM (consM (pvar 1) (consM (ret1 .none) (consM (binM pAdd (binM pIdx (pvar 0) (ret1 (.int 4))) (ret1 (.str (Str.ofString "\t")))) (consM (binM pAdd (ret1 (.str (Str.ofString "\t"))) (binM pIdx (pvar 0) (ret1 (.int 4)))) (consM (binM pAdd (binM pIdx (pvar 0) (ret1 (.int 4))) (ret1 (.str (Str.ofString " ")))) (consM (ret1 (.str (Str.ofString "a \nb"))) (consM (binM pAdd (binM pIdx (pvar 0) (ret1 (.int 4))) (ret1 (.str (Str.ofString "\n")))) nilM)))))))) (setvar 2))
  (seqM (bnd (binM pAdd (pvar 2) (listM (consM (binM pMul (ret1 (.str (Str.ofString "y"))) (binM pAdd (ret1 (.int 201)) (binM pMod (binM pDiv (pvar 1) (ret1 (.int 9))) (ret1 (.int 40))))) (consM (listM (consM (binM pIdx (pvar 0) (ret1 (.int 4))) nilM)) nilM)))) (setvar 2))
  (seqM (retM (binM pAdd (sliceM (pvar 0) none (some (ret1 (.int 4)))) (tupM (consM (binM pIdx (pvar 2) (binM pMod (pvar 1) (ret1 (.int 9)))) nilM))))
  (ret1 .next))))
noncomputable def F__law_bad_text : List D → Mn D := mkFn [0, 1] d__law_bad_text
theorem sf__law_bad_text {G : Gd} {P : Params} (L : Lay G (Mine.hK P)) : SF G 1 231 F__law_bad_text :=
  sf_of (xs := [Str.ofString "_law_cell", Str.ofString "_law_number"]) (tbl := [Str.ofString "_law_cell", Str.ofString "_law_number", Str.ofString "_law_bad"]) (n := 0) (fnIs_of L (by kernel_rfl) (by kernel_rfl) (bind2 (by intros; kernel_rfl))) (by kernel_rfl) (code := .ref 230) (by kernel_rfl) (qual := Str.ofString "_law_bad_text.<locals>.") (by kernel_rfl) (by decide +kernel) rfl ((den_ok (ok__law_bad_cell L) 60).s ⟨namesAt pw 30, _, _, _, _, _⟩ (bodyAt pw 30) d__law_bad_text (by kernel_rfl))
noncomputable def T__law_bad_text : Tb := { T__law_bad_cell with fns := ((Str.ofString "_law_bad_text"), 231, 1, F__law_bad_text) :: T__law_bad_cell.fns }
theorem ok__law_bad_text {G : Gd} {P : Params} (L : Lay G (Mine.hK P)) : TbOk G T__law_bad_text := (ok__law_bad_cell L).add (L.glob (by kernel_rfl)) (L.fd (by kernel_rfl)) (sf__law_bad_text L)
-- _law_spoilt: 0 _law_cells_here, 1 _law_way, 2 _law_number, 3 _law_at_here, 4 _law_other, 5 _law_more, 6 _law_one, 7 _law_first, 8 _law_found, 9 _law_bad
noncomputable def d__law_spoilt : Mn Fl := (seqM (bnd (binM pMod (pvar 2) (bnd (consM (pvar 0) nilM) pLenD)) (setvar 3))
  (seqM (bnd (binM pMod (binM pDiv (pvar 2) (bnd (consM (pvar 0) nilM) pLenD)) (bnd (consM (pvar 0) nilM) pLenD)) (setvar 4))
  (seqM (bnd (binM pDiv (binM pDiv (pvar 2) (bnd (consM (pvar 0) nilM) pLenD)) (bnd (consM (pvar 0) nilM) pLenD)) (setvar 5))
  (seqM (ifM (cmpM pEq3 (pvar 1) (ret1 (.int 2))) (seqM (bnd (binM pIdx (pvar 0) (pvar 3)) (setvar 6))
  (seqM (ifM (cmpM pEq3 (binM pMod (pvar 2) (ret1 (.int 3))) (ret1 (.int 1))) (seqM (bnd (bnd (consM (pvar 6) (consM (binM pDiv (pvar 5) (ret1 (.int 9))) nilM)) F__law_bad_text) (setvar 6))
  (ret1 .next)) (ret1 .next))
  (seqM (retM (tupM (consM (binM pAdd (binM pAdd (sliceM (pvar 0) none (some (pvar 3))) (listM (consM (bnd (consM (pvar 6) (consM (pvar 5) nilM)) F__law_bad_cell) nilM))) (sliceM (pvar 0) (some (binM pAdd (pvar 3) (ret1 (.int 1)))) none)) (consM (ret1 (.str (Str.ofString "cell"))) nilM))))
  (ret1 .next)))) (ret1 .next))
  (seqM (ifM (cmpM pEq3 (pvar 1) (ret1 (.int 3))) (seqM (retM (tupM (consM (binM pAdd (binM pAdd (sliceM (pvar 0) none (some (pvar 3))) (listM (consM (bnd (consM (binM pIdx (pvar 0) (pvar 3)) (consM (pvar 5) nilM)) F__law_bad_text) nilM))) (sliceM (pvar 0) (some (binM pAdd (pvar 3) (ret1 (.int 1)))) none)) (consM (ret1 (.str (Str.ofString "text"))) nilM))))
  (ret1 .next)) (ret1 .next))
  (seqM (ifM (cmpM pEq3 (pvar 1) (ret1 (.int 4))) (seqM (retM (tupM (consM (binM pAdd (binM pAdd (sliceM (pvar 0) none (some (pvar 4))) (listM (consM (binM pIdx (pvar 0) (pvar 3)) nilM))) (sliceM (pvar 0) (some (pvar 4)) none)) (consM (ret1 (.str (Str.ofString "shared"))) nilM))))
  (ret1 .next)) (ret1 .next))
  (seqM (ifM (cmpM pEq3 (pvar 1) (ret1 (.int 5))) (seqM (retM (tupM (consM (binM pAdd (sliceM (pvar 0) none (some (pvar 3))) (sliceM (pvar 0) (some (binM pAdd (pvar 3) (ret1 (.int 1)))) none)) (consM (ret1 (.str (Str.ofString "bare"))) nilM))))
  (ret1 .next)) (ret1 .next))
  (seqM (ifM (andM (cmpM pEq3 (pvar 1) (ret1 (.int 6))) (cmpM pNe1 (pvar 3) (pvar 4))) (seqM (retM (tupM (consM (binM pAdd (binM pAdd (sliceM (pvar 0) none (some (pvar 4))) (listM (consM (binM pIdx (pvar 0) (pvar 3)) nilM))) (sliceM (pvar 0) (some (binM pAdd (pvar 4) (ret1 (.int 1)))) none)) (consM (ret1 (.str (Str.ofString "shared"))) nilM))))
  (ret1 .next)) (ret1 .next))
  (seqM (ifM (andM (cmpM pEq3 (pvar 1) (ret1 (.int 7))) (cmpM pNe1 (pvar 3) (pvar 4))) (seqM (bnd (bnd (consM (pvar 3) (consM (pvar 4) nilM)) pMin2) (setvar 7))
  (seqM (bnd (binM pAdd (binM pAdd (sliceM (pvar 0) none (some (pvar 3))) (listM (consM (bnd (consM (binM pIdx (pvar 0) (pvar 3)) (consM (pvar 5) nilM)) F__law_bad_text) nilM))) (sliceM (pvar 0) (some (binM pAdd (pvar 3) (ret1 (.int 1)))) none)) (setvar 8))
  (seqM (bnd (binM pAdd (binM pAdd (sliceM (pvar 8) none (some (pvar 4))) (listM (consM (bnd (consM (binM pIdx (pvar 0) (pvar 4)) (consM (binM pDiv (pvar 5) (ret1 (.int 9))) nilM)) F__law_bad_cell) nilM))) (sliceM (pvar 8) (some (binM pAdd (pvar 4) (ret1 (.int 1)))) none)) (setvar 8))
  (seqM (retM (tupM (consM (pvar 8) (consM (binM pIdx (listM (consM (ret1 (.str (Str.ofString "text"))) (consM (ret1 (.str (Str.ofString "cell"))) nilM))) (bnd (consM (binM pEq3 (pvar 7) (pvar 4)) nilM) pIntOf)) nilM))))
  (ret1 .next))))) (ret1 .next))
  (seqM (ifM (cmpM pEq3 (pvar 1) (ret1 (.int 9))) (seqM (bnd (binM pIdx (listM (consM (bnd (consM (binM pIdx (pvar 0) (pvar 3)) (consM (binM pDiv (pvar 5) (ret1 (.int 4))) nilM)) F__law_bad_text) (consM (bnd (consM (binM pIdx (pvar 0) (pvar 3)) (consM (binM pDiv (pvar 5) (ret1 (.int 4))) nilM)) F__law_bad_cell) nilM))) (binM pMod (pvar 5) (ret1 (.int 2)))) (setvar 9))
  (seqM (bnd (binM pAdd (binM pAdd (sliceM (pvar 0) none (some (pvar 3))) (listM (consM (pvar 9) nilM))) (sliceM (pvar 0) (some (binM pAdd (pvar 3) (ret1 (.int 1)))) none)) (setvar 8))
  (seqM (ifM (cmpM pEq3 (binM pMod (binM pDiv (pvar 5) (ret1 (.int 2))) (ret1 (.int 2))) (ret1 (.int 0))) (seqM (retM (tupM (consM (binM pAdd (pvar 8) (listM (consM (binM pIdx (pvar 0) (pvar 4)) nilM))) (consM (binM pIdx (listM (consM (ret1 (.str (Str.ofString "text"))) (consM (ret1 (.str (Str.ofString "cell"))) nilM))) (binM pMod (pvar 5) (ret1 (.int 2)))) nilM))))
  (ret1 .next)) (ret1 .next))
  (seqM (retM (tupM (consM (binM pAdd (listM (consM (binM pIdx (pvar 0) (pvar 4)) nilM)) (pvar 8)) (consM (binM pIdx (listM (consM (ret1 (.str (Str.ofString "text"))) (consM (ret1 (.str (Str.ofString "cell"))) nilM))) (binM pMod (pvar 5) (ret1 (.int 2)))) nilM))))
  (ret1 .next))))) (ret1 .next))
  (seqM (retM (tupM (consM (binM pAdd (binM pAdd (sliceM (pvar 0) none (some (pvar 3))) (listM (consM (bnd (consM (binM pIdx (pvar 0) (pvar 3)) (consM (pvar 5) nilM)) F__law_bad_cell) nilM))) (sliceM (pvar 0) (some (binM pAdd (pvar 3) (ret1 (.int 1)))) none)) (consM (ret1 (.str (Str.ofString "cell"))) nilM))))
  (ret1 .next))))))))))))
noncomputable def F__law_spoilt : List D → Mn D := mkFn [0, 1, 2] d__law_spoilt
theorem sf__law_spoilt {G : Gd} {P : Params} (L : Lay G (Mine.hK P)) : SF G 2 245 F__law_spoilt :=
  sf_of (xs := [Str.ofString "_law_cells_here", Str.ofString "_law_way", Str.ofString "_law_number"]) (tbl := [Str.ofString "_law_cells_here", Str.ofString "_law_way", Str.ofString "_law_number", Str.ofString "_law_at_here", Str.ofString "_law_other", Str.ofString "_law_more", Str.ofString "_law_one", Str.ofString "_law_first", Str.ofString "_law_found", Str.ofString "_law_bad"]) (n := 1) (fnIs_of L (by kernel_rfl) (by kernel_rfl) (bind3 (by intros; kernel_rfl))) (by kernel_rfl) (code := .ref 244) (by kernel_rfl) (qual := Str.ofString "_law_spoilt.<locals>.") (by kernel_rfl) (by decide +kernel) rfl ((den_ok (ok__law_bad_text L) 60).s ⟨namesAt pw 32, _, _, _, _, _⟩ (bodyAt pw 32) d__law_spoilt (by kernel_rfl))
noncomputable def T__law_spoilt : Tb := { T__law_bad_text with fns := ((Str.ofString "_law_spoilt"), 245, 2, F__law_spoilt) :: T__law_bad_text.fns }
theorem ok__law_spoilt {G : Gd} {P : Params} (L : Lay G (Mine.hK P)) : TbOk G T__law_spoilt := (ok__law_bad_text L).add (L.glob (by kernel_rfl)) (L.fd (by kernel_rfl)) (sf__law_spoilt L)
-- law: 0 _law_script, 1 _law_rows, 2 _law_columns, 3 _law_cells_here, 4 _law_way, 5 _law_bad, 6 _law_due, 7 _law_spoilt_here, 8 _law_kept
noncomputable def d_law : Mn Fl := (seqM (bnd (bnd (consM (bnd (consM (pvar 0) (consM (ret1 (.int 0)) nilM)) F__law_at) nilM) F__law_size) (setvar 1))
  (seqM (bnd (bnd (consM (bnd (consM (pvar 0) (consM (ret1 (.int 1)) nilM)) F__law_at) nilM) F__law_size) (setvar 2))
  (seqM (bnd (bnd (consM (pvar 0) (consM (pvar 1) (consM (pvar 2) nilM))) F__law_cells) (setvar 3))
  (seqM (bnd (binM pMod (bnd (consM (pvar 0) (consM (ret1 (.int 2)) nilM)) F__law_at) (ret1 (.int 12))) (setvar 4))
  (seqM (bnd (binM pIdx (listM (consM (ret1 (.int 0)) (consM (ret1 (.int 21)) (consM (bnd (ret1 (.int 1)) pNeg) (consM (ret1 (.bool true)) (consM (ret1 (.str (Str.ofString "3"))) (consM (ret1 .none) (consM (ret1 (.int 1000)) (consM (bnd (ret1 (.int 20)) pNeg) (consM (ret1 (.bool false)) nilM)))))))))) (binM pMod (bnd (consM (pvar 0) (consM (ret1 (.int 3)) nilM)) F__law_at) (ret1 (.int 9)))) (setvar 5))
  (seqM (bnd (ret1 (.str (Str.ofString "size"))) (setvar 6))
  (seqM (ifM (cmpM pEq3 (pvar 4) (ret1 (.int 0))) (seqM (bnd (pvar 5) (setvar 1))
  (ret1 .next)) (seqM (ifM (cmpM pEq3 (pvar 4) (ret1 (.int 1))) (seqM (bnd (pvar 5) (setvar 2))
  (ret1 .next)) (seqM (ifM (cmpM pGt (pvar 4) (ret1 (.int 9))) (seqM (bnd (bnd (consM (pvar 3) (consM (pvar 1) (consM (pvar 2) (consM (bnd (consM (pvar 0) (consM (ret1 (.int 4)) nilM)) F__law_at) nilM)))) F__law_moved) (setvar 7))
  (seqM (bnd (binM pIdx (pvar 7) (ret1 (.int 0))) (setvar 3))
  (seqM (bnd (binM pIdx (pvar 7) (ret1 (.int 1))) (setvar 6))
  (ret1 .next)))) (seqM (bnd (bnd (consM (pvar 3) (consM (pvar 4) (consM (bnd (consM (pvar 0) (consM (ret1 (.int 4)) nilM)) F__law_at) nilM))) F__law_spoilt) (setvar 7))
  (seqM (bnd (binM pIdx (pvar 7) (ret1 (.int 0))) (setvar 3))
  (seqM (bnd (binM pIdx (pvar 7) (ret1 (.int 1))) (setvar 6))
  (ret1 .next)))))
  (ret1 .next)))
  (ret1 .next)))
  (seqM (ifM (cmpM pEq3 (pvar 4) (ret1 (.int 8))) (seqM (bnd (pvar 5) (setvar 1))
  (seqM (bnd (ret1 (.str (Str.ofString "size"))) (setvar 6))
  (ret1 .next))) (ret1 .next))
  (seqM (bnd (bnd (consM (pvar 3) nilM) pListOf) (setvar 8))
  (seqM (retM (andV (binM pEq3 (bnd (consM (pvar 1) (consM (pvar 2) (consM (pvar 3) nilM))) F__law_outcome) (pvar 6)) (binM pEq3 (pvar 3) (pvar 8))))
  (ret1 .next)))))))))))
noncomputable def F_law : List D → Mn D := mkFn [0] d_law
theorem sf_law {G : Gd} {P : Params} (L : Lay G (Mine.hK P)) : SF G 6 259 F_law :=
  sf_of (xs := [Str.ofString "_law_script"]) (tbl := [Str.ofString "_law_script", Str.ofString "_law_rows", Str.ofString "_law_columns", Str.ofString "_law_cells_here", Str.ofString "_law_way", Str.ofString "_law_bad", Str.ofString "_law_due", Str.ofString "_law_spoilt_here", Str.ofString "_law_kept"]) (n := 5) (fnIs_of L (by kernel_rfl) (by kernel_rfl) (bind1 (by intros; kernel_rfl))) (by kernel_rfl) (code := .ref 258) (by kernel_rfl) (qual := Str.ofString "law.<locals>.") (by kernel_rfl) (by decide +kernel) rfl ((den_ok (ok__law_spoilt L) 60).s ⟨namesAt pw 34, _, _, _, _, _⟩ (bodyAt pw 34) d_law (by kernel_rfl))
end Mine

end

/- part PC04 -/
section
set_option Elab.async false
set_option linter.unusedVariables false
set_option linter.unusedSimpArgs false
set_option maxRecDepth 10000
namespace Mine
open PySem PyProof.Rows PySem.Builtin.Str
noncomputable def some94 : Str := Str.ofString " !\"#$&'()*+,-./0123456789:;<=>?@ABCDEFGHIJKLMNOPQRSTUVWXYZ[\\]^_`" ++ Str.ofString "abcdefghijklmnopqrstuvwxyz{|}~"
theorem some94_len : some94.length = 94 := by decide +kernel
noncomputable def plain (c : Nat) : Bool := decide (32 ≤ c) && decide (c ≤ 126)
theorem some94_ok : (cl some94).all plain = true := by decide +kernel
theorem len_a : (Str.ofString " !\"#$&'()*+,-./0123456789:;<=>?@ABCDEFGHIJKLMNOPQRSTUVWXYZ[\\]^_`").length = 64 := by decide +kernel
theorem len_b : (Str.ofString "abcdefghijklmnopqrstuvwxyz{|}~").length = 30 := by decide +kernel
theorem rstrip_pre (x y : Str) : ∃ j, cl (Txt.rstripChars x y) = (cl x).take j := by
  obtain ⟨j, hj, e⟩ := rstripChars_is_prefix x y
  refine ⟨j, ?_⟩
  rw [e]
  simp [cl, strSub]
theorem run_mul {a b : Int} {S : St} (h : (small64 a || small64 b) = true) : pMul (.int a) (.int b) S = .ok (.int (a * b)) S := if_app h
theorem run_adds {x y : Str} {S : St} (h : x.length + y.length ≤ sizeLine) : pAdd (.str x) (.str y) S = .ok (.str (x ++ y)) S := if_app h
theorem one_all : ∀ (zs : List Str), (∀ y, y ∈ zs → ∃ c, y = ⟨#[c]⟩ ∧ plain c = true) → (zs.map cl).flatten.all plain = true ∧ (zs.map cl).flatten.length = zs.length
  | [], _ => ⟨rfl, rfl⟩
  | z :: r, h => by
    obtain ⟨c, rfl, hc⟩ := h z List.mem_cons_self
    obtain ⟨i1, i2⟩ := one_all r (fun y m => h y (List.mem_cons_of_mem _ m))
    rw [List.map_cons, List.flatten_cons]
    refine ⟨?_, ?_⟩
    · rw [List.all_append, i1, Bool.and_true]
      show (plain c && true) = true
      rw [hc]; rfl
    · rw [List.length_append, i2, List.length_cons, Nat.add_comm]; rfl
/-- the texts of a made list -/
theorem strs_of {xs ds : List D} {V : Str → Prop} (r : All2 (fun x d => ∃ y, x = D.str y ∧ V y) xs ds) : ∃ ys : List Str, xs = ys.map D.str ∧ ys.length = ds.length ∧ ∀ y, y ∈ ys → V y := by
  induction r with
  | nil => exact ⟨[], rfl, rfl, fun y m => absurd m List.not_mem_nil⟩
  | cons h _ ih =>
    obtain ⟨y, rfl, v⟩ := h
    obtain ⟨ys, rfl, hl, hv⟩ := ih
    refine ⟨y :: ys, rfl, by rw [List.length_cons, hl]; rfl, fun z m => ?_⟩
    rcases List.mem_cons.mp m with rfl | m
    · exact v
    · exact hv z m
theorem line_end {ys : List Str} {size : Int} (h1 : size ≤ 300) (hys : ∀ y, y ∈ ys → ∃ c, y = ⟨#[c]⟩ ∧ plain c = true) (hlen : (ys.length : Int) ≤ size) :
    JoinOk (Str.ofString "") ys = true ∧ (Str.join (Str.ofString "") ys).length ≤ sizeLine ∧ (cl (Txt.rstripChars (Str.join (Str.ofString "") ys) (Str.ofString " "))).all plain = true ∧ ((Txt.rstripChars (Str.join (Str.ofString "") ys) (Str.ofString " ")).length : Int) ≤ size := by
  have hsl : (1000 : Nat) ≤ sizeLine := by decide
  have hf : cl (Str.join (Str.ofString "") ys) = (ys.map cl).flatten := by rw [empty_eq]; exact cl_join0 ys
  obtain ⟨i1, i2⟩ := one_all ys hys
  have hjl : (Str.join (Str.ofString "") ys).length = ys.length := by rw [← cl_length, hf, i2]
  obtain ⟨t, ht⟩ := rstrip_pre (Str.join (Str.ofString "") ys) (Str.ofString " ")
  refine ⟨joinOk_of (B := 1) (fun y m => ?_) ?_, by exact d_le (iLe fun hzz => linI [_, _, _, _] [lt1 x0 x1, le1 x2 (.n 300), le1 x3 x2, le1 (.n 1000) x0, eq1 x1 x3] (Eq.refl true) hzz h1 hlen (c_le hsl) (c_eq hjl)), ?_, ?_⟩
  · obtain ⟨c, rfl, _⟩ := hys y m
    exact Nat.le_refl 1
  · show ys.length * 1 + ys.length * 0 ≤ _
    omega
  · rw [ht, hf]
    exact List.all_eq_true.mpr fun c mc => List.all_eq_true.mp i1 c (List.mem_of_mem_take mc)
  · rw [← cl_length, ht, List.length_take, cl_length]
    omega
theorem len_app (x y : Str) : (x ++ y).length = x.length + y.length := by
  rw [← cl_length, cl_append, List.length_append, cl_length, cl_length]
theorem run_ref {k : Nat} {i : Int} {ds : List D} {S : St} (hk : S.sto[k]? = some (.list ds)) (h0 : 0 ≤ i) (h1 : i < ds.length) (h2 : ds.length ≤ 2 ^ 62) : pIdx (.ref k) (.int i) S = .ok (ds[i.toNat]'(by exact d_lt (iLt fun hzz => linI [_, _, _] [le1 x0 x1, lt1 x2 x0, eq1 x1 x2] (Eq.refl true) hzz h1 (tn_eq (iLe fun hyy => linI [_] [lt1 x0 (.n 0), le1 (.n 0) x0] (Eq.refl true) hyy h0))))) S :=
  run_of ((W_idxR h0 hk h1 h2).mpr ⟨rfl, rfl⟩)
theorem W_line {n size : Int} {st : St} {Q : D → St → Prop} (h0 : 0 ≤ size) (h1 : size ≤ 300) (hQ : ∀ x j, (cl x).all plain = true → (x.length : Int) ≤ size → (cl x).getLast? ≠ some 32 → Q (.str x) ⟨st.loc, st.sto ++ j⟩) : W (F__law_line [.int n, .int size]) st Q := by
  have hsl : (1000 : Nat) ≤ sizeLine := by decide
  refine W_mkFn rfl ?_
  unfold d__law_line
  refine W_seq1 (st1 := ⟨upd (bindP emptyL [0, 1] [.int n, .int size]) 2 (.str _), st.sto⟩) rfl (W_seq1 (run_set (run_bin rfl rfl (run_adds (by rw [len_a, len_b]; exact nLe fun hzz => linN [_] [lt1 x0 (.a (.n 64) (.n 30)), le1 (.n 1000) x0] (Eq.refl true) hzz hsl)))) (W_seqW ?_))
  refine W_bnd.mpr (W_bnd.mpr (W_bnd.mpr (W_run rfl (W_bnd.mpr (W_bnd.mpr (W_bnd.mpr (W_run (run_bnd rfl (run_of (W_range1.mpr ⟨okR_iff.mpr ⟨by exact iLe fun hzz => linI [_] [lt1 x0 (.s (.n 0) (.n 1099511627776)), le1 (.n 0) x0] (Eq.refl true) hzz h0, by exact iLt fun hzz => linI [_] [le1 (.n 1099511627776) x0, le1 x0 (.n 300)] (Eq.refl true) hzz h1⟩, rfl, rfl⟩))) ?_)))))))
  refine W_compD (fun _ => true) (fun _ x _ => ∃ y, x = .str y ∧ ∃ c, y = ⟨#[c]⟩ ∧ plain c = true) (fun l => l 2 = some (.str some94) ∧ l 0 = some (.int n)) (by show (rngL _ _ _).length ≤ sizeLine; rw [rngL_len]; exact d_le (iLe fun hzz => linI [_, _, _] [lt1 x0 x1, le1 x2 (.n 300), le1 (.n 1000) x0, eq1 x1 x2] (Eq.refl true) hzz h1 (c_le hsl) (tn_eq (iLe fun hyy => linI [_] [lt1 x0 (.n 0), le1 (.n 0) x0] (Eq.refl true) hyy h0)))) (fun _ _ _ _ _ h => h) (fun _ _ => trivial) ⟨rfl, rfl⟩ (fun d hd l σ' hA hx => ?_) fun xs σ' hx r => ?_
  · obtain ⟨j, hj, rfl⟩ := rngL_mem hd
    have hr := fmod_range (a := n + (0 + (j : Int) * 1) * (1 + (n.fdiv 94).fmod 93)) (b := 94) (by decide)
    refine ⟨upd l 3 _, rfl, hA, W_run rfl ⟨rfl, rfl, .refl _, fun _ => W_bin (W_run (run_var (i := 2) hA.1) (W_run (run_bin (run_bin (run_var (i := 0) hA.2) (run_bin rfl (run_bin rfl (run_bin (run_bin (run_var (i := 0) hA.2) rfl rfl) rfl rfl) rfl) (run_mul (by rw [small64_of (by omega) (by omega)]; rfl))) rfl) rfl rfl) ?_))⟩⟩
    refine (W_idxS hr.1 (by rw [some94_len]; exact hr.2) (by rw [some94_len]; decide)).mpr ⟨rfl, .refl _, _, rfl, _, rfl, ?_⟩
    exact List.all_eq_true.mp some94_ok _ (Array.getElem_mem_toList (xs := some94.cps) (i := (n + (0 + (j : Int) * 1) * (1 + (n.fdiv 94).fmod 93)).fmod 94 |>.toNat) (by show _ < some94.length; rw [some94_len]; exact d_lt (iLt fun hzz => linI [_, _] [le1 (.n 94) x0, lt1 x1 (.n 94), eq1 x0 x1] (Eq.refl true) hzz hr.2 (tn_eq (iLe fun hyy => linI [_] [lt1 x0 (.n 0), le1 (.n 0) x0] (Eq.refl true) hyy hr.1)))))
  · rw [filter_all] at r
    obtain ⟨ys, rfl, hl, hys⟩ := strs_of r
    rw [rngL_len] at hl
    obtain ⟨j1, j2, j3, j4⟩ := line_end (size := size) h1 hys (by exact iLe fun hzz => linI [_, _, _] [lt1 x0 x1, eq1 x1 x2, eq1 x2 x0] (Eq.refl true) hzz (c_eq hl) (tn_eq (iLe fun hyy => linI [_] [lt1 x0 (.n 0), le1 (.n 0) x0] (Eq.refl true) hyy h0)))
    obtain ⟨j, rfl⟩ := hx
    refine W_run rfl (W_join.mpr ⟨_, ys, List.getElem?_concat_length, strsOf_map ys, j1, W_run (run_bnd rfl (if_app j2)) (W_run rfl ?_)⟩)
    have := hQ _ (j ++ [.list (ys.map D.str)]) j3 j4 (rstrip_last _)
    rw [← List.append_assoc] at this
    exact this
theorem lenD_eq {k : Nat} {ds : List D} {S : St} (h : S.sto[k]? = some (.list ds)) : pLenD [.ref k] S = pLen [.ref k] S := by simp only [pLenD, h]
theorem W_at {ns : List Int} {k : Int} {st : St} {Q : D → St → Prop} (h0 : 0 ≤ k) (hk : k < 2 ^ 63) (hl : ns.length < 2 ^ 62) (hQ : Q (.int (ns.getD k.toNat 0)) st) : W (F__law_at [.scr ns, .int k]) st Q := by
  refine W_mkFn rfl (W_seqI (b := decide (k < ns.length)) (run_cmp rfl (run_bnd rfl (if_app hl)) rfl rfl) (fun h => ?_) fun h => ?_)
  · have h := of_decide_eq_true h
    have hlt : k.toNat < ns.length := by exact d_lt (iLt fun hzz => linI [_, _, _] [le1 x0 x1, lt1 x2 x0, eq1 x1 x2] (Eq.refl true) hzz h (tn_eq (iLe fun hyy => linI [_] [lt1 x0 (.n 0), le1 (.n 0) x0] (Eq.refl true) hyy h0)))
    rw [List.getD_eq_getElem?_getD, List.getElem?_eq_getElem hlt] at hQ
    exact W_seqW (W_bnd.mpr (W_bin (W_run rfl (W_run rfl (W_idxN.mpr ⟨⟨h0, hk⟩, _, List.getElem?_eq_getElem hlt, W_run rfl hQ⟩)))))
  · have h := of_decide_eq_false h
    rw [List.getD_eq_getElem?_getD, List.getElem?_eq_none (by exact d_le (iLe fun hzz => linI [_, _, _] [lt1 x1 x0, le1 x0 x2, le1 x2 x1] (Eq.refl true) hzz (Int.not_lt.mp h) (tn_lo _)))] at hQ
    exact W_run rfl (W_seqR rfl hQ)
theorem W_size {n : Int} {st : St} {Q : D → St → Prop} (hQ : ∀ m, 1 ≤ m → m ≤ 20 → Q (.int m) st) : W (F__law_size [.int n]) st Q := by
  refine W_mkFn rfl (W_seqI (b := n.fmod 9 == 1) rfl (fun _ => ?_) fun _ => ?_)
  · have := fmod_range (a := n.fdiv 9) (b := 20) (by decide)
    exact W_seqR rfl (hQ _ (by exact iLe fun hzz => linI [_] [lt1 (.a (.n 1) x0) (.n 1), le1 (.n 0) x0] (Eq.refl true) hzz this.1) (by exact iLe fun hzz => linI [_] [lt1 (.n 20) (.a (.n 1) x0), lt1 x0 (.n 20)] (Eq.refl true) hzz this.2))
  · have := fmod_range (a := n.fdiv 9) (b := 5) (by decide)
    exact W_run rfl (W_seqR rfl (hQ _ (by exact iLe fun hzz => linI [_] [lt1 (.a (.n 1) x0) (.n 1), le1 (.n 0) x0] (Eq.refl true) hzz this.1) (by exact iLe fun hzz => linI [_] [lt1 (.n 20) (.a (.n 1) x0), lt1 x0 (.n 5)] (Eq.refl true) hzz this.2)))
noncomputable def bxD (b : Bx) : D := .tup [.int b.t, .int b.l, .int b.h, .int b.w]
noncomputable def pL4 (b : Bx) (n : Int) : Loc := upd (bindP emptyL [0, 1] [bxD b, .int n]) 2 (.int (n.fdiv 2))
theorem no_beq {a b : Int} (h : a ≠ b) : (a == b) = false := beq_false_of_ne h
theorem W_parts {R C : Int} {b : Bx} (g : b.Good R C) {n : Int} {st : St} {Q : D → St → Prop} (hQ : ∀ ps j, Parts R C b ps → 1 ≤ ps.length → ps.length ≤ 5 → Q (.ref (st.sto ++ j).length) ⟨st.loc, st.sto ++ j ++ [.list (ps.map bxD)]⟩) : W (F__law_parts [bxD b, .int n]) st Q := by
  have hg := g
  unfold Bx.Good at hg
  have q0 : ∀ ps : List Bx, Parts R C b ps → 1 ≤ ps.length → ps.length ≤ 5 → Q (.ref st.sto.length) ⟨st.loc, st.sto ++ [.list (ps.map bxD)]⟩ := fun ps h1 h2 h3 => by simpa using hQ ps [] h1 h2 h3
  have last : Q (.ref st.sto.length) ⟨st.loc, st.sto ++ [.list [bxD b]]⟩ := q0 [b] (parts_one g) (Nat.le_refl 1) (by simp)
  have hm := fmod_range (a := n) (b := 2) (by decide)
  refine W_mkFn rfl ?_
  unfold d__law_parts
  refine W_seq1 (st1 := ⟨pL4 b n, st.sto⟩) rfl (W_seqW ?_)
  have skip : ∀ {k : Mn Fl} {Q' : Fl → St → Prop}, W k ⟨pL4 b n, st.sto⟩ Q' → W (ret1 Fl.next) ⟨pL4 b n, st.sto⟩ (thn k Q') := fun h => W_ret1.mpr h
  by_cases m0 : n.fmod 2 = 0
  · refine W_ifAT (b := n.fmod 2 == 0) (st1 := ⟨pL4 b n, st.sto⟩) rfl (by rw [m0]; rfl) ?_
    by_cases h1 : b.h > 1
    · have hk := fmod_range (a := n.fdiv 2) (b := b.h - 1) (by omega)
      refine W_ifT (b := decide (b.h > 1)) (st1 := ⟨pL4 b n, st.sto⟩) rfl (decide_eq_true h1) (W_seq1 (run_set (run_bin rfl (run_bin (a := .int (n.fdiv 2)) (b := .int (b.h - 1)) rfl rfl (if_app (show b.h - 1 ≠ 0 by omega))) rfl)) ?_)
      exact W_seqR rfl (q0 _ (parts_rows g (k := 1 + (n.fdiv 2).fmod (b.h - 1)) (by omega) (by omega)) (by simp) (by simp))
    · refine W_ifF (b := decide (b.h > 1)) (st1 := ⟨pL4 b n, st.sto⟩) rfl (decide_eq_false h1) (skip (W_seqW ?_))
      refine W_ifAF (b := n.fmod 2 == 1) (st1 := ⟨pL4 b n, st.sto⟩) rfl (by rw [m0]; rfl) (skip ?_)
      exact W_seqR rfl last
  refine W_ifAF (b := n.fmod 2 == 0) (st1 := ⟨pL4 b n, st.sto⟩) rfl (no_beq m0) (skip (W_seqW ?_))
  refine W_ifAT (b := n.fmod 2 == 1) (st1 := ⟨pL4 b n, st.sto⟩) rfl (by rw [show n.fmod 2 = 1 by omega]; rfl) ?_
  by_cases h1 : b.w > 1
  · have hk := fmod_range (a := n.fdiv 2) (b := b.w - 1) (by omega)
    refine W_ifT (b := decide (b.w > 1)) (st1 := ⟨pL4 b n, st.sto⟩) rfl (decide_eq_true h1) (W_seq1 (run_set (run_bin rfl (run_bin (a := .int (n.fdiv 2)) (b := .int (b.w - 1)) rfl rfl (if_app (show b.w - 1 ≠ 0 by omega))) rfl)) ?_)
    exact W_seqR rfl (q0 _ (parts_cols g (k := 1 + (n.fdiv 2).fmod (b.w - 1)) (by omega) (by omega)) (by simp) (by simp))
  · refine W_ifF (b := decide (b.w > 1)) (st1 := ⟨pL4 b n, st.sto⟩) rfl (decide_eq_false h1) (skip ?_)
    exact W_seqR rfl last
structure Ce where
  b : Bx
  x : Str
noncomputable def ceD (c : Ce) : D := .tup [.int c.b.t, .int c.b.l, .int c.b.h, .int c.b.w, .str c.x]
theorem map_cutB {α β : Type} (f : α → β) (lo hi : Option Int) (ps : List α) : cutL lo hi (ps.map f) = (cutL lo hi ps).map f := by
  unfold cutL
  rw [List.length_map, List.map_take, List.map_drop]
theorem cut_to {α : Type} (l : List α) {i : Int} (h0 : 0 ≤ i) (h1 : i ≤ l.length) : cutL none (some i) l = l.take i.toNat := by
  unfold cutL clipI
  have : max 0 (min (if i < 0 then i + (l.length : Int) else i) (l.length : Int)) = i := by rw [if_neg (by exact fun hzz => linI [_] [lt1 x0 (.n 0), le1 (.n 0) x0] (Eq.refl true) hzz h0)]; omega
  simp only [this, List.drop_zero, Int.toNat_zero, Int.sub_zero]
theorem cut_from {α : Type} (l : List α) {i : Int} (h0 : 0 ≤ i) (h1 : i ≤ l.length) : cutL (some i) none l = l.drop i.toNat := by
  unfold cutL clipI
  have : max 0 (min (if i < 0 then i + (l.length : Int) else i) (l.length : Int)) = i := by rw [if_neg (by exact fun hzz => linI [_] [lt1 x0 (.n 0), le1 (.n 0) x0] (Eq.refl true) hzz h0)]; omega
  simp only [this]
  rw [List.take_of_length_le]
  simp
  omega
theorem run_slc {k : Nat} {l h : Option Int} {ds : List D} {S : St} (hk : S.sto[k]? = some (.list ds)) (h2 : ds.length ≤ sizeLine) : pSlice (.ref k) l h S = .ok (.ref S.sto.length) ⟨S.loc, S.sto ++ [.list (cutL l h ds)]⟩ :=
  run_of (W_cut_ref.mpr ⟨ds, hk, h2, rfl, rfl⟩)
theorem run_addr {k l : Nat} {ds es : List D} {S : St} (hk : S.sto[k]? = some (.list ds)) (hl : S.sto[l]? = some (.list es)) (h2 : ds.length + es.length ≤ sizeLine) : pAdd (.ref k) (.ref l) S = .ok (.ref S.sto.length) ⟨S.loc, S.sto ++ [.list (ds ++ es)]⟩ :=
  run_of (W_add_ref.mpr ⟨ds, es, hk, hl, h2, rfl, rfl⟩)
theorem get_pre {σ : Sto} {x y : PO} : (σ ++ [x] ++ [y])[σ.length]? = some x := by rw [List.append_assoc, List.getElem?_append_right (Nat.le_refl _), Nat.sub_self]; rfl
theorem get_pre2 {σ j : Sto} {x y : PO} : (σ ++ [x] ++ j ++ [y])[σ.length]? = some x := by rw [List.append_assoc, List.append_assoc, List.getElem?_append_right (Nat.le_refl _), Nat.sub_self]; rfl
theorem W_split_at {R C : Int} {bs : List Bx} {k : Nat} {n : Int} {loc : Loc} {σ : Sto} {i3 i5 : Nat} {mk : Mn D} {Q : D → St → Prop} (hk : σ[k]? = some (.list (bs.map bxD))) (h3 : loc i3 = some (.ref k)) {a : Int} (h5 : loc i5 = some (.int a)) (ha : 0 ≤ a) (hal : a < bs.length) (hlen : bs.length ≤ 300)
    (ht : Til R C bs) (hv : Cov R C bs) (hmk : ∀ (σ' : Sto) (Q : D → St → Prop), Q (.int n) ⟨loc, σ'⟩ → σ'[k]? = some (.list (bs.map bxD)) → W mk ⟨loc, σ'⟩ Q)
    (hQ : ∀ bs' j, Til R C bs' → Cov R C bs' → 1 ≤ bs'.length → bs'.length ≤ bs.length + 4 → Q (.ref (σ ++ j).length) ⟨loc, σ ++ j ++ [.list (bs'.map bxD)]⟩) :
    W (binM pAdd (binM pAdd (sliceM (pvar i3) none (some (pvar i5))) (bnd (consM (binM pIdx (pvar i3) (pvar i5)) (consM mk nilM)) F__law_parts)) (sliceM (pvar i3) (some (binM pAdd (pvar i5) (ret1 (.int 1)))) none)) ⟨loc, σ⟩ Q := by
  have hsl : (1000 : Nat) ≤ sizeLine := by decide
  have hlt : a.toNat < bs.length := by exact d_lt (iLt fun hzz => linI [_, _, _] [le1 x0 x1, lt1 x2 x0, eq1 x1 x2] (Eq.refl true) hzz hal (tn_eq (iLe fun hyy => linI [_] [lt1 x0 (.n 0), le1 (.n 0) x0] (Eq.refl true) hyy ha)))
  have hk1 : ∀ j : Sto, (σ ++ j)[k]? = some (.list (bs.map bxD)) := fun j => (Ext.app σ j).get hk
  have hz : (bs.map bxD).length ≤ sizeLine := by rw [List.length_map]; exact nLe fun hzz => linN [_, _] [lt1 x1 x0, le1 x0 (.n 300), le1 (.n 1000) x1] (Eq.refl true) hzz hlen hsl
  have hsp : bs = bs.take a.toNat ++ bs[a.toNat] :: bs.drop (a.toNat + 1) := by rw [List.getElem_cons_drop, List.take_append_drop]
  have ht' := ht
  have hv' := hv
  rw [hsp] at ht' hv'
  have lt := List.length_take_of_le (l := bs) (i := a.toNat) (by exact nLe fun hzz => linN [_, _] [lt1 x0 x1, lt1 x1 x0] (Eq.refl true) hzz hlt)
  have ld := List.length_drop (l := bs) (i := a.toNat + 1)
  refine W_bin (W_bin (W_run (run_bnd (run_var h3) (run_bnd (run_bnd rfl (run_bnd (run_bnd (run_var h5) rfl) rfl)) (run_slc hk hz))) (W_bnd.mpr (W_bnd.mpr (W_run (run_bin (run_var h3) (run_var h5) (run_ref (hk1 _) ha (by rw [List.length_map]; exact hal) (by rw [List.length_map]; exact nLe fun hzz => linN [_] [lt1 (.n 4611686018427387904) x0, le1 x0 (.n 300)] (Eq.refl true) hzz hlen))) (W_bnd.mpr (W_bnd.mpr (hmk _ _ ?_ (hk1 _)))))))))
  rw [List.getElem_map]
  refine W_run rfl (W_run rfl (W_parts (ht.1 _ (List.getElem_mem hlt)) fun ps j hp h1 h2 => ?_))
  rw [map_cutB, cut_to bs ha (by exact iLe fun hzz => linI [_, _] [lt1 x1 x0, lt1 x0 x1] (Eq.refl true) hzz hal)]
  refine W_run (run_addr (ds := (bs.take a.toNat).map bxD) (es := ps.map bxD) get_pre2 List.getElem?_concat_length (by rw [List.length_map, List.length_map]; exact nLe fun hzz => linN [_, _, _, _, _] [lt1 x0 (.a x1 x2), le1 x3 (.n 300), le1 (.n 1000) x0, lt1 x4 x3, eq1 x1 x4, le1 x2 (.n 5)] (Eq.refl true) hzz hlen hsl hlt lt h2)) ?_
  refine W_run (run_bnd (run_var h3) (run_bnd (run_bnd (run_bnd (run_bin (run_var h5) rfl rfl) rfl) rfl) (run_slc (ds := bs.map bxD) (by rw [List.append_assoc, List.append_assoc, List.append_assoc]; exact hk1 _) hz))) ?_
  rw [map_cutB, cut_from bs (by exact iLe fun hzz => linI [_] [lt1 (.a x0 (.n 1)) (.n 0), le1 (.n 0) x0] (Eq.refl true) hzz ha) (by exact iLe fun hzz => linI [_, _] [lt1 x1 (.a x0 (.n 1)), lt1 x0 x1] (Eq.refl true) hzz hal), show (a + 1).toNat = a.toNat + 1 by exact d_eq (iEq (fun hzz => linI [(↑a.toNat), (↑(a + 1).toNat), (a)] [lt1 x1 (.a x0 (.n 1)), le1 (.a x2 (.n 1)) x1, eq1 x0 x2] (Eq.refl true) hzz (tn_lo _) (tn_eq (iLe fun hyy => linI [(a)] [lt1 x0 (.n 0), le1 (.n 0) x0] (Eq.refl true) hyy ha))) (fun hzz => linI [(↑a.toNat), (↑(a + 1).toNat), (a)] [lt1 (.a x0 (.n 1)) x1, le1 x2 x0, eq1 x1 (.a x2 (.n 1))] (Eq.refl true) hzz (tn_lo _) (tn_eq (iLe fun hyy => linI [(a)] [lt1 (.a x0 (.n 1)) (.n 0), le1 (.n 0) x0] (Eq.refl true) hyy ha))))]
  refine W_run (run_addr (ds := (bs.take a.toNat).map bxD ++ ps.map bxD) (es := (bs.drop (a.toNat + 1)).map bxD) get_pre List.getElem?_concat_length (by rw [List.length_append, List.length_map, List.length_map, List.length_map]; exact nLe fun hzz => linN [_, _, _, _, _, _, _] [lt1 x0 (.a (.a x1 x3) x2), leW 2 x4 (.n 300), le1 (.n 1000) x0, lt1 x5 x4, eq1 x1 x5, eq1 x2 x6, le1 x3 (.n 5), le1 x6 x4] (Eq.refl true) hzz hlen hsl hlt lt ld h2 (sub_hi _ _))) ?_
  have := hQ (bs.take a.toNat ++ ps ++ bs.drop (a.toNat + 1)) ([.list ((bs.take a.toNat).map bxD)] ++ j ++ [.list (ps.map bxD)] ++ [.list ((bs.take a.toNat).map bxD ++ ps.map bxD)] ++ [.list ((bs.drop (a.toNat + 1)).map bxD)]) (ht'.swap hp) (hv'.swap hp) (by rw [List.length_append, List.length_append]; exact nLe fun hzz => linN [_, _, _, _] [lt1 (.a (.a x0 x2) x1) (.n 1), qe1 x0 x3, le1 (.n 1) x2, le1 (.n 0) x3, le1 (.n 0) x1] (Eq.refl true) hzz lt h1 (Nat.zero_le _) (Nat.zero_le _)) (by rw [List.length_append, List.length_append]; exact nLe fun hzz => linN [_, _, _, _, _, _] [lt1 (.a x0 (.n 4)) (.a (.a x1 x3) x2), eq1 x1 x4, eq1 x2 x5, le1 x3 (.n 5), eq1 (.a x5 (.a x4 (.n 1))) x0] (Eq.refl true) hzz lt ld h2 (sub_eq (nLe fun hyy => linN [_, _] [lt1 x0 (.a x1 (.n 1)), lt1 x1 x0] (Eq.refl true) hyy hlt)))
  rw [List.map_append, List.map_append] at this
  rw [← List.append_assoc, ← List.append_assoc, ← List.append_assoc, ← List.append_assoc] at this
  exact this
theorem whole_ok {R C : Int} (hR : 1 ≤ R) (hC : 1 ≤ C) : Til R C [⟨0, 0, R, C⟩] ∧ Cov R C [⟨0, 0, R, C⟩] := by
  refine ⟨⟨fun b m => ?_, by simp⟩, fun r c h1 h2 h3 h4 => ⟨_, List.mem_singleton.mpr rfl, by unfold Bx.In; dsimp only; exact ⟨iLe fun hzz => linI [_] [lt1 x0 (.n 0), le1 (.n 0) x0] (Eq.refl true) hzz h1, ⟨iLt fun hzz => linI [_, _] [le1 (.a (.n 0) x0) x1, lt1 x1 x0] (Eq.refl true) hzz h2, ⟨iLe fun hzz => linI [_] [lt1 x0 (.n 0), le1 (.n 0) x0] (Eq.refl true) hzz h3, iLt fun hzz => linI [_, _] [le1 (.a (.n 0) x0) x1, lt1 x1 x0] (Eq.refl true) hzz h4⟩⟩⟩⟩⟩
  rw [List.mem_singleton.mp m]
  unfold Bx.Good
  dsimp only
  exact ⟨iLe fun hzz => linI [] [lt1 (.n 0) (.n 0)] (Eq.refl true) hzz, ⟨iLe fun hzz => linI [] [lt1 (.n 0) (.n 0)] (Eq.refl true) hzz, ⟨iLe fun hzz => linI [_] [lt1 x0 (.n 1), le1 (.n 1) x0] (Eq.refl true) hzz hR, ⟨iLe fun hzz => linI [_] [lt1 x0 (.n 1), le1 (.n 1) x0] (Eq.refl true) hzz hC, ⟨iLe fun hzz => linI [_] [lt1 x0 (.a (.n 0) x0)] (Eq.refl true) hzz, iLe fun hzz => linI [_] [lt1 x0 (.a (.n 0) x0)] (Eq.refl true) hzz⟩⟩⟩⟩⟩
theorem enumed_mem {bs : List Bx} {d : D} (h : d ∈ enumed (bs.map bxD)) : ∃ (i : Nat) (b : Bx), i < bs.length ∧ bs[i]? = some b ∧ d = .tup [.int i, bxD b] := by
  obtain ⟨i, hi, e⟩ := List.getElem_of_mem h
  obtain ⟨a, h1, h2⟩ := enumed_get (i := i) (d := d) (by rw [List.getElem?_eq_getElem hi, e])
  rw [List.getElem?_map] at h1
  obtain ⟨b, h3, rfl⟩ := Option.map_eq_some_iff.mp h1
  exact ⟨i, b, (List.getElem?_eq_some_iff.mp h3).1, h3, h2⟩
theorem enumed_cells {bs : List Bx} {xs : List D} {P : Str → Prop} (r : All2 (fun x d => ∃ (i : Int) (b : Bx) (y : Str), d = .tup [.int i, bxD b] ∧ x = ceD ⟨b, y⟩ ∧ P y) xs (enumed (bs.map bxD))) : ∃ cs : List Ce, xs = cs.map ceD ∧ cs.map (·.b) = bs ∧ ∀ c, c ∈ cs → P c.x := by
  have gen : ∀ (bs : List Bx) (xs : List D) (n : Nat), All2 (fun x d => ∃ (i : Int) (b : Bx) (y : Str), d = .tup [.int i, bxD b] ∧ x = ceD ⟨b, y⟩ ∧ P y) xs (((bs.map bxD).zipIdx n).map fun p => D.tup [.int p.2, p.1]) → ∃ cs : List Ce, xs = cs.map ceD ∧ cs.map (·.b) = bs ∧ ∀ c, c ∈ cs → P c.x := by
    intro bs
    induction bs with
    | nil =>
      intro xs n r
      cases r
      exact ⟨[], rfl, rfl, fun c m => nomatch m⟩
    | cons b bs ih =>
      intro xs n r
      simp only [List.map_cons, List.zipIdx_cons] at r
      cases r with
      | cons r1 r2 =>
        obtain ⟨i, b', y, e1, rfl, hp⟩ := r1
        obtain ⟨cs, rfl, h2, h3⟩ := ih _ _ r2
        have eb : b = b' := by
          injection e1 with e1
          injection e1 with _ e1
          injection e1 with e1 _
          unfold bxD at e1
          injection e1 with e1
          injection e1 with q1 e1
          injection e1 with q2 e1
          injection e1 with q3 e1
          injection e1 with q4 _
          injection q1 with q1
          injection q2 with q2
          injection q3 with q3
          injection q4 with q4
          obtain ⟨a1, a2, a3, a4⟩ := b
          obtain ⟨b1, b2, b3, b4⟩ := b'
          simp only at q1 q2 q3 q4
          rw [q1, q2, q3, q4]
        subst eb
        refine ⟨⟨b, y⟩ :: cs, rfl, by rw [List.map_cons, h2], fun c m => ?_⟩
        rcases List.mem_cons.mp m with rfl | m
        · exact hp
        · exact h3 c m
  exact gen bs xs 0 r
noncomputable def cellsIn : Mn Fl := (seqM (bnd (binM pMod (binM pIdx (pvar 0) (pvar 4)) (bnd (consM (pvar 3) nilM) pLenD)) (setvar 5))
  (seqM (bnd (binM pAdd (binM pAdd (sliceM (pvar 3) none (some (pvar 5))) (bnd (consM (binM pIdx (pvar 3) (pvar 5)) (consM (binM pDiv (binM pIdx (pvar 0) (pvar 4)) (bnd (consM (pvar 3) nilM) pLenD)) nilM)) F__law_parts)) (sliceM (pvar 3) (some (binM pAdd (pvar 5) (ret1 (.int 1)))) none)) (setvar 3))
  (ret1 .next)))
noncomputable def cL (ns : List Int) (R C : Int) (k : Nat) (x y z : Option D) : Loc := locOf [some (.scr ns), some (.int R), some (.int C), some (.ref k), x, y, z]
theorem cL_k {ns : List Int} {R C : Int} {k : Nat} {x y z : Option D} {d : D} : upd (cL ns R C k x y z) 4 d = cL ns R C k (some d) y z := upd_locOf (by show 4 < 7; decide)
theorem cL_a {ns : List Int} {R C : Int} {k : Nat} {x y z : Option D} {d : D} : upd (cL ns R C k x y z) 5 d = cL ns R C k x (some d) z := upd_locOf (by show 5 < 7; decide)
theorem cL_b {ns : List Int} {R C : Int} {k l : Nat} {x y z : Option D} : upd (cL ns R C k x y z) 3 (.ref l) = cL ns R C l x y z := upd_locOf (by show 3 < 7; decide)
theorem W_cellsIn {ns : List Int} {R C i : Int} {bs : List Bx} {k : Nat} {x z : Option D} {σ : Sto} (hn : ns.length ≤ 63) (h0 : 0 ≤ i) (h1 : i < ns.length) (hk : σ[k]? = some (.list (bs.map bxD))) (ht : Til R C bs) (hv : Cov R C bs) (hb1 : 1 ≤ bs.length) (hb2 : bs.length ≤ 300) :
    W cellsIn ⟨cL ns R C k (some (.int i)) x z, σ⟩ fun fl st' => fl = .next ∧ ∃ bs' j l y, st' = ⟨cL ns R C l (some (.int i)) y z, σ ++ j⟩ ∧ (σ ++ j)[l]? = some (.list (bs'.map bxD)) ∧ Til R C bs' ∧ Cov R C bs' ∧ 1 ≤ bs'.length ∧ bs'.length ≤ bs.length + 4 := by
  have hix : i.toNat < ns.length := by exact d_lt (iLt fun hzz => linI [_, _, _] [le1 x0 x1, lt1 x2 x0, eq1 x1 x2] (Eq.refl true) hzz h1 (tn_eq (iLe fun hyy => linI [_] [lt1 x0 (.n 0), le1 (.n 0) x0] (Eq.refl true) hyy h0)))
  have hi63 : i < 2 ^ 63 := by exact iLt fun hzz => linI [_, _] [le1 (.n 9223372036854775808) x0, lt1 x0 x1, le1 x1 (.n 63)] (Eq.refl true) hzz h1 (c_le hn)
  have hl62 : bs.length < 2 ^ 62 := by exact nLt fun hzz => linN [_] [le1 (.n 4611686018427387904) x0, le1 x0 (.n 300)] (Eq.refl true) hzz hb2
  obtain ⟨v, hget⟩ : ∃ v, ns[i.toNat]? = some v := ⟨_, List.getElem?_eq_getElem hix⟩
  have e0 : ∀ S : St, pIdx (.scr ns) (.int i) S = .ok (.int v) S := fun S => run_of (W_idxN.mpr ⟨⟨h0, hi63⟩, v, hget, rfl, rfl⟩)
  have el : ∀ S : St, S.sto[k]? = some (.list (bs.map bxD)) → pLenD [.ref k] S = .ok (.int bs.length) S := fun S h => (lenD_eq h).trans (run_of (W_lenR.mpr ⟨_, h, by rw [List.length_map]; exact hl62, by rw [List.length_map], rfl⟩))
  have ha := fmod_range (a := v) (b := (bs.length : Int)) (by exact iLt fun hzz => linI [_] [le1 x0 (.n 0), le1 (.n 1) x0] (Eq.refl true) hzz (c_le hb1))
  have hne : (bs.length : Int) ≠ 0 := by exact fun hzz => linI [_, _] [eq1 x0 (.n 0), le1 (.n 0) x1, lt1 x1 x0] (Eq.refl true) hzz ha.1 ha.2
  have hna : (bs.length : Int).natAbs < 1073741824 := by exact nLt fun hzz => linN [_] [le1 (.n 1073741824) x0, le1 x0 (.n 300)] (Eq.refl true) hzz hb2
  unfold cellsIn
  refine W_seq1 (run_set (run_bin (run_bin rfl rfl (e0 _)) (run_bnd rfl (el _ hk)) (if_app hne))) (W_seqW (W_bnd.mpr ?_))
  show W _ ⟨upd (cL ns R C k (some (.int i)) x z) 5 _, σ⟩ _
  rw [cL_a]
  refine W_split_at (R := R) (C := C) (n := v.fdiv bs.length) (i3 := 3) (i5 := 5) hk rfl rfl ha.1 ha.2 hb2 ht hv (fun σ' Q' hq hk' => ?_) fun bs' j' ht' hv' h1' h2' => W_run rfl (W_run rfl ⟨rfl, bs', j' ++ [.list (bs'.map bxD)], (σ ++ j').length, some (.int (v.fmod bs.length)), ?_, ?_, ht', hv', h1', h2'⟩)
  · exact W_run (run_bin (run_bin rfl rfl (e0 _)) (run_bnd rfl (el _ hk')) (if_app ⟨hne, hna⟩)) hq
  · show St.mk (upd (cL ns R C k (some (.int i)) (some (.int (v.fmod bs.length))) z) 3 _) _ = _
    rw [cL_b, List.append_assoc]
  · rw [← List.append_assoc]; exact List.getElem?_concat_length
theorem ext2 {σ j l : Sto} {k : Nat} {o : PO} (h : σ[k]? = some o) : (σ ++ j ++ l)[k]? = some o := (Ext.app _ _).get ((Ext.app _ _).get h)
end Mine

end

/- part GP04 -/
section
set_option Elab.async false
set_option linter.unusedVariables false
set_option linter.unusedSimpArgs false
set_option maxRecDepth 10000
namespace Mine
open PySem PyProof.Rows PySem.Builtin.Str
theorem W_lenDS {x : Str} {st : St} {Q : D → St → Prop} : W (pLenD [.str x]) st Q ↔ x.length < 2 ^ 62 ∧ Q (.int x.length) st := W_lenS
noncomputable def goodP (l : List Nat) : Bool := if decide ((l.length : Int) > 200) || l.getLast? == some 10 then false else (splitL 10 l).all (fun p => p.getLast? != some 32 && p.all (fun c => decide (32 ≤ c) && decide (c ≤ 126)))
theorem W_lines {x : Str} {st : St} {Q : D → St → Prop} (hx : x.length + 2 ≤ sizeLine) (h : Q (.ref st.sto.length) ⟨st.loc, st.sto ++ [.list ((Txt.split x ⟨#[10]⟩).map D.str)]⟩) : W (F_lines_of [.str x]) st Q := by
  refine W_mkFn rfl ?_
  simp only [d_lines_of, W_seqM, W_bnd, W_pvar, bindP, upd_at, Nat.reduceBEq, BEq.rfl, cond_true, cond_false, W_ret1, thn_ret, thn_next, Option.some.injEq, exists_eq_left', W_strM, nl_eq]
  exact W_split1 hx h

theorem ends_last (x : Str) (c : Nat) : Txt.endswith x ⟨#[c]⟩ = ((cl x).getLast? == some c) := by
  unfold Txt.endswith
  rw [StrLaws.subAt_eq]
  have hl : (⟨#[c]⟩ : Str).length = 1 := rfl
  have hx : x.length = (cl x).length := (cl_length x).symm
  rw [hl, hx]
  show (decide (0 + 1 ≤ (cl x).length) && List.take 1 (List.drop ((cl x).length - 1) (cl x)) == [c]) = _
  generalize cl x = l
  rcases List.eq_nil_or_concat l with rfl | ⟨r, y, rfl⟩
  · rfl
  · simp

theorem W_lt1 {a b : Nat} {st : St} {Q : D → St → Prop} : W (pLt (.str ⟨#[a]⟩) (.str ⟨#[b]⟩)) st Q ↔ Q (.bool (decide (a < b))) st := by
  rw [W_ltS]
  rw [show decide (cl (⟨#[a]⟩ : Str) < cl ⟨#[b]⟩) = decide (a < b) from decide_eq_decide.mpr (by simp [cl, List.cons_lt_cons_iff])]
theorem W_gt1 {a b : Nat} {st : St} {Q : D → St → Prop} : W (pGt (.str ⟨#[a]⟩) (.str ⟨#[b]⟩)) st Q ↔ Q (.bool (decide (b < a))) st := by
  rw [W_gtS]
  rw [show decide (cl (⟨#[b]⟩ : Str) < cl ⟨#[a]⟩) = decide (b < a) from decide_eq_decide.mpr (by simp [cl, List.cons_lt_cons_iff])]

noncomputable def okSign (d : D) : Bool := match d with
  | .str y => (cl y).all plain
  | _ => true
noncomputable def okLine (d : D) : Bool := match d with
  | .str y => (cl y).getLast? != some 32 && (cl y).all plain
  | _ => true
theorem okSign_one (c : Nat) : okSign (.str ⟨#[c]⟩) = plain c := by simp [okSign, cl]
theorem W_is_good {x : Str} {st : St} {Q : D → St → Prop} (hx : x.length ≤ 1000) (h : ∀ j, Q (.bool (goodP (cl x))) ⟨st.loc, st.sto ++ j⟩) : W (F_is_good [.str x]) st Q := by
  refine W_mkFn rfl ?_
  simp only [d_is_good, W_seqM, W_ifM, W_orM, W_notM, W_bnd, W_pvar, bindP, upd_at, Nat.reduceBEq, BEq.rfl, cond_true, cond_false, W_ret1, W_isi, tyD, subB, W_truthy_bool, W_lenDS, W_gtI, W_strM, W_ends, thn_ret, thn_next, Option.some.injEq, exists_eq_left', nl_eq, ends_last]
  simp only [show ("str" == "str") = true from rfl, Bool.true_or, Bool.not_true, Bool.false_eq_true, if_false]
  refine ⟨by exact nLt fun hzz => linN [_] [le1 (.n 4611686018427387904) x0, le1 x0 (.n 1000)] (Eq.refl true) hzz hx, ?_⟩
  have hgp : goodP (cl x) = if decide ((x.length : Int) > 200) || (cl x).getLast? == some 10 then false else (splitL 10 (cl x)).all (fun p => p.getLast? != some 32 && p.all plain) := by unfold goodP; rw [cl_length]; rfl
  cases h1 : decide ((x.length : Int) > 200) with
  | true =>
    rw [h1] at hgp
    simp only [if_true, Bool.true_or] at hgp ⊢
    rw [hgp] at h
    simpa using h []
  | false =>
    cases h2 : ((cl x).getLast? == some 10) with
    | true =>
      rw [h1, h2] at hgp
      simp only [if_true, Bool.false_or, Bool.false_eq_true, if_false] at hgp ⊢
      rw [hgp] at h
      simpa using h []
    | false =>
      rw [h1, h2] at hgp
      simp only [Bool.false_or, Bool.false_eq_true, if_false] at hgp ⊢
      refine W_lines (by have : (1002 : Nat) ≤ sizeLine := (by decide); exact nLe fun hzz => linN [_, _] [lt1 x1 (.a x0 (.n 2)), le1 x0 (.n 1000), le1 (.n 1002) x1] (Eq.refl true) hzz hx this) ?_
      refine W_srcR.mpr ?_
      refine ⟨(Txt.split x ⟨#[10]⟩).map D.str, by simp, ?_⟩
      refine W_forM_search (fun _ => True) okLine (.bool false) (fun σ hxx => hxx.get (by simp)) _ _ _ ?_ trivial (.refl _) ?_
      · intro d hd l σ _ hxx
        obtain ⟨y, hy, rfl⟩ := List.mem_map.mp hd
        refine ⟨_, rfl, ?_⟩
        simp only [W_seqM, W_ifM, W_bnd, W_pvar, upd_at, Nat.reduceBEq, BEq.rfl, cond_true, cond_false, W_ret1, W_truthy_bool, W_strM, W_ends, thn_ret, thn_next, Option.some.injEq, exists_eq_left', show Str.ofString " " = ⟨#[32]⟩ from rfl, ends_last]
        cases h3 : ((cl y).getLast? == some 32) with
        | true =>
          have h5 : okLine (.str y) = false := by simp [okLine, bne, h3]
          simp only [if_true]
          exact ⟨trivial, .refl _, by rw [h5]; rfl⟩
        | false =>
          have h5 : okLine (.str y) = (cl y).all plain := by simp [okLine, bne, h3]
          rw [h5]
          simp only [Bool.false_eq_true, if_false]
          rw [W_srcS]
          refine W_forM_search (fun l => True) okSign (.bool false) (fun _ _ => trivial) _ _ _ ?_ trivial (.refl _) ?_
          · intro d hd l σ _ hxx
            obtain ⟨c, hc, rfl⟩ := List.mem_map.mp hd
            refine ⟨_, rfl, ?_⟩
            rw [okSign_one]
            simp only [W_seqM, W_ifM, W_orM, W_bnd, W_pvar, upd_at, Nat.reduceBEq, BEq.rfl, cond_true, cond_false, W_ret1, W_truthy_bool, W_lt1, W_gt1, thn_ret, thn_next, Option.some.injEq, exists_eq_left', show Str.ofString " " = ⟨#[32]⟩ from rfl, show Str.ofString "~" = ⟨#[126]⟩ from rfl]
            by_cases c1 : c < 32
            · rw [decide_eq_true c1]
              simp only [if_true]
              refine ⟨trivial, .refl _, ?_⟩
              rw [if_neg (by simp [plain]; omega)]
            · rw [decide_eq_false c1]
              simp only [Bool.false_eq_true, if_false]
              by_cases c2 : 126 < c
              · rw [decide_eq_true c2]
                simp only [if_true]
                refine ⟨trivial, .refl _, ?_⟩
                rw [if_neg (by simp [plain]; omega)]
              · rw [decide_eq_false c2]
                simp only [Bool.false_eq_true, if_false]
                refine ⟨trivial, .refl _, ?_⟩
                rw [if_pos (by simp [plain]; exact ⟨nLe fun hzz => linN [_] [lt1 x0 (.n 32), le1 (.n 32) x0] (Eq.refl true) hzz (Nat.not_lt.mp c1), nLe fun hzz => linN [_] [lt1 (.n 126) x0, le1 x0 (.n 126)] (Eq.refl true) hzz (Nat.not_lt.mp c2)⟩)]
          · intro l' σ' _ hx'
            have e : (signs y).all okSign = (cl y).all plain := by
              unfold signs
              rw [List.all_map]
              show (cl y).all (fun c => okSign (.str ⟨#[c]⟩)) = _
              congr 1
              funext c
              exact okSign_one c
            show thn _ _ (if (signs y).all okSign = true then Fl.next else Fl.ret (D.bool false)) _
            rw [e]
            by_cases h4 : (cl y).all plain = true
            · simp only [h4, if_true, thn_next, W_ret1]
              exact ⟨trivial, hx', by simp⟩
            · simp only [h4, if_false, thn_ret]
              exact ⟨trivial, hx', by simp⟩
      · intro l' σ' _ hx'
        have e : ((Txt.split x ⟨#[10]⟩).map D.str).all okLine = goodP (cl x) := by
          rw [hgp, ← cl_split, List.all_map, List.all_map]
          rfl
        show thn _ _ (if ((Txt.split x ⟨#[10]⟩).map D.str).all okLine = true then Fl.next else Fl.ret (D.bool false)) _
        rw [e]
        obtain ⟨j, rfl⟩ := hx'
        have hh := h ([.list ((Txt.split x ⟨#[10]⟩).map D.str)] ++ j)
        by_cases h4 : goodP (cl x) = true
        · rw [h4] at hh
          rw [if_pos h4]
          simp only [thn_next, W_bnd, W_ret1, W_seqM, thn_ret]
          simpa using hh
        · rw [if_neg h4]
          rw [Bool.not_eq_true] at h4
          rw [h4] at hh
          simp only [thn_ret]
          simpa using hh

end Mine

end

/- part PS04 -/
section
set_option Elab.async false
set_option linter.unusedVariables false
set_option linter.unusedSimpArgs false
set_option maxRecDepth 10000
namespace Mine
open PySem PyProof.Rows PySem.Builtin.Str
/-! the squares of a cell, in the store -/
noncomputable def sqD (x : List Int) : D := .tup (x.map D.int)
theorem set_last {α : Type} (σ : List α) (x y : α) : (σ ++ [x]).set σ.length y = σ ++ [y] := by
  rw [List.set_append_right _ _ (Nat.le_refl _), Nat.sub_self]; rfl
noncomputable def qS (d : D) (k : Nat) (a b : Option D) : Loc := locOf [some d, some (.ref k), a, b]
theorem qS_2 {d : D} {k : Nat} {a b : Option D} {x : D} : upd (qS d k a b) 2 x = qS d k (some x) b := upd_locOf (by show 2 < 4; decide)
theorem qS_3 {d : D} {k : Nat} {a b : Option D} {x : D} : upd (qS d k a b) 3 x = qS d k a (some x) := upd_locOf (by show 3 < 4; decide)
theorem W_squares {b : Bx} {x : Str} {R C : Int} (g : b.Good R C) (hR : R ≤ 20) (hC : C ≤ 20) {st : St} {Q : D → St → Prop} (hQ : Q (.ref st.sto.length) ⟨st.loc, st.sto ++ [.list ((sq b).map sqD)]⟩) : W (F_squares_of [.tup [.int b.t, .int b.l, .int b.h, .int b.w, .str x]]) st Q := by
  have hsl : (1000 : Nat) ≤ sizeLine := by decide
  unfold Bx.Good at g
  have hln : (sq b).length ≤ 400 := by
    rw [len_sq]
    have h1 : b.h.toNat ≤ 20 := by exact d_le (iLe fun hzz => linI [_, _, _, _] [lt1 (.n 20) x0, le1 (.n 0) x1, le1 (.a x1 x2) x3, le1 x3 (.n 20), eq1 x0 x2] (Eq.refl true) hzz g.1 g.2.2.2.2.1 hR (tn_eq (iLe fun hyy => linI [_] [lt1 x0 (.n 0), le1 (.n 1) x0] (Eq.refl true) hyy g.2.2.1)))
    have h2 : b.w.toNat ≤ 20 := by exact d_le (iLe fun hzz => linI [_, _, _, _] [lt1 (.n 20) x0, le1 (.n 0) x1, le1 (.a x1 x2) x3, le1 x3 (.n 20), eq1 x0 x2] (Eq.refl true) hzz g.2.1 g.2.2.2.2.2 hC (tn_eq (iLe fun hyy => linI [_] [lt1 x0 (.n 0), le1 (.n 1) x0] (Eq.refl true) hyy g.2.2.2.1)))
    exact Nat.mul_le_mul h1 h2
  generalize hd : D.tup [.int b.t, .int b.l, .int b.h, .int b.w, .str x] = d
  have hloc : upd (bindP emptyL [0] [d]) 1 (.ref st.sto.length) = qS d st.sto.length none none := by
    funext i; rcases i with _ | _ | _ | _ | i <;> rfl
  have e0 : ∀ S : St, pIdx d (.int 0) S = .ok (.int b.t) S := fun S => by rw [← hd]; rfl
  have e1 : ∀ S : St, pIdx d (.int 1) S = .ok (.int b.l) S := fun S => by rw [← hd]; rfl
  have e2 : ∀ S : St, pIdx d (.int 2) S = .ok (.int b.h) S := fun S => by rw [← hd]; rfl
  have e3 : ∀ S : St, pIdx d (.int 3) S = .ok (.int b.w) S := fun S => by rw [← hd]; rfl
  refine W_mkFn rfl ?_
  unfold d_squares_of
  refine W_seq1 (st1 := ⟨qS d st.sto.length none none, st.sto ++ [.list []]⟩) (by rw [← hloc]; rfl) ?_
  refine W_seqW (W_bnd.mpr (W_run (a := ⟨rngL b.t 1 b.h.toNat, fun _ => True⟩) (st1 := ⟨qS d st.sto.length none none, st.sto ++ [.list []]⟩) (run_bnd (b := [.int b.t, .int (b.t + b.h)]) (run_bnd (run_bin rfl rfl (e0 _)) (run_bnd (run_bnd (run_bin (run_bin rfl rfl (e0 _)) (run_bin rfl rfl (e2 _)) rfl) (run_bnd rfl rfl)) rfl)) (run_of (W_range2.mpr ⟨by simp only [Bool.and_eq_true, okR_iff]; exact ⟨⟨iLe fun hzz => linI [_] [lt1 x0 (.s (.n 0) (.n 1099511627776)), le1 (.n 0) x0] (Eq.refl true) hzz g.1, iLt fun hzz => linI [_, _, _] [le1 (.n 1099511627776) x0, le1 (.n 1) x1, le1 (.a x0 x1) x2, le1 x2 (.n 20)] (Eq.refl true) hzz g.2.2.1 g.2.2.2.2.1 hR⟩, ⟨iLe fun hzz => linI [_, _] [lt1 (.a x0 x1) (.s (.n 0) (.n 1099511627776)), le1 (.n 0) x0, le1 (.n 1) x1] (Eq.refl true) hzz g.1 g.2.2.1, iLt fun hzz => linI [_, _, _] [le1 (.n 1099511627776) (.a x0 x1), le1 (.a x0 x1) x2, le1 x2 (.n 20)] (Eq.refl true) hzz g.2.2.2.2.1 hR⟩⟩, by rw [show b.t + b.h - b.t = b.h by exact iEq (fun hzz => linI [_, _] [lt1 (.s (.a x0 x1) x0) x1] (Eq.refl true) hzz) (fun hzz => linI [_, _] [lt1 x1 (.s (.a x0 x1) x0)] (Eq.refl true) hzz)], rfl⟩))) ?_))
  refine W_forM (fun rem st' => ∃ (is : List Nat) (dl : List (List Int)) (a c : Option D), st' = ⟨qS d st.sto.length a c, st.sto ++ [.list (dl.map sqD)]⟩ ∧ rem = is.map (fun (i : Nat) => D.int (b.t + (i : Int) * 1)) ∧ dl ++ is.flatMap (fun (i : Nat) => sqRow b.l b.w.toNat (b.t + (i : Int))) = sq b) ?_ ?_ _ _ ⟨List.range b.h.toNat, [], none, none, rfl, rfl, rfl⟩
  · rintro d' rest _ ⟨is, dl, a, c, rfl, hrem, he⟩
    cases is with
    | nil => cases hrem
    | cons i is =>
      cases hrem
      rw [List.flatMap_cons, ← List.append_assoc] at he
      refine ⟨trivial, qS d st.sto.length (some (.int (b.t + (i : Int)))) c, by show some (upd _ 2 (D.int (b.t + (i : Int) * 1))) = _; rw [Int.mul_one]; exact congrArg some qS_2, ?_⟩
      refine W_seqW (W_bnd.mpr (W_run (a := ⟨rngL b.l 1 b.w.toNat, fun _ => True⟩) (st1 := ⟨qS d st.sto.length (some (.int (b.t + (i : Int)))) c, st.sto ++ [.list (dl.map sqD)]⟩) (run_bnd (b := [.int b.l, .int (b.l + b.w)]) (run_bnd (run_bin rfl rfl (e1 _)) (run_bnd (run_bnd (run_bin (run_bin rfl rfl (e1 _)) (run_bin rfl rfl (e3 _)) rfl) (run_bnd rfl rfl)) rfl)) (run_of (W_range2.mpr ⟨by simp only [Bool.and_eq_true, okR_iff]; exact ⟨⟨iLe fun hzz => linI [_] [lt1 x0 (.s (.n 0) (.n 1099511627776)), le1 (.n 0) x0] (Eq.refl true) hzz g.2.1, iLt fun hzz => linI [_, _, _] [le1 (.n 1099511627776) x0, le1 (.n 1) x1, le1 (.a x0 x1) x2, le1 x2 (.n 20)] (Eq.refl true) hzz g.2.2.2.1 g.2.2.2.2.2 hC⟩, ⟨iLe fun hzz => linI [_, _] [lt1 (.a x0 x1) (.s (.n 0) (.n 1099511627776)), le1 (.n 0) x0, le1 (.n 1) x1] (Eq.refl true) hzz g.2.1 g.2.2.2.1, iLt fun hzz => linI [_, _, _] [le1 (.n 1099511627776) (.a x0 x1), le1 (.a x0 x1) x2, le1 x2 (.n 20)] (Eq.refl true) hzz g.2.2.2.2.2 hC⟩⟩, by rw [show b.l + b.w - b.l = b.w by exact iEq (fun hzz => linI [_, _] [lt1 (.s (.a x0 x1) x0) x1] (Eq.refl true) hzz) (fun hzz => linI [_, _] [lt1 x1 (.s (.a x0 x1) x0)] (Eq.refl true) hzz)], rfl⟩))) ?_))
      refine W_forM (fun rem st' => ∃ (js : List Nat) (dl2 : List (List Int)) (c : Option D), st' = ⟨qS d st.sto.length (some (.int (b.t + (i : Int)))) c, st.sto ++ [.list (dl2.map sqD)]⟩ ∧ rem = js.map (fun (j : Nat) => D.int (b.l + (j : Int) * 1)) ∧ dl2 ++ js.map (fun (j : Nat) => [b.t + (i : Int), b.l + (j : Int)]) = dl ++ sqRow b.l b.w.toNat (b.t + (i : Int))) ?_ ?_ _ _ ⟨List.range b.w.toNat, dl, c, rfl, rfl, rfl⟩
      · rintro d' rest' _ ⟨js, dl2, c, rfl, hrem, he2⟩
        cases js with
        | nil => cases hrem
        | cons j js =>
          cases hrem
          have hl2 : dl2.length ≤ 400 := by
            have h1 := congrArg List.length he2
            have h2 := congrArg List.length he
            simp only [List.length_append, List.length_map, List.length_cons] at h1 h2
            exact nLe fun hzz => linN [_, _, _, _, _, _] [lt1 (.n 400) x0, le1 x1 (.n 400), eq1 (.a x0 (.a x2 (.n 1))) (.a x3 x4), eq1 (.a (.a x3 x4) x5) x1, le1 (.n 0) x2, le1 (.n 0) x5] (Eq.refl true) hzz hln h1 h2 (Nat.zero_le _) (Nat.zero_le _)
          refine ⟨trivial, qS d st.sto.length (some (.int (b.t + (i : Int)))) (some (.int (b.l + (j : Int)))), by show some (upd _ 3 (D.int (b.l + (j : Int) * 1))) = _; rw [Int.mul_one]; exact congrArg some qS_3, ?_⟩
          refine W_seqW (W_bnd.mpr (W_bnd.mpr (W_run rfl (W_lst.mpr ⟨⟨_, List.getElem?_concat_length⟩, W_bnd.mpr (W_run (a := sqD [b.t + (i : Int), b.l + (j : Int)]) rfl (W_append.mpr ⟨_, List.getElem?_concat_length, by rw [List.length_map]; exact nLe fun hzz => linN [_, _] [lt1 x0 x1, le1 (.n 1000) x0, le1 x1 (.n 400)] (Eq.refl true) hzz hsl hl2, W_run rfl (W_run rfl ?_)⟩))⟩))))
          exact ⟨js, dl2 ++ [[b.t + (i : Int), b.l + (j : Int)]], _, by rw [List.map_append, set_last]; rfl, rfl, by rw [← he2, List.append_assoc]; rfl⟩
      · rintro _ ⟨js, dl2, c, rfl, hrem, he2⟩
        cases js with
        | cons j js => cases hrem
        | nil =>
          rw [List.map_nil, List.append_nil] at he2
          exact ⟨trivial, W_run rfl ⟨is, dl2, _, c, rfl, rfl, by rw [he2]; exact he⟩⟩
  · rintro _ ⟨is, dl, a, c, rfl, hrem, he⟩
    cases is with
    | cons i is => cases hrem
    | nil =>
      rw [List.flatMap_nil, List.append_nil] at he
      subst he
      exact ⟨trivial, W_seqR rfl hQ⟩
end Mine

end

/- part S04 -/
section
set_option Elab.async false
set_option linter.unusedVariables false
set_option linter.unusedSimpArgs false
set_option maxRecDepth 10000
namespace Mine
open PySem PyProof.Rows PySem.Builtin.Str
theorem rng5 {n : Nat} {j : Nat} (h : j < (Builtin.Range.rangeSize 5 n 2).toNat) : 5 + (j : Int) * 2 < n := by
  unfold Builtin.Range.rangeSize at h
  rw [if_pos (by decide)] at h
  split at h <;> omega
theorem rng5_len (n : Nat) (h : n ≤ 63) : (Builtin.Range.rangeSize 5 n 2).toNat ≤ 31 := by
  unfold Builtin.Range.rangeSize
  rw [if_pos (by decide)]
  split <;> omega
/-- the text of a cell of law 04 -/
noncomputable def TxL (x : Str) : Prop := (cl x).all plain = true ∧ x.length ≤ 6 ∧ (cl x).getLast? ≠ some 32
theorem W_cells {ns : List Int} (hn : ns.length ≤ 63) {R C : Int} (hR : 1 ≤ R) (hR2 : R ≤ 20) (hC : 1 ≤ C) (hC2 : C ≤ 20) {st : St} {Q : D → St → Prop} (hQ : ∀ (cs : List Ce) (j : Sto), Til R C (cs.map (·.b)) → Cov R C (cs.map (·.b)) → (∀ c, c ∈ cs → TxL c.x) → 1 ≤ cs.length → cs.length ≤ 125 → Q (.ref (st.sto ++ j).length) ⟨st.loc, st.sto ++ j ++ [.list (cs.map ceD)]⟩) : W (F__law_cells [.scr ns, .int R, .int C]) st Q := by
  have hsl : (1000 : Nat) ≤ sizeLine := by decide
  have hl62 : ns.length < 2 ^ 62 := by exact nLt fun hzz => linN [_] [le1 (.n 4611686018427387904) x0, le1 x0 (.n 63)] (Eq.refl true) hzz hn
  have hloc : upd (bindP emptyL [0, 1, 2] [.scr ns, .int R, .int C]) 3 (.ref st.sto.length) = cL ns R C st.sto.length none none none := by
    funext i; rcases i with _ | _ | _ | _ | _ | _ | _ | i <;> rfl
  obtain ⟨w1, w2⟩ := whole_ok (R := R) (C := C) hR hC
  have hr0 := rng5_len ns.length hn
  refine W_mkFn rfl ?_
  unfold d__law_cells
  refine W_seq1 (st1 := ⟨cL ns R C st.sto.length none none none, st.sto ++ [.list [.tup [.int 0, .int 0, .int R, .int C]]]⟩) (by rw [← hloc]; rfl) (W_seqW (W_bnd.mpr (W_run (run_bnd (run_bnd rfl (run_bnd (run_bnd (run_bnd rfl (if_app hl62)) rfl) rfl)) (run_of (W_range3.mpr ⟨?_, rfl, rfl⟩))) ?_)))
  · simp only [Bool.and_eq_true, okR_iff, decide_eq_true_eq]; exact ⟨⟨⟨iLe fun hzz => linI [] [lt1 (.n 5) (.s (.n 0) (.n 1099511627776))] (Eq.refl true) hzz, iLt fun hzz => linI [] [le1 (.n 1099511627776) (.n 5)] (Eq.refl true) hzz⟩, ⟨iLe fun hzz => linI [_] [lt1 x0 (.s (.n 0) (.n 1099511627776)), le1 (.n 0) x0] (Eq.refl true) hzz (cast_nn _), iLt fun hzz => linI [_] [le1 (.n 1099511627776) x0, le1 x0 (.n 63)] (Eq.refl true) hzz (c_le hn)⟩⟩, ⟨iLe fun hzz => linI [] [lt1 (.n 2) (.n 1)] (Eq.refl true) hzz, iLt fun hzz => linI [] [le1 (.n 1000) (.n 2)] (Eq.refl true) hzz⟩⟩
  refine W_forM (fun rem st' => ∃ bs j k x y z, st' = ⟨cL ns R C k x y z, st.sto ++ j⟩ ∧ (st.sto ++ j)[k]? = some (.list (bs.map bxD)) ∧ Til R C bs ∧ Cov R C bs ∧ 1 ≤ bs.length ∧ bs.length + 4 * rem.length ≤ 125 ∧ ∀ d, d ∈ rem → d ∈ rngL 5 2 (Builtin.Range.rangeSize 5 ns.length 2).toNat) ?_ ?_ _ _ ⟨[⟨0, 0, R, C⟩], [.list [.tup [.int 0, .int 0, .int R, .int C]]], st.sto.length, none, none, none, rfl, List.getElem?_concat_length, w1, w2, Nat.le_refl 1, by show 1 + 4 * (rngL _ _ _).length ≤ 125; rw [rngL_len]; exact nLe fun hzz => linN [_] [lt1 (.n 125) (.a (.n 1) (.m 4 x0)), leW 4 x0 (.n 31)] (Eq.refl true) hzz hr0, fun d m => m⟩
  · rintro d rest _ ⟨bs, j, k, x, y, z, rfl, hk, ht, hv, hb1, hb2, hm⟩
    obtain ⟨i, hi, rfl⟩ := rngL_mem (hm d List.mem_cons_self)
    have hlt := rng5 hi
    rw [List.length_cons] at hb2
    refine ⟨trivial, _, rfl, ?_⟩
    show W _ ⟨upd (cL ns R C k x y z) 4 _, st.sto ++ j⟩ _
    rw [cL_k]
    refine (W_cellsIn hn (by omega) hlt hk ht hv hb1 (by exact nLe fun hzz => linN [_, _] [lt1 (.n 300) x0, le1 (.a x0 (.m 4 (.a x1 (.n 1)))) (.n 125), leW 4 (.n 0) x1] (Eq.refl true) hzz hb2 (Nat.zero_le _))).mono ?_
    rintro fl _ ⟨rfl, bs', j', l, y, rfl, hk', ht', hv', h1', h2'⟩
    rw [List.append_assoc] at hk' ⊢
    exact ⟨bs', j ++ j', l, _, y, z, rfl, hk', ht', hv', h1', by exact nLe fun hzz => linN [_, _, _] [lt1 (.n 125) (.a x1 (.m 4 x0)), le1 (.a x2 (.m 4 (.a x0 (.n 1)))) (.n 125), le1 x1 (.a x2 (.n 4))] (Eq.refl true) hzz hb2 h2', fun d m => hm d (List.mem_cons_of_mem _ m)⟩
  · rintro _ ⟨bs, j, k, x, y, z, rfl, hk, ht, hv, hb1, hb2, hm⟩
    have hb3 : bs.length ≤ 125 := by exact nLe fun hzz => linN [_, _] [lt1 (.n 125) x0, le1 (.a x0 (.m 4 x1)) (.n 125), leW 4 (.n 0) x1] (Eq.refl true) hzz hb2 (Nat.zero_le _)
    refine ⟨trivial, W_seqW (W_bnd.mpr (W_bnd.mpr (W_run (run_bnd rfl (run_of (W_enum.mpr ⟨_, hk, rfl, rfl⟩))) ?_)))⟩
    refine W_compD (fun _ => true) (fun d x _ => ∃ (i : Int) (b : Bx) (y : Str), d = .tup [.int i, bxD b] ∧ x = ceD ⟨b, y⟩ ∧ TxL y) (fun l => l 0 = some (.scr ns)) (by show (enumed _).length ≤ _; rw [enumed_len, List.length_map]; exact nLe fun hzz => linN [_, _] [lt1 x0 x1, le1 (.n 1000) x0, le1 x1 (.n 125)] (Eq.refl true) hzz hsl hb3) (fun _ _ _ _ _ h => h) (fun σ' hx => hx.get hk) rfl (fun d hd l' σ' hA hx => ?_) fun xs σ' hx r => ?_
    · obtain ⟨i, b, hi, hb, rfl⟩ := enumed_mem hd
      have hr := fmod_range (a := (i : Int)) (b := 7) (by decide)
      refine ⟨upd (upd l' 4 (.int i)) 6 (bxD b), rfl, hA, W_run rfl ⟨rfl, rfl, .refl _, fun _ => W_bin (W_run rfl (W_bnd.mpr (W_bnd.mpr (W_bnd.mpr (W_bnd.mpr (W_bin (W_bnd.mpr ?_)))))))⟩⟩
      refine W_run (run_bnd (run_var (i := 0) hA) (run_bnd (run_bnd (run_bin rfl (run_bin rfl rfl (run_mul (by rw [small64_of (by decide) (by decide)]; rfl))) rfl) rfl) rfl)) (W_at (by exact iLe fun hzz => linI [_] [lt1 (.a (.n 6) (.m 2 x0)) (.n 0), leW 2 (.n 0) x0] (Eq.refl true) hzz (cast_nn _)) (by exact iLt fun hzz => linI [_, _] [le1 (.n 9223372036854775808) (.a (.n 6) (.m 2 x0)), leW 2 x1 (.n 125), ltW 2 x0 x1] (Eq.refl true) hzz (c_le hb3) (c_lt hi)) hl62 (W_run rfl (W_run rfl (W_run rfl (W_line (by exact iLe fun hzz => linI [_] [lt1 x0 (.n 0), le1 (.n 0) x0] (Eq.refl true) hzz hr.1) (by exact iLe fun hzz => linI [_] [lt1 (.n 300) x0, lt1 x0 (.n 7)] (Eq.refl true) hzz hr.2) fun y jj h1 h2 h3 => W_run rfl (W_run rfl ?_))))))
      exact W_run rfl ⟨rfl, .app _ _, i, b, y, rfl, rfl, h1, by exact d_le (iLe fun hzz => linI [_, _] [lt1 (.n 6) x0, lt1 x1 (.n 7), le1 x0 x1] (Eq.refl true) hzz hr.2 h2), h3⟩
    · rw [filter_all] at r
      obtain ⟨cs, rfl, hbs, hct⟩ := enumed_cells r
      obtain ⟨j', rfl⟩ := hx
      have hcl : cs.length = bs.length := by rw [← hbs, List.length_map]
      have := hQ cs (j ++ j') (by rw [hbs]; exact ht) (by rw [hbs]; exact hv) hct (by exact nLe fun hzz => linN [_, _] [lt1 x0 (.n 1), le1 (.n 1) x1, qe1 x0 x1] (Eq.refl true) hzz hb1 hcl) (by exact nLe fun hzz => linN [_, _] [lt1 (.n 125) x0, le1 x1 (.n 125), eq1 x0 x1] (Eq.refl true) hzz hb3 hcl)
      rw [← List.append_assoc] at this
      exact W_run rfl this
theorem TxL.good {x : Str} (h : TxL x) : goodP (cl x) = true := good_line (l := cl x) ⟨h.1, h.2.2⟩ (by rw [cl_length]; have := h.2.1; exact nLe fun hzz => linN [_] [lt1 (.n 200) x0, le1 x0 (.n 6)] (Eq.refl true) hzz this)
end Mine

end

/- part P04 -/
section
set_option Elab.async false
set_option linter.unusedVariables false
set_option linter.unusedSimpArgs false
set_option maxRecDepth 10000
namespace Mine
open PySem PyProof.Rows PySem.Builtin.Str
theorem run_andM {m n : Mn Bool} {a b : Bool} {S : St} (e1 : m S = .ok a S) (e2 : n S = .ok b S) : andM m n S = .ok (a && b) S := run_bnd e1 (by cases a <;> first | exact e2 | rfl)
theorem run_orM {m n : Mn Bool} {a b : Bool} {S : St} (e1 : m S = .ok a S) (e2 : n S = .ok b S) : orM m n S = .ok (a || b) S := run_bnd e1 (by cases a <;> first | exact e2 | rfl)
theorem run_andV {m n : Mn D} {a b : Bool} {S : St} (e1 : m S = .ok (.bool a) S) (e2 : n S = .ok (.bool b) S) : andV m n S = .ok (.bool (a && b)) S := by
  refine run_of (W_andV.mpr (W_run e1 (W_run (a := a) rfl ?_)))
  cases a with
  | true => exact W_run e2 ⟨rfl, rfl⟩
  | false => exact ⟨rfl, rfl⟩
/-! whole numbers, sizes -/
noncomputable def wh : D → Bool
  | .int _ => true
  | _ => false
noncomputable def plainD : D → Bool
  | .ref _ => false
  | .exc _ => false
  | _ => true
theorem run_wh {d : D} (h : plainD d = true) {S : St} : F_is_whole [d] S = .ok (.bool (wh d)) S := by
  cases d <;> first | exact run_of (W_mkFn rfl (W_seqR rfl ⟨rfl, rfl⟩)) | cases h
noncomputable def sizeB : D → Bool
  | .int n => decide (1 ≤ n) && decide (n ≤ 20)
  | _ => false
theorem run_size {d : D} (h : plainD d = true) {S : St} : F_is_size [d] S = .ok (.bool (sizeB d)) S := by
  refine run_of (W_mkFn rfl ?_)
  unfold d_is_size
  refine W_seqW (W_bnd.mpr ?_)
  cases d with
  | int n => exact W_run (run_andV (run_bnd rfl (run_wh rfl)) (run_andV (run_bin rfl rfl rfl) (run_bin rfl rfl rfl))) (W_run rfl ⟨rfl, rfl⟩)
  | ref k => cases h
  | exc k => cases h
  | none => exact W_andV.mpr (W_run (run_bnd rfl (run_wh rfl)) (W_run rfl (W_run rfl ⟨rfl, rfl⟩)))
  | bool k => exact W_andV.mpr (W_run (run_bnd rfl (run_wh rfl)) (W_run rfl (W_run rfl ⟨rfl, rfl⟩)))
  | str k => exact W_andV.mpr (W_run (run_bnd rfl (run_wh rfl)) (W_run rfl (W_run rfl ⟨rfl, rfl⟩)))
  | tup k => exact W_andV.mpr (W_run (run_bnd rfl (run_wh rfl)) (W_run rfl (W_run rfl ⟨rfl, rfl⟩)))
  | scr k => exact W_andV.mpr (W_run (run_bnd rfl (run_wh rfl)) (W_run rfl (W_run rfl ⟨rfl, rfl⟩)))
/-! lies_in -/
noncomputable def liesB (R C : Int) : D → D → D → D → Bool
  | .int t, .int l, .int h, .int w => !(decide (t < 0) || (decide (l < 0) || (decide (h < 1) || decide (w < 1)))) && (decide (t + h ≤ R) && decide (l + w ≤ C))
  | _, _, _, _ => false
theorem lies_wh {R C : Int} {a b c e : D} (h : [a, b, c, e].all wh = false) : liesB R C a b c e = false := by
  cases a <;> first | rfl | skip
  cases b <;> first | rfl | skip
  cases c <;> first | rfl | skip
  cases e <;> first | rfl | cases h
theorem wh_int {d : D} (h : wh d = true) : ∃ i, d = .int i := by
  cases d <;> first | exact ⟨_, rfl⟩ | cases h
theorem lies_good {R C : Int} {b : Bx} (g : b.Good R C) : liesB R C (.int b.t) (.int b.l) (.int b.h) (.int b.w) = true := by
  unfold Bx.Good at g
  unfold liesB
  simp only [Bool.and_eq_true, Bool.not_eq_true', Bool.or_eq_false_iff, decide_eq_false_iff_not, decide_eq_true_eq]
  omega
theorem lies_bad {R C t l h w : Int} (g : t < 0 ∨ l < 0 ∨ h < 1 ∨ w < 1 ∨ R < t + h ∨ C < l + w) : liesB R C (.int t) (.int l) (.int h) (.int w) = false := by
  unfold liesB
  rw [Bool.eq_false_iff]
  simp only [ne_eq, Bool.and_eq_true, Bool.not_eq_true', Bool.or_eq_false_iff, decide_eq_false_iff_not, decide_eq_true_eq]
  omega
noncomputable def lJ (R C : Int) (a b c e : D) (x : Option D) : Loc := locOf [some (.int R), some (.int C), some a, some b, some c, some e, x]
theorem lJ_6 {R C : Int} {a b c e : D} {x : Option D} {d : D} : upd (lJ R C a b c e x) 6 d = lJ R C a b c e (some d) := upd_locOf (by show 6 < 7; decide)
theorem run_lies {R C : Int} {a b c e : D} (ha : plainD a = true) (hb : plainD b = true) (hc : plainD c = true) (he : plainD e = true) {st : St} : F_lies_in [.int R, .int C, a, b, c, e] st = .ok (.bool (liesB R C a b c e)) st := by
  have hloc : bindP emptyL [0, 1, 2, 3, 4, 5] [.int R, .int C, a, b, c, e] = lJ R C a b c e none := by
    funext i; rcases i with _ | _ | _ | _ | _ | _ | _ | i <;> rfl
  refine run_of (W_mkFn rfl ?_)
  rw [hloc]
  unfold d_lies_in
  refine W_seqW (W_bnd.mpr (W_run (a := ⟨[a, b, c, e], fun _ => True⟩) (st1 := ⟨lJ R C a b c e none, st.sto⟩) rfl ?_))
  refine W_forM (fun rem st' => ∃ x : Option D, st' = ⟨lJ R C a b c e x, st.sto⟩ ∧ (∀ d, d ∈ rem → plainD d = true) ∧ [a, b, c, e].all wh = rem.all wh) ?_ ?_ _ _ ⟨none, rfl, fun d m => ?_, rfl⟩
  · rintro d rest _ ⟨x, rfl, hm, hw⟩
    refine ⟨trivial, lJ R C a b c e (some d), congrArg some lJ_6, ?_⟩
    have t : (notM (bnd (bnd (consM (pvar 6) nilM) F_is_whole) truthyD)) ⟨lJ R C a b c e (some d), st.sto⟩ = .ok (!wh d) ⟨lJ R C a b c e (some d), st.sto⟩ := run_bnd (run_bnd (run_bnd rfl (run_wh (hm d List.mem_cons_self))) rfl) rfl
    rw [show (d :: rest).all wh = (wh d && rest.all wh) from rfl] at hw
    cases h : wh d with
    | true =>
      rw [h] at t hw
      exact W_seqW (W_ifF t rfl (W_run rfl (W_run rfl ⟨_, rfl, fun d m => hm d (List.mem_cons_of_mem _ m), by rw [hw]; rfl⟩)))
    | false =>
      rw [h] at t hw
      refine W_seqW (W_ifT t rfl (W_seqR rfl ?_))
      rw [lies_wh hw]
      exact ⟨rfl, rfl⟩
  · rintro _ ⟨x, rfl, _, hw⟩
    refine ⟨trivial, ?_⟩
    simp only [List.all_cons, List.all_nil, Bool.and_true, Bool.and_eq_true] at hw
    obtain ⟨t, rfl⟩ := wh_int hw.1
    obtain ⟨l, rfl⟩ := wh_int hw.2.1
    obtain ⟨h, rfl⟩ := wh_int hw.2.2.1
    obtain ⟨w, rfl⟩ := wh_int hw.2.2.2
    have t1 : (orM (cmpM pLt (pvar 2) (ret1 (.int 0))) (orM (cmpM pLt (pvar 3) (ret1 (.int 0))) (orM (cmpM pLt (pvar 4) (ret1 (.int 1))) (cmpM pLt (pvar 5) (ret1 (.int 1)))))) ⟨lJ R C (.int t) (.int l) (.int h) (.int w) x, st.sto⟩ = .ok (decide (t < 0) || (decide (l < 0) || (decide (h < 1) || decide (w < 1)))) ⟨lJ R C (.int t) (.int l) (.int h) (.int w) x, st.sto⟩ :=
      run_orM (run_cmp rfl rfl rfl rfl) (run_orM (run_cmp rfl rfl rfl rfl) (run_orM (run_cmp rfl rfl rfl rfl) (run_cmp rfl rfl rfl rfl)))
    have eL : liesB R C (.int t) (.int l) (.int h) (.int w) = (!(decide (t < 0) || (decide (l < 0) || (decide (h < 1) || decide (w < 1)))) && (decide (t + h ≤ R) && decide (l + w ≤ C))) := rfl
    rw [eL]
    cases q : (decide (t < 0) || (decide (l < 0) || (decide (h < 1) || decide (w < 1)))) with
    | true =>
      rw [q] at t1
      exact W_seqW (W_ifT t1 rfl (W_seqR rfl ⟨rfl, rfl⟩))
    | false =>
      rw [q] at t1
      refine W_seqW (W_ifF t1 rfl (W_run rfl (W_seqW (W_bnd.mpr (W_run (run_andV (run_bin (run_bin rfl rfl rfl) rfl rfl) (run_bin (run_bin rfl rfl rfl) rfl rfl)) (W_run rfl ⟨?_, rfl⟩))))))
      rw [Bool.not_false, Bool.true_and]
  · simp only [List.mem_cons, List.not_mem_nil, or_false] at m
    rcases m with rfl | rfl | rfl | rfl <;> assumption
/-! look_at -/
theorem run_cons {m : Mn D} {ms : Mn (List D)} {d : D} {ds : List D} {S S1 S2 : St} (e1 : m S = .ok d S1) (e2 : ms S1 = .ok ds S2) : consM m ms S = .ok (d :: ds) S2 := run_bnd e1 (run_bnd e2 rfl)
noncomputable def BadX (ad : Addr) (R C : Int) (σ : Sto) (d : D) : Prop := ∀ st : St, Kp σ st.sto → X (F_look_at [d, .int R, .int C]) st ad fun s => s.loc = st.loc ∧ Kp st.sto s.sto
noncomputable abbrev BadC := BadX 49
noncomputable abbrev BadT := BadX 61
noncomputable def OkC (R C : Int) (d : D) : Prop := ∀ st : St, W (F_look_at [d, .int R, .int C]) st fun v s => v = .none ∧ s.loc = st.loc ∧ Kp st.sto s.sto
theorem BadX.kp {ad : Addr} {R C : Int} {σ σ' : Sto} {d : D} (h : BadX ad R C σ d) (k : Kp σ σ') : BadX ad R C σ' d := fun st k2 => h st (k.trans k2)
theorem bad_type {R C : Int} {σ : Sto} {d : D} {T : String} (ht : ∀ σ', Kp σ σ' → tyD d σ' = some T) (hs : subB T "tuple" = false) : BadC R C σ d := fun st k => by
  have e : pIsi "tuple" d ⟨bindP emptyL [0, 1, 2] [d, .int R, .int C], st.sto⟩ = .ok (.bool false) ⟨bindP emptyL [0, 1, 2] [d, .int R, .int C], st.sto⟩ := by
    unfold pIsi; rw [ht _ k, ← hs]
  refine X_fn rfl ?_
  unfold d_look_at
  exact X_seq (X_ifT (t := true) (run_bnd (run_bnd (run_bnd (run_bnd rfl e) rfl) rfl) rfl) rfl (X_seq (X_raise ⟨rfl, .refl _⟩)))
theorem bad_list {R C : Int} {σ : Sto} {k : Nat} {ds : List D} (h : σ[k]? = some (.list ds)) : BadC R C σ (.ref k) :=
  bad_type (T := "list") (fun σ' kp => by show (match σ'[k]? with | some (.list _) => some "list" | some (.dict _) => some "dict" | _ => none) = _; rw [kp.2 _ _ h]) (by decide)
theorem bad_str {R C : Int} {σ : Sto} {x : Str} : BadC R C σ (.str x) := bad_type (T := "str") (fun σ' kp => rfl) (by decide)
theorem bad_none {R C : Int} {σ : Sto} : BadC R C σ .none := bad_type (T := "NoneType") (fun σ' kp => rfl) (by decide)
theorem bad_0 {R C : Int} {σ : Sto} : BadC R C σ (.tup []) := fun st k => by
  refine X_fn rfl ?_
  unfold d_look_at
  exact X_seq (X_ifT (t := true) rfl rfl (X_seq (X_raise ⟨rfl, .refl _⟩)))
theorem bad_4 {R C : Int} {σ : Sto} {a b c e : D} : BadC R C σ (.tup [a, b, c, e]) := fun st k => by
  refine X_fn rfl ?_
  unfold d_look_at
  exact X_seq (X_ifT (t := true) rfl rfl (X_seq (X_raise ⟨rfl, .refl _⟩)))
theorem bad_6 {R C : Int} {σ : Sto} {a b c e f g : D} : BadC R C σ (.tup [a, b, c, e, f, g]) := fun st k => by
  refine X_fn rfl ?_
  unfold d_look_at
  exact X_seq (X_ifT (t := true) rfl rfl (X_seq (X_raise ⟨rfl, .refl _⟩)))
theorem look_lies {R C : Int} {a b c e t : D} (ha : plainD a = true) (hb : plainD b = true) (hc : plainD c = true) (he : plainD e = true) {σ : Sto} :
    (notM (bnd (bnd (consM (pvar 1) (consM (pvar 2) (consM (binM pIdx (pvar 0) (ret1 (.int 0))) (consM (binM pIdx (pvar 0) (ret1 (.int 1))) (consM (binM pIdx (pvar 0) (ret1 (.int 2))) (consM (binM pIdx (pvar 0) (ret1 (.int 3))) nilM)))))) F_lies_in) truthyD)) ⟨bindP emptyL [0, 1, 2] [.tup [a, b, c, e, t], .int R, .int C], σ⟩ = .ok (!liesB R C a b c e) ⟨bindP emptyL [0, 1, 2] [.tup [a, b, c, e, t], .int R, .int C], σ⟩ := by
  have v0 : (⟨bindP emptyL [0, 1, 2] [.tup [a, b, c, e, t], .int R, .int C], σ⟩ : St).loc 0 = some (.tup [a, b, c, e, t]) := rfl
  have v1 : (⟨bindP emptyL [0, 1, 2] [.tup [a, b, c, e, t], .int R, .int C], σ⟩ : St).loc 1 = some (.int R) := rfl
  have v2 : (⟨bindP emptyL [0, 1, 2] [.tup [a, b, c, e, t], .int R, .int C], σ⟩ : St).loc 2 = some (.int C) := rfl
  generalize (⟨bindP emptyL [0, 1, 2] [.tup [a, b, c, e, t], .int R, .int C], σ⟩ : St) = S at v0 v1 v2 ⊢
  have h := run_lies (R := R) (C := C) ha hb hc he (st := S)
  generalize liesB R C a b c e = r at h ⊢
  have i0 : binM pIdx (pvar 0) (ret1 (.int 0)) S = .ok a S := run_bin (run_var v0) rfl rfl
  have i1 : binM pIdx (pvar 0) (ret1 (.int 1)) S = .ok b S := run_bin (run_var v0) rfl rfl
  have i2 : binM pIdx (pvar 0) (ret1 (.int 2)) S = .ok c S := run_bin (run_var v0) rfl rfl
  have i3 : binM pIdx (pvar 0) (ret1 (.int 3)) S = .ok e S := run_bin (run_var v0) rfl rfl
  exact run_bnd (run_bnd (run_bnd (run_cons (run_var v1) (run_cons (run_var v2) (run_cons i0 (run_cons i1 (run_cons i2 (run_cons i3 rfl)))))) h) rfl) rfl
theorem bad_box {R C : Int} {σ : Sto} {a b c e t : D} (ha : plainD a = true) (hb : plainD b = true) (hc : plainD c = true) (he : plainD e = true) (h : liesB R C a b c e = false) : BadC R C σ (.tup [a, b, c, e, t]) := fun st k => by
  have t1 := look_lies (R := R) (C := C) (t := t) ha hb hc he (σ := st.sto)
  rw [h] at t1
  refine X_fn rfl ?_
  unfold d_look_at
  exact X_seqW (W_ifF (b := false) rfl rfl (W_run rfl ⟨rfl, X_seq (X_ifT t1 rfl (X_seq (X_raise ⟨rfl, .refl _⟩)))⟩))
theorem look_text {R C : Int} {b : Bx} (g : b.Good R C) {t : D} {st : St} {r : Bool} (hg : ∀ S : St, S.sto = st.sto → W (F_is_good [t]) S fun d s => d = .bool r ∧ s.loc = S.loc ∧ Kp S.sto s.sto) :
    (r = true → W (F_look_at [.tup [.int b.t, .int b.l, .int b.h, .int b.w, t], .int R, .int C]) st fun v s => v = .none ∧ s.loc = st.loc ∧ Kp st.sto s.sto) ∧ (r = false → X (F_look_at [.tup [.int b.t, .int b.l, .int b.h, .int b.w, t], .int R, .int C]) st 61 fun s => s.loc = st.loc ∧ Kp st.sto s.sto) := by
  have t1 := look_lies (R := R) (C := C) (t := t) (a := .int b.t) (b := .int b.l) (c := .int b.h) (e := .int b.w) rfl rfl rfl rfl (σ := st.sto)
  rw [lies_good g] at t1
  obtain ⟨d, ⟨l, σ'⟩, e, rfl, hl, hk⟩ := hg ⟨bindP emptyL [0, 1, 2] [.tup [.int b.t, .int b.l, .int b.h, .int b.w, t], .int R, .int C], st.sto⟩ rfl
  cases hl
  have t2 : (notM (bnd (bnd (consM (binM pIdx (pvar 0) (ret1 (.int 4))) nilM) F_is_good) truthyD)) ⟨bindP emptyL [0, 1, 2] [.tup [.int b.t, .int b.l, .int b.h, .int b.w, t], .int R, .int C], st.sto⟩ = .ok (!r) ⟨bindP emptyL [0, 1, 2] [.tup [.int b.t, .int b.l, .int b.h, .int b.w, t], .int R, .int C], σ'⟩ := run_bnd (run_bnd (run_bnd rfl e) rfl) rfl
  refine ⟨fun hr => ?_, fun hr => ?_⟩
  · rw [hr] at t2
    refine W_mkFn rfl ?_
    unfold d_look_at
    exact W_seqW (W_ifF (b := false) rfl rfl (W_run rfl (W_seqW (W_ifF t1 rfl (W_run rfl (W_seqW (W_ifF t2 rfl (W_run rfl (W_run rfl ⟨rfl, rfl, hk⟩)))))))))
  · rw [hr] at t2
    refine X_fn rfl ?_
    unfold d_look_at
    exact X_seqW (W_ifF (b := false) rfl rfl (W_run rfl ⟨rfl, X_seqW (W_ifF t1 rfl (W_run rfl ⟨rfl, X_seq (X_ifT t2 rfl (X_seq (X_raise ⟨rfl, hk⟩)))⟩))⟩))
theorem good_run {x : Str} (hx : x.length ≤ 1000) (S : St) : W (F_is_good [.str x]) S fun d s => d = .bool (goodP (cl x)) ∧ s.loc = S.loc ∧ Kp S.sto s.sto := W_is_good hx fun j => ⟨rfl, rfl, .app _ _⟩
theorem ok_cell {R C : Int} {c : Ce} (g : c.b.Good R C) (h : TxL c.x) : OkC R C (ceD c) := fun st => (look_text g fun S _ => good_run (by have := h.2.1; omega) S).1 h.good
theorem bad_tx {R C : Int} {σ : Sto} {b : Bx} {x : Str} (g : b.Good R C) (hx : x.length ≤ 1000) (h : goodP (cl x) = false) : BadT R C σ (.tup [.int b.t, .int b.l, .int b.h, .int b.w, .str x]) := fun st k => (look_text g fun S _ => good_run hx S).2 h
theorem bad_txno {R C : Int} {σ : Sto} {b : Bx} {t : D} {T : String} (g : b.Good R C) (ht : ∀ σ', Kp σ σ' → tyD t σ' = some T) (hs : subB T "str" = false) : BadT R C σ (.tup [.int b.t, .int b.l, .int b.h, .int b.w, t]) := fun st k => (look_text (r := false) g fun S hS => by
  have e : pIsi "str" t ⟨bindP emptyL [0] [t], S.sto⟩ = .ok (.bool false) ⟨bindP emptyL [0] [t], S.sto⟩ := by
    unfold pIsi; rw [ht _ (by rw [hS]; exact k), ← hs]
  refine W_mkFn rfl ?_
  unfold d_is_good
  exact W_seqW (W_ifT (b := true) (run_bnd (run_bnd (run_bnd (run_bnd rfl e) rfl) rfl) rfl) rfl (W_seqR rfl ⟨rfl, rfl, .refl _⟩))).2 rfl
end Mine

end

/- part Q04 -/
section
set_option Elab.async false
set_option linter.unusedVariables false
set_option linter.unusedSimpArgs false
set_option maxRecDepth 10000
namespace Mine
open PySem PyProof.Rows PySem.Builtin.Str
/-! made: always refused -/
noncomputable def mL (R C : D) (kc : Nat) (a t b : Option D) : Loc := locOf [some R, some C, some (.ref kc), a, t, b]
section
variable {R C : D} {kc : Nat} {a t b : Option D} {x : D}
theorem mL_3 : upd (mL R C kc a t b) 3 x = mL R C kc (some x) t b := upd_locOf (by show 3 < 6; decide)
theorem mL_4 : upd (mL R C kc a t b) 4 x = mL R C kc a (some x) b := upd_locOf (by show 4 < 6; decide)
theorem mL_5 : upd (mL R C kc a t b) 5 x = mL R C kc a t (some x) := upd_locOf (by show 5 < 6; decide)
theorem mL_0 : bindP emptyL [0, 1, 2] [R, C, .ref kc] = mL R C kc none none none := by
  funext i; rcases i with _ | _ | _ | _ | _ | _ | i <;> rfl
end
theorem size_test {d1 d2 : D} {k : Nat} {σ : Sto} (h1 : plainD d1 = true) (h2 : plainD d2 = true) : (orM (notM (bnd (bnd (consM (pvar 0) nilM) F_is_size) truthyD)) (notM (bnd (bnd (consM (pvar 1) nilM) F_is_size) truthyD))) ⟨mL d1 d2 k none none none, σ⟩ = .ok (!sizeB d1 || !sizeB d2) ⟨mL d1 d2 k none none none, σ⟩ :=
  run_orM (run_bnd (run_bnd (run_bnd rfl (run_size h1)) rfl) rfl) (run_bnd (run_bnd (run_bnd rfl (run_size h2)) rfl) rfl)
theorem X_made_size {d1 d2 : D} {k : Nat} {st : St} (h1 : plainD d1 = true) (h2 : plainD d2 = true) (h : sizeB d1 = false ∨ sizeB d2 = false) : X (F_made [d1, d2, .ref k]) st 37 fun s => s.loc = st.loc ∧ Kp st.sto s.sto := by
  refine X_fn rfl ?_
  rw [mL_0]
  unfold d_made
  exact X_seq (X_ifT (size_test h1 h2) (by rcases h with h | h <;> simp [h]) (X_seq (X_raise ⟨rfl, .refl _⟩)))
section
variable {R C : Int} {k : Nat} {st : St} {ad : Addr}
theorem size_no (hR : 1 ≤ R) (hR2 : R ≤ 20) (hC : 1 ≤ C) (hC2 : C ≤ 20) : (!sizeB (.int R) || !sizeB (.int C)) = false := by simp [sizeB, hR, hR2, hC, hC2]
theorem X_made_item (hR : 1 ≤ R) (hR2 : R ≤ 20) (hC : 1 ≤ C) (hC2 : C ≤ 20) {pre rest : List D} {d : D} (hk : st.sto[k]? = some (.list (pre ++ d :: rest))) (hp : ∀ c, c ∈ pre → OkC R C c) (hb : BadX ad R C st.sto d) : X (F_made [.int R, .int C, .ref k]) st ad fun s => s.loc = st.loc ∧ Kp st.sto s.sto := by
  refine X_fn rfl ?_
  rw [mL_0]
  unfold d_made
  refine X_seqW (W_ifF (size_test rfl rfl) (size_no hR hR2 hC hC2) (W_run rfl ⟨rfl, X_seq (X_bndW (W_run (run_bnd rfl (run_of (W_srcR.mpr ⟨_, hk, rfl, rfl⟩))) ?_))⟩))
  refine X_forM (fun rem s => ∃ pr x σ', rem = pr ++ d :: rest ∧ s = ⟨mL (.int R) (.int C) k x none none, σ'⟩ ∧ Kp st.sto σ' ∧ ∀ c, c ∈ pr → OkC R C c) ?_ ?_ _ _ ⟨pre, none, st.sto, rfl, rfl, .refl _, hp⟩
  · rintro d' rest' _ ⟨pr, x, σ', hrem, rfl, kp, hpr⟩
    refine ⟨kp.2 _ _ hk, mL (.int R) (.int C) k (some d') none none, congrArg some mL_3, ?_⟩
    cases pr with
    | nil =>
      cases hrem
      left
      refine X_seq (X_bnd (X_bndW (W_run (a := [d, .int R, .int C]) rfl ?_)))
      obtain ⟨s, e, h1, h2⟩ := hb ⟨mL (.int R) (.int C) k (some d) none none, σ'⟩ kp
      exact ⟨s, e, rfl, kp.trans h2⟩
    | cons c pr =>
      cases hrem
      right
      obtain ⟨v, ⟨l, σ2⟩, e, rfl, hl, h2⟩ := hpr d' List.mem_cons_self ⟨mL (.int R) (.int C) k (some d') none none, σ'⟩
      cases hl
      exact W_seqW (W_run (run_bnd (run_bnd rfl e) rfl) (W_run rfl ⟨rfl, pr, _, σ2, rfl, rfl, kp.trans h2, fun c m => hpr c (List.mem_cons_of_mem _ m)⟩))
  · rintro _ ⟨pr, _, _, hrem, _⟩
    cases pr <;> cases hrem
/-! which squares are taken -/
noncomputable def takeIn : Mn Fl := (seqM (ifM (cmpM pIn (pvar 5) (pvar 4)) (seqM (raiseM 73) (ret1 .next)) (ret1 .next)) (seqM (setM pSetDL (ret1 (.bool true)) (pvar 4) (pvar 5)) (ret1 .next)))
noncomputable def takeRow : Mn Fl := (seqM (bnd (bnd (bnd (consM (pvar 3) nilM) F_squares_of) srcOf) fun src => forM (nameT 5) src.g takeIn src.ds) (ret1 .next))
theorem in_dict {x : List Int} {ks : List (List Int)} {σ : Sto} {kt : Nat} (hk : σ[kt]? = some (.dict ks)) (l : Loc) : pIn (sqD x) (.ref kt) ⟨l, σ⟩ = .ok (.bool (ks.contains x)) ⟨l, σ⟩ := by
  unfold sqD pIn
  simp only [hk, intsOf_map]
theorem set_dict {x : List Int} {ks : List (List Int)} {σ : Sto} {kt : Nat} (hk : σ[kt]? = some (.dict ks)) (hl : ks.length ≤ 200000) (hn : ks.contains x = false) (l : Loc) (v : D) : pSetDL (.ref kt) (sqD x) v ⟨l, σ⟩ = .ok .next ⟨l, σ.set kt (.dict (ks ++ [x]))⟩ := by
  show pSetD (.ref kt) (.tup (x.map D.int)) ⟨l, σ⟩ = _
  unfold pSetD
  simp only [hk, intsOf_map]
  rw [if_pos (Nat.le_trans hl (by decide))]
  unfold putK
  rw [hn]; rfl
variable {kt : Nat} {a b : Option D} {x : List Int} {ks : List (List Int)} {σ : Sto}
theorem W_takeIn (hk : σ[kt]? = some (.dict ks)) (hl : ks.length ≤ 200000) (hn : ks.contains x = false) :
    W takeIn ⟨mL (.int R) (.int C) k a (some (.ref kt)) (some (sqD x)), σ⟩ fun fl st' => fl = .next ∧ st' = ⟨mL (.int R) (.int C) k a (some (.ref kt)) (some (sqD x)), σ.set kt (.dict (ks ++ [x]))⟩ := by
  unfold takeIn
  refine W_seqI (run_cmp (t := ks.contains x) rfl rfl (in_dict hk _) rfl) (fun z => by rw [hn] at z; cases z) fun _ => W_run rfl (W_seq1 (run_bnd rfl (run_bnd rfl (run_bnd rfl (set_dict hk hl hn _ _)))) (W_run rfl ⟨rfl, rfl⟩))
theorem X_takeIn (hk : σ[kt]? = some (.dict ks)) (hn : ks.contains x = true) {Q : St → Prop} (hQ : Q ⟨mL (.int R) (.int C) k a (some (.ref kt)) (some (sqD x)), σ⟩) : X takeIn ⟨mL (.int R) (.int C) k a (some (.ref kt)) (some (sqD x)), σ⟩ 73 Q := by
  unfold takeIn
  exact X_seq (X_ifT (run_cmp (t := ks.contains x) rfl rfl (in_dict hk _) rfl) hn (X_seq (X_raise hQ)))
theorem not_in {dl xs : List (List Int)} (hn : (dl ++ x :: xs).Nodup) : dl.contains x = false := by
  cases q : dl.contains x with
  | false => rfl
  | true => exact absurd rfl ((List.nodup_append.mp hn).2.2 x (by simpa using q) x List.mem_cons_self)
theorem W_takeRow {c : Ce} (g : c.b.Good R C) (hR : R ≤ 20) (hC : C ≤ 20) (hk : σ[kt]? = some (.dict ks)) (hl : (ks ++ sq c.b).length ≤ 200000) (hn : (ks ++ sq c.b).Nodup) :
    W takeRow ⟨mL (.int R) (.int C) k (some (ceD c)) (some (.ref kt)) b, σ⟩ fun fl st' => fl = .next ∧ ∃ b' σ', st' = ⟨mL (.int R) (.int C) k (some (ceD c)) (some (.ref kt)) b', σ'⟩ ∧ Kp σ σ' ∧ σ'[kt]? = some (.dict (ks ++ sq c.b)) := by
  unfold takeRow
  refine W_seqW (W_bnd.mpr (W_bnd.mpr (W_bnd.mpr (W_run rfl (W_squares g hR hC (W_srcR.mpr ⟨_, List.getElem?_concat_length, ?_⟩))))))
  refine W_forM (fun rem st' => ∃ (xs dl : List (List Int)) (b' : Option D) (σ' : Sto), st' = ⟨mL (.int R) (.int C) k (some (ceD c)) (some (.ref kt)) b', σ'⟩ ∧ rem = xs.map sqD ∧ dl ++ xs = ks ++ sq c.b ∧ Kp (σ ++ [.list ((sq c.b).map sqD)]) σ' ∧ σ'[kt]? = some (.dict dl)) ?_ ?_ _ _ ⟨sq c.b, ks, b, _, rfl, rfl, rfl, .refl _, (Ext.app _ _).get hk⟩
  · rintro d rest _ ⟨xs, dl, b', σ', rfl, hrem, he, k', hk'⟩
    cases xs with
    | nil => cases hrem
    | cons x xs =>
      cases hrem
      refine ⟨k'.2 _ _ List.getElem?_concat_length, mL (.int R) (.int C) k (some (ceD c)) (some (.ref kt)) (some (sqD x)), congrArg some mL_5, (W_takeIn hk' ?_ ?_).mono ?_⟩
      · rw [← he, List.length_append] at hl; exact nLe fun hzz => linN [_, _] [lt1 (.n 200000) x0, le1 (.a x0 x1) (.n 200000), le1 (.n 0) x1] (Eq.refl true) hzz hl (Nat.zero_le _)
      · rw [← he] at hn; exact not_in hn
      · rintro fl _ ⟨rfl, rfl⟩
        exact ⟨xs, dl ++ [x], _, _, rfl, rfl, by rw [← he, List.append_assoc]; rfl, k'.trans (Kp.setD hk'), List.getElem?_set_self (List.getElem?_eq_some_iff.mp hk').1⟩
  · rintro _ ⟨xs, dl, b', σ', rfl, hrem, he, k', hk'⟩
    cases xs with
    | cons x xs => cases hrem
    | nil =>
      rw [List.append_nil] at he
      subst he
      exact ⟨k'.2 _ _ List.getElem?_concat_length, W_run rfl ⟨rfl, b', σ', rfl, (Kp.app _ _).trans k', hk'⟩⟩
theorem X_takeRow {c : Ce} (g : c.b.Good R C) (hR : R ≤ 20) (hC : C ≤ 20) (hk : σ[kt]? = some (.dict ks)) (hl : (ks ++ sq c.b).length ≤ 200000) (h1 : ks.Nodup) (hn : ¬ (ks ++ sq c.b).Nodup) {Q : St → Prop} (hQ : ∀ s, Kp σ s.sto → Q s) :
    X takeRow ⟨mL (.int R) (.int C) k (some (ceD c)) (some (.ref kt)) b, σ⟩ 73 Q := by
  unfold takeRow
  refine X_seq (X_bndW (W_bnd.mpr (W_bnd.mpr (W_run rfl (W_squares g hR hC (W_srcR.mpr ⟨_, List.getElem?_concat_length, ?_⟩))))))
  refine X_forM (fun rem st' => ∃ (xs dl : List (List Int)) (b' : Option D) (σ' : Sto), st' = ⟨mL (.int R) (.int C) k (some (ceD c)) (some (.ref kt)) b', σ'⟩ ∧ rem = xs.map sqD ∧ dl ++ xs = ks ++ sq c.b ∧ dl.Nodup ∧ Kp (σ ++ [.list ((sq c.b).map sqD)]) σ' ∧ σ'[kt]? = some (.dict dl)) ?_ ?_ _ _ ⟨sq c.b, ks, b, _, rfl, rfl, rfl, h1, .refl _, (Ext.app _ _).get hk⟩
  · rintro d rest _ ⟨xs, dl, b', σ', rfl, hrem, he, hd, k', hk'⟩
    cases xs with
    | nil => cases hrem
    | cons x xs =>
      cases hrem
      refine ⟨k'.2 _ _ List.getElem?_concat_length, mL (.int R) (.int C) k (some (ceD c)) (some (.ref kt)) (some (sqD x)), congrArg some mL_5, ?_⟩
      cases q : dl.contains x with
      | true => exact .inl (X_takeIn hk' q (hQ _ ((Kp.app _ _).trans k')))
      | false =>
        right
        refine (W_takeIn hk' ?_ q).mono ?_
        · rw [← he, List.length_append] at hl; exact nLe fun hzz => linN [_, _] [lt1 (.n 200000) x0, le1 (.a x0 x1) (.n 200000), le1 (.n 0) x1] (Eq.refl true) hzz hl (Nat.zero_le _)
        rintro fl _ ⟨rfl, rfl⟩
        refine ⟨rfl, xs, dl ++ [x], _, _, rfl, rfl, by rw [← he, List.append_assoc]; rfl, ?_, k'.trans (Kp.setD hk'), List.getElem?_set_self (List.getElem?_eq_some_iff.mp hk').1⟩
        refine List.nodup_append.mpr ⟨hd, List.nodup_cons.mpr ⟨List.not_mem_nil, List.nodup_nil⟩, fun y my z mz e => ?_⟩
        rw [List.mem_singleton.mp mz] at e
        subst e
        have := List.contains_iff_mem.mpr my
        rw [q] at this
        cases this
  · rintro _ ⟨xs, dl, b', σ', _, hrem, he, hd, _⟩
    cases xs with
    | cons x xs => cases hrem
    | nil =>
      rw [List.append_nil] at he
      subst he
      exact hn hd
/-- squares in two cells, or too few -/
theorem X_made_sq (hR : 1 ≤ R) (hR2 : R ≤ 20) (hC : 1 ≤ C) (hC2 : C ≤ 20) {cs : List Ce} (hk : st.sto[k]? = some (.list (cs.map ceD))) (hok : ∀ c, c ∈ cs → c.b.Good R C ∧ TxL c.x) (hT : (cs.flatMap fun c => sq c.b).length ≤ 200000)
    (h : (¬ (cs.flatMap fun c => sq c.b).Nodup ∧ ad = 73) ∨ ((cs.flatMap fun c => sq c.b).Nodup ∧ (((cs.flatMap fun c => sq c.b).length : Nat) : Int) < R * C ∧ ad = 85)) : X (F_made [.int R, .int C, .ref k]) st ad fun s => s.loc = st.loc ∧ Kp st.sto s.sto := by
  refine X_fn rfl ?_
  rw [mL_0]
  unfold d_made
  refine X_seqW (W_ifF (size_test rfl rfl) (size_no hR hR2 hC hC2) (W_run rfl ⟨rfl, X_seqW (W_bnd.mpr (W_run (run_bnd rfl (run_of (W_srcR.mpr ⟨_, hk, rfl, rfl⟩))) ?_))⟩))
  refine W_forM (fun rem s => ∃ cr x σ', rem = cr.map ceD ∧ s = ⟨mL (.int R) (.int C) k x none none, σ'⟩ ∧ Kp st.sto σ' ∧ ∀ c, c ∈ cr → c ∈ cs) ?_ ?_ _ _ ⟨cs, none, st.sto, rfl, rfl, .refl _, fun _ m => m⟩
  · rintro d' rest' _ ⟨cr, x, σ', hrem, rfl, kp, hcr⟩
    cases cr with
    | nil => cases hrem
    | cons c cr =>
      cases hrem
      have ho := hok c (hcr c List.mem_cons_self)
      obtain ⟨v, ⟨l, σ2⟩, e, rfl, hl, h2⟩ := ok_cell ho.1 ho.2 ⟨mL (.int R) (.int C) k (some (ceD c)) none none, σ'⟩
      cases hl
      exact ⟨kp.2 _ _ hk, mL (.int R) (.int C) k (some (ceD c)) none none, congrArg some mL_3, W_seqW (W_run (run_bnd (run_bnd rfl e) rfl) (W_run rfl ⟨cr, _, σ2, rfl, rfl, kp.trans h2, fun c m => hcr c (List.mem_cons_of_mem _ m)⟩))⟩
  rintro _ ⟨cr, x, σ', _, rfl, kp, _⟩
  refine ⟨kp.2 _ _ hk, rfl, ?_⟩
  refine X_seqW (W_run (st1 := ⟨mL (.int R) (.int C) k x (some (.ref σ'.length)) none, σ' ++ [.dict []]⟩) (by rw [← mL_4 (t := none)]; rfl) ⟨rfl, ?_⟩)
  have kp2 := kp.trans (Kp.app σ' [.dict []])
  have hd : (σ' ++ [PO.dict []])[σ'.length]? = some (.dict []) := List.getElem?_concat_length
  generalize σ'.length = kt at hd ⊢
  generalize σ' ++ [PO.dict []] = σ0 at hd kp2 ⊢
  rcases h with ⟨hn, rfl⟩ | ⟨hn, hlt, rfl⟩
  · refine X_seq (X_bndW (W_run (run_bnd rfl (run_of (W_srcR.mpr ⟨_, kp2.2 _ _ hk, rfl, rfl⟩))) ?_))
    refine X_forM (fun rem s => ∃ (cr : List Ce) (ks : List (List Int)) (x b : Option D) (σ' : Sto), rem = cr.map ceD ∧ s = ⟨mL (.int R) (.int C) k x (some (.ref kt)) b, σ'⟩ ∧ Kp st.sto σ' ∧ σ'[kt]? = some (.dict ks) ∧ ks.Nodup ∧ ks ++ cr.flatMap (fun c => sq c.b) = cs.flatMap (fun c => sq c.b) ∧ ∀ c, c ∈ cr → c ∈ cs) ?_ ?_ _ _ ⟨cs, [], x, none, σ0, rfl, rfl, kp2, hd, List.nodup_nil, rfl, fun _ m => m⟩
    · rintro d' rest' _ ⟨cr, ks, x, b, σ1, hrem, rfl, kp, hk1, hns, he, hcr⟩
      cases cr with
      | nil => cases hrem
      | cons c cr =>
        cases hrem
        have ho := hok c (hcr c List.mem_cons_self)
        rw [List.flatMap_cons, ← List.append_assoc] at he
        have hl : (ks ++ sq c.b).length ≤ 200000 := by rw [← he, List.length_append] at hT; exact nLe fun hzz => linN [_, _] [lt1 (.n 200000) x0, le1 (.a x0 x1) (.n 200000), le1 (.n 0) x1] (Eq.refl true) hzz hT (Nat.zero_le _)
        refine ⟨kp.2 _ _ hk, mL (.int R) (.int C) k (some (ceD c)) (some (.ref kt)) b, congrArg some mL_3, ?_⟩
        by_cases q : (ks ++ sq c.b).Nodup
        · right
          refine (W_takeRow ho.1 hR2 hC2 hk1 hl q).mono ?_
          rintro fl _ ⟨rfl, b', σ2, rfl, k2, hk2⟩
          exact ⟨rfl, cr, ks ++ sq c.b, _, b', σ2, rfl, rfl, kp.trans k2, hk2, q, he, fun c m => hcr c (List.mem_cons_of_mem _ m)⟩
        · exact .inl (X_takeRow ho.1 hR2 hC2 hk1 hl hns q fun s ks => ⟨rfl, kp.trans ks⟩)
    · rintro _ ⟨cr, ks, _, _, _, hrem, _, _, _, hns, he, _⟩
      cases cr with
      | cons c cr => cases hrem
      | nil =>
        rw [List.flatMap_nil, List.append_nil] at he
        subst he
        exact hn hns
  · refine X_seqW (W_bnd.mpr (W_run (run_bnd rfl (run_of (W_srcR.mpr ⟨_, kp2.2 _ _ hk, rfl, rfl⟩))) ?_))
    refine W_forM (fun rem s => ∃ (cr : List Ce) (ks : List (List Int)) (x b : Option D) (σ' : Sto), rem = cr.map ceD ∧ s = ⟨mL (.int R) (.int C) k x (some (.ref kt)) b, σ'⟩ ∧ Kp st.sto σ' ∧ σ'[kt]? = some (.dict ks) ∧ ks ++ cr.flatMap (fun c => sq c.b) = cs.flatMap (fun c => sq c.b) ∧ ∀ c, c ∈ cr → c ∈ cs) ?_ ?_ _ _ ⟨cs, [], x, none, σ0, rfl, rfl, kp2, hd, rfl, fun _ m => m⟩
    · rintro d' rest' _ ⟨cr, ks, x, b, σ1, hrem, rfl, kp, hk1, he, hcr⟩
      cases cr with
      | nil => cases hrem
      | cons c cr =>
        cases hrem
        have ho := hok c (hcr c List.mem_cons_self)
        rw [List.flatMap_cons, ← List.append_assoc] at he
        have hl : (ks ++ sq c.b).length ≤ 200000 := by rw [← he, List.length_append] at hT; exact nLe fun hzz => linN [_, _] [lt1 (.n 200000) x0, le1 (.a x0 x1) (.n 200000), le1 (.n 0) x1] (Eq.refl true) hzz hT (Nat.zero_le _)
        have q : (ks ++ sq c.b).Nodup := by rw [← he] at hn; exact (List.nodup_append.mp hn).1
        refine ⟨kp.2 _ _ hk, mL (.int R) (.int C) k (some (ceD c)) (some (.ref kt)) b, congrArg some mL_3, (W_takeRow ho.1 hR2 hC2 hk1 hl q).mono ?_⟩
        rintro fl _ ⟨rfl, b', σ2, rfl, k2, hk2⟩
        exact ⟨cr, ks ++ sq c.b, _, b', σ2, rfl, rfl, kp.trans k2, hk2, he, fun c m => hcr c (List.mem_cons_of_mem _ m)⟩
    · rintro _ ⟨cr, ks, x, b, σ1, hrem, rfl, kp, hk1, he, _⟩
      cases cr with
      | cons c cr => cases hrem
      | nil =>
        rw [List.flatMap_nil, List.append_nil] at he
        subst he
        have eL : pLenD [.ref kt] ⟨mL (.int R) (.int C) k x (some (.ref kt)) b, σ1⟩ = .ok (.int ((cs.flatMap fun c => sq c.b).length : Nat)) ⟨mL (.int R) (.int C) k x (some (.ref kt)) b, σ1⟩ := by
          unfold pLenD
          simp only [hk1]
          rw [if_pos (by exact nLt fun hzz => linN [_] [le1 (.n 4611686018427387904) x0, le1 x0 (.n 200000)] (Eq.refl true) hzz hT)]
        have eM : binM pMul (pvar 0) (pvar 1) ⟨mL (.int R) (.int C) k x (some (.ref kt)) b, σ1⟩ = .ok (.int (R * C)) ⟨mL (.int R) (.int C) k x (some (.ref kt)) b, σ1⟩ := run_bin (a := .int R) (b := .int C) rfl rfl (run_mul (by rw [small64_of (by exact iLt fun hzz => linI [_] [le1 x0 (.s (.n 0) (.n 1000000)), le1 (.n 1) x0] (Eq.refl true) hzz hR) (by exact iLt fun hzz => linI [_] [le1 (.n 1000000) x0, le1 x0 (.n 20)] (Eq.refl true) hzz hR2)]; rfl))
        have eT : cmpM pLt (bnd (consM (pvar 4) nilM) pLenD) (binM pMul (pvar 0) (pvar 1)) ⟨mL (.int R) (.int C) k x (some (.ref kt)) b, σ1⟩ = .ok (decide (((cs.flatMap fun c => sq c.b).length : Int) < R * C)) ⟨mL (.int R) (.int C) k x (some (.ref kt)) b, σ1⟩ := run_cmp (run_bnd (b := [.ref kt]) rfl eL) eM rfl rfl
        exact ⟨kp.2 _ _ hk, rfl, X_seq (X_ifT eT (decide_eq_true hlt) (X_seq (X_raise ⟨rfl, kp⟩)))⟩
end
end Mine

end

/- part R04 -/
section
set_option Elab.async false
set_option linter.unusedVariables false
set_option linter.unusedSimpArgs false
set_option maxRecDepth 10000
namespace Mine
open PySem PyProof.Rows PySem.Builtin.Str
/-! what comes of it -/
noncomputable def uL (a b c : D) (f e : Option D) : Loc := locOf [some a, some b, some c, f, e]
section
variable {a b c d : D} {f e : Option D}
theorem uL_3 : upd (uL a b c f e) 3 d = uL a b c (some d) e := upd_locOf (by show 3 < 5; decide)
theorem uL_4 : upd (uL a b c f e) 4 d = uL a b c f (some d) := upd_locOf (by show 4 < 5; decide)
end
/-- the word for a class -/
noncomputable def wordOf (ad : Addr) : Str := Str.ofString (if ad == 37 then "size" else if ad == 49 then "cell" else if ad == 61 then "text" else if ad == 73 then "shared" else "bare")
theorem W_addW {a b c : D} {y z : Str} {e : Option D} {σ : Sto} {k : Mn Fl} {Q : Fl → St → Prop} (hl : y.length + z.length ≤ sizeLine) (h : W k ⟨uL a b c (some (.str (y ++ z))) e, σ⟩ Q) :
    W (seqM (bnd (binM pAdd (pvar 3) (ret1 (.str z))) (setvar 3)) (ret1 .next)) ⟨uL a b c (some (.str y)) e, σ⟩ (thn k Q) :=
  W_seq1 (st1 := ⟨uL a b c (some (.str (y ++ z))) e, σ⟩) (by rw [← uL_3 (f := some (.str y)) (d := .str (y ++ z))]; exact run_set (run_bin rfl rfl (run_adds hl))) (W_run rfl h)
theorem W_outcome {a b c : D} {ad : Addr} {st : St} {Q : D → St → Prop} (hc : ad = 37 ∨ ad = 49 ∨ ad = 61 ∨ ad = 73 ∨ ad = 85) (hx : ∀ l, X (F_made [a, b, c]) ⟨l, st.sto⟩ ad fun s => s.loc = l ∧ Kp st.sto s.sto)
    (hQ : ∀ y σ', cl y = cl (wordOf ad) → Kp st.sto σ' → Q (.str y) ⟨st.loc, σ'⟩) : W (F__law_outcome [a, b, c]) st Q := by
  have hloc : upd (bindP emptyL [0, 1, 2] [a, b, c]) 3 (.str (Str.ofString "made")) = uL a b c (some (.str (Str.ofString "made"))) none := by
    funext i; rcases i with _ | _ | _ | _ | _ | i <;> rfl
  refine W_mkFn rfl ?_
  unfold d__law_outcome
  refine W_seq1 (st1 := ⟨uL a b c (some (.str (Str.ofString "made"))) none, st.sto⟩) (by rw [← hloc]; rfl) ?_
  refine W_seqW (W_tryX (c := ad) (Q := fun s => s.loc = uL a b c (some (.str (Str.ofString "made"))) none ∧ Kp st.sto s.sto) (X_seq (X_bnd (X_bndW (W_run (a := [a, b, c]) rfl (hx _))))) (by rcases hc with rfl | rfl | rfl | rfl | rfl <;> rfl) ?_)
  rintro ⟨l, σ⟩ ⟨hl, kp⟩
  cases hl
  show W _ ⟨upd (uL a b c _ none) 4 (.exc ad), σ⟩ _
  rw [uL_4]
  have first : ∀ {k : Mn Fl} {Q' : Fl → St → Prop}, (W k ⟨uL a b c (some (.str (Str.ofString ""))) (some (.exc ad)), σ ++ [PO.list [.str (Str.ofString ""), .str (Str.ofString "no value error ")]]⟩ Q') → W (seqM (bnd (binM pIdx (listM (consM (ret1 (.str (Str.ofString ""))) (consM (ret1 (.str (Str.ofString "no value error "))) nilM))) (bnd (consM (notV (bnd (pvar 4) (pIsX et_ValueError))) nilM) pIntOf)) (setvar 3)) k) ⟨uL a b c (some (.str (Str.ofString "made"))) (some (.exc ad)), σ⟩ Q' := fun {k Q'} h => by
    refine W_seqW (W_bnd.mpr (W_bin (W_listM.mpr (W_run (a := [.str (Str.ofString ""), .str (Str.ofString "no value error ")]) rfl ⟨by show 2 ≤ sizeLine; decide, W_run (a := .int 0) (st1 := ⟨uL a b c (some (.str (Str.ofString "made"))) (some (.exc ad)), σ ++ [PO.list [.str (Str.ofString ""), .str (Str.ofString "no value error ")]]⟩) (by rcases hc with rfl | rfl | rfl | rfl | rfl <;> rfl) ?_⟩))))
    refine (W_idxR (ds := [.str (Str.ofString ""), .str (Str.ofString "no value error ")]) (by decide) List.getElem?_concat_length (by show (0 : Int) < 2; decide) (by show 2 ≤ 2 ^ 62; decide)).mpr (W_run (a := Fl.next) (st1 := ⟨uL a b c (some (.str (Str.ofString ""))) (some (.exc ad)), σ ++ [PO.list [.str (Str.ofString ""), .str (Str.ofString "no value error ")]]⟩) (by rw [← uL_3 (f := some (.str (Str.ofString "made"))) (d := .str (Str.ofString ""))]; rfl) h)
  refine first ?_
  have kp2 : Kp st.sto (σ ++ [PO.list [.str (Str.ofString ""), .str (Str.ofString "no value error ")]]) := kp.trans (.app _ _)
  generalize σ ++ [PO.list [.str (Str.ofString ""), .str (Str.ofString "no value error ")]] = σ1 at kp2 ⊢
  have fin : ∀ (y : Str), cl y = cl (wordOf ad) → W (ret1 Fl.next) ⟨uL a b c (some (.str y)) (some (.exc ad)), σ1⟩ fun fl s' => thn (seqM (retM (pvar 3)) (ret1 .next)) (fun fl s => match fl with | .ret d => Q d ⟨st.loc, s.sto⟩ | _ => Q .none ⟨st.loc, s.sto⟩) fl ⟨del s'.loc 4, s'.sto⟩ := fun y hy => W_run rfl (W_seqR rfl (hQ y σ1 hy kp2))
  rcases hc with rfl | rfl | rfl | rfl | rfl
  · refine W_seqW (W_ifT (b := true) rfl rfl (W_addW (by decide +kernel) ?_))
    refine W_seqW (W_ifF (b := false) rfl rfl (W_run rfl (W_seqW (W_ifF (b := false) rfl rfl (W_run rfl (W_seqW (W_ifF (b := false) rfl rfl (W_run rfl (W_seqW (W_ifF (b := false) rfl rfl (W_run rfl (W_seqW (W_ifF (b := false) rfl rfl (W_run rfl ?_))))))))))))))
    exact fin _ (by decide +kernel)
  · refine W_seqW (W_ifF (b := false) rfl rfl (W_run rfl (W_seqW (W_ifT (b := true) rfl rfl (W_addW (by decide +kernel) ?_)))))
    refine W_seqW (W_ifF (b := false) rfl rfl (W_run rfl (W_seqW (W_ifF (b := false) rfl rfl (W_run rfl (W_seqW (W_ifF (b := false) rfl rfl (W_run rfl (W_seqW (W_ifF (b := false) rfl rfl (W_run rfl ?_)))))))))))
    exact fin _ (by decide +kernel)
  · refine W_seqW (W_ifF (b := false) rfl rfl (W_run rfl (W_seqW (W_ifF (b := false) rfl rfl (W_run rfl (W_seqW (W_ifT (b := true) rfl rfl (W_addW (by decide +kernel) ?_))))))))
    refine W_seqW (W_ifF (b := false) rfl rfl (W_run rfl (W_seqW (W_ifF (b := false) rfl rfl (W_run rfl (W_seqW (W_ifF (b := false) rfl rfl (W_run rfl ?_))))))))
    exact fin _ (by decide +kernel)
  · refine W_seqW (W_ifF (b := false) rfl rfl (W_run rfl (W_seqW (W_ifF (b := false) rfl rfl (W_run rfl (W_seqW (W_ifF (b := false) rfl rfl (W_run rfl (W_seqW (W_ifT (b := true) rfl rfl (W_addW (by decide +kernel) ?_)))))))))))
    refine W_seqW (W_ifF (b := false) rfl rfl (W_run rfl (W_seqW (W_ifF (b := false) rfl rfl (W_run rfl ?_)))))
    exact fin _ (by decide +kernel)
  · refine W_seqW (W_ifF (b := false) rfl rfl (W_run rfl (W_seqW (W_ifF (b := false) rfl rfl (W_run rfl (W_seqW (W_ifF (b := false) rfl rfl (W_run rfl (W_seqW (W_ifF (b := false) rfl rfl (W_run rfl (W_seqW (W_ifT (b := true) rfl rfl (W_addW (by decide +kernel) ?_))))))))))))))
    refine W_seqW (W_ifF (b := false) rfl rfl (W_run rfl ?_))
    exact fin _ (by decide +kernel)
end Mine

end

/- part T04 -/
section
set_option Elab.async false
set_option linter.unusedVariables false
set_option linter.unusedSimpArgs false
set_option maxRecDepth 10000
namespace Mine
open PySem PyProof.Rows PySem.Builtin.Str
/-! a bad text, a bad cell -/
theorem W_pick {ms : Mn (List D)} {mi : Mn D} {ds : List D} {i : Int} {st : St} {l : Loc} {σ : Sto} {Q : D → St → Prop} (e : ms st = .ok ds ⟨l, σ⟩) (hl : ds.length ≤ 1000) (hi : mi ⟨l, σ ++ [.list ds]⟩ = .ok (.int i) ⟨l, σ ++ [.list ds]⟩) (h0 : 0 ≤ i) (h1 : i < ds.length) (hQ : ∀ h : i.toNat < ds.length, Q (ds[i.toNat]) ⟨l, σ ++ [.list ds]⟩) : W (binM pIdx (listM ms) mi) st Q :=
  W_bin (W_listM.mpr (W_run e ⟨Nat.le_trans hl (by decide), W_run hi ((W_idxR h0 List.getElem?_concat_length h1 (Nat.le_trans hl (by decide))).mpr (hQ _))⟩))
theorem run_slt {ds : List D} {l h : Option Int} {S : St} (hl : ds.length ≤ 1000) : pSlice (.tup ds) l h S = .ok (.tup (cutL l h ds)) S := if_app (Nat.le_trans hl (by decide))
theorem good_nl {l : List Nat} (h : l.getLast? = some 10) : goodP l = false := by
  unfold goodP
  rw [if_pos]
  rw [h]; simp
theorem good_long {l : List Nat} (h : 200 < l.length) : goodP l = false := by
  unfold goodP
  rw [if_pos]
  simp; left; exact iLt fun hzz => linI [_] [le1 x0 (.n 200), lt1 (.n 200) x0] (Eq.refl true) hzz (c_lt h)
theorem good_one {l : List Nat} (h : 10 ∉ l) (hb : l.all plain = false ∨ l.getLast? = some 32) : goodP l = false := by
  unfold goodP
  split
  · rfl
  · rw [show splitL 10 l = [l] from splitL_joinL (as := [l]) (by simp) (fun a m => by rw [List.mem_singleton.mp m]; exact h)]
    simp only [List.all_cons, List.all_nil, Bool.and_true]
    rcases hb with hb | hb
    · have : (l.all fun c => decide (32 ≤ c) && decide (c ≤ 126)) = false := hb
      rw [this, Bool.and_false]
    · rw [hb]; rfl
theorem str_ok {x : Str} (h : ∀ c, c ∈ cl x → c ≤ 126) : PyData.strOk x = true := by
  unfold PyData.strOk
  rw [← Array.all_toList, List.all_eq_true]
  intro c m
  have := h c m
  exact decide_eq_true (by exact nLt fun hzz => linN [_] [le1 (.n 1114112) x0, le1 x0 (.n 126)] (Eq.refl true) hzz this)
theorem rep_one (c : Nat) : ∀ n : Nat, (List.replicate n [c]).flatten = List.replicate n c
  | 0 => rfl
  | n + 1 => by rw [List.replicate_succ, List.flatten_cons, rep_one c n]; rfl
theorem no10 {l : List Nat} (h : l.all plain = true) : 10 ∉ l := fun m => by
  have := List.all_eq_true.mp h 10 m
  simp [plain] at this
theorem plain_le {l : List Nat} (h : l.all plain = true) : ∀ c, c ∈ l → c ≤ 126 := fun c m => by
  have := List.all_eq_true.mp h c m
  simp [plain] at this
  exact this.2
theorem cl_tab : cl (Str.ofString "\t") = [9] := by decide +kernel
theorem cl_blank : cl (Str.ofString " ") = [32] := by decide +kernel
theorem cl_nl : cl (Str.ofString "\n") = [10] := by decide +kernel
theorem ln_tab : (Str.ofString "\t").length = 1 := by decide +kernel
theorem ln_blank : (Str.ofString " ").length = 1 := by decide +kernel
theorem ln_nl : (Str.ofString "\n").length = 1 := by decide +kernel
/-- a text, or what stands for one, that is not good -/
noncomputable def BadTx (σ : Sto) (t : D) : Prop := LayD σ 1 2 t ∧ ((∃ x, t = .str x ∧ x.length ≤ 1000 ∧ goodP (cl x) = false) ∨ ∃ T, (∀ σ', Kp σ σ' → tyD t σ' = some T) ∧ subB T "str" = false)
theorem BadTx.bad {σ : Sto} {t : D} (h : BadTx σ t) {R C : Int} {b : Bx} (g : b.Good R C) : BadT R C σ (.tup [.int b.t, .int b.l, .int b.h, .int b.w, t]) := by
  rcases h.2 with ⟨x, rfl, h1, h2⟩ | ⟨T, h1, h2⟩
  · exact bad_tx g h1 h2
  · exact bad_txno g h1 h2
theorem bad_txs {x : Str} (hx : x.length ≤ 1000) (h : goodP (cl x) = false) (ho : ∀ c, c ∈ cl x → c ≤ 126) {σ : Sto} : BadTx σ (.str x) := ⟨(LayD.str (str_ok ho) (by decide)).mono (by decide) (Nat.le_refl 2), .inl ⟨x, rfl, hx, h⟩⟩
theorem W_bad_text {c : Ce} (hx : TxL c.x) {n : Int} {st : St} {Q : D → St → Prop} (hQ : ∀ t σ', Kp st.sto σ' → BadTx σ' t → Q (.tup [.int c.b.t, .int c.b.l, .int c.b.h, .int c.b.w, t]) ⟨st.loc, σ'⟩) : W (F__law_bad_text [ceD c, .int n]) st Q := by
  obtain ⟨hp, hl, hz⟩ := hx
  have hsl : (1000 : Nat) ≤ sizeLine := by decide
  have m9 := fmod_range (a := n) (b := 9) (by decide)
  have m40 := fmod_range (a := n.fdiv 9) (b := 40) (by decide)
  refine W_mkFn rfl ?_
  unfold d__law_bad_text
  have x4 : ∀ (l : Loc) (σ : Sto), l 0 = some (ceD c) → binM pIdx (pvar 0) (ret1 (.int 4)) ⟨l, σ⟩ = .ok (.str c.x) ⟨l, σ⟩ := fun l σ h => run_bin (run_var h) rfl rfl
  have l7 : ∀ σ, (consM (pvar 1) (consM (ret1 .none) (consM (binM pAdd (binM pIdx (pvar 0) (ret1 (.int 4))) (ret1 (.str (Str.ofString "\t")))) (consM (binM pAdd (ret1 (.str (Str.ofString "\t"))) (binM pIdx (pvar 0) (ret1 (.int 4)))) (consM (binM pAdd (binM pIdx (pvar 0) (ret1 (.int 4))) (ret1 (.str (Str.ofString " ")))) (consM (ret1 (.str (Str.ofString "a \nb"))) (consM (binM pAdd (binM pIdx (pvar 0) (ret1 (.int 4))) (ret1 (.str (Str.ofString "\n")))) nilM))))))) ⟨bindP emptyL [0, 1] [ceD c, .int n], σ⟩ = .ok [.int n, .none, .str (c.x ++ Str.ofString "\t"), .str (Str.ofString "\t" ++ c.x), .str (c.x ++ Str.ofString " "), .str (Str.ofString "a \nb"), .str (c.x ++ Str.ofString "\n")] ⟨bindP emptyL [0, 1] [ceD c, .int n], σ⟩ := fun σ =>
    run_cons rfl (run_cons rfl (run_cons (run_bin (x4 _ _ rfl) rfl (run_adds (by rw [ln_tab]; exact nLe fun hzz => linN [_, _] [lt1 x1 (.a x0 (.n 1)), le1 x0 (.n 6), le1 (.n 1000) x1] (Eq.refl true) hzz hl hsl))) (run_cons (run_bin rfl (x4 _ _ rfl) (run_adds (by rw [ln_tab]; exact nLe fun hzz => linN [_, _] [lt1 x1 (.a (.n 1) x0), le1 x0 (.n 6), le1 (.n 1000) x1] (Eq.refl true) hzz hl hsl))) (run_cons (run_bin (x4 _ _ rfl) rfl (run_adds (by rw [ln_blank]; exact nLe fun hzz => linN [_, _] [lt1 x1 (.a x0 (.n 1)), le1 x0 (.n 6), le1 (.n 1000) x1] (Eq.refl true) hzz hl hsl))) (run_cons rfl (run_cons (run_bin (x4 _ _ rfl) rfl (run_adds (by rw [ln_nl]; exact nLe fun hzz => linN [_, _] [lt1 x1 (.a x0 (.n 1)), le1 x0 (.n 6), le1 (.n 1000) x1] (Eq.refl true) hzz hl hsl))) rfl))))))
  generalize hA : [D.int n, .none, .str (c.x ++ Str.ofString "\t"), .str (Str.ofString "\t" ++ c.x), .str (c.x ++ Str.ofString " "), .str (Str.ofString "a \nb"), .str (c.x ++ Str.ofString "\n")] = A at l7
  have hAl : A.length = 7 := by rw [← hA]; rfl
  have e1 := l7 st.sto
  refine W_seqW (W_bnd.mpr (W_listM.mpr (W_run e1 ⟨by exact nLe fun hzz => linN [_, _] [lt1 x0 x1, le1 (.n 1000) x0, eq1 x1 (.n 7)] (Eq.refl true) hzz hsl hAl, W_run rfl ?_⟩)))
  generalize hσ1 : st.sto ++ [PO.list A] = σ1
  have k1 : Kp st.sto σ1 := by rw [← hσ1]; exact .app _ _
  have g1 : σ1[st.sto.length]? = some (.list A) := by rw [← hσ1]; exact List.getElem?_concat_length
  generalize hy : (⟨(repL (201 + (n.fdiv 9).fmod 40) (Str.ofString "y").cps.toList).toArray⟩ : Str) = y
  have ry : pMul (.str (Str.ofString "y")) (.int (201 + (n.fdiv 9).fmod 40)) = ret1 (.str y) := by
    rw [← hy]
    unfold pMul
    refine if_pos ⟨?_, ?_⟩
    · unfold inLong
      simp only [Bool.and_eq_true, decide_eq_true_eq]
      exact ⟨iLe fun hzz => linI [_] [lt1 (.a (.n 201) x0) (.s (.n 0) (.n 9223372036854775808)), le1 (.n 0) x0] (Eq.refl true) hzz m40.1, iLt fun hzz => linI [_] [le1 (.n 9223372036854775808) (.a (.n 201) x0), lt1 x0 (.n 40)] (Eq.refl true) hzz m40.2⟩
    · rw [show (Str.ofString "y").length = 1 by decide +kernel]
      exact d_le (iLe fun hzz => linI [(↑(201 + (n.fdiv 9).fmod 40).toNat), ((n.fdiv 9).fmod 40)] [lt1 (.n 16777216) (.m 1 x0), lt1 x1 (.n 40), eq1 x0 (.a (.n 201) x1)] (Eq.refl true) hzz m40.2 (tn_eq (iLe fun hyy => linI [((n.fdiv 9).fmod 40)] [lt1 (.a (.n 201) x0) (.n 0), le1 (.n 0) x0] (Eq.refl true) hyy m40.1)))
  have hyl : (cl y).length = (201 + (n.fdiv 9).fmod 40).toNat ∧ ∀ z, z ∈ cl y → z ≤ 126 := by
    rw [← hy]
    have ey : (Str.ofString "y").cps.toList = [121] := by decide +kernel
    rw [ey]
    have e : cl (⟨(repL (201 + (n.fdiv 9).fmod 40) [121]).toArray⟩ : Str) = List.replicate (201 + (n.fdiv 9).fmod 40).toNat 121 := by
      show (repL (201 + (n.fdiv 9).fmod 40) [121]).toArray.toList = _
      unfold repL
      rw [List.toList_toArray]
      exact rep_one _ _
    rw [e]
    refine ⟨List.length_replicate, fun z mz => ?_⟩
    rw [List.eq_of_mem_replicate mz]
    decide
  refine W_seqW (W_bnd.mpr (W_bin (W_run (run_var (d := .ref st.sto.length) rfl) ?_)))
  refine W_listM.mpr (W_run (a := [.str y, .ref σ1.length]) (st1 := ⟨_, σ1 ++ [.list [.str c.x]]⟩) (run_cons (run_bin rfl (run_bin rfl (run_bin (run_bin rfl rfl rfl) rfl rfl) rfl) (by rw [ry]; rfl)) (run_cons (run_of (W_listM.mpr (W_run (a := [.str c.x]) (run_cons (x4 _ _ rfl) rfl) ⟨by show 1 ≤ sizeLine; exact nLe fun hzz => linN [_] [lt1 x0 (.n 1), le1 (.n 1000) x0] (Eq.refl true) hzz hsl, rfl, rfl⟩))) rfl)) ⟨by show 2 ≤ sizeLine; exact nLe fun hzz => linN [_] [lt1 x0 (.n 2), le1 (.n 1000) x0] (Eq.refl true) hzz hsl, ?_⟩)
  have k2 : Kp st.sto (σ1 ++ [PO.list [.str c.x]] ++ [PO.list [.str y, .ref σ1.length]] ++ [PO.list (A ++ [.str y, .ref σ1.length])]) := ((k1.trans (.app _ _)).trans (.app _ _)).trans (.app _ _)
  have gi : (σ1 ++ [PO.list [.str c.x]] ++ [PO.list [.str y, .ref σ1.length]] ++ [PO.list (A ++ [.str y, .ref σ1.length])])[σ1.length]? = some (.list [.str c.x]) := (Ext.app _ _).get get_pre
  refine W_run (run_addr (ds := A) (es := [.str y, .ref σ1.length]) (ext2 g1) List.getElem?_concat_length (by rw [hAl]; show 7 + 2 ≤ sizeLine; exact nLe fun hzz => linN [_] [lt1 x0 (.a (.n 7) (.n 2)), le1 (.n 1000) x0] (Eq.refl true) hzz hsl)) (W_run rfl ?_)
  have g4 : (σ1 ++ [PO.list [.str c.x]] ++ [PO.list [.str y, .ref σ1.length]] ++ [PO.list (A ++ [.str y, .ref σ1.length])])[(σ1 ++ [PO.list [.str c.x]] ++ [PO.list [.str y, .ref σ1.length]]).length]? = some (.list (A ++ [.str y, .ref σ1.length])) := List.getElem?_concat_length
  show W _ ⟨_, σ1 ++ [PO.list [.str c.x]] ++ [PO.list [.str y, .ref σ1.length]] ++ [PO.list (A ++ [.str y, .ref σ1.length])]⟩ _
  generalize (σ1 ++ [PO.list [.str c.x]] ++ [PO.list [.str y, .ref σ1.length]] ++ [PO.list (A ++ [.str y, .ref σ1.length])]) = σ4 at k2 gi g4 ⊢
  generalize (σ1 ++ [PO.list [.str c.x]] ++ [PO.list [.str y, .ref σ1.length]]).length = k9 at g4 ⊢
  generalize σ1.length = ki at gi g4 ⊢
  have hall : ∀ t, t ∈ A ++ [.str y, .ref ki] → BadTx σ4 t := by
    have leaf : ∀ {t : D} {T : String}, LayD σ4 0 1 t → (∀ σ', tyD t σ' = some T) → subB T "str" = false → BadTx σ4 t := fun h1 h2 h3 => ⟨h1.mono (by decide) (by decide), .inr ⟨_, fun σ' _ => h2 σ', h3⟩⟩
    have h6 := cl_length c.x
    have hn := no10 hp
    have hc := plain_le hp
    intro t m
    rw [← hA] at m
    simp only [List.cons_append, List.nil_append, List.mem_cons, List.not_mem_nil, or_false] at m
    rcases m with rfl | rfl | rfl | rfl | rfl | rfl | rfl | rfl | rfl
    · exact leaf (T := "int") (.int (by decide)) (fun _ => rfl) (by decide)
    · exact leaf (T := "NoneType") (.none (by decide)) (fun _ => rfl) (by decide)
    · refine bad_txs (by rw [len_app, ln_tab]; exact nLe fun hzz => linN [_] [lt1 (.n 1000) (.a x0 (.n 1)), le1 x0 (.n 6)] (Eq.refl true) hzz hl) ?_ ?_
      · rw [cl_append, cl_tab]
        refine good_one ?_ (.inl (by simp [List.all_append, plain]))
        simp [hn]
      · rw [cl_append, cl_tab]
        intro z mz
        rcases List.mem_append.mp mz with mz | mz
        · exact hc z mz
        · rw [List.mem_singleton.mp mz]; decide
    · refine bad_txs (by rw [len_app, ln_tab]; exact nLe fun hzz => linN [_] [lt1 (.n 1000) (.a (.n 1) x0), le1 x0 (.n 6)] (Eq.refl true) hzz hl) ?_ ?_
      · rw [cl_append, cl_tab]
        refine good_one ?_ (.inl (by simp [List.all_append, plain]))
        simp [hn]
      · rw [cl_append, cl_tab]
        intro z mz
        rcases List.mem_append.mp mz with mz | mz
        · rw [List.mem_singleton.mp mz]; decide
        · exact hc z mz
    · refine bad_txs (by rw [len_app, ln_blank]; exact nLe fun hzz => linN [_] [lt1 (.n 1000) (.a x0 (.n 1)), le1 x0 (.n 6)] (Eq.refl true) hzz hl) ?_ ?_
      · rw [cl_append, cl_blank]
        refine good_one ?_ (.inr (by simp))
        simp [hn]
      · rw [cl_append, cl_blank]
        intro z mz
        rcases List.mem_append.mp mz with mz | mz
        · exact hc z mz
        · rw [List.mem_singleton.mp mz]; decide
    · exact bad_txs (by decide +kernel) (by decide +kernel) (by decide +kernel)
    · refine bad_txs (by rw [len_app, ln_nl]; exact nLe fun hzz => linN [_] [lt1 (.n 1000) (.a x0 (.n 1)), le1 x0 (.n 6)] (Eq.refl true) hzz hl) ?_ ?_
      · rw [cl_append, cl_nl]
        exact good_nl (by simp)
      · rw [cl_append, cl_nl]
        intro z mz
        rcases List.mem_append.mp mz with mz | mz
        · exact hc z mz
        · rw [List.mem_singleton.mp mz]; decide
    · exact bad_txs (by rw [← cl_length, hyl.1]; exact d_le (iLe fun hzz => linI [_, _] [lt1 (.n 1000) x0, lt1 x1 (.n 40), eq1 x0 (.a (.n 201) x1)] (Eq.refl true) hzz m40.2 (tn_eq (iLe fun hyy => linI [_] [lt1 (.a (.n 201) x0) (.n 0), le1 (.n 0) x0] (Eq.refl true) hyy m40.1)))) (good_long (by rw [hyl.1]; exact d_lt (iLt fun hzz => linI [_, _] [le1 x0 (.n 200), le1 (.n 0) x1, le1 (.a (.n 201) x1) x0] (Eq.refl true) hzz m40.1 (tn_lo _)))) hyl.2
    · refine ⟨LayD.ref (l := 0) (m := 1) gi fun d m => ?_, .inr ⟨"list", fun σ' kp => by show (match σ'[ki]? with | some (.list _) => some "list" | some (.dict _) => some "dict" | _ => none) = _; rw [kp.2 _ _ gi], by decide⟩⟩
      rw [List.mem_singleton.mp m]
      exact .str (str_ok hc) (by decide)
  have hlen : (A ++ [D.str y, .ref ki]).length = 9 := by rw [List.length_append, hAl]; rfl
  have h9 : n.fmod 9 < ((A ++ [D.str y, .ref ki]).length : Int) := by rw [hlen]; exact m9.2
  have hlt : (n.fmod 9).toNat < (A ++ [D.str y, .ref ki]).length := by exact d_lt (iLt fun hzz => linI [_, _, _] [le1 x0 x1, lt1 x2 (.n 9), qe1 x0 (.n 9), eq1 x1 x2] (Eq.refl true) hzz m9.2 (c_eq hlen) (tn_eq (iLe fun hyy => linI [_] [lt1 x0 (.n 0), le1 (.n 0) x0] (Eq.refl true) hyy m9.1)))
  refine W_seqW (W_bnd.mpr (W_run (run_bin (a := .tup [.int c.b.t, .int c.b.l, .int c.b.h, .int c.b.w]) (run_bnd rfl (run_bnd rfl (run_slt (by show 5 ≤ 1000; decide)))) (run_of (W_tupM.mpr (W_run (a := [(A ++ [D.str y, .ref ki])[(n.fmod 9).toNat]]) (run_cons (run_bin (run_var (d := .ref k9) rfl) (run_bin rfl rfl rfl) (run_ref g4 m9.1 h9 (by rw [hlen]; decide))) rfl) ⟨by show 1 ≤ sizeLine; exact nLe fun hzz => linN [_] [lt1 x0 (.n 1), le1 (.n 1000) x0] (Eq.refl true) hzz hsl, rfl, rfl⟩))) rfl) (W_run rfl ?_)))
  exact hQ _ _ k2 (hall _ (List.getElem_mem hlt))
end Mine

end

/- part U04 -/
section
set_option Elab.async false
set_option linter.unusedVariables false
set_option linter.unusedSimpArgs false
set_option maxRecDepth 10000
namespace Mine
open PySem PyProof.Rows PySem.Builtin.Str
noncomputable def bcL (d n m : D) (a l o b : Option D) : Loc := locOf [some d, some n, some m, a, l, o, b]
section
variable {d n m x : D} {a l o b : Option D}
theorem bcL_3 : upd (bcL d n m a l o b) 3 x = bcL d n m (some x) l o b := upd_locOf (by show 3 < 7; decide)
theorem bcL_4 : upd (bcL d n m a l o b) 4 x = bcL d n m a (some x) o b := upd_locOf (by show 4 < 7; decide)
theorem bcL_5 : upd (bcL d n m a l o b) 5 x = bcL d n m a l (some x) b := upd_locOf (by show 5 < 7; decide)
theorem bcL_6 : upd (bcL d n m a l o b) 6 x = bcL d n m a l o (some x) := upd_locOf (by show 6 < 7; decide)
end
theorem Kp.nil (σ : Sto) : Kp [] σ := ⟨Nat.zero_le _, fun i ds e => by cases e⟩
/-- what stands for no number of a box -/
noncomputable def BadN (least : Int) (d : D) : Prop := plainD d = true ∧ LayD [] 0 1 d ∧ (wh d = false ∨ ∃ v, d = .int v ∧ (v ≤ least ∨ 21 ≤ v))
theorem odd_all : ∀ d, d ∈ [D.str (Str.ofString "1"), .none, .bool true, .bool false] → plainD d = true ∧ LayD [] 0 1 d ∧ wh d = false := by
  intro d m
  simp only [List.mem_cons, List.not_mem_nil, or_false] at m
  rcases m with rfl | rfl | rfl | rfl
  · exact ⟨rfl, .str (by decide +kernel) (by decide), rfl⟩
  · exact ⟨rfl, .none (by decide), rfl⟩
  · exact ⟨rfl, .bool (by decide), rfl⟩
  · exact ⟨rfl, .bool (by decide), rfl⟩
theorem badN_all {least u v : Int} {o : D} (ho : plainD o = true ∧ LayD [] 0 1 o ∧ wh o = false) (hu : 0 ≤ u) (hv : 0 ≤ v) : ∀ d, d ∈ [D.int least, .int (21 + u), .int least, o, .int 21, .int (least - v)] → BadN least d := by
  intro d m
  simp only [List.mem_cons, List.not_mem_nil, or_false] at m
  rcases m with rfl | rfl | rfl | rfl | rfl | rfl
  · exact ⟨rfl, .int (by decide), .inr ⟨_, rfl, .inl (Int.le_refl _)⟩⟩
  · exact ⟨rfl, .int (by decide), .inr ⟨_, rfl, .inr (by exact iLe fun hzz => linI [_] [lt1 (.a (.n 21) x0) (.n 21), le1 (.n 0) x0] (Eq.refl true) hzz hu)⟩⟩
  · exact ⟨rfl, .int (by decide), .inr ⟨_, rfl, .inl (Int.le_refl _)⟩⟩
  · exact ⟨ho.1, ho.2.1, .inl ho.2.2⟩
  · exact ⟨rfl, .int (by decide), .inr ⟨_, rfl, .inr (by exact iLe fun hzz => linI [] [lt1 (.n 21) (.n 21)] (Eq.refl true) hzz)⟩⟩
  · exact ⟨rfl, .int (by decide), .inr ⟨_, rfl, .inl (by exact iLe fun hzz => linI [_, _] [lt1 x1 (.s x1 x0), le1 (.n 0) x0] (Eq.refl true) hzz hv)⟩⟩
theorem abs_nn (a : Int) : 0 ≤ (if a < 0 then -a else a) := by
  by_cases h : a < 0
  · rw [if_pos h]; omega
  · rw [if_neg h]; exact iLe fun hzz => linI [_] [lt1 x0 (.n 0), le1 (.n 0) x0] (Eq.refl true) hzz (Int.not_lt.mp h)
noncomputable def leastOf (a : Int) : Int := if a < 2 then -1 else 0
theorem least_at {a : Int} (h0 : 0 ≤ a) (h4 : a < 4) (h : a.toNat < [D.int (-1), .int (-1), .int 0, .int 0].length) : [D.int (-1), .int (-1), .int 0, .int 0][a.toNat] = .int (leastOf a) := by
  obtain rfl | rfl | rfl | rfl : a = 0 ∨ a = 1 ∨ a = 2 ∨ a = 3 := by omega
  · rfl
  · rfl
  · rfl
  · rfl
theorem lay5 {σ : Sto} {a b c d t : D} (ha : LayD σ 1 2 a) (hb : LayD σ 1 2 b) (hc : LayD σ 1 2 c) (hd : LayD σ 1 2 d) (ht : LayD σ 1 2 t) : ∀ z, z ∈ [a, b, c, d, t] → LayD σ 1 2 z := by
  intro z m
  simp only [List.mem_cons, List.not_mem_nil, or_false] at m
  rcases m with rfl | rfl | rfl | rfl | rfl <;> assumption
theorem layI {σ : Sto} {i : Int} : LayD σ 1 2 (.int i) := (LayD.int (m := 2) (by decide)).mono (by decide) (by decide)
theorem replaced {R C : Int} {b : Bx} {t bad : D} (g : b.Good R C) (hR2 : R ≤ 20) (hC2 : C ≤ 20) {σ : Sto} (ht : LayD σ 1 2 t) {a : Int} (h0 : 0 ≤ a) (h4 : a < 4) (hb : BadN (leastOf a) bad) :
    ∃ x y z w, cutL none (some a) [D.int b.t, .int b.l, .int b.h, .int b.w, t] ++ [bad] ++ cutL (some (a + 1)) none [D.int b.t, .int b.l, .int b.h, .int b.w, t] = [x, y, z, w, t] ∧ BadC R C σ (.tup [x, y, z, w, t]) ∧ LayD σ 2 3 (.tup [x, y, z, w, t]) := by
  obtain ⟨p1, p2, p3⟩ := hb
  have hbl : LayD σ 1 2 bad := (p2.kp (.nil _)).mono (by decide) (by decide)
  unfold Bx.Good at g
  obtain rfl | rfl | rfl | rfl : a = 0 ∨ a = 1 ∨ a = 2 ∨ a = 3 := by omega
  · refine ⟨bad, .int b.l, .int b.h, .int b.w, rfl, bad_box p1 rfl rfl rfl ?_, (LayD.tup (lay5 hbl layI layI layI ht)).mono (by decide) (by decide)⟩
    rcases p3 with p3 | ⟨v, rfl, p3⟩
    · exact lies_wh (by simp [p3])
    · exact lies_bad (by simp [leastOf] at p3; exact Or.elim p3 (fun hd4 => .inl (iLt fun hzz => linI [_] [le1 (.n 0) x0, le1 x0 (.s (.n 0) (.n 1))] (Eq.refl true) hzz hd4)) (fun hd4 => .inr (.inr (.inr (.inr (.inl (iLt fun hzz => linI [_, _, _] [le1 (.a x2 x0) x1, le1 (.n 1) x0, le1 x1 (.n 20), le1 (.n 21) x2] (Eq.refl true) hzz g.2.2.1 hR2 hd4)))))))
  · refine ⟨.int b.t, bad, .int b.h, .int b.w, rfl, bad_box rfl p1 rfl rfl ?_, (LayD.tup (lay5 layI hbl layI layI ht)).mono (by decide) (by decide)⟩
    rcases p3 with p3 | ⟨v, rfl, p3⟩
    · exact lies_wh (by simp [p3])
    · exact lies_bad (by simp [leastOf] at p3; exact Or.elim p3 (fun hd6 => .inr (.inl (iLt fun hzz => linI [_] [le1 (.n 0) x0, le1 x0 (.s (.n 0) (.n 1))] (Eq.refl true) hzz hd6))) (fun hd6 => .inr (.inr (.inr (.inr (.inr (iLt fun hzz => linI [_, _, _] [le1 (.a x2 x0) x1, le1 (.n 1) x0, le1 x1 (.n 20), le1 (.n 21) x2] (Eq.refl true) hzz g.2.2.2.1 hC2 hd6)))))))
  · refine ⟨.int b.t, .int b.l, bad, .int b.w, rfl, bad_box rfl rfl p1 rfl ?_, (LayD.tup (lay5 layI layI hbl layI ht)).mono (by decide) (by decide)⟩
    rcases p3 with p3 | ⟨v, rfl, p3⟩
    · exact lies_wh (by simp [p3])
    · exact lies_bad (by simp [leastOf] at p3; exact Or.elim p3 (fun hd8 => .inr (.inr (.inl (iLt fun hzz => linI [_] [le1 (.n 1) x0, le1 x0 (.n 0)] (Eq.refl true) hzz hd8)))) (fun hd8 => .inr (.inr (.inr (.inr (.inl (iLt fun hzz => linI [_, _, _] [le1 (.a x0 x2) x1, le1 (.n 0) x0, le1 x1 (.n 20), le1 (.n 21) x2] (Eq.refl true) hzz g.1 hR2 hd8)))))))
  · refine ⟨.int b.t, .int b.l, .int b.h, bad, rfl, bad_box rfl rfl rfl p1 ?_, (LayD.tup (lay5 layI layI layI hbl ht)).mono (by decide) (by decide)⟩
    rcases p3 with p3 | ⟨v, rfl, p3⟩
    · exact lies_wh (by simp [p3])
    · exact lies_bad (by simp [leastOf] at p3; exact Or.elim p3 (fun hd10 => .inr (.inr (.inr (.inl (iLt fun hzz => linI [_] [le1 (.n 1) x0, le1 x0 (.n 0)] (Eq.refl true) hzz hd10))))) (fun hd10 => .inr (.inr (.inr (.inr (.inr (iLt fun hzz => linI [_, _, _] [le1 (.a x0 x2) x1, le1 (.n 0) x0, le1 x1 (.n 20), le1 (.n 21) x2] (Eq.refl true) hzz g.2.1 hC2 hd10)))))))
/-- + of tuples -/
theorem run_addt {x y : List D} {S : St} (hy : y ≠ []) (hl : x.length + y.length ≤ 1000) : pAdd (.tup x) (.tup y) S = .ok (.tup (x ++ y)) S := by
  have hs : (1000 : Nat) ≤ sizeLine := by decide
  cases y with
  | nil => exact absurd rfl hy
  | cons b y => exact if_app ⟨rfl, by exact nLe fun hzz => linN [_, _, _] [lt1 x0 (.a x1 x2), le1 (.n 1000) x0, le1 (.a x1 x2) (.n 1000)] (Eq.refl true) hzz hs hl⟩
theorem run_lot {ds : List D} {S : St} (h : ds.length ≤ 1000) : pListOf [.tup ds] S = .ok (.ref S.sto.length) ⟨S.loc, S.sto ++ [.list ds]⟩ := by
  have hs : (1000 : Nat) ≤ sizeLine := by decide
  show (if ds.length ≤ sizeLine then allocL ds else botM) S = _
  rw [if_pos (by exact nLe fun hzz => linN [_, _] [lt1 x1 x0, le1 x0 (.n 1000), le1 (.n 1000) x1] (Eq.refl true) hzz h hs)]; rfl
theorem cut_drop_ne {a : Int} (h0 : 0 ≤ a) (h4 : a < 4) (x y z w t : D) : cutL (some (a + 1)) none [x, y, z, w, t] ≠ [] := by
  obtain rfl | rfl | rfl | rfl : a = 0 ∨ a = 1 ∨ a = 2 ∨ a = 3 := by omega
  all_goals (intro h; cases h)
theorem W_bad_cell {b : Bx} {t : D} {R C : Int} (g : b.Good R C) (hR2 : R ≤ 20) (hC2 : C ≤ 20) {n : Int} {st : St} (ht : LayD st.sto 1 2 t) {Q : D → St → Prop} (hQ : ∀ d σ', Kp st.sto σ' → BadC R C σ' d → LayD σ' 2 3 d → Q d ⟨st.loc, σ'⟩) : W (F__law_bad_cell [.tup [.int b.t, .int b.l, .int b.h, .int b.w, t], .int n]) st Q := by
  have hsl : (1000 : Nat) ≤ sizeLine := by decide
  obtain ⟨cd, hcd⟩ : ∃ cd, cd = D.tup [.int b.t, .int b.l, .int b.h, .int b.w, t] := ⟨_, rfl⟩
  have hloc : upd (bindP emptyL [0, 1] [cd, .int n]) 2 (.int (n.fdiv 6)) = bcL cd (.int n) (.int (n.fdiv 6)) none none none none := by
    funext i; rcases i with _ | _ | _ | _ | _ | _ | _ | i <;> rfl
  have hm := fmod_range (a := n) (b := 6) (by decide)
  rw [← hcd]
  refine W_mkFn rfl ?_
  unfold d__law_bad_cell
  refine W_seq1 (st1 := ⟨bcL cd (.int n) (.int (n.fdiv 6)) none none none none, st.sto⟩) (by rw [← hloc]; rfl) ?_
  refine W_seqW (W_ifM.mpr (W_run (run_cmp (t := decide (n.fmod 6 < 4)) (run_bin rfl rfl rfl) rfl rfl rfl) ?_))
  by_cases h4 : n.fmod 6 < 4
  · rw [if_pos (decide_eq_true h4)]
    refine W_seq1 (st1 := ⟨bcL cd (.int n) (.int (n.fdiv 6)) (some (.int (n.fmod 6))) none none none, st.sto⟩) (by rw [← bcL_3 (a := none)]; rfl) ?_
    have h0 := hm.1
    clear hm
    generalize n.fdiv 6 = m
    generalize n.fmod 6 = a at h0 h4 ⊢
    have m4 := fmod_range (a := m.fdiv 6) (b := 4) (by decide)
    have m6 := fmod_range (a := m) (b := 6) (by decide)
    have m9 := fmod_range (a := m.fdiv 6) (b := 9) (by decide)
    have hab := Int.fdiv_nonneg (abs_nn m) (show (0 : Int) ≤ 6 by decide)
    refine W_seqW (W_bnd.mpr (W_pick (ds := [.int (-1), .int (-1), .int 0, .int 0]) (i := a) (l := bcL cd (.int n) (.int m) (some (.int a)) none none none) (σ := st.sto) rfl (by show 4 ≤ 1000; decide) rfl h0 h4 fun hh => ?_))
    rw [least_at h0 h4 hh]
    refine W_run (st1 := ⟨bcL cd (.int n) (.int m) (some (.int a)) (some (.int (leastOf a))) none none, st.sto ++ [.list [.int (-1), .int (-1), .int 0, .int 0]]⟩) (by rw [← bcL_4 (l := none)]; rfl) ?_
    have k1 : Kp st.sto (st.sto ++ [PO.list [.int (-1), .int (-1), .int 0, .int 0]]) := .app _ _
    generalize st.sto ++ [PO.list [.int (-1), .int (-1), .int 0, .int 0]] = σ1 at k1 ⊢
    refine W_seqW (W_bnd.mpr (W_pick (ds := [.str (Str.ofString "1"), .none, .bool true, .bool false]) (i := (m.fdiv 6).fmod 4) (l := bcL cd (.int n) (.int m) (some (.int a)) (some (.int (leastOf a))) none none) (σ := σ1) rfl (by show 4 ≤ 1000; decide) rfl m4.1 m4.2 fun hh => ?_))
    have ho := odd_all _ (List.getElem_mem hh)
    generalize [D.str (Str.ofString "1"), .none, .bool true, .bool false][((m.fdiv 6).fmod 4).toNat] = od at ho ⊢
    refine W_run (st1 := ⟨bcL cd (.int n) (.int m) (some (.int a)) (some (.int (leastOf a))) (some od) none, σ1 ++ [.list [.str (Str.ofString "1"), .none, .bool true, .bool false]]⟩) (by rw [← bcL_5 (o := none)]; rfl) ?_
    have k2 := k1.trans (Kp.app σ1 [.list [.str (Str.ofString "1"), .none, .bool true, .bool false]])
    generalize σ1 ++ [PO.list [.str (Str.ofString "1"), .none, .bool true, .bool false]] = σ2 at k2 ⊢
    refine W_seqW (W_bnd.mpr (W_pick (ds := [.int (leastOf a), .int (21 + (if m < 0 then -m else m).fdiv 6), .int (leastOf a), od, .int 21, .int (leastOf a - (m.fdiv 6).fmod 9)]) (i := m.fmod 6) (l := bcL cd (.int n) (.int m) (some (.int a)) (some (.int (leastOf a))) (some od) none) (σ := σ2) rfl (by show 6 ≤ 1000; decide) rfl m6.1 m6.2 fun hh => ?_))
    have hb := badN_all ho hab m9.1 _ (List.getElem_mem hh)
    generalize [D.int (leastOf a), .int (21 + (if m < 0 then -m else m).fdiv 6), .int (leastOf a), od, .int 21, .int (leastOf a - (m.fdiv 6).fmod 9)][(m.fmod 6).toNat] = bad at hb ⊢
    refine W_run (st1 := ⟨bcL cd (.int n) (.int m) (some (.int a)) (some (.int (leastOf a))) (some od) (some bad), σ2 ++ [.list [.int (leastOf a), .int (21 + (if m < 0 then -m else m).fdiv 6), .int (leastOf a), od, .int 21, .int (leastOf a - (m.fdiv 6).fmod 9)]]⟩) (by rw [← bcL_6 (b := none)]; rfl) ?_
    have k3 := k2.trans (Kp.app σ2 [.list [.int (leastOf a), .int (21 + (if m < 0 then -m else m).fdiv 6), .int (leastOf a), od, .int 21, .int (leastOf a - (m.fdiv 6).fmod 9)]])
    generalize σ2 ++ [PO.list [.int (leastOf a), .int (21 + (if m < 0 then -m else m).fdiv 6), .int (leastOf a), od, .int 21, .int (leastOf a - (m.fdiv 6).fmod 9)]] = σ3 at k3 ⊢
    obtain ⟨x, y, z, w, e5, hbc, hla⟩ := replaced g hR2 hC2 (ht.kp k3) h0 h4 hb
    have hl5 := congrArg List.length e5
    rw [List.length_append] at hl5
    have key : (binM pAdd (binM pAdd (sliceM (pvar 0) none (some (pvar 3))) (tupM (consM (pvar 6) nilM))) (sliceM (pvar 0) (some (binM pAdd (pvar 3) (ret1 (.int 1)))) none)) ⟨bcL cd (.int n) (.int m) (some (.int a)) (some (.int (leastOf a))) (some od) (some bad), σ3⟩ = .ok (.tup [x, y, z, w, t]) ⟨bcL cd (.int n) (.int m) (some (.int a)) (some (.int (leastOf a))) (some od) (some bad), σ3⟩ := by
      rw [← e5, hcd]
      refine run_bin (run_bin (run_bnd rfl (run_bnd rfl (run_slt (by show 5 ≤ 1000; decide)))) (b := .tup [bad]) rfl (run_addt (by simp) ?_)) (run_bnd rfl (run_bnd rfl (run_slt (by show 5 ≤ 1000; decide)))) (run_addt (cut_drop_ne h0 h4 _ _ _ _ _) ?_)
      · exact Nat.le_trans (Nat.add_le_add_right (cutL_length ..) 1) (by show 5 + 1 ≤ 1000; decide)
      · rw [hl5]; show 5 ≤ 1000; decide
    exact W_seqW (W_bnd.mpr (W_run key (W_run rfl (hQ _ _ k3 hbc hla))))
  · rw [if_neg (by simpa using h4)]
    have m6 := fmod_range (a := n.fdiv 6) (b := 6) (by decide)
    generalize n.fdiv 6 = m at m6 ⊢
    have g1 : (st.sto ++ [PO.list [.int b.t, .int b.l, .int b.h, .int b.w, t]])[st.sto.length]? = some (.list [.int b.t, .int b.l, .int b.h, .int b.w, t]) := List.getElem?_concat_length
    have e6 : (consM (bnd (consM (pvar 0) nilM) pListOf) (consM (sliceM (pvar 0) none (some (ret1 (.int 4)))) (consM (binM pAdd (pvar 0) (tupM (consM (ret1 (.int 0)) nilM))) (consM (ret1 (.str (Str.ofString "cells"))) (consM (ret1 .none) (consM (tupM nilM) nilM)))))) ⟨bcL cd (.int n) (.int m) none none none none, st.sto⟩ = .ok [.ref st.sto.length, .tup [.int b.t, .int b.l, .int b.h, .int b.w], .tup [.int b.t, .int b.l, .int b.h, .int b.w, t, .int 0], .str (Str.ofString "cells"), .none, .tup []] ⟨bcL cd (.int n) (.int m) none none none none, st.sto ++ [PO.list [.int b.t, .int b.l, .int b.h, .int b.w, t]]⟩ := by
      rw [hcd]
      refine run_cons (run_bnd rfl (run_lot (by show 5 ≤ 1000; decide))) (run_cons (run_bnd rfl (run_bnd rfl (run_slt (by show 5 ≤ 1000; decide)))) (run_cons (run_bin rfl (b := .tup [.int 0]) rfl (run_addt (by simp) (by show 5 + 1 ≤ 1000; decide))) (run_cons rfl (run_cons rfl (run_cons rfl rfl)))))
    refine W_run rfl (W_seqW (W_bnd.mpr (W_pick (i := m.fmod 6) e6 (by show 6 ≤ 1000; decide) rfl m6.1 m6.2 fun hh => W_run rfl ?_)))
    have k1 : Kp st.sto (st.sto ++ [PO.list [.int b.t, .int b.l, .int b.h, .int b.w, t]] ++ [PO.list [.ref st.sto.length, .tup [.int b.t, .int b.l, .int b.h, .int b.w], .tup [.int b.t, .int b.l, .int b.h, .int b.w, t, .int 0], .str (Str.ofString "cells"), .none, .tup []]]) := (Kp.app _ _).trans (.app _ _)
    have g2 := (Ext.app _ [PO.list [.ref st.sto.length, .tup [.int b.t, .int b.l, .int b.h, .int b.w], .tup [.int b.t, .int b.l, .int b.h, .int b.w, t, .int 0], .str (Str.ofString "cells"), .none, .tup []]]).get g1
    have ht2 := ht.kp k1
    show Q _ ⟨st.loc, st.sto ++ [PO.list [.int b.t, .int b.l, .int b.h, .int b.w, t]] ++ [PO.list [.ref st.sto.length, .tup [.int b.t, .int b.l, .int b.h, .int b.w], .tup [.int b.t, .int b.l, .int b.h, .int b.w, t, .int 0], .str (Str.ofString "cells"), .none, .tup []]]⟩
    generalize hσ : st.sto ++ [PO.list [.int b.t, .int b.l, .int b.h, .int b.w, t]] ++ [PO.list [.ref st.sto.length, .tup [.int b.t, .int b.l, .int b.h, .int b.w], .tup [.int b.t, .int b.l, .int b.h, .int b.w, t, .int 0], .str (Str.ofString "cells"), .none, .tup []]] = σ at k1 g2 ht2
    have hall : ∀ d, d ∈ [D.ref st.sto.length, .tup [.int b.t, .int b.l, .int b.h, .int b.w], .tup [.int b.t, .int b.l, .int b.h, .int b.w, t, .int 0], .str (Str.ofString "cells"), .none, .tup []] → BadC R C σ d ∧ LayD σ 2 3 d := by
      intro d md
      simp only [List.mem_cons, List.not_mem_nil, or_false] at md
      rcases md with rfl | rfl | rfl | rfl | rfl | rfl
      · exact ⟨bad_list g2, LayD.ref g2 (lay5 layI layI layI layI ht2)⟩
      · refine ⟨bad_4, (LayD.tup (l := 1) (m := 2) fun z mz => ?_).mono (by decide) (by decide)⟩
        simp only [List.mem_cons, List.not_mem_nil, or_false] at mz
        rcases mz with rfl | rfl | rfl | rfl <;> exact layI
      · refine ⟨bad_6, (LayD.tup (l := 1) (m := 2) fun z mz => ?_).mono (by decide) (by decide)⟩
        simp only [List.mem_cons, List.not_mem_nil, or_false] at mz
        rcases mz with rfl | rfl | rfl | rfl | rfl | rfl <;> first | exact layI | exact ht2
      · exact ⟨bad_str, (LayD.str (m := 3) (by decide +kernel) (by decide)).mono (by decide) (by decide)⟩
      · exact ⟨bad_none, (LayD.none (m := 3) (by decide)).mono (by decide) (by decide)⟩
      · exact ⟨bad_0, (LayD.tup (l := 1) (m := 2) fun z mz => absurd mz List.not_mem_nil).mono (by decide) (by decide)⟩
    have := hall _ (List.getElem_mem hh)
    exact hQ _ _ k1 this.1 this.2
end Mine

end

/- part W04 -/
section
set_option Elab.async false
set_option linter.unusedVariables false
set_option linter.unusedSimpArgs false
set_option maxRecDepth 10000
namespace Mine
open PySem PyProof.Rows PySem.Builtin.Str
/-! lists with a fault -/
structure Fault (R C : Int) (σ : Sto) (ds : List D) (ad : Addr) : Prop where
  len : ds.length ≤ 300
  lay : ∀ d, d ∈ ds → LayD σ 2 3 d
  flt : (∃ pre d rest, ds = pre ++ d :: rest ∧ (∀ c, c ∈ pre → OkC R C c) ∧ BadX ad R C σ d ∧ (ad = 49 ∨ ad = 61)) ∨
    ∃ cs : List Ce, ds = cs.map ceD ∧ (∀ c, c ∈ cs → c.b.Good R C ∧ TxL c.x) ∧ ((¬ (cs.flatMap fun c => sq c.b).Nodup ∧ ad = 73) ∨ ((cs.flatMap fun c => sq c.b).Nodup ∧ (((cs.flatMap fun c => sq c.b).length : Nat) : Int) < R * C ∧ ad = 85))
theorem squares_len {R C : Int} (hR : R ≤ 20) (hC : C ≤ 20) : ∀ (cs : List Ce), (∀ c, c ∈ cs → c.b.Good R C) → (cs.flatMap fun c => sq c.b).length ≤ 400 * cs.length
  | [], _ => by simp
  | c :: cs, h => by
    have ih := squares_len hR hC cs fun c m => h c (List.mem_cons_of_mem _ m)
    have g := h c List.mem_cons_self
    unfold Bx.Good at g
    rw [List.flatMap_cons, List.length_append, len_sq, List.length_cons]
    have : c.b.h.toNat * c.b.w.toNat ≤ 20 * 20 := Nat.mul_le_mul (by exact d_le (iLe fun hzz => linI [_, _, _, _] [lt1 (.n 20) x0, le1 x1 (.n 20), le1 (.n 0) x2, le1 (.a x2 x3) x1, eq1 x0 x3] (Eq.refl true) hzz hR g.1 g.2.2.2.2.1 (tn_eq (iLe fun hyy => linI [_] [lt1 x0 (.n 0), le1 (.n 1) x0] (Eq.refl true) hyy g.2.2.1)))) (by exact d_le (iLe fun hzz => linI [_, _, _, _] [lt1 (.n 20) x0, le1 x1 (.n 20), le1 (.n 0) x2, le1 (.a x2 x3) x1, eq1 x0 x3] (Eq.refl true) hzz hC g.2.1 g.2.2.2.2.2 (tn_eq (iLe fun hyy => linI [_] [lt1 x0 (.n 0), le1 (.n 1) x0] (Eq.refl true) hyy g.2.2.2.1))))
    exact nLe fun hzz => linN [_, _, _] [lt1 (.m 400 (.a x1 (.n 1))) (.a x2 x0), le1 x0 (.m 400 x1), le1 x2 (.m 20 (.n 20))] (Eq.refl true) hzz ih this
theorem Fault.ad {R C : Int} {σ : Sto} {ds : List D} {ad : Addr} (h : Fault R C σ ds ad) : ad = 49 ∨ ad = 61 ∨ ad = 73 ∨ ad = 85 := by
  rcases h.flt with ⟨_, _, _, _, _, _, h⟩ | ⟨_, _, _, ⟨_, h⟩ | ⟨_, _, h⟩⟩
  · rcases h with h | h
    · exact .inl h
    · exact .inr (.inl h)
  · exact .inr (.inr (.inl h))
  · exact .inr (.inr (.inr h))
theorem BadX.mono {ad : Addr} {R C : Int} {σ σ' : Sto} {d : D} (h : BadX ad R C σ d) (k : Kp σ σ') : BadX ad R C σ' d := h.kp k
theorem Fault.made {R C : Int} (hR : 1 ≤ R) (hR2 : R ≤ 20) (hC : 1 ≤ C) (hC2 : C ≤ 20) {σ σ' : Sto} {ds : List D} {ad : Addr} (h : Fault R C σ ds ad) {k : Nat} (kp : Kp σ σ') (hk : σ[k]? = some (.list ds)) (l : Loc) : X (F_made [.int R, .int C, .ref k]) ⟨l, σ'⟩ ad fun s => s.loc = l ∧ Kp σ' s.sto := by
  have hk' := kp.2 _ _ hk
  have hlen := h.len
  rcases h.flt with ⟨pre, d, rest, rfl, hp, hb, _⟩ | ⟨cs, rfl, hok, hf⟩
  · exact X_made_item (st := ⟨l, σ'⟩) hR hR2 hC hC2 hk' hp (hb.kp kp)
  · have := squares_len hR2 hC2 cs fun c m => (hok c m).1
    rw [List.length_map] at hlen
    exact X_made_sq (st := ⟨l, σ'⟩) hR hR2 hC hC2 hk' hok (by exact nLe fun hzz => linN [_, _] [lt1 (.n 200000) x0, leW 400 x1 (.n 300), le1 x0 (.m 400 x1)] (Eq.refl true) hzz hlen this) hf
theorem Fault.kp {R C : Int} {σ σ' : Sto} {ds : List D} {ad : Addr} (h : Fault R C σ ds ad) (k : Kp σ σ') : Fault R C σ' ds ad :=
  ⟨h.len, fun d m => (h.lay d m).kp k, h.flt.imp (fun ⟨p, d, r, e, h1, h2, h3⟩ => ⟨p, d, r, e, h1, h2.kp k, h3⟩) id⟩
theorem w49 : wordOf 49 = Str.ofString "cell" := rfl
theorem w61 : wordOf 61 = Str.ofString "text" := rfl
theorem w73 : wordOf 73 = Str.ofString "shared" := rfl
theorem w85 : wordOf 85 = Str.ofString "bare" := rfl
/-! lists put together -/
theorem W_repl {ds : List D} {k i a : Nat} {av hv : Int} {m mh : Mn D} {loc : Loc} {σ : Sto} {Q : D → St → Prop} {Z : D → Sto → Prop} (hk : σ[k]? = some (.list ds)) (hi : loc i = some (.ref k)) (ha : loc a = some (.int av)) (h0 : 0 ≤ av) (h1 : av ≤ ds.length) (hh : ∀ σ, mh ⟨loc, σ⟩ = .ok (.int hv) ⟨loc, σ⟩) (h2 : 0 ≤ hv) (h3 : hv ≤ ds.length) (hl : ds.length ≤ 300)
    (hm : ∀ σ', Kp σ σ' → W m ⟨loc, σ'⟩ fun d s => s.loc = loc ∧ Kp σ' s.sto ∧ Z d s.sto)
    (hQ : ∀ d σ' kr σ'', Z d σ' → Kp σ σ' → Kp σ' σ'' → σ''[kr]? = some (.list (ds.take av.toNat ++ d :: ds.drop hv.toNat)) → Q (.ref kr) ⟨loc, σ''⟩) :
    W (binM pAdd (binM pAdd (sliceM (pvar i) none (some (pvar a))) (listM (consM m nilM))) (sliceM (pvar i) (some mh) none)) ⟨loc, σ⟩ Q := by
  have hsl : (1000 : Nat) ≤ sizeLine := by decide
  have lt : (ds.take av.toNat).length ≤ 300 := by rw [List.length_take]; omega
  have ld : (ds.drop hv.toNat).length ≤ 300 := by rw [List.length_drop]; exact nLe fun hzz => linN [_, _] [lt1 (.n 300) x0, le1 x1 (.n 300), le1 x0 x1] (Eq.refl true) hzz hl (sub_hi _ _)
  have e1 : (sliceM (pvar i) none (some (pvar a))) ⟨loc, σ⟩ = .ok (.ref σ.length) ⟨loc, σ ++ [.list (ds.take av.toNat)]⟩ := by
    rw [← cut_to ds h0 h1]
    exact run_bnd (run_var hi) (run_bnd (run_bnd rfl (run_bnd (run_bnd (run_var ha) rfl) rfl)) (run_slc hk (by exact nLe fun hzz => linN [_, _] [lt1 x1 x0, le1 x0 (.n 300), le1 (.n 1000) x1] (Eq.refl true) hzz hl hsl)))
  have g1 : (σ ++ [PO.list (ds.take av.toNat)])[σ.length]? = some (.list (ds.take av.toNat)) := List.getElem?_concat_length
  have k1 : Kp σ (σ ++ [PO.list (ds.take av.toNat)]) := .app _ _
  refine W_bin (W_bin (W_run e1 ?_))
  generalize σ ++ [PO.list (ds.take av.toNat)] = σ1 at g1 k1
  obtain ⟨d, ⟨l2, σ2⟩, e2, hl2, k2, hz⟩ := hm σ1 k1
  have hl3 : loc = l2 := hl2.symm
  subst hl3
  refine W_listM.mpr (W_run (run_cons e2 rfl) ⟨by show 1 ≤ sizeLine; exact nLe fun hzz => linN [_] [lt1 x0 (.n 1), le1 (.n 1000) x0] (Eq.refl true) hzz hsl, ?_⟩)
  refine W_run (run_addr (ds := ds.take av.toNat) (es := [d]) ((Ext.app _ _).get (k2.2 _ _ g1)) List.getElem?_concat_length (by show (ds.take av.toNat).length + 1 ≤ sizeLine; exact nLe fun hzz => linN [_, _] [lt1 x0 (.a x1 (.n 1)), le1 (.n 1000) x0, le1 x1 (.n 300)] (Eq.refl true) hzz hsl lt)) ?_
  have kk : (σ2 ++ [PO.list [d]] ++ [PO.list (ds.take av.toNat ++ [d])])[k]? = some (.list ds) := ext2 ((k1.trans k2).2 _ _ hk)
  have e3 : (sliceM (pvar i) (some mh) none) ⟨loc, σ2 ++ [PO.list [d]] ++ [PO.list (ds.take av.toNat ++ [d])]⟩ = .ok (.ref (σ2 ++ [PO.list [d]] ++ [PO.list (ds.take av.toNat ++ [d])]).length) ⟨loc, σ2 ++ [PO.list [d]] ++ [PO.list (ds.take av.toNat ++ [d])] ++ [.list (ds.drop hv.toNat)]⟩ := by
    rw [← cut_from ds h2 h3]
    exact run_bnd (run_var hi) (run_bnd (run_bnd (run_bnd (hh _) rfl) rfl) (run_slc kk (by exact nLe fun hzz => linN [_, _] [lt1 x1 x0, le1 x0 (.n 300), le1 (.n 1000) x1] (Eq.refl true) hzz hl hsl)))
  refine W_run e3 ?_
  refine W_run (run_addr (ds := ds.take av.toNat ++ [d]) (es := ds.drop hv.toNat) get_pre List.getElem?_concat_length (by simp only [List.length_append, List.length_cons, List.length_nil]; exact nLe fun hzz => linN [_, _, _] [lt1 x0 (.a (.a x1 (.a (.n 0) (.n 1))) x2), le1 (.n 1000) x0, le1 x1 (.n 300), le1 x2 (.n 300)] (Eq.refl true) hzz hsl lt ld)) ?_
  refine hQ d σ2 _ _ hz (k1.trans k2) ((((Kp.app _ _).trans (.app _ _)).trans (.app _ _)).trans (.app _ _)) ?_
  rw [show ds.take av.toNat ++ d :: ds.drop hv.toNat = ds.take av.toNat ++ [d] ++ ds.drop hv.toNat by rw [List.append_assoc]; rfl]
  exact List.getElem?_concat_length
theorem W_less {ds : List D} {k i a : Nat} {av hv : Int} {mh : Mn D} {loc : Loc} {σ : Sto} {Q : D → St → Prop} (hk : σ[k]? = some (.list ds)) (hi : loc i = some (.ref k)) (ha : loc a = some (.int av)) (h0 : 0 ≤ av) (h1 : av ≤ ds.length) (hh : ∀ σ, mh ⟨loc, σ⟩ = .ok (.int hv) ⟨loc, σ⟩) (h2 : 0 ≤ hv) (h3 : hv ≤ ds.length) (hl : ds.length ≤ 300)
    (hQ : ∀ kr σ', Kp σ σ' → σ'[kr]? = some (.list (ds.take av.toNat ++ ds.drop hv.toNat)) → Q (.ref kr) ⟨loc, σ'⟩) :
    W (binM pAdd (sliceM (pvar i) none (some (pvar a))) (sliceM (pvar i) (some mh) none)) ⟨loc, σ⟩ Q := by
  have hsl : (1000 : Nat) ≤ sizeLine := by decide
  have lt : (ds.take av.toNat).length ≤ 300 := by rw [List.length_take]; omega
  have ld : (ds.drop hv.toNat).length ≤ 300 := by rw [List.length_drop]; exact nLe fun hzz => linN [_, _] [lt1 (.n 300) x0, le1 x1 (.n 300), le1 x0 x1] (Eq.refl true) hzz hl (sub_hi _ _)
  have e1 : (sliceM (pvar i) none (some (pvar a))) ⟨loc, σ⟩ = .ok (.ref σ.length) ⟨loc, σ ++ [.list (ds.take av.toNat)]⟩ := by
    rw [← cut_to ds h0 h1]
    exact run_bnd (run_var hi) (run_bnd (run_bnd rfl (run_bnd (run_bnd (run_var ha) rfl) rfl)) (run_slc hk (by exact nLe fun hzz => linN [_, _] [lt1 x1 x0, le1 x0 (.n 300), le1 (.n 1000) x1] (Eq.refl true) hzz hl hsl)))
  have e3 : (sliceM (pvar i) (some mh) none) ⟨loc, σ ++ [PO.list (ds.take av.toNat)]⟩ = .ok (.ref (σ ++ [PO.list (ds.take av.toNat)]).length) ⟨loc, σ ++ [PO.list (ds.take av.toNat)] ++ [.list (ds.drop hv.toNat)]⟩ := by
    rw [← cut_from ds h2 h3]
    exact run_bnd (run_var hi) (run_bnd (run_bnd (run_bnd (hh _) rfl) rfl) (run_slc ((Ext.app _ _).get hk) (by exact nLe fun hzz => linN [_, _] [lt1 x1 x0, le1 x0 (.n 300), le1 (.n 1000) x1] (Eq.refl true) hzz hl hsl)))
  refine W_bin (W_run e1 (W_run e3 (W_run (run_addr (ds := ds.take av.toNat) (es := ds.drop hv.toNat) get_pre List.getElem?_concat_length (by exact nLe fun hzz => linN [_, _, _] [lt1 x0 (.a x1 x2), le1 (.n 1000) x0, le1 x1 (.n 300), le1 x2 (.n 300)] (Eq.refl true) hzz hsl lt ld)) ?_)))
  exact hQ _ _ (((Kp.app _ _).trans (.app _ _)).trans (.app _ _)) List.getElem?_concat_length
theorem tup2 {ma mb : Mn D} {a b : D} {S S1 S2 : St} (e1 : ma S = .ok a S1) (e2 : mb S1 = .ok b S2) : tupM (consM ma (consM mb nilM)) S = .ok (.tup [a, b]) S2 :=
  run_of (W_tupM.mpr (W_run (run_cons e1 (run_cons e2 rfl)) ⟨by show 2 ≤ sizeLine; decide, rfl, rfl⟩))
/-- one item that is none of the table -/
theorem fault_at {R C : Int} {σ : Sto} {pre rest : List D} {d : D} {ad : Addr} (hp : ∀ c, c ∈ pre → OkC R C c ∧ LayD σ 2 3 c) (hb : BadX ad R C σ d) (hd : LayD σ 2 3 d) (ha : ad = 49 ∨ ad = 61) (hr : ∀ c, c ∈ rest → LayD σ 2 3 c) (hl : (pre ++ d :: rest).length ≤ 300) : Fault R C σ (pre ++ d :: rest) ad :=
  ⟨hl, fun c m => by
    rcases List.mem_append.mp m with m | m
    · exact (hp c m).2
    · rcases List.mem_cons.mp m with rfl | m
      · exact hd
      · exact hr c m, .inl ⟨pre, d, rest, rfl, fun c m => (hp c m).1, hb, ha⟩⟩
/-- the cells' list as it is -/
structure CsOk (R C : Int) (cs : List Ce) : Prop where
  til : Til R C (cs.map (·.b))
  cov : Cov R C (cs.map (·.b))
  tx : ∀ c, c ∈ cs → TxL c.x
  l1 : 1 ≤ cs.length
  l2 : cs.length ≤ 125
section
variable {R C : Int} {cs : List Ce} {σ : Sto} (ok : CsOk R C cs)
include ok
theorem CsOk.good {c : Ce} (m : c ∈ cs) : c.b.Good R C := ok.til.1 _ (List.mem_map.mpr ⟨c, m, rfl⟩)
theorem CsOk.okc {c : Ce} (m : c ∈ cs) : OkC R C (ceD c) := ok_cell (ok.good m) (ok.tx c m)
theorem CsOk.lay {c : Ce} (m : c ∈ cs) (σ : Sto) : LayD σ 2 3 (ceD c) := (LayD.tup (lay5 layI layI layI layI ((LayD.str (m := 1) (str_ok (plain_le (ok.tx c m).1)) (by decide)).mono (l' := 1) (m' := 2) (by decide) (by decide)))).mono (by decide) (by decide)
theorem CsOk.okcs {n : Nat} : ∀ d, d ∈ (cs.map ceD).take n → OkC R C d := fun d m => by
  obtain ⟨c, mc, rfl⟩ := List.mem_map.mp (List.mem_of_mem_take m)
  exact ok.okc mc
theorem CsOk.lays {d : D} (m : d ∈ cs.map ceD) (σ : Sto) : LayD σ 2 3 d := by
  obtain ⟨c, mc, rfl⟩ := List.mem_map.mp m
  exact ok.lay mc σ
theorem CsOk.fault1 {a n : Nat} {d : D} {ad : Addr} (hb : BadX ad R C σ d) (hd : LayD σ 2 3 d) (ha : ad = 49 ∨ ad = 61) : Fault R C σ ((cs.map ceD).take a ++ d :: (cs.map ceD).drop n) ad :=
  fault_at (fun c m => ⟨ok.okcs c m, ok.lays (List.mem_of_mem_take m) σ⟩) hb hd ha (fun c m => ok.lays (List.mem_of_mem_drop m) σ) (by
    have := ok.l2
    rw [List.length_append, List.length_cons, List.length_take, List.length_drop, List.length_map]; omega)
theorem CsOk.faultS {es : List Ce} {ad : Addr} (hm : ∀ c, c ∈ es → c ∈ cs) (hl : es.length ≤ 300) (h : (¬ (es.flatMap fun c => sq c.b).Nodup ∧ ad = 73) ∨ ((es.flatMap fun c => sq c.b).Nodup ∧ (((es.flatMap fun c => sq c.b).length : Nat) : Int) < R * C ∧ ad = 85)) : Fault R C σ (es.map ceD) ad :=
  ⟨by rw [List.length_map]; exact hl, fun d m => by
    obtain ⟨c, mc, rfl⟩ := List.mem_map.mp m
    exact ok.lay (hm c mc) σ, .inr ⟨es, rfl, fun c m => ⟨ok.good (hm c m), ok.tx c (hm c m)⟩, h⟩⟩
end
end Mine

end

/- part Y04 -/
section
set_option Elab.async false
set_option linter.unusedVariables false
set_option linter.unusedSimpArgs false
set_option maxRecDepth 10000
set_option maxHeartbeats 2000000
namespace Mine
open PySem PyProof.Rows PySem.Builtin.Str
noncomputable def spL (k : Nat) (w n a o m : Int) (x y z u : Option D) : Loc := locOf [some (.ref k), some (.int w), some (.int n), some (.int a), some (.int o), some (.int m), x, y, z, u]
section
variable {k : Nat} {w n a o m : Int} {x y z u : Option D} {d : D}
theorem spL_6 : upd (spL k w n a o m x y z u) 6 d = spL k w n a o m (some d) y z u := upd_locOf (by show 6 < 10; decide)
theorem spL_7 : upd (spL k w n a o m x y z u) 7 d = spL k w n a o m x (some d) z u := upd_locOf (by show 7 < 10; decide)
theorem spL_8 : upd (spL k w n a o m x y z u) 8 d = spL k w n a o m x y (some d) u := upd_locOf (by show 8 < 10; decide)
theorem spL_9 : upd (spL k w n a o m x y z u) 9 d = spL k w n a o m x y z (some d) := upd_locOf (by show 9 < 10; decide)
end
theorem run_mod5 {a b : Int} {S : St} (h : b ≠ 0) : pMod (.int a) (.int b) S = .ok (.int (a.fmod b)) S := if_app h
theorem run_div5 {a b : Int} {S : St} (h : b ≠ 0 ∧ b.natAbs < 1073741824) : pDiv (.int a) (.int b) S = .ok (.int (a.fdiv b)) S := if_app h
theorem fl_map (es : List Ce) : (es.flatMap fun c => sq c.b) = (es.map (·.b)).flatMap sq := by rw [List.flatMap_map]
theorem split_at {α : Type} (l : List α) {i : Nat} (h : i < l.length) : l = l.take i ++ l[i] :: l.drop (i + 1) := by rw [List.getElem_cons_drop, List.take_append_drop]
section
variable {R C : Int} {cs : List Ce} (ok : CsOk R C cs)
include ok
/-- one cell twice -/
theorem CsOk.twice {i n a : Nat} (ha : a < cs.length) (h : cs[a] ∈ cs.take i ++ cs.drop n) {σ : Sto} : Fault R C σ ((cs.map ceD).take i ++ ceD cs[a] :: (cs.map ceD).drop n) 73 := by
  have e : (cs.map ceD).take i ++ ceD cs[a] :: (cs.map ceD).drop n = (cs.take i ++ cs[a] :: cs.drop n).map ceD := by rw [List.map_append, List.map_cons, List.map_take, List.map_drop]
  have ha' := List.getElem_mem ha
  rw [e]
  refine ok.faultS (fun c m => ?_) (by have := ok.l2; rw [List.length_append, List.length_cons, List.length_take, List.length_drop]; omega) (.inl ⟨?_, rfl⟩)
  · rcases List.mem_append.mp m with m | m
    · exact List.mem_of_mem_take m
    · rcases List.mem_cons.mp m with rfl | m
      · exact ha'
      · exact List.mem_of_mem_drop m
  · rw [fl_map, List.map_append, List.map_cons]
    refine shared_two (ok.good ha') ?_
    rw [← List.map_append]
    exact List.mem_map.mpr ⟨_, h, rfl⟩
/-- one cell less -/
theorem CsOk.less (hR : 1 ≤ R) (hC : 1 ≤ C) {a : Nat} (ha : a < cs.length) {σ : Sto} : Fault R C σ ((cs.map ceD).take a ++ (cs.map ceD).drop (a + 1)) 85 := by
  have e : (cs.map ceD).take a ++ (cs.map ceD).drop (a + 1) = (cs.take a ++ cs.drop (a + 1)).map ceD := by rw [List.map_append, List.map_take, List.map_drop]
  obtain ⟨r, rfl⟩ : ∃ r : Nat, R = r := ⟨R.toNat, by exact iEq (fun hzz => linI [_, _] [lt1 x0 x1, eq1 x1 x0] (Eq.refl true) hzz (tn_eq (iLe fun hyy => linI [_] [lt1 x0 (.n 0), le1 (.n 1) x0] (Eq.refl true) hyy hR))) (fun hzz => linI [_, _] [lt1 x1 x0, le1 x0 x1] (Eq.refl true) hzz (tn_lo _))⟩
  obtain ⟨q, rfl⟩ : ∃ c : Nat, C = c := ⟨C.toNat, by exact iEq (fun hzz => linI [_, _] [lt1 x0 x1, eq1 x1 x0] (Eq.refl true) hzz (tn_eq (iLe fun hyy => linI [_] [lt1 x0 (.n 0), le1 (.n 1) x0] (Eq.refl true) hyy hC))) (fun hzz => linI [_, _] [lt1 x1 x0, le1 x0 x1] (Eq.refl true) hzz (tn_lo _))⟩
  have ht := ok.til
  rw [split_at cs ha, List.map_append, List.map_cons] at ht
  have hb := bare_one ht
  rw [← List.map_append, ← fl_map] at hb
  rw [e]
  refine ok.faultS (fun c m => ?_) (by have := ok.l2; rw [List.length_append, List.length_take, List.length_drop]; omega) (.inr ⟨hb.1, ?_, rfl⟩)
  · rcases List.mem_append.mp m with m | m
    · exact List.mem_of_mem_take m
    · exact List.mem_of_mem_drop m
  · have := hb.2
    rw [← Int.natCast_mul]
    exact iLt fun hzz => linI [_, _] [le1 x1 x0, lt1 x0 x1] (Eq.refl true) hzz (c_lt hb.2)
end
theorem mem_not_at {α : Type} (l : List α) {a o : Nat} (ha : a < l.length) (h : a ≠ o) : l[a] ∈ l.take o ++ l.drop (o + 1) := by
  rcases Nat.lt_or_gt_of_ne h with h | h
  · refine List.mem_append_left _ ?_
    rw [List.mem_take_iff_getElem]
    exact ⟨a, by omega, rfl⟩
  · refine List.mem_append_right _ ?_
    rw [List.mem_drop_iff_getElem]
    exact ⟨a - (o + 1), by exact nLt fun hzz => linN [_, _, _, _] [le1 x0 (.a x2 (.a x1 (.n 1))), lt1 x3 x0, eq1 (.a x2 (.a x1 (.n 1))) x3] (Eq.refl true) hzz ha (sub_eq (nLe fun hyy => linN [_, _] [lt1 x0 (.a x1 (.n 1)), lt1 x1 x0] (Eq.refl true) hyy h)), by congr 1; exact nEq (fun hzz => linN [_, _, _] [lt1 (.a (.a x1 (.n 1)) x2) x0, le1 x0 (.a x2 (.a x1 (.n 1)))] (Eq.refl true) hzz (sub_lo _ _)) (fun hzz => linN [_, _, _] [lt1 x0 (.a (.a x1 (.n 1)) x2), eq1 (.a x2 (.a x1 (.n 1))) x0] (Eq.refl true) hzz (sub_eq (nLe fun hyy => linN [_, _] [lt1 x0 (.a x1 (.n 1)), lt1 x1 x0] (Eq.refl true) hyy h)))⟩
theorem W_spoilt {R C : Int} (hR : 1 ≤ R) (hR2 : R ≤ 20) (hC : 1 ≤ C) (hC2 : C ≤ 20) {cs : List Ce} (ok : CsOk R C cs) {k : Nat} {way n : Int} {st : St} (hk : st.sto[k]? = some (.list (cs.map ceD))) {Q : D → St → Prop}
    (hQ : ∀ kr σ' ds ad, Kp st.sto σ' → σ'[kr]? = some (.list ds) → Fault R C σ' ds ad → Q (.tup [.ref kr, .str (wordOf ad)]) ⟨st.loc, σ'⟩) : W (F__law_spoilt [.ref k, .int way, .int n]) st Q := by
  have hl1 := ok.l1
  have hl2 := ok.l2
  have hN : (cs.length : Int) ≠ 0 ∧ (cs.length : Int).natAbs < 1073741824 := ⟨by exact fun hzz => linI [_] [eq1 x0 (.n 0), le1 (.n 1) x0] (Eq.refl true) hzz (c_le hl1), by exact nLt fun hzz => linN [_] [le1 (.n 1073741824) x0, le1 x0 (.n 125)] (Eq.refl true) hzz hl2⟩
  have el : ∀ S : St, S.sto[k]? = some (.list (cs.map ceD)) → pLenD [.ref k] S = .ok (.int cs.length) S := fun S h => (lenD_eq h).trans (run_of (W_lenR.mpr ⟨_, h, by rw [List.length_map]; exact nLt fun hzz => linN [_] [le1 (.n 4611686018427387904) x0, le1 x0 (.n 125)] (Eq.refl true) hzz hl2, by rw [List.length_map], rfl⟩))
  have hloc : upd (upd (upd (bindP emptyL [0, 1, 2] [.ref k, .int way, .int n]) 3 (.int (n.fmod cs.length))) 4 (.int ((n.fdiv cs.length).fmod cs.length))) 5 (.int ((n.fdiv cs.length).fdiv cs.length)) = spL k way n (n.fmod cs.length) ((n.fdiv cs.length).fmod cs.length) ((n.fdiv cs.length).fdiv cs.length) none none none none := by
    funext i; rcases i with _ | _ | _ | _ | _ | _ | _ | _ | _ | _ | i <;> rfl
  refine W_mkFn rfl ?_
  unfold d__law_spoilt
  refine W_seq1 (run_set (run_bin rfl (run_bnd rfl (el _ hk)) (run_mod5 hN.1))) ?_
  refine W_seq1 (run_set (run_bin (run_bin rfl (run_bnd rfl (el _ hk)) (run_div5 hN)) (run_bnd rfl (el _ hk)) (run_mod5 hN.1))) ?_
  refine W_seq1 (run_set (run_bin (run_bin rfl (run_bnd rfl (el _ hk)) (run_div5 hN)) (run_bnd rfl (el _ hk)) (run_div5 hN))) ?_
  show W _ ⟨upd (upd (upd (bindP emptyL [0, 1, 2] [.ref k, .int way, .int n]) 3 (.int (n.fmod cs.length))) 4 (.int ((n.fdiv cs.length).fmod cs.length))) 5 (.int ((n.fdiv cs.length).fdiv cs.length)), st.sto⟩ _
  rw [hloc]
  clear hloc
  have ha := fmod_range (a := n) (b := (cs.length : Int)) (by exact iLt fun hzz => linI [_] [le1 x0 (.n 0), le1 (.n 1) x0] (Eq.refl true) hzz (c_le hl1))
  have ho := fmod_range (a := n.fdiv cs.length) (b := (cs.length : Int)) (by exact iLt fun hzz => linI [_] [le1 x0 (.n 0), le1 (.n 1) x0] (Eq.refl true) hzz (c_le hl1))
  generalize n.fmod cs.length = a at ha ⊢
  generalize (n.fdiv cs.length).fmod cs.length = o at ho ⊢
  generalize (n.fdiv cs.length).fdiv cs.length = m
  have la : a.toNat < cs.length := by exact d_lt (iLt fun hzz => linI [_, _, _] [le1 x0 x1, lt1 x2 x0, eq1 x1 x2] (Eq.refl true) hzz ha.2 (tn_eq (iLe fun hyy => linI [_] [lt1 x0 (.n 0), le1 (.n 0) x0] (Eq.refl true) hyy ha.1)))
  have lo : o.toNat < cs.length := by exact d_lt (iLt fun hzz => linI [_, _, _] [le1 x0 x1, lt1 x2 x0, eq1 x1 x2] (Eq.refl true) hzz ho.2 (tn_eq (iLe fun hyy => linI [_] [lt1 x0 (.n 0), le1 (.n 0) x0] (Eq.refl true) hyy ho.1)))
  have lm : (cs.map ceD).length = cs.length := List.length_map _
  have ea : (a + 1).toNat = a.toNat + 1 := by exact d_eq (iEq (fun hzz => linI [(↑a.toNat), (↑(a + 1).toNat), (a)] [lt1 x1 (.a x0 (.n 1)), le1 (.a x2 (.n 1)) x1, eq1 x0 x2] (Eq.refl true) hzz (tn_lo _) (tn_eq (iLe fun hyy => linI [(a)] [lt1 x0 (.n 0), le1 (.n 0) x0] (Eq.refl true) hyy ha.1))) (fun hzz => linI [(↑a.toNat), (↑(a + 1).toNat), (a)] [lt1 (.a x0 (.n 1)) x1, le1 x2 x0, eq1 x1 (.a x2 (.n 1))] (Eq.refl true) hzz (tn_lo _) (tn_eq (iLe fun hyy => linI [(a)] [lt1 (.a x0 (.n 1)) (.n 0), le1 (.n 0) x0] (Eq.refl true) hyy ha.1))))
  have eo : (o + 1).toNat = o.toNat + 1 := by exact d_eq (iEq (fun hzz => linI [(↑o.toNat), (↑(o + 1).toNat), (o)] [lt1 x1 (.a x0 (.n 1)), le1 (.a x2 (.n 1)) x1, eq1 x0 x2] (Eq.refl true) hzz (tn_lo _) (tn_eq (iLe fun hyy => linI [(o)] [lt1 x0 (.n 0), le1 (.n 0) x0] (Eq.refl true) hyy ho.1))) (fun hzz => linI [(↑o.toNat), (↑(o + 1).toNat), (o)] [lt1 (.a x0 (.n 1)) x1, le1 x2 x0, eq1 x1 (.a x2 (.n 1))] (Eq.refl true) hzz (tn_lo _) (tn_eq (iLe fun hyy => linI [(o)] [lt1 (.a x0 (.n 1)) (.n 0), le1 (.n 0) x0] (Eq.refl true) hyy ho.1))))
  have ma := List.getElem_mem la
  have ga := ok.good ma
  have ra : ∀ (x y z u : Option D) (σ : Sto), Kp st.sto σ → (binM pIdx (pvar 0) (pvar 3)) ⟨spL k way n a o m x y z u, σ⟩ = .ok (ceD cs[a.toNat]) ⟨spL k way n a o m x y z u, σ⟩ := fun x y z u σ kp => by
    have e : (cs.map ceD)[a.toNat]'(by exact nLt fun hzz => linN [_, _, _] [le1 x1 x0, lt1 x0 x2, qe1 x1 x2] (Eq.refl true) hzz la lm) = ceD cs[a.toNat] := List.getElem_map ..
    rw [← e]
    exact run_bin rfl rfl (run_ref (kp.2 _ _ hk) ha.1 (by exact iLt fun hzz => linI [_, _, _] [le1 x1 x0, lt1 x0 x2, qe1 x1 x2] (Eq.refl true) hzz ha.2 (c_eq lm)) (by exact nLe fun hzz => linN [_, _] [lt1 (.n 4611686018427387904) x0, le1 x1 (.n 125), eq1 x0 x1] (Eq.refl true) hzz hl2 lm))
  have ro : ∀ (x y z u : Option D) (σ : Sto), Kp st.sto σ → (binM pIdx (pvar 0) (pvar 4)) ⟨spL k way n a o m x y z u, σ⟩ = .ok (ceD cs[o.toNat]) ⟨spL k way n a o m x y z u, σ⟩ := fun x y z u σ kp => by
    have e : (cs.map ceD)[o.toNat]'(by exact nLt fun hzz => linN [_, _, _] [le1 x1 x0, lt1 x0 x2, qe1 x1 x2] (Eq.refl true) hzz lo lm) = ceD cs[o.toNat] := List.getElem_map ..
    rw [← e]
    exact run_bin rfl rfl (run_ref (kp.2 _ _ hk) ho.1 (by exact iLt fun hzz => linI [_, _, _] [le1 x1 x0, lt1 x0 x2, qe1 x1 x2] (Eq.refl true) hzz ho.2 (c_eq lm)) (by exact nLe fun hzz => linN [_, _] [lt1 (.n 4611686018427387904) x0, le1 x1 (.n 125), eq1 x0 x1] (Eq.refl true) hzz hl2 lm))
  have fin : ∀ {l : Loc} {mx : Mn D} {ad : Addr} {rest : Mn Fl} {σ : Sto} {Q' : Fl → St → Prop} (y : Str), (∀ d s, Q d ⟨st.loc, s.sto⟩ → Q' (.ret d) s) → y = wordOf ad → Kp st.sto σ → W mx ⟨l, σ⟩ (fun d s => ∃ kr ds, d = .ref kr ∧ s.loc = l ∧ Kp st.sto s.sto ∧ s.sto[kr]? = some (.list ds) ∧ Fault R C s.sto ds ad) → W (seqM (retM (tupM (consM mx (consM (ret1 (.str y)) nilM)))) rest) ⟨l, σ⟩ Q' := fun {l mx ad rest σ Q'} y hq hy kp h => by
    obtain ⟨d, ⟨l2, σ2⟩, e, kr, ds, rfl, hl, k2, g, hf⟩ := h
    subst hy
    exact W_seqR (run_bnd (tup2 e rfl) rfl) (hq _ _ (hQ kr σ2 ds ad k2 g hf))
  have fin2 : ∀ {l : Loc} {mx mi : Mn D} {ad : Addr} {rest : Mn Fl} {σ : Sto} {i : Int} {Q' : Fl → St → Prop}, (∀ d s, Q d ⟨st.loc, s.sto⟩ → Q' (.ret d) s) → (∀ σ', mi ⟨l, σ'⟩ = .ok (.int i) ⟨l, σ'⟩) → ((i = 0 ∧ ad = 61) ∨ (i = 1 ∧ ad = 49)) → W mx ⟨l, σ⟩ (fun d s => ∃ kr ds, d = .ref kr ∧ s.loc = l ∧ Kp st.sto s.sto ∧ s.sto[kr]? = some (.list ds) ∧ Fault R C s.sto ds ad) → W (seqM (retM (tupM (consM mx (consM (binM pIdx (listM (consM (ret1 (.str (Str.ofString "text"))) (consM (ret1 (.str (Str.ofString "cell"))) nilM))) mi) nilM)))) rest) ⟨l, σ⟩ Q' := fun {l mx mi ad rest σ i Q'} hq hi hw h => by
    obtain ⟨d, ⟨l2, σ2⟩, e, kr, ds, rfl, hl, k2, g, hf⟩ := h
    have hl3 : l = l2 := hl.symm
    subst hl3
    have pk : (binM pIdx (listM (consM (ret1 (.str (Str.ofString "text"))) (consM (ret1 (.str (Str.ofString "cell"))) nilM))) mi) ⟨l, σ2⟩ = .ok (.str (wordOf ad)) ⟨l, σ2 ++ [.list [.str (Str.ofString "text"), .str (Str.ofString "cell")]]⟩ := by
      refine run_of (W_pick (ds := [.str (Str.ofString "text"), .str (Str.ofString "cell")]) (i := i) (l := l) (σ := σ2) rfl (by show 2 ≤ 1000; decide) (hi _) (by exact Or.elim hw (fun hd2 => iLe fun hzz => linI [_] [lt1 x0 (.n 0), qe1 x0 (.n 0)] (Eq.refl true) hzz hd2.1) (fun hd2 => iLe fun hzz => linI [_] [lt1 x0 (.n 0), qe1 x0 (.n 1)] (Eq.refl true) hzz hd2.1)) (by show i < 2; exact Or.elim hw (fun hd4 => iLt fun hzz => linI [_] [le1 (.n 2) x0, eq1 x0 (.n 0)] (Eq.refl true) hzz hd4.1) (fun hd4 => iLt fun hzz => linI [_] [le1 (.n 2) x0, eq1 x0 (.n 1)] (Eq.refl true) hzz hd4.1)) fun hh => ⟨?_, rfl⟩)
      rcases hw with ⟨rfl, rfl⟩ | ⟨rfl, rfl⟩
      · exact congrArg D.str w61.symm
      · exact congrArg D.str w49.symm
    exact W_seqR (run_bnd (tup2 e pk) rfl) (hq _ _ (hQ kr _ ds ad (k2.trans (.app _ _)) ((Ext.app _ _).get g) (hf.kp (.app _ _))))
  -- a bad cell in place of one
  have badC : ∀ {x y z u : Option D} {me mn : Mn D} {t : D} {v : Int} {σ : Sto}, Kp st.sto σ → LayD σ 1 2 t → (∀ σ', Kp σ σ' → consM me (consM mn nilM) ⟨spL k way n a o m x y z u, σ'⟩ = .ok [.tup [.int cs[a.toNat].b.t, .int cs[a.toNat].b.l, .int cs[a.toNat].b.h, .int cs[a.toNat].b.w, t], .int v] ⟨spL k way n a o m x y z u, σ'⟩) →
      W (binM pAdd (binM pAdd (sliceM (pvar 0) none (some (pvar 3))) (listM (consM (bnd (consM me (consM mn nilM)) F__law_bad_cell) nilM))) (sliceM (pvar 0) (some (binM pAdd (pvar 3) (ret1 (.int 1)))) none)) ⟨spL k way n a o m x y z u, σ⟩ (fun d s => ∃ kr ds, d = .ref kr ∧ s.loc = spL k way n a o m x y z u ∧ Kp st.sto s.sto ∧ s.sto[kr]? = some (.list ds) ∧ Fault R C s.sto ds 49) := fun {x y z u me mn t v σ} kp ht hm => by
    refine W_repl (hv := a + 1) (Z := fun d σ' => BadC R C σ' d ∧ LayD σ' 2 3 d) (kp.2 _ _ hk) rfl rfl ha.1 (by exact iLe fun hzz => linI [_, _, _] [lt1 x1 x0, lt1 x0 x2, qe1 x1 x2] (Eq.refl true) hzz ha.2 (c_eq lm)) (fun _ => run_bin rfl rfl rfl) (by exact iLe fun hzz => linI [_] [lt1 (.a x0 (.n 1)) (.n 0), le1 (.n 0) x0] (Eq.refl true) hzz ha.1) (by exact iLe fun hzz => linI [_, _, _] [lt1 x1 (.a x0 (.n 1)), lt1 x0 x2, qe1 x1 x2] (Eq.refl true) hzz ha.2 (c_eq lm)) (by exact nLe fun hzz => linN [_, _] [lt1 (.n 300) x0, le1 x1 (.n 125), eq1 x0 x1] (Eq.refl true) hzz hl2 lm) (fun σ' k' => W_bnd.mpr (W_run (hm σ' k') (W_bad_cell ga hR2 hC2 (ht.kp k') fun d σ2 k2 bc ly => ⟨rfl, k2, bc, ly⟩))) fun d σ' kr σ'' hz k1 k2 hg => ?_
    rw [ea] at hg
    exact ⟨kr, _, rfl, rfl, (kp.trans k1).trans k2, hg, ok.fault1 (hz.1.kp k2) (hz.2.kp k2) (.inl rfl)⟩
  have badT : ∀ {x y z u : Option D} {me mn : Mn D} {v : Int} {σ : Sto}, Kp st.sto σ → (∀ σ', Kp σ σ' → consM me (consM mn nilM) ⟨spL k way n a o m x y z u, σ'⟩ = .ok [ceD cs[a.toNat], .int v] ⟨spL k way n a o m x y z u, σ'⟩) →
      W (binM pAdd (binM pAdd (sliceM (pvar 0) none (some (pvar 3))) (listM (consM (bnd (consM me (consM mn nilM)) F__law_bad_text) nilM))) (sliceM (pvar 0) (some (binM pAdd (pvar 3) (ret1 (.int 1)))) none)) ⟨spL k way n a o m x y z u, σ⟩ (fun d s => ∃ kr t, d = .ref kr ∧ s.loc = spL k way n a o m x y z u ∧ Kp st.sto s.sto ∧ s.sto[kr]? = some (.list ((cs.map ceD).take a.toNat ++ t :: (cs.map ceD).drop (a.toNat + 1))) ∧ BadT R C s.sto t ∧ LayD s.sto 2 3 t) := fun {x y z u me mn v σ} kp hm => by
    refine W_repl (hv := a + 1) (Z := fun d σ' => BadT R C σ' d ∧ LayD σ' 2 3 d) (kp.2 _ _ hk) rfl rfl ha.1 (by exact iLe fun hzz => linI [_, _, _] [lt1 x1 x0, lt1 x0 x2, qe1 x1 x2] (Eq.refl true) hzz ha.2 (c_eq lm)) (fun _ => run_bin rfl rfl rfl) (by exact iLe fun hzz => linI [_] [lt1 (.a x0 (.n 1)) (.n 0), le1 (.n 0) x0] (Eq.refl true) hzz ha.1) (by exact iLe fun hzz => linI [_, _, _] [lt1 x1 (.a x0 (.n 1)), lt1 x0 x2, qe1 x1 x2] (Eq.refl true) hzz ha.2 (c_eq lm)) (by exact nLe fun hzz => linN [_, _] [lt1 (.n 300) x0, le1 x1 (.n 125), eq1 x0 x1] (Eq.refl true) hzz hl2 lm) (fun σ' k' => W_bnd.mpr (W_run (hm σ' k') (W_bad_text (ok.tx _ ma) fun t σ2 k2 bt => ⟨rfl, k2, bt.bad ga, (LayD.tup (lay5 layI layI layI layI bt.1)).mono (by decide) (by decide)⟩))) fun d σ' kr σ'' hz k1 k2 hg => ?_
    rw [ea] at hg
    exact ⟨kr, d, rfl, rfl, (kp.trans k1).trans k2, hg, hz.1.kp k2, hz.2.kp k2⟩
  have layx : ∀ σ, LayD σ 1 2 (.str cs[a.toNat].x) := fun σ => (LayD.str (m := 1) (str_ok (plain_le (ok.tx _ ma).1)) (by decide)).mono (by decide) (by decide)
  -- way 2
  by_cases w2 : way = 2
  · refine W_seqW (W_ifT (b := way == 2) rfl (by rw [w2]; rfl) ?_)
    refine W_seq1 (st1 := ⟨spL k way n a o m (some (ceD cs[a.toNat])) none none none, st.sto⟩) (by rw [← spL_6 (x := none) (d := ceD cs[a.toNat])]; exact run_set (ra _ _ _ _ _ (.refl _))) ?_
    refine W_seqW (W.mono (Q := fun fl s => fl = .next ∧ ∃ t σ', s = ⟨spL k way n a o m (some (.tup [.int cs[a.toNat].b.t, .int cs[a.toNat].b.l, .int cs[a.toNat].b.h, .int cs[a.toNat].b.w, t])) none none none, σ'⟩ ∧ Kp st.sto σ' ∧ LayD σ' 1 2 t) ?_ ?_)
    · refine W_ifM.mpr (W_run (run_cmp (t := n.fmod 3 == 1) (run_bin rfl rfl rfl) rfl rfl rfl) ?_)
      by_cases q : (n.fmod 3 == 1) = true
      · rw [if_pos q]
        refine W_seqW (W_bnd.mpr (W_bnd.mpr (W_run (run_cons rfl (run_cons (run_bin rfl rfl (run_div5 ⟨by decide, by decide⟩)) rfl)) (W_bad_text (ok.tx _ ma) fun t σ' k' bt => W_run (a := Fl.next) (st1 := ⟨spL k way n a o m (some (.tup [.int cs[a.toNat].b.t, .int cs[a.toNat].b.l, .int cs[a.toNat].b.h, .int cs[a.toNat].b.w, t])) none none none, σ'⟩) (by rw [← spL_6 (x := some (ceD cs[a.toNat])) (d := .tup [.int cs[a.toNat].b.t, .int cs[a.toNat].b.l, .int cs[a.toNat].b.h, .int cs[a.toNat].b.w, t])]; rfl) (W_run rfl ⟨rfl, t, σ', rfl, k', bt.1⟩)))))
      · rw [if_neg q]
        exact W_run rfl ⟨rfl, _, _, rfl, .refl _, layx _⟩
    · rintro _ _ ⟨rfl, t, σ', rfl, kp, ht⟩
      exact fin (ad := 49) _ (fun _ _ h => h) w49.symm kp (badC kp ht fun σ2 _ => run_cons rfl (run_cons rfl rfl))
  refine W_seqW (W_ifF (b := way == 2) rfl (no_beq w2) (W_run rfl ?_))
  by_cases w3 : way = 3
  · refine W_seqW (W_ifT (b := way == 3) rfl (by rw [w3]; rfl) ?_)
    refine fin (ad := 61) _ (fun _ _ h => h) w61.symm (.refl _) (W.mono (badT (x := none) (y := none) (z := none) (u := none) (me := binM pIdx (pvar 0) (pvar 3)) (mn := pvar 5) (v := m) (.refl _) fun σ2 k2 => run_cons (ra _ _ _ _ _ k2) (run_cons rfl rfl)) ?_)
    rintro _ _ ⟨kr, t, rfl, hl, kp, hg, hb, hy⟩
    exact ⟨kr, _, rfl, hl, kp, hg, ok.fault1 hb hy (.inr rfl)⟩
  refine W_seqW (W_ifF (b := way == 3) rfl (no_beq w3) (W_run rfl ?_))
  by_cases w4 : way = 4
  · refine W_seqW (W_ifT (b := way == 4) rfl (by rw [w4]; rfl) ?_)
    refine fin (ad := 73) _ (fun _ _ h => h) w73.symm (.refl _) (W_repl (hv := o) (Z := fun d _ => d = ceD cs[a.toNat]) hk rfl rfl ho.1 (by exact iLe fun hzz => linI [_, _, _] [lt1 x1 x0, lt1 x0 x2, qe1 x1 x2] (Eq.refl true) hzz ho.2 (c_eq lm)) (fun _ => rfl) (by exact iLe fun hzz => linI [_] [lt1 x0 (.n 0), le1 (.n 0) x0] (Eq.refl true) hzz ho.1) (by exact iLe fun hzz => linI [_, _, _] [lt1 x1 x0, lt1 x0 x2, qe1 x1 x2] (Eq.refl true) hzz ho.2 (c_eq lm)) (by exact nLe fun hzz => linN [_, _] [lt1 (.n 300) x0, le1 x1 (.n 125), eq1 x0 x1] (Eq.refl true) hzz hl2 lm) (fun σ' k' => W_run (ra _ _ _ _ _ k') ⟨rfl, .refl _, rfl⟩) fun d σ' kr σ'' hz k1 k2 hg => ?_)
    subst hz
    exact ⟨kr, _, rfl, rfl, k1.trans k2, hg, ok.twice la (by rw [List.take_append_drop]; exact ma)⟩
  refine W_seqW (W_ifF (b := way == 4) rfl (no_beq w4) (W_run rfl ?_))
  by_cases w5 : way = 5
  · refine W_seqW (W_ifT (b := way == 5) rfl (by rw [w5]; rfl) ?_)
    refine fin (ad := 85) _ (fun _ _ h => h) w85.symm (.refl _) (W_less (hv := a + 1) hk rfl rfl ha.1 (by exact iLe fun hzz => linI [_, _, _] [lt1 x1 x0, lt1 x0 x2, qe1 x1 x2] (Eq.refl true) hzz ha.2 (c_eq lm)) (fun _ => run_bin rfl rfl rfl) (by exact iLe fun hzz => linI [_] [lt1 (.a x0 (.n 1)) (.n 0), le1 (.n 0) x0] (Eq.refl true) hzz ha.1) (by exact iLe fun hzz => linI [_, _, _] [lt1 x1 (.a x0 (.n 1)), lt1 x0 x2, qe1 x1 x2] (Eq.refl true) hzz ha.2 (c_eq lm)) (by exact nLe fun hzz => linN [_, _] [lt1 (.n 300) x0, le1 x1 (.n 125), eq1 x0 x1] (Eq.refl true) hzz hl2 lm) fun kr σ' k1 hg => ?_)
    rw [ea] at hg
    exact ⟨kr, _, rfl, rfl, k1, hg, ok.less hR hC la⟩
  refine W_seqW (W_ifF (b := way == 5) rfl (no_beq w5) (W_run rfl ?_))
  refine W_seqW (W_ifM.mpr (W_run (run_andM (a := way == 6) (b := a != o) (run_cmp rfl rfl rfl rfl) (run_cmp rfl rfl rfl rfl)) ?_))
  by_cases w6 : (way == 6 && a != o) = true
  · rw [if_pos w6]
    have hne : a ≠ o := by
      have := (Bool.and_eq_true_iff.mp w6).2
      simpa using this
    refine fin (ad := 73) _ (fun _ _ h => h) w73.symm (.refl _) (W_repl (hv := o + 1) (Z := fun d _ => d = ceD cs[a.toNat]) hk rfl rfl ho.1 (by exact iLe fun hzz => linI [_, _, _] [lt1 x1 x0, lt1 x0 x2, qe1 x1 x2] (Eq.refl true) hzz ho.2 (c_eq lm)) (fun _ => run_bin rfl rfl rfl) (by exact iLe fun hzz => linI [_] [lt1 (.a x0 (.n 1)) (.n 0), le1 (.n 0) x0] (Eq.refl true) hzz ho.1) (by exact iLe fun hzz => linI [_, _, _] [lt1 x1 (.a x0 (.n 1)), lt1 x0 x2, qe1 x1 x2] (Eq.refl true) hzz ho.2 (c_eq lm)) (by exact nLe fun hzz => linN [_, _] [lt1 (.n 300) x0, le1 x1 (.n 125), eq1 x0 x1] (Eq.refl true) hzz hl2 lm) (fun σ' k' => W_run (ra _ _ _ _ _ k') ⟨rfl, .refl _, rfl⟩) fun d σ' kr σ'' hz k1 k2 hg => ?_)
    subst hz
    rw [eo] at hg
    exact ⟨kr, _, rfl, rfl, k1.trans k2, hg, ok.twice la (mem_not_at cs la (by omega))⟩
  rw [if_neg w6]
  refine W_run rfl ?_
  refine W_seqW (W_ifM.mpr (W_run (run_andM (a := way == 7) (b := a != o) (run_cmp rfl rfl rfl rfl) (run_cmp rfl rfl rfl rfl)) ?_))
  by_cases w7 : (way == 7 && a != o) = true
  · rw [if_pos w7]
    have hne : a ≠ o := by
      have := (Bool.and_eq_true_iff.mp w7).2
      simpa using this
    have mo := List.getElem_mem lo
    have go := ok.good mo
    have layo : ∀ σ, LayD σ 1 2 (.str cs[o.toNat].x) := fun σ => (LayD.str (m := 1) (str_ok (plain_le (ok.tx _ mo).1)) (by decide)).mono (by decide) (by decide)
    refine W_seq1 (st1 := ⟨spL k way n a o m none (some (.int (min a o))) none none, st.sto⟩) (by rw [← spL_7 (y := none) (d := .int (min a o))]; exact run_set (st1 := ⟨spL k way n a o m none none none none, st.sto⟩) (run_bnd (b := [.int a, .int o]) rfl rfl)) ?_
    refine W_seqW (W_bnd.mpr (W.mono (badT (x := none) (y := some (.int (min a o))) (z := none) (u := none) (me := binM pIdx (pvar 0) (pvar 3)) (mn := pvar 5) (v := m) (.refl _) fun σ2 k2 => run_cons (ra _ _ _ _ _ k2) (run_cons rfl rfl)) ?_))
    rintro _ ⟨l1, σ1⟩ ⟨kr, t, rfl, hl, kp1, hg, hb, hy⟩
    have hl3 : spL k way n a o m none (some (.int (min a o))) none none = l1 := hl.symm
    subst hl3
    refine W_run (a := Fl.next) (st1 := ⟨spL k way n a o m none (some (.int (min a o))) (some (.ref kr)) none, σ1⟩) (by rw [← spL_8 (z := none) (d := .ref kr)]; rfl) ?_
    have lF : ((cs.map ceD).take a.toNat ++ t :: (cs.map ceD).drop (a.toNat + 1)).length = cs.length := by
      rw [List.length_append, List.length_cons, List.length_take, List.length_drop, lm]; omega
    have yF : ∀ σ, Kp σ1 σ → ∀ d, d ∈ (cs.map ceD).take a.toNat ++ t :: (cs.map ceD).drop (a.toNat + 1) → LayD σ 2 3 d := fun σ kp d md => by
      rcases List.mem_append.mp md with md | md
      · exact ok.lays (List.mem_of_mem_take md) σ
      · rcases List.mem_cons.mp md with rfl | md
        · exact hy.kp kp
        · exact ok.lays (List.mem_of_mem_drop md) σ
    refine W_seqW (W_bnd.mpr (W_repl (hv := o + 1) (Z := fun d σ' => BadC R C σ' d ∧ LayD σ' 2 3 d) hg rfl rfl ho.1 (by exact iLe fun hzz => linI [_, _, _] [lt1 x1 x0, lt1 x0 x2, qe1 x1 x2] (Eq.refl true) hzz ho.2 (c_eq lF)) (fun _ => run_bin rfl rfl rfl) (by exact iLe fun hzz => linI [_] [lt1 (.a x0 (.n 1)) (.n 0), le1 (.n 0) x0] (Eq.refl true) hzz ho.1) (by exact iLe fun hzz => linI [_, _, _] [lt1 x1 (.a x0 (.n 1)), lt1 x0 x2, qe1 x1 x2] (Eq.refl true) hzz ho.2 (c_eq lF)) (by exact nLe fun hzz => linN [_, _] [lt1 (.n 300) x0, le1 x1 (.n 125), eq1 x0 x1] (Eq.refl true) hzz hl2 lF) (fun σ' k' => W_bnd.mpr (W_run (run_cons (ro _ _ _ _ _ (kp1.trans k')) (run_cons (run_bin rfl rfl (run_div5 ⟨by decide, by decide⟩)) rfl)) (W_bad_cell go hR2 hC2 (layo _) fun d σ2 k2 bc ly => ⟨rfl, k2, bc, ly⟩))) fun d σ' kr2 σ2 hz k1 k2 hg2 => ?_))
    refine W_run (a := Fl.next) (st1 := ⟨spL k way n a o m none (some (.int (min a o))) (some (.ref kr2)) none, σ2⟩) (by rw [← spL_8 (z := some (.ref kr)) (d := .ref kr2)]; rfl) ?_
    rw [eo] at hg2
    have hcell := hz.1.kp k2
    have hclay := hz.2.kp k2
    have hlen2 : (((cs.map ceD).take a.toNat ++ t :: (cs.map ceD).drop (a.toNat + 1)).take o.toNat ++ d :: ((cs.map ceD).take a.toNat ++ t :: (cs.map ceD).drop (a.toNat + 1)).drop (o.toNat + 1)).length ≤ 300 := by
      rw [List.length_append, List.length_cons, List.length_take, List.length_drop, lF]; omega
    have yF2 := yF σ2 (k1.trans k2)
    have kp2 := (kp1.trans k1).trans k2
    by_cases hoa : o < a
    · refine fin2 (ad := 49) (i := 1) (fun _ _ h => h) (fun σ' => run_bnd (b := [.bool (min a o == o)]) (run_cons (run_bin rfl rfl rfl) rfl) (by rw [show (min a o == o) = true by rw [Int.min_eq_right (Int.le_of_lt hoa)]; exact beq_self_eq_true o]; rfl)) (.inr ⟨rfl, rfl⟩) (W_run rfl ⟨kr2, _, rfl, rfl, kp2, hg2, fault_at (fun c mc => ?_) hcell hclay (.inl rfl) (fun c mc => yF2 c (List.mem_of_mem_drop mc)) hlen2⟩)
      have e : ((cs.map ceD).take a.toNat ++ t :: (cs.map ceD).drop (a.toNat + 1)).take o.toNat = (cs.map ceD).take o.toNat := by
        rw [List.take_append_of_le_length (by rw [List.length_take, lm]; omega), List.take_take, Nat.min_eq_left (by exact d_le (iLe fun hzz => linI [_, _, _, _] [lt1 x0 x1, lt1 x3 x2, le1 x2 x0, eq1 x1 x3] (Eq.refl true) hzz hoa (tn_lo _) (tn_eq (iLe fun hyy => linI [_] [lt1 x0 (.n 0), le1 (.n 0) x0] (Eq.refl true) hyy ho.1))))]
      rw [e] at mc
      exact ⟨ok.okcs c mc, ok.lays (List.mem_of_mem_take mc) _⟩
    · have hao : a < o := by omega
      have e : ((cs.map ceD).take a.toNat ++ t :: (cs.map ceD).drop (a.toNat + 1)).take o.toNat = (cs.map ceD).take a.toNat ++ t :: ((cs.map ceD).drop (a.toNat + 1)).take (o.toNat - a.toNat - 1) := by
        have hla : ((cs.map ceD).take a.toNat).length = a.toNat := by rw [List.length_take, lm]; omega
        rw [List.take_append, hla, List.take_of_length_le (by rw [hla]; exact d_le (iLe fun hzz => linI [_, _, _, _] [lt1 x1 x0, lt1 x2 x3, le1 x3 x1, eq1 x0 x2] (Eq.refl true) hzz hao (tn_lo _) (tn_eq (iLe fun hyy => linI [_] [lt1 x0 (.n 0), le1 (.n 0) x0] (Eq.refl true) hyy ha.1))))]
        congr 1
        obtain ⟨q, hq⟩ : ∃ q, o.toNat - a.toNat = q + 1 := ⟨o.toNat - a.toNat - 1, by omega⟩
        rw [hq, List.take_succ_cons]; rfl
      rw [e, List.append_assoc, List.cons_append] at hg2 hlen2
      refine fin2 (ad := 61) (i := 0) (fun _ _ h => h) (fun σ' => run_bnd (b := [.bool (min a o == o)]) (run_cons (run_bin rfl rfl rfl) rfl) (by rw [show (min a o == o) = false by rw [Int.min_eq_left (Int.le_of_lt hao)]; exact no_beq (Int.ne_of_lt hao)]; rfl)) (.inl ⟨rfl, rfl⟩) (W_run rfl ⟨kr2, _, rfl, rfl, kp2, hg2, fault_at (fun c mc => ⟨ok.okcs c mc, ok.lays (List.mem_of_mem_take mc) _⟩) (hb.kp (k1.trans k2)) (hy.kp (k1.trans k2)) (.inr rfl) (fun c mc => ?_) hlen2⟩)
      rcases List.mem_append.mp mc with mc | mc
      · exact ok.lays (List.mem_of_mem_drop (List.mem_of_mem_take mc)) _
      · rcases List.mem_cons.mp mc with rfl | mc
        · exact hclay
        · exact yF2 c (List.mem_of_mem_drop mc)
  rw [if_neg w7]
  refine W_run rfl ?_
  by_cases w9 : way = 9
  · refine W_seqW (W_ifT (b := way == 9) rfl (by rw [w9]; rfl) ?_)
    have m2 := fmod_range (a := m) (b := 2) (by decide)
    refine W_seqW (W.mono (Q := fun fl s => fl = .next ∧ ∃ bad ad σ', s = ⟨spL k way n a o m none none none (some bad), σ'⟩ ∧ Kp st.sto σ' ∧ BadX ad R C σ' bad ∧ LayD σ' 2 3 bad ∧ ((m.fmod 2 = 0 ∧ ad = 61) ∨ (m.fmod 2 = 1 ∧ ad = 49))) ?_ ?_)
    · have args : ∀ σ', Kp st.sto σ' → consM (binM pIdx (pvar 0) (pvar 3)) (consM (binM pDiv (pvar 5) (ret1 (.int 4))) nilM) ⟨spL k way n a o m none none none none, σ'⟩ = .ok [ceD cs[a.toNat], .int (m.fdiv 4)] ⟨spL k way n a o m none none none none, σ'⟩ := fun σ' k' => run_cons (ra _ _ _ _ _ k') (run_cons (run_bin rfl rfl (run_div5 ⟨by decide, by decide⟩)) rfl)
      refine W_bnd.mpr (W_bin (W_listM.mpr (W_bnd.mpr (W_bnd.mpr (W_run (args _ (.refl _)) (W_bad_text (ok.tx _ ma) fun t σ1 k1 bt => W_bnd.mpr (W_bnd.mpr (W_bnd.mpr (W_run (args _ k1) (W_bad_cell (t := .str cs[a.toNat].x) ga hR2 hC2 (layx _) fun d σ2 k2 bc ly => W_run rfl (W_run rfl ⟨by show 2 ≤ sizeLine; decide, ?_⟩)))))))))))
      have hbt := bt.bad ga
      have hlt : LayD σ1 2 3 (.tup [.int cs[a.toNat].b.t, .int cs[a.toNat].b.l, .int cs[a.toNat].b.h, .int cs[a.toNat].b.w, t]) := (LayD.tup (lay5 layI layI layI layI bt.1)).mono (by decide) (by decide)
      generalize D.tup [.int cs[a.toNat].b.t, .int cs[a.toNat].b.l, .int cs[a.toNat].b.h, .int cs[a.toNat].b.w, t] = tt at hbt hlt ⊢
      show W (binM pMod (pvar 5) (ret1 (.int 2))) ⟨spL k way n a o m none none none none, σ2 ++ [.list [tt, d]]⟩ _
      refine W_run (run_bin rfl rfl (run_mod5 (by decide))) ((W_idxR (ds := [tt, d]) m2.1 List.getElem?_concat_length m2.2 (by show 2 ≤ 2 ^ 62; decide)).mpr ?_)
      have k3 : Kp σ2 (σ2 ++ [.list [tt, d]]) := .app _ _
      obtain h0 | h1 : m.fmod 2 = 0 ∨ m.fmod 2 = 1 := by omega
      · have e : ∀ h, [tt, d][(m.fmod 2).toNat]'h = tt := by rw [h0]; intro h; rfl
        rw [e]
        exact W_run (a := Fl.next) (st1 := ⟨spL k way n a o m none none none (some tt), σ2 ++ [.list [tt, d]]⟩) (by rw [← spL_9 (u := none) (d := tt)]; rfl) ⟨rfl, tt, 61, _, rfl, (k1.trans k2).trans k3, hbt.kp (k2.trans k3), hlt.kp (k2.trans k3), .inl ⟨h0, rfl⟩⟩
      · have e : ∀ h, [tt, d][(m.fmod 2).toNat]'h = d := by rw [h1]; intro h; rfl
        rw [e]
        exact W_run (a := Fl.next) (st1 := ⟨spL k way n a o m none none none (some d), σ2 ++ [.list [tt, d]]⟩) (by rw [← spL_9 (u := none) (d := d)]; rfl) ⟨rfl, d, 49, _, rfl, (k1.trans k2).trans k3, bc.kp k3, ly.kp k3, .inr ⟨h1, rfl⟩⟩
    · rintro _ _ ⟨rfl, bad, ad, σ', rfl, kp, hb, hy, hw⟩
      have ad2 : ad = 49 ∨ ad = 61 := by rcases hw with ⟨_, h⟩ | ⟨_, h⟩ <;> simp [h]
      have mo := List.getElem_mem lo
      refine W_seqW (W_bnd.mpr (W_repl (hv := a + 1) (Z := fun d _ => d = bad) (kp.2 _ _ hk) rfl rfl ha.1 (by exact iLe fun hzz => linI [_, _, _] [lt1 x1 x0, lt1 x0 x2, qe1 x1 x2] (Eq.refl true) hzz ha.2 (c_eq lm)) (fun _ => run_bin rfl rfl rfl) (by exact iLe fun hzz => linI [_] [lt1 (.a x0 (.n 1)) (.n 0), le1 (.n 0) x0] (Eq.refl true) hzz ha.1) (by exact iLe fun hzz => linI [_, _, _] [lt1 x1 (.a x0 (.n 1)), lt1 x0 x2, qe1 x1 x2] (Eq.refl true) hzz ha.2 (c_eq lm)) (by exact nLe fun hzz => linN [_, _] [lt1 (.n 300) x0, le1 x1 (.n 125), eq1 x0 x1] (Eq.refl true) hzz hl2 lm) (fun σ2 k2 => W_run rfl ⟨rfl, .refl _, rfl⟩) fun d σ2 kr σ3 hz k1 k2 hg => ?_))
      subst hz
      rw [ea] at hg
      have k3 := k1.trans k2
      have kp3 := kp.trans k3
      refine W_run (a := Fl.next) (st1 := ⟨spL k way n a o m none none (some (.ref kr)) (some d), σ3⟩) (by rw [← spL_8 (z := none) (d := .ref kr)]; rfl) ?_
      have lF : ((cs.map ceD).take a.toNat ++ d :: (cs.map ceD).drop (a.toNat + 1)).length = cs.length := by
        rw [List.length_append, List.length_cons, List.length_take, List.length_drop, lm]; omega
      have hsl : (1000 : Nat) ≤ sizeLine := by decide
      refine W_seqW (W_ifM.mpr (W_run (run_cmp (t := (m.fdiv 2).fmod 2 == 0) (run_bin (run_bin rfl rfl rfl) rfl rfl) rfl rfl rfl) ?_))
      by_cases q : ((m.fdiv 2).fmod 2 == 0) = true
      · rw [if_pos q]
        refine fin2 (ad := ad) (i := m.fmod 2) (fun _ _ h => h) (fun σ' => run_bin rfl rfl (run_mod5 (by decide))) hw (W_bin (W_run rfl (W_listM.mpr (W_run (run_cons (ro _ _ _ _ _ kp3) rfl) ⟨by show 1 ≤ sizeLine; decide, ?_⟩))))
        refine W_run (run_addr (ds := (cs.map ceD).take a.toNat ++ d :: (cs.map ceD).drop (a.toNat + 1)) (es := [ceD cs[o.toNat]]) ((Ext.app _ _).get hg) List.getElem?_concat_length (by rw [lF]; show _ + 1 ≤ _; exact nLe fun hzz => linN [_, _] [lt1 x1 (.a x0 (.n 1)), le1 x0 (.n 125), le1 (.n 1000) x1] (Eq.refl true) hzz hl2 hsl)) ⟨_, _, rfl, rfl, (kp3.trans (.app _ _)).trans (.app _ _), List.getElem?_concat_length, ?_⟩
        have k4 := k3.trans ((Kp.app σ3 [.list [ceD cs[o.toNat]]]).trans (Kp.app (σ3 ++ [.list [ceD cs[o.toNat]]]) [.list ((cs.map ceD).take a.toNat ++ d :: (cs.map ceD).drop (a.toNat + 1) ++ [ceD cs[o.toNat]])]))
        show Fault R C (σ3 ++ [.list [ceD cs[o.toNat]]] ++ [.list ((cs.map ceD).take a.toNat ++ d :: (cs.map ceD).drop (a.toNat + 1) ++ [ceD cs[o.toNat]])]) _ ad
        generalize σ3 ++ [PO.list [ceD cs[o.toNat]]] ++ [PO.list ((cs.map ceD).take a.toNat ++ d :: (cs.map ceD).drop (a.toNat + 1) ++ [ceD cs[o.toNat]])] = σ5 at k4 ⊢
        have hl5 : ((cs.map ceD).take a.toNat ++ d :: (cs.map ceD).drop (a.toNat + 1) ++ [ceD cs[o.toNat]]).length ≤ 300 := by rw [List.length_append, lF]; show _ + 1 ≤ _; exact nLe fun hzz => linN [_] [lt1 (.n 300) (.a x0 (.n 1)), le1 x0 (.n 125)] (Eq.refl true) hzz hl2
        rw [List.append_assoc, List.cons_append] at hl5 ⊢
        refine fault_at (fun c mc => ⟨ok.okcs c mc, ok.lays (List.mem_of_mem_take mc) _⟩) (hb.kp k4) (hy.kp k4) ad2 (fun c mc => ?_) hl5
        rcases List.mem_append.mp mc with mc | mc
        · exact ok.lays (List.mem_of_mem_drop mc) _
        · rw [List.mem_singleton.mp mc]; exact ok.lay mo _
      · rw [if_neg q]
        refine W_run rfl ?_
        refine fin2 (ad := ad) (i := m.fmod 2) (fun _ _ h => h) (fun σ' => run_bin rfl rfl (run_mod5 (by decide))) hw (W_bin (W_listM.mpr (W_run (run_cons (ro _ _ _ _ _ kp3) rfl) ⟨by show 1 ≤ sizeLine; decide, W_run rfl ?_⟩)))
        refine W_run (run_addr (ds := [ceD cs[o.toNat]]) (es := (cs.map ceD).take a.toNat ++ d :: (cs.map ceD).drop (a.toNat + 1)) List.getElem?_concat_length ((Ext.app _ _).get hg) (by rw [lF]; show 1 + _ ≤ _; exact nLe fun hzz => linN [_, _] [lt1 x1 (.a (.n 1) x0), le1 x0 (.n 125), le1 (.n 1000) x1] (Eq.refl true) hzz hl2 hsl)) ⟨_, _, rfl, rfl, (kp3.trans (.app _ _)).trans (.app _ _), List.getElem?_concat_length, ?_⟩
        have k4 := k3.trans ((Kp.app σ3 [.list [ceD cs[o.toNat]]]).trans (Kp.app (σ3 ++ [.list [ceD cs[o.toNat]]]) [.list ([ceD cs[o.toNat]] ++ ((cs.map ceD).take a.toNat ++ d :: (cs.map ceD).drop (a.toNat + 1)))]))
        show Fault R C (σ3 ++ [.list [ceD cs[o.toNat]]] ++ [.list ([ceD cs[o.toNat]] ++ ((cs.map ceD).take a.toNat ++ d :: (cs.map ceD).drop (a.toNat + 1)))]) _ ad
        generalize σ3 ++ [PO.list [ceD cs[o.toNat]]] ++ [PO.list ([ceD cs[o.toNat]] ++ ((cs.map ceD).take a.toNat ++ d :: (cs.map ceD).drop (a.toNat + 1)))] = σ5 at k4 ⊢
        have hl5 : ([ceD cs[o.toNat]] ++ ((cs.map ceD).take a.toNat ++ d :: (cs.map ceD).drop (a.toNat + 1))).length ≤ 300 := by rw [List.length_append, lF]; show 1 + _ ≤ _; exact nLe fun hzz => linN [_] [lt1 (.n 300) (.a (.n 1) x0), le1 x0 (.n 125)] (Eq.refl true) hzz hl2
        rw [← List.append_assoc] at hl5 ⊢
        refine fault_at (fun c mc => ?_) (hb.kp k4) (hy.kp k4) ad2 (fun c mc => ok.lays (List.mem_of_mem_drop mc) _) hl5
        rcases List.mem_append.mp mc with mc | mc
        · rw [List.mem_singleton.mp mc]; exact ⟨ok.okc mo, ok.lay mo _⟩
        · exact ⟨ok.okcs c mc, ok.lays (List.mem_of_mem_take mc) _⟩
  refine W_seqW (W_ifF (b := way == 9) rfl (no_beq w9) (W_run rfl ?_))
  exact fin (ad := 49) _ (fun _ _ h => h) w49.symm (.refl _) (badC (.refl _) (layx _) fun σ2 k2 => run_cons (ra _ _ _ _ _ k2) (run_cons rfl rfl))
end Mine

end

/- part M04 -/
section
set_option Elab.async false
set_option linter.unusedVariables false
set_option linter.unusedSimpArgs false
set_option maxRecDepth 10000
set_option maxHeartbeats 2000000
namespace Mine
open PySem PyProof.Rows PySem.Builtin.Str
/-! a cell moved by one -/
noncomputable def mvL (k : Nat) (R C n a m : Int) (o f d c i q : Option D) : Loc := locOf [some (.ref k), some (.int R), some (.int C), some (.int n), some (.int a), some (.int m), o, f, d, c, i, q]
section
variable {k : Nat} {R C n a m : Int} {o f d c i q : Option D} {x : D}
theorem mvL_6 : upd (mvL k R C n a m o f d c i q) 6 x = mvL k R C n a m (some x) f d c i q := upd_locOf (by show 6 < 12; decide)
theorem mvL_7 : upd (mvL k R C n a m o f d c i q) 7 x = mvL k R C n a m o (some x) d c i q := upd_locOf (by show 7 < 12; decide)
theorem mvL_8 : upd (mvL k R C n a m o f d c i q) 8 x = mvL k R C n a m o f (some x) c i q := upd_locOf (by show 8 < 12; decide)
theorem mvL_9 : upd (mvL k R C n a m o f d c i q) 9 x = mvL k R C n a m o f d (some x) i q := upd_locOf (by show 9 < 12; decide)
theorem mvL_10 : upd (mvL k R C n a m o f d c i q) 10 x = mvL k R C n a m o f d c (some x) q := upd_locOf (by show 10 < 12; decide)
theorem mvL_11 : upd (mvL k R C n a m o f d c i q) 11 x = mvL k R C n a m o f d c i (some x) := upd_locOf (by show 11 < 12; decide)
end
noncomputable def Mv (b b' : Bx) : Prop := (b'.l = b.l ∧ b'.h = b.h ∧ b'.w = b.w ∧ (b'.t = b.t + 1 ∨ b'.t = b.t - 1)) ∨ (b'.t = b.t ∧ b'.h = b.h ∧ b'.w = b.w ∧ (b'.l = b.l + 1 ∨ b'.l = b.l - 1)) ∨ (b'.t = b.t ∧ b'.l = b.l ∧ b'.w = b.w ∧ (b'.h = b.h + 1 ∨ b'.h = b.h - 1)) ∨ (b'.t = b.t ∧ b'.l = b.l ∧ b'.h = b.h ∧ (b'.w = b.w + 1 ∨ b'.w = b.w - 1))
theorem moved_step (b : Bx) (x : D) {i u : Int} (h0 : 0 ≤ i) (h4 : i < 4) (hu : u = 1 ∨ u = -1) : ∃ v b', (∀ h, [D.int b.t, .int b.l, .int b.h, .int b.w, x][i.toNat]'h = .int v) ∧ [D.int b.t, .int b.l, .int b.h, .int b.w, x].set i.toNat (.int (v + u)) = [D.int b'.t, .int b'.l, .int b'.h, .int b'.w, x] ∧ Mv b b' := by
  obtain rfl | rfl | rfl | rfl : i = 0 ∨ i = 1 ∨ i = 2 ∨ i = 3 := by omega
  · exact ⟨b.t, ⟨b.t + u, b.l, b.h, b.w⟩, fun _ => rfl, rfl, .inl ⟨rfl, rfl, rfl, by simp only; exact Or.elim hu (fun hd4 => .inl (iEq (fun hzz => linI [_, _] [lt1 (.a x1 x0) (.a x1 (.n 1)), qe1 x0 (.n 1)] (Eq.refl true) hzz hd4) (fun hzz => linI [_, _] [lt1 (.a x1 (.n 1)) (.a x1 x0), eq1 x0 (.n 1)] (Eq.refl true) hzz hd4))) (fun hd4 => .inr (iEq (fun hzz => linI [_, _] [lt1 (.a x1 x0) (.s x1 (.n 1)), qe1 x0 (.s (.n 0) (.n 1))] (Eq.refl true) hzz hd4) (fun hzz => linI [_, _] [lt1 (.s x1 (.n 1)) (.a x1 x0), eq1 x0 (.s (.n 0) (.n 1))] (Eq.refl true) hzz hd4)))⟩⟩
  · exact ⟨b.l, ⟨b.t, b.l + u, b.h, b.w⟩, fun _ => rfl, rfl, .inr (.inl ⟨rfl, rfl, rfl, by simp only; exact Or.elim hu (fun hd6 => .inl (iEq (fun hzz => linI [_, _] [lt1 (.a x1 x0) (.a x1 (.n 1)), qe1 x0 (.n 1)] (Eq.refl true) hzz hd6) (fun hzz => linI [_, _] [lt1 (.a x1 (.n 1)) (.a x1 x0), eq1 x0 (.n 1)] (Eq.refl true) hzz hd6))) (fun hd6 => .inr (iEq (fun hzz => linI [_, _] [lt1 (.a x1 x0) (.s x1 (.n 1)), qe1 x0 (.s (.n 0) (.n 1))] (Eq.refl true) hzz hd6) (fun hzz => linI [_, _] [lt1 (.s x1 (.n 1)) (.a x1 x0), eq1 x0 (.s (.n 0) (.n 1))] (Eq.refl true) hzz hd6)))⟩)⟩
  · exact ⟨b.h, ⟨b.t, b.l, b.h + u, b.w⟩, fun _ => rfl, rfl, .inr (.inr (.inl ⟨rfl, rfl, rfl, by simp only; exact Or.elim hu (fun hd8 => .inl (iEq (fun hzz => linI [_, _] [lt1 (.a x1 x0) (.a x1 (.n 1)), qe1 x0 (.n 1)] (Eq.refl true) hzz hd8) (fun hzz => linI [_, _] [lt1 (.a x1 (.n 1)) (.a x1 x0), eq1 x0 (.n 1)] (Eq.refl true) hzz hd8))) (fun hd8 => .inr (iEq (fun hzz => linI [_, _] [lt1 (.a x1 x0) (.s x1 (.n 1)), qe1 x0 (.s (.n 0) (.n 1))] (Eq.refl true) hzz hd8) (fun hzz => linI [_, _] [lt1 (.s x1 (.n 1)) (.a x1 x0), eq1 x0 (.s (.n 0) (.n 1))] (Eq.refl true) hzz hd8)))⟩))⟩
  · exact ⟨b.w, ⟨b.t, b.l, b.h, b.w + u⟩, fun _ => rfl, rfl, .inr (.inr (.inr ⟨rfl, rfl, rfl, by simp only; exact Or.elim hu (fun hd10 => .inl (iEq (fun hzz => linI [_, _] [lt1 (.a x1 x0) (.a x1 (.n 1)), qe1 x0 (.n 1)] (Eq.refl true) hzz hd10) (fun hzz => linI [_, _] [lt1 (.a x1 (.n 1)) (.a x1 x0), eq1 x0 (.n 1)] (Eq.refl true) hzz hd10))) (fun hd10 => .inr (iEq (fun hzz => linI [_, _] [lt1 (.a x1 x0) (.s x1 (.n 1)), qe1 x0 (.s (.n 0) (.n 1))] (Eq.refl true) hzz hd10) (fun hzz => linI [_, _] [lt1 (.s x1 (.n 1)) (.a x1 x0), eq1 x0 (.s (.n 0) (.n 1))] (Eq.refl true) hzz hd10)))⟩))⟩
/-! the squares, one by one -/
noncomputable def mvIn : Mn Fl := (seqM (bnd (tupM (consM (binM pAdd (binM pIdx (pvar 9) (ret1 (.int 0))) (binM pDiv (pvar 10) (binM pIdx (pvar 9) (ret1 (.int 3))))) (consM (binM pAdd (binM pIdx (pvar 9) (ret1 (.int 1))) (binM pMod (pvar 10) (binM pIdx (pvar 9) (ret1 (.int 3))))) nilM))) (setvar 11))
  (seqM (ifM (cmpM pIn (pvar 11) (pvar 8)) (seqM (retM (tupM (consM (pvar 7) (consM (ret1 (.str (Str.ofString "shared"))) nilM))))
  (ret1 .next)) (ret1 .next))
  (seqM (setM pSetDL (ret1 (.bool true)) (pvar 8) (pvar 11))
  (ret1 .next))))
noncomputable def mvRow : Mn Fl := (seqM (bnd (bnd (consM (binM pMul (binM pIdx (pvar 9) (ret1 (.int 2))) (binM pIdx (pvar 9) (ret1 (.int 3)))) nilM) pRange) fun src => forM (nameT 10) src.g mvIn src.ds) (ret1 .next))
noncomputable def sqAt (b : Bx) (i : Nat) : List Int := [b.t + ((i / b.w.toNat : Nat) : Int), b.l + ((i % b.w.toNat : Nat) : Int)]
section
variable {k : Nat} {R C n a m : Int} {o f c i q : Option D} {kf kd : Nat} {ks : List (List Int)} {σ : Sto}
theorem W_mvIn {e : Ce} (g : e.b.Good R C) (hC : C ≤ 20) {j : Nat} (hk : σ[kd]? = some (.dict ks)) (hl : ks.length ≤ 200000) :
    W mvIn ⟨mvL k R C n a m o (some (.ref kf)) (some (.ref kd)) (some (ceD e)) (some (.int (j : Int))) q, σ⟩ fun fl s => (ks.contains (sqAt e.b j) = true ∧ fl = .ret (.tup [.ref kf, .str (Str.ofString "shared")]) ∧ s.sto = σ) ∨ (ks.contains (sqAt e.b j) = false ∧ fl = .next ∧ ∃ q', s = ⟨mvL k R C n a m o (some (.ref kf)) (some (.ref kd)) (some (ceD e)) (some (.int (j : Int))) q', σ.set kd (.dict (ks ++ [sqAt e.b j]))⟩) := by
  unfold Bx.Good at g
  have hw : e.b.w = ((e.b.w.toNat : Nat) : Int) := by exact iEq (fun hzz => linI [_, _] [lt1 x0 x1, eq1 x1 x0] (Eq.refl true) hzz (tn_eq (iLe fun hyy => linI [_] [lt1 x0 (.n 0), le1 (.n 1) x0] (Eq.refl true) hyy g.2.2.2.1))) (fun hzz => linI [_, _] [lt1 x1 x0, le1 x0 x1] (Eq.refl true) hzz (tn_lo _))
  have hw0 : e.b.w ≠ 0 ∧ e.b.w.natAbs < 1073741824 := ⟨by exact fun hzz => linI [_] [eq1 x0 (.n 0), le1 (.n 1) x0] (Eq.refl true) hzz g.2.2.2.1, by omega⟩
  have ed : (j : Int).fdiv e.b.w = ((j / e.b.w.toNat : Nat) : Int) := by
    rw [hw, Int.toNat_natCast]; exact (Int.ofNat_fdiv j e.b.w.toNat).symm
  have em : (j : Int).fmod e.b.w = ((j % e.b.w.toNat : Nat) : Int) := by
    rw [hw, Int.toNat_natCast]; exact (Int.ofNat_fmod j e.b.w.toNat).symm
  have e11 : (tupM (consM (binM pAdd (binM pIdx (pvar 9) (ret1 (.int 0))) (binM pDiv (pvar 10) (binM pIdx (pvar 9) (ret1 (.int 3))))) (consM (binM pAdd (binM pIdx (pvar 9) (ret1 (.int 1))) (binM pMod (pvar 10) (binM pIdx (pvar 9) (ret1 (.int 3))))) nilM))) ⟨mvL k R C n a m o (some (.ref kf)) (some (.ref kd)) (some (ceD e)) (some (.int (j : Int))) q, σ⟩ = .ok (sqD (sqAt e.b j)) ⟨mvL k R C n a m o (some (.ref kf)) (some (.ref kd)) (some (ceD e)) (some (.int (j : Int))) q, σ⟩ := by
    have a0 : binM pAdd (binM pIdx (pvar 9) (ret1 (.int 0))) (binM pDiv (pvar 10) (binM pIdx (pvar 9) (ret1 (.int 3)))) ⟨mvL k R C n a m o (some (.ref kf)) (some (.ref kd)) (some (ceD e)) (some (.int (j : Int))) q, σ⟩ = .ok (.int (e.b.t + ((j / e.b.w.toNat : Nat) : Int))) ⟨mvL k R C n a m o (some (.ref kf)) (some (.ref kd)) (some (ceD e)) (some (.int (j : Int))) q, σ⟩ := by
      rw [← ed]; exact run_bin (a := .int e.b.t) rfl (run_bin (a := .int (j : Int)) (b := .int e.b.w) rfl rfl (run_div5 hw0)) rfl
    have a1 : binM pAdd (binM pIdx (pvar 9) (ret1 (.int 1))) (binM pMod (pvar 10) (binM pIdx (pvar 9) (ret1 (.int 3)))) ⟨mvL k R C n a m o (some (.ref kf)) (some (.ref kd)) (some (ceD e)) (some (.int (j : Int))) q, σ⟩ = .ok (.int (e.b.l + ((j % e.b.w.toNat : Nat) : Int))) ⟨mvL k R C n a m o (some (.ref kf)) (some (.ref kd)) (some (ceD e)) (some (.int (j : Int))) q, σ⟩ := by
      rw [← em]; exact run_bin (a := .int e.b.l) rfl (run_bin (a := .int (j : Int)) (b := .int e.b.w) rfl rfl (run_mod5 hw0.1)) rfl
    exact tup2 a0 a1
  unfold mvIn
  refine W_seq1 (st1 := ⟨mvL k R C n a m o (some (.ref kf)) (some (.ref kd)) (some (ceD e)) (some (.int (j : Int))) (some (sqD (sqAt e.b j))), σ⟩) (by rw [← mvL_11 (q := q) (x := sqD (sqAt e.b j))]; exact run_set e11) ?_
  have t : cmpM pIn (pvar 11) (pvar 8) ⟨mvL k R C n a m o (some (.ref kf)) (some (.ref kd)) (some (ceD e)) (some (.int (j : Int))) (some (sqD (sqAt e.b j))), σ⟩ = .ok (ks.contains (sqAt e.b j)) ⟨mvL k R C n a m o (some (.ref kf)) (some (.ref kd)) (some (ceD e)) (some (.int (j : Int))) (some (sqD (sqAt e.b j))), σ⟩ := run_cmp rfl rfl (in_dict hk _) rfl
  cases h : ks.contains (sqAt e.b j) with
  | true =>
    rw [h] at t
    exact W_seqW (W_ifT t rfl (W_seqR (run_bnd (tup2 rfl rfl) rfl) (.inl ⟨rfl, rfl, rfl⟩)))
  | false =>
    rw [h] at t
    exact W_seqW (W_ifF t rfl (W_run rfl (W_seq1 (run_bnd rfl (run_bnd rfl (run_bnd rfl (set_dict hk hl h _ _)))) (W_run rfl (.inr ⟨rfl, rfl, _, rfl⟩)))))
theorem W_mvRow {e : Ce} (g : e.b.Good R C) (hR : R ≤ 20) (hC : C ≤ 20) (hk : σ[kd]? = some (.dict ks)) (hl : (ks ++ sq e.b).length ≤ 200000) (hn : ks.Nodup) :
    W mvRow ⟨mvL k R C n a m o (some (.ref kf)) (some (.ref kd)) (some (ceD e)) i q, σ⟩ fun fl s => (¬ (ks ++ sq e.b).Nodup ∧ fl = .ret (.tup [.ref kf, .str (Str.ofString "shared")]) ∧ Kp σ s.sto) ∨ ((ks ++ sq e.b).Nodup ∧ fl = .next ∧ ∃ i' q' σ', s = ⟨mvL k R C n a m o (some (.ref kf)) (some (.ref kd)) (some (ceD e)) i' q', σ'⟩ ∧ Kp σ σ' ∧ σ'[kd]? = some (.dict (ks ++ sq e.b))) := by
  have hg := g
  unfold Bx.Good at hg
  have hN : e.b.h.toNat * e.b.w.toNat ≤ 20 * 20 := Nat.mul_le_mul (by exact d_le (iLe fun hzz => linI [_, _, _, _] [lt1 (.n 20) x0, le1 x1 (.n 20), le1 (.n 0) x2, le1 (.a x2 x3) x1, eq1 x0 x3] (Eq.refl true) hzz hR hg.1 hg.2.2.2.2.1 (tn_eq (iLe fun hyy => linI [_] [lt1 x0 (.n 0), le1 (.n 1) x0] (Eq.refl true) hyy hg.2.2.1)))) (by exact d_le (iLe fun hzz => linI [_, _, _, _] [lt1 (.n 20) x0, le1 x1 (.n 20), le1 (.n 0) x2, le1 (.a x2 x3) x1, eq1 x0 x3] (Eq.refl true) hzz hC hg.2.1 hg.2.2.2.2.2 (tn_eq (iLe fun hyy => linI [_] [lt1 x0 (.n 0), le1 (.n 1) x0] (Eq.refl true) hyy hg.2.2.2.1))))
  have hM : e.b.h * e.b.w = ((e.b.h.toNat * e.b.w.toNat : Nat) : Int) := by
    rw [Int.natCast_mul, Int.toNat_of_nonneg (by exact iLe fun hzz => linI [_] [lt1 x0 (.n 0), le1 (.n 1) x0] (Eq.refl true) hzz hg.2.2.1), Int.toNat_of_nonneg (by exact iLe fun hzz => linI [_] [lt1 x0 (.n 0), le1 (.n 1) x0] (Eq.refl true) hzz hg.2.2.2.1)]
  have hsq : sq e.b = (List.range (e.b.h.toNat * e.b.w.toNat)).map (sqAt e.b) := (sq_div e.b (by exact iLe fun hzz => linI [_] [lt1 x0 (.n 1), le1 (.n 1) x0] (Eq.refl true) hzz hg.2.2.2.1)).symm
  unfold mvRow
  have eM : binM pMul (binM pIdx (pvar 9) (ret1 (.int 2))) (binM pIdx (pvar 9) (ret1 (.int 3))) ⟨mvL k R C n a m o (some (.ref kf)) (some (.ref kd)) (some (ceD e)) i q, σ⟩ = .ok (.int (e.b.h * e.b.w)) ⟨mvL k R C n a m o (some (.ref kf)) (some (.ref kd)) (some (ceD e)) i q, σ⟩ := run_bin (a := .int e.b.h) (b := .int e.b.w) rfl rfl (run_mul (by rw [small64_of (by exact iLt fun hzz => linI [_] [le1 x0 (.s (.n 0) (.n 1000000)), le1 (.n 1) x0] (Eq.refl true) hzz hg.2.2.1) (by exact iLt fun hzz => linI [_, _, _] [le1 (.n 1000000) x0, le1 x1 (.n 20), le1 (.n 0) x2, le1 (.a x2 x0) x1] (Eq.refl true) hzz hR hg.1 hg.2.2.2.2.1)]; rfl))
  have eR : pRange [.int (e.b.h * e.b.w)] ⟨mvL k R C n a m o (some (.ref kf)) (some (.ref kd)) (some (ceD e)) i q, σ⟩ = .ok ⟨rngL 0 1 (e.b.h.toNat * e.b.w.toNat), fun _ => True⟩ ⟨mvL k R C n a m o (some (.ref kf)) (some (.ref kd)) (some (ceD e)) i q, σ⟩ := by
    rw [hM]
    exact run_of (W_range1.mpr ⟨okR_iff.mpr ⟨by exact iLe fun hzz => linI [_] [lt1 x0 (.s (.n 0) (.n 1099511627776)), le1 (.n 0) x0] (Eq.refl true) hzz (cast_nn _), by exact iLt fun hzz => linI [_] [le1 (.n 1099511627776) x0, le1 x0 (.m 20 (.n 20))] (Eq.refl true) hzz (c_le hN)⟩, rfl, rfl⟩)
  refine W_seqW (W_bnd.mpr (W_run (run_bnd (run_cons eM rfl) eR) ?_))
  refine W_forM (fun rem s => ∃ (js : List Nat) (dl : List (List Int)) (i' q' : Option D) (σ' : Sto), s = ⟨mvL k R C n a m o (some (.ref kf)) (some (.ref kd)) (some (ceD e)) i' q', σ'⟩ ∧ rem = js.map (fun (j : Nat) => D.int (0 + (j : Int) * 1)) ∧ dl ++ js.map (sqAt e.b) = ks ++ sq e.b ∧ dl.Nodup ∧ Kp σ σ' ∧ σ'[kd]? = some (.dict dl)) ?_ ?_ _ _ ⟨List.range (e.b.h.toNat * e.b.w.toNat), ks, i, q, σ, rfl, rfl, by rw [hsq], hn, .refl _, hk⟩
  · rintro d rest _ ⟨js, dl, i', q', σ', rfl, hrem, he, hd, kp, hk'⟩
    cases js with
    | nil => cases hrem
    | cons j js =>
      cases hrem
      have hl2 : dl.length ≤ 200000 := by rw [← he, List.length_append] at hl; exact nLe fun hzz => linN [_, _] [lt1 (.n 200000) x0, le1 (.a x0 x1) (.n 200000), le1 (.n 0) x1] (Eq.refl true) hzz hl (Nat.zero_le _)
      refine ⟨trivial, mvL k R C n a m o (some (.ref kf)) (some (.ref kd)) (some (ceD e)) (some (.int (j : Int))) q', by show some (upd _ 10 (D.int (0 + (j : Int) * 1))) = _; rw [Int.zero_add, Int.mul_one]; exact congrArg some mvL_10, (W_mvIn g hC hk' hl2).mono ?_⟩
      rw [List.map_cons] at he
      rintro fl s (⟨hc, rfl, hs⟩ | ⟨hc, rfl, q2, rfl⟩)
      · refine .inl ⟨fun hn2 => ?_, rfl, by rw [hs]; exact kp⟩
        rw [← he] at hn2
        rw [not_in hn2] at hc
        cases hc
      · refine ⟨js, dl ++ [sqAt e.b j], _, q2, _, rfl, rfl, by rw [← he, List.append_assoc]; rfl, ?_, kp.trans (Kp.setD hk'), List.getElem?_set_self (List.getElem?_eq_some_iff.mp hk').1⟩
        refine List.nodup_append.mpr ⟨hd, List.nodup_cons.mpr ⟨List.not_mem_nil, List.nodup_nil⟩, fun y my z mz e => ?_⟩
        rw [List.mem_singleton.mp mz] at e
        subst e
        have := List.contains_iff_mem.mpr my
        rw [hc] at this
        cases this
  · rintro _ ⟨js, dl, i', q', σ', rfl, hrem, he, hd, kp, hk'⟩
    cases js with
    | cons j js => cases hrem
    | nil =>
      rw [List.map_nil, List.append_nil] at he
      subst he
      exact ⟨trivial, W_run rfl (.inr ⟨hd, rfl, i', q', σ', rfl, kp, hk'⟩)⟩
end
end Mine

end

/- part N04 -/
section
set_option Elab.async false
set_option linter.unusedVariables false
set_option linter.unusedSimpArgs false
set_option maxRecDepth 10000
set_option maxHeartbeats 2000000
namespace Mine
open PySem PyProof.Rows PySem.Builtin.Str
theorem W_moved {R C : Int} (hR : 1 ≤ R) (hR2 : R ≤ 20) (hC : 1 ≤ C) (hC2 : C ≤ 20) {cs : List Ce} (ok : CsOk R C cs) {k : Nat} {n : Int} {st : St} (hk : st.sto[k]? = some (.list (cs.map ceD))) {Q : D → St → Prop}
    (hQ : ∀ kr σ' ds ad, Kp st.sto σ' → σ'[kr]? = some (.list ds) → Fault R C σ' ds ad → Q (.tup [.ref kr, .str (wordOf ad)]) ⟨st.loc, σ'⟩) : W (F__law_moved [.ref k, .int R, .int C, .int n]) st Q := by
  have hsl : (1000 : Nat) ≤ sizeLine := by decide
  have hl1 := ok.l1
  have hl2 := ok.l2
  have hN : (cs.length : Int) ≠ 0 ∧ (cs.length : Int).natAbs < 1073741824 := ⟨by exact fun hzz => linI [_] [eq1 x0 (.n 0), le1 (.n 1) x0] (Eq.refl true) hzz (c_le hl1), by exact nLt fun hzz => linN [_] [le1 (.n 1073741824) x0, le1 x0 (.n 125)] (Eq.refl true) hzz hl2⟩
  have el : ∀ S : St, S.sto[k]? = some (.list (cs.map ceD)) → pLenD [.ref k] S = .ok (.int cs.length) S := fun S h => (lenD_eq h).trans (run_of (W_lenR.mpr ⟨_, h, by rw [List.length_map]; exact nLt fun hzz => linN [_] [le1 (.n 4611686018427387904) x0, le1 x0 (.n 125)] (Eq.refl true) hzz hl2, by rw [List.length_map], rfl⟩))
  have hloc : upd (upd (bindP emptyL [0, 1, 2, 3] [.ref k, .int R, .int C, .int n]) 4 (.int (n.fmod cs.length))) 5 (.int (n.fdiv cs.length)) = mvL k R C n (n.fmod cs.length) (n.fdiv cs.length) none none none none none none := by
    funext i; rcases i with _ | _ | _ | _ | _ | _ | _ | _ | _ | _ | _ | _ | i <;> rfl
  refine W_mkFn rfl ?_
  unfold d__law_moved
  refine W_seq1 (run_set (run_bin rfl (run_bnd rfl (el _ hk)) (run_mod5 hN.1))) ?_
  refine W_seq1 (run_set (run_bin rfl (run_bnd rfl (el _ hk)) (run_div5 hN))) ?_
  show W _ ⟨upd (upd (bindP emptyL [0, 1, 2, 3] [.ref k, .int R, .int C, .int n]) 4 (.int (n.fmod cs.length))) 5 (.int (n.fdiv cs.length)), st.sto⟩ _
  rw [hloc]
  clear hloc
  have ha := fmod_range (a := n) (b := (cs.length : Int)) (by exact iLt fun hzz => linI [_] [le1 x0 (.n 0), le1 (.n 1) x0] (Eq.refl true) hzz (c_le hl1))
  generalize n.fmod cs.length = a at ha ⊢
  generalize n.fdiv cs.length = m
  have la : a.toNat < cs.length := by exact d_lt (iLt fun hzz => linI [_, _, _] [le1 x0 x1, lt1 x2 x0, eq1 x1 x2] (Eq.refl true) hzz ha.2 (tn_eq (iLe fun hyy => linI [_] [lt1 x0 (.n 0), le1 (.n 0) x0] (Eq.refl true) hyy ha.1)))
  have lm : (cs.map ceD).length = cs.length := List.length_map _
  have ea : (a + 1).toNat = a.toNat + 1 := by exact d_eq (iEq (fun hzz => linI [(↑a.toNat), (↑(a + 1).toNat), (a)] [lt1 x1 (.a x0 (.n 1)), le1 (.a x2 (.n 1)) x1, eq1 x0 x2] (Eq.refl true) hzz (tn_lo _) (tn_eq (iLe fun hyy => linI [(a)] [lt1 x0 (.n 0), le1 (.n 0) x0] (Eq.refl true) hyy ha.1))) (fun hzz => linI [(↑a.toNat), (↑(a + 1).toNat), (a)] [lt1 (.a x0 (.n 1)) x1, le1 x2 x0, eq1 x1 (.a x2 (.n 1))] (Eq.refl true) hzz (tn_lo _) (tn_eq (iLe fun hyy => linI [(a)] [lt1 (.a x0 (.n 1)) (.n 0), le1 (.n 0) x0] (Eq.refl true) hyy ha.1))))
  have ma := List.getElem_mem la
  have ga := ok.good ma
  have hx := ok.tx _ ma
  have hsp := split_at cs la
  have ra : ∀ (σ : Sto), Kp st.sto σ → (binM pIdx (pvar 0) (pvar 4)) ⟨mvL k R C n a m none none none none none none, σ⟩ = .ok (ceD cs[a.toNat]) ⟨mvL k R C n a m none none none none none none, σ⟩ := fun σ kp => by
    have e : (cs.map ceD)[a.toNat]'(by exact nLt fun hzz => linN [_, _, _] [le1 x1 x0, lt1 x0 x2, qe1 x1 x2] (Eq.refl true) hzz la lm) = ceD cs[a.toNat] := List.getElem_map ..
    rw [← e]
    exact run_bin rfl rfl (run_ref (kp.2 _ _ hk) ha.1 (by exact iLt fun hzz => linI [_, _, _] [le1 x1 x0, lt1 x0 x2, qe1 x1 x2] (Eq.refl true) hzz ha.2 (c_eq lm)) (by exact nLe fun hzz => linN [_, _] [lt1 (.n 4611686018427387904) x0, le1 x1 (.n 125), eq1 x0 x1] (Eq.refl true) hzz hl2 lm))
  generalize cs[a.toNat] = c at ma ga hx hsp ra
  -- the cell as a list
  refine W_seq1 (st1 := ⟨mvL k R C n a m (some (.ref st.sto.length)) none none none none none, st.sto ++ [.list [.int c.b.t, .int c.b.l, .int c.b.h, .int c.b.w, .str c.x]]⟩) (by rw [← mvL_6 (o := none) (x := .ref st.sto.length)]; exact run_set (st1 := ⟨mvL k R C n a m none none none none none none, st.sto ++ [.list [.int c.b.t, .int c.b.l, .int c.b.h, .int c.b.w, .str c.x]]⟩) (run_bnd (run_cons (ra _ (.refl _)) rfl) (run_lot (by show 5 ≤ 1000; decide)))) ?_
  have m4 := fmod_range (a := m) (b := 4) (by decide)
  have m2 := fmod_range (a := m.fdiv 4) (b := 2) (by decide)
  obtain ⟨u, hu, hue⟩ : ∃ u : Int, (u = 1 ∨ u = -1) ∧ ∀ h, [D.int 1, .int (-1)][((m.fdiv 4).fmod 2).toNat]'h = .int u := by
    obtain h | h : (m.fdiv 4).fmod 2 = 0 ∨ (m.fdiv 4).fmod 2 = 1 := by omega
    · exact ⟨1, .inl rfl, by rw [h]; intro _; rfl⟩
    · exact ⟨-1, .inr rfl, by rw [h]; intro _; rfl⟩
  obtain ⟨v, b', hv, hset, hmv⟩ := moved_step c.b (.str c.x) m4.1 m4.2 hu
  generalize hL5 : [D.int c.b.t, .int c.b.l, .int c.b.h, .int c.b.w, .str c.x] = L5 at hv hset
  have l5 : L5.length = 5 := by rw [← hL5]; rfl
  have g5 : (st.sto ++ [PO.list L5])[st.sto.length]? = some (.list L5) := List.getElem?_concat_length
  have g52 : (st.sto ++ [PO.list L5] ++ [PO.list [.int 1, .int (-1)]])[st.sto.length]? = some (.list L5) := get_pre
  have eSet : setM pSetDL (binM pAdd (binM pIdx (pvar 6) (binM pMod (pvar 5) (ret1 (.int 4)))) (binM pIdx (listM (consM (ret1 (.int 1)) (consM (bnd (ret1 (.int 1)) pNeg) nilM))) (binM pMod (binM pDiv (pvar 5) (ret1 (.int 4))) (ret1 (.int 2))))) (pvar 6) (binM pMod (pvar 5) (ret1 (.int 4))) ⟨mvL k R C n a m (some (.ref st.sto.length)) none none none none none, st.sto ++ [.list L5]⟩ = .ok .next ⟨mvL k R C n a m (some (.ref st.sto.length)) none none none none none, (st.sto ++ [PO.list L5] ++ [PO.list [.int 1, .int (-1)]]).set st.sto.length (.list (L5.set (m.fmod 4).toNat (.int (v + u))))⟩ := by
    have e1 : binM pIdx (pvar 6) (binM pMod (pvar 5) (ret1 (.int 4))) ⟨mvL k R C n a m (some (.ref st.sto.length)) none none none none none, st.sto ++ [.list L5]⟩ = .ok (.int v) ⟨mvL k R C n a m (some (.ref st.sto.length)) none none none none none, st.sto ++ [.list L5]⟩ := by
      rw [← hv (by exact d_lt (iLt fun hzz => linI [_, _, _] [le1 x0 x1, lt1 x2 (.n 4), qe1 x0 (.n 5), eq1 x1 x2] (Eq.refl true) hzz m4.2 (c_eq l5) (tn_eq (iLe fun hyy => linI [_] [lt1 x0 (.n 0), le1 (.n 0) x0] (Eq.refl true) hyy m4.1))))]
      exact run_bin (a := .ref st.sto.length) (b := .int (m.fmod 4)) rfl (run_bin rfl rfl (run_mod5 (by decide))) (run_ref g5 m4.1 (by exact iLt fun hzz => linI [_, _] [le1 x1 x0, lt1 x0 (.n 4), qe1 x1 (.n 5)] (Eq.refl true) hzz m4.2 (c_eq l5)) (by exact nLe fun hzz => linN [_] [lt1 (.n 4611686018427387904) x0, eq1 x0 (.n 5)] (Eq.refl true) hzz l5))
    have e2 : binM pIdx (listM (consM (ret1 (.int 1)) (consM (bnd (ret1 (.int 1)) pNeg) nilM))) (binM pMod (binM pDiv (pvar 5) (ret1 (.int 4))) (ret1 (.int 2))) ⟨mvL k R C n a m (some (.ref st.sto.length)) none none none none none, st.sto ++ [.list L5]⟩ = .ok (.int u) ⟨mvL k R C n a m (some (.ref st.sto.length)) none none none none none, st.sto ++ [.list L5] ++ [.list [.int 1, .int (-1)]]⟩ :=
      run_of (W_pick (ds := [.int 1, .int (-1)]) (i := (m.fdiv 4).fmod 2) (l := mvL k R C n a m (some (.ref st.sto.length)) none none none none none) (σ := st.sto ++ [.list L5]) rfl (by show 2 ≤ 1000; decide) (run_bin (run_bin rfl rfl rfl) rfl (run_mod5 (by decide))) m2.1 m2.2 fun hh => ⟨hue hh, rfl⟩)
    refine run_bnd (b := .int (v + u)) (run_bin e1 e2 rfl) (run_bnd (b := .ref st.sto.length) rfl (run_bnd (b := .int (m.fmod 4)) (run_bin rfl rfl (run_mod5 (by decide))) ?_))
    show pSetL (.ref st.sto.length) (.int (m.fmod 4)) (.int (v + u)) _ = _
    unfold pSetL
    simp only [g52]
    rw [if_pos ⟨m4.1, by exact iLt fun hzz => linI [_, _] [le1 x1 x0, lt1 x0 (.n 4), qe1 x1 (.n 5)] (Eq.refl true) hzz m4.2 (c_eq l5), by exact nLe fun hzz => linN [_, _] [lt1 x0 x1, le1 (.n 1000) x0, eq1 x1 (.n 5)] (Eq.refl true) hzz hsl l5⟩]
  refine W_seq1 eSet ?_
  rw [hset]
  have g6 : ((st.sto ++ [PO.list L5] ++ [PO.list [.int 1, .int (-1)]]).set st.sto.length (.list [D.int b'.t, .int b'.l, .int b'.h, .int b'.w, .str c.x]))[st.sto.length]? = some (.list [D.int b'.t, .int b'.l, .int b'.h, .int b'.w, .str c.x]) := List.getElem?_set_self (List.getElem?_eq_some_iff.mp g52).1
  have kp0 : Kp st.sto ((st.sto ++ [PO.list L5] ++ [PO.list [.int 1, .int (-1)]]).set st.sto.length (.list [D.int b'.t, .int b'.l, .int b'.h, .int b'.w, .str c.x])) := by
    refine ⟨by rw [List.length_set, List.length_append, List.length_append]; exact nLe fun hzz => linN [_, _] [lt1 (.a (.a x0 x1) x1) x0, leW 2 (.n 0) x1] (Eq.refl true) hzz (Nat.zero_le _), fun i ds e => ?_⟩
    have hi := (List.getElem?_eq_some_iff.mp e).1
    rw [List.getElem?_set_ne (by exact fun hzz => linN [_, _] [eq1 x1 x0, lt1 x0 x1] (Eq.refl true) hzz hi)]
    exact ext2 e
  generalize (st.sto ++ [PO.list L5] ++ [PO.list [.int 1, .int (-1)]]).set st.sto.length (.list [D.int b'.t, .int b'.l, .int b'.h, .int b'.w, .str c.x]) = σ0 at g6 kp0 ⊢
  generalize st.sto.length = k6 at g6 ⊢
  clear eSet g5 g52 hset hv hL5 l5
  have o5 : ∀ (f d c' i q : Option D) (σ : Sto) (j : Nat) (hj : j < 5), σ[k6]? = some (.list [D.int b'.t, .int b'.l, .int b'.h, .int b'.w, .str c.x]) → binM pIdx (pvar 6) (ret1 (.int (j : Int))) ⟨mvL k R C n a m (some (.ref k6)) f d c' i q, σ⟩ = .ok ([D.int b'.t, .int b'.l, .int b'.h, .int b'.w, .str c.x][j]) ⟨mvL k R C n a m (some (.ref k6)) f d c' i q, σ⟩ := fun f d c' i q σ j hj h =>
    run_bin (a := .ref k6) (b := .int (j : Int)) rfl rfl (run_ref h (by exact iLe fun hzz => linI [_] [lt1 x0 (.n 0), le1 (.n 0) x0] (Eq.refl true) hzz (cast_nn _)) (by show (j : Int) < 5; exact iLt fun hzz => linI [_] [le1 (.n 5) x0, lt1 x0 (.n 5)] (Eq.refl true) hzz (c_lt hj)) (by show 5 ≤ 2 ^ 62; decide))
  -- found
  refine W_seqW (W_bnd.mpr (W_repl (hv := a + 1) (Z := fun d _ => d = ceD ⟨b', c.x⟩) (kp0.2 _ _ hk) rfl rfl ha.1 (by exact iLe fun hzz => linI [_, _, _] [lt1 x1 x0, lt1 x0 x2, qe1 x1 x2] (Eq.refl true) hzz ha.2 (c_eq lm)) (fun _ => run_bin rfl rfl rfl) (by exact iLe fun hzz => linI [_] [lt1 (.a x0 (.n 1)) (.n 0), le1 (.n 0) x0] (Eq.refl true) hzz ha.1) (by exact iLe fun hzz => linI [_, _, _] [lt1 x1 (.a x0 (.n 1)), lt1 x0 x2, qe1 x1 x2] (Eq.refl true) hzz ha.2 (c_eq lm)) (by exact nLe fun hzz => linN [_, _] [lt1 (.n 300) x0, le1 x1 (.n 125), eq1 x0 x1] (Eq.refl true) hzz hl2 lm) (fun σ' k' => W_run (a := ceD ⟨b', c.x⟩) (st1 := ⟨mvL k R C n a m (some (.ref k6)) none none none none none, σ'⟩) ?_ ⟨rfl, .refl _, rfl⟩) fun d σ' kf σ1 hz k1 k2 hg => ?_))
  · have h6 := k'.2 _ _ g6
    exact run_of (W_tupM.mpr (W_run (a := [.int b'.t, .int b'.l, .int b'.h, .int b'.w, .str c.x]) (run_cons (o5 _ _ _ _ _ _ 0 (by decide) h6) (run_cons (o5 _ _ _ _ _ _ 1 (by decide) h6) (run_cons (o5 _ _ _ _ _ _ 2 (by decide) h6) (run_cons (o5 _ _ _ _ _ _ 3 (by decide) h6) (run_cons (o5 _ _ _ _ _ _ 4 (by decide) h6) rfl))))) ⟨by show 5 ≤ sizeLine; exact nLe fun hzz => linN [_] [lt1 x0 (.n 5), le1 (.n 1000) x0] (Eq.refl true) hzz hsl, rfl, rfl⟩))
  subst hz
  rw [ea] at hg
  have kp1 := kp0.trans (k1.trans k2)
  have h6 := (k1.trans k2).2 _ _ g6
  refine W_run (a := Fl.next) (st1 := ⟨mvL k R C n a m (some (.ref k6)) (some (.ref kf)) none none none none, σ1⟩) (by rw [← mvL_7 (f := none) (x := .ref kf)]; rfl) ?_
  have layC : ∀ σ, LayD σ 2 3 (ceD ⟨b', c.x⟩) := fun σ => (LayD.tup (lay5 layI layI layI layI ((LayD.str (m := 1) (str_ok (plain_le hx.1)) (by decide)).mono (l' := 1) (m' := 2) (by decide) (by decide)))).mono (by decide) (by decide)
  have tst : (orM (cmpM pLt (bnd (consM (binM pIdx (pvar 6) (ret1 (.int 0))) (consM (binM pIdx (pvar 6) (ret1 (.int 1))) nilM)) pMin2) (ret1 (.int 0))) (orM (cmpM pLt (bnd (consM (binM pIdx (pvar 6) (ret1 (.int 2))) (consM (binM pIdx (pvar 6) (ret1 (.int 3))) nilM)) pMin2) (ret1 (.int 1))) (orM (cmpM pGt (binM pAdd (binM pIdx (pvar 6) (ret1 (.int 0))) (binM pIdx (pvar 6) (ret1 (.int 2)))) (pvar 1)) (cmpM pGt (binM pAdd (binM pIdx (pvar 6) (ret1 (.int 1))) (binM pIdx (pvar 6) (ret1 (.int 3)))) (pvar 2))))) ⟨mvL k R C n a m (some (.ref k6)) (some (.ref kf)) none none none none, σ1⟩ = .ok (decide (min b'.t b'.l < 0) || (decide (min b'.h b'.w < 1) || (decide (b'.t + b'.h > R) || decide (b'.l + b'.w > C)))) ⟨mvL k R C n a m (some (.ref k6)) (some (.ref kf)) none none none none, σ1⟩ := by
    have q0 := o5 (some (.ref kf)) none none none none σ1 0 (by decide) h6
    have q1 := o5 (some (.ref kf)) none none none none σ1 1 (by decide) h6
    have q2 := o5 (some (.ref kf)) none none none none σ1 2 (by decide) h6
    have q3 := o5 (some (.ref kf)) none none none none σ1 3 (by decide) h6
    exact run_orM (run_cmp (a := .int (min b'.t b'.l)) (run_bnd (run_cons q0 (run_cons q1 rfl)) rfl) rfl rfl rfl) (run_orM (run_cmp (a := .int (min b'.h b'.w)) (run_bnd (run_cons q2 (run_cons q3 rfl)) rfl) rfl rfl rfl) (run_orM (run_cmp (a := .int (b'.t + b'.h)) (run_bin q0 q2 rfl) rfl rfl rfl) (run_cmp (a := .int (b'.l + b'.w)) (run_bin q1 q3 rfl) rfl rfl rfl)))
  refine W_seqW (W_ifM.mpr (W_run tst ?_))
  by_cases hbad : (decide (min b'.t b'.l < 0) || (decide (min b'.h b'.w < 1) || (decide (b'.t + b'.h > R) || decide (b'.l + b'.w > C)))) = true
  · rw [if_pos hbad]
    simp only [Bool.or_eq_true, decide_eq_true_eq] at hbad
    refine W_seqR (run_bnd (tup2 rfl rfl) rfl) ?_
    have := hQ kf σ1 _ 49 kp1 hg (ok.fault1 (bad_box rfl rfl rfl rfl (lies_bad (t := b'.t) (l := b'.l) (h := b'.h) (w := b'.w) (by omega))) (layC σ1) (.inl rfl))
    rw [w49] at this
    exact this
  rw [if_neg hbad]
  simp only [Bool.or_eq_true, decide_eq_true_eq, not_or] at hbad
  have g' : b'.Good R C := by unfold Bx.Good; omega
  refine W_run rfl ?_
  -- the squares
  have hes : (cs.map ceD).take a.toNat ++ ceD ⟨b', c.x⟩ :: (cs.map ceD).drop (a.toNat + 1) = (cs.take a.toNat ++ (⟨b', c.x⟩ : Ce) :: cs.drop (a.toNat + 1)).map ceD := by rw [List.map_append, List.map_cons, List.map_take, List.map_drop]
  rw [hes] at hg
  have hok : ∀ e, e ∈ cs.take a.toNat ++ (⟨b', c.x⟩ : Ce) :: cs.drop (a.toNat + 1) → e.b.Good R C ∧ TxL e.x := fun e me => by
    rcases List.mem_append.mp me with me | me
    · have := List.mem_of_mem_take me
      exact ⟨ok.good this, ok.tx _ this⟩
    · rcases List.mem_cons.mp me with rfl | me
      · exact ⟨g', hx⟩
      · have := List.mem_of_mem_drop me
        exact ⟨ok.good this, ok.tx _ this⟩
  have hlen : (cs.take a.toNat ++ (⟨b', c.x⟩ : Ce) :: cs.drop (a.toNat + 1)).length ≤ 300 := by rw [List.length_append, List.length_cons, List.length_take, List.length_drop]; omega
  have hlay : ∀ σ d, d ∈ (cs.take a.toNat ++ (⟨b', c.x⟩ : Ce) :: cs.drop (a.toNat + 1)).map ceD → LayD σ 2 3 d := fun σ d md => by
    rw [← hes] at md
    rcases List.mem_append.mp md with md | md
    · exact ok.lays (List.mem_of_mem_take md) σ
    · rcases List.mem_cons.mp md with rfl | md
      · exact layC σ
      · exact ok.lays (List.mem_of_mem_drop md) σ
  have hbd : ¬ ((cs.take a.toNat ++ (⟨b', c.x⟩ : Ce) :: cs.drop (a.toNat + 1)).flatMap fun c => sq c.b).Nodup ∨ ((((cs.take a.toNat ++ (⟨b', c.x⟩ : Ce) :: cs.drop (a.toNat + 1)).flatMap fun c => sq c.b).length : Nat) : Int) < R * C := by
    obtain ⟨r, rfl⟩ : ∃ r : Nat, R = r := ⟨R.toNat, by exact iEq (fun hzz => linI [_, _] [lt1 x0 x1, eq1 x1 x0] (Eq.refl true) hzz (tn_eq (iLe fun hyy => linI [_] [lt1 x0 (.n 0), le1 (.n 1) x0] (Eq.refl true) hyy hR))) (fun hzz => linI [_, _] [lt1 x1 x0, le1 x0 x1] (Eq.refl true) hzz (tn_lo _))⟩
    obtain ⟨w, rfl⟩ : ∃ c : Nat, C = c := ⟨C.toNat, by exact iEq (fun hzz => linI [_, _] [lt1 x0 x1, eq1 x1 x0] (Eq.refl true) hzz (tn_eq (iLe fun hyy => linI [_] [lt1 x0 (.n 0), le1 (.n 1) x0] (Eq.refl true) hyy hC))) (fun hzz => linI [_, _] [lt1 x1 x0, le1 x0 x1] (Eq.refl true) hzz (tn_lo _))⟩
    have ht := ok.til
    have hv := ok.cov
    rw [hsp, List.map_append, List.map_cons] at ht hv
    have := moved_bad ht hv g' (moved_one ga g' hmv)
    rw [fl_map, List.map_append, List.map_cons, ← Int.natCast_mul]
    rcases this with h | h
    · exact .inl h
    · exact .inr (Int.ofNat_lt.mpr h)
  generalize cs.take a.toNat ++ (⟨b', c.x⟩ : Ce) :: cs.drop (a.toNat + 1) = es at hg hok hlen hlay hbd
  have hT : (es.flatMap fun c => sq c.b).length ≤ 200000 := by
    have := squares_len hR2 hC2 es fun c mc => (hok c mc).1
    exact nLe fun hzz => linN [_, _] [lt1 (.n 200000) x0, leW 400 x1 (.n 300), le1 x0 (.m 400 x1)] (Eq.refl true) hzz hlen this
  refine W_seq1 (st1 := ⟨mvL k R C n a m (some (.ref k6)) (some (.ref kf)) (some (.ref σ1.length)) none none none, σ1 ++ [.dict []]⟩) (by rw [← mvL_8 (d := none) (x := .ref σ1.length)]; rfl) ?_
  have kp2 := kp1.trans (Kp.app σ1 [.dict []])
  have hg2 := (Ext.app σ1 [.dict []]).get hg
  have hd : (σ1 ++ [PO.dict []])[σ1.length]? = some (.dict []) := List.getElem?_concat_length
  generalize σ1.length = kd at hd ⊢
  generalize σ1 ++ [PO.dict []] = σ2 at hd kp2 hg2 ⊢
  refine W_seqW (W_bnd.mpr (W_run (run_bnd rfl (run_of (W_srcR.mpr ⟨_, hg2, rfl, rfl⟩))) ?_))
  refine W_forM (fun rem s => ∃ (cr : List Ce) (ks : List (List Int)) (x i q : Option D) (σ' : Sto), rem = cr.map ceD ∧ s = ⟨mvL k R C n a m (some (.ref k6)) (some (.ref kf)) (some (.ref kd)) x i q, σ'⟩ ∧ Kp σ2 σ' ∧ σ'[kd]? = some (.dict ks) ∧ ks.Nodup ∧ ks ++ cr.flatMap (fun c => sq c.b) = es.flatMap (fun c => sq c.b) ∧ ∀ c, c ∈ cr → c ∈ es) ?_ ?_ _ _ ⟨es, [], none, none, none, σ2, rfl, rfl, .refl _, hd, List.nodup_nil, rfl, fun _ m => m⟩
  · rintro d' rest' _ ⟨cr, ks, x, i, q, σ', hrem, rfl, kp, hk1, hns, he, hcr⟩
    cases cr with
    | nil => cases hrem
    | cons e cr =>
      cases hrem
      rw [List.flatMap_cons, ← List.append_assoc] at he
      have hl : (ks ++ sq e.b).length ≤ 200000 := by rw [← he, List.length_append] at hT; exact nLe fun hzz => linN [_, _] [lt1 (.n 200000) x0, le1 (.a x0 x1) (.n 200000), le1 (.n 0) x1] (Eq.refl true) hzz hT (Nat.zero_le _)
      refine ⟨kp.2 _ _ hg2, mvL k R C n a m (some (.ref k6)) (some (.ref kf)) (some (.ref kd)) (some (ceD e)) i q, congrArg some mvL_9, (W_mvRow (hok e (hcr e List.mem_cons_self)).1 hR2 hC2 hk1 hl hns).mono ?_⟩
      rintro fl s (⟨hn, rfl, ks'⟩ | ⟨hn, rfl, i', q', σ3, rfl, k3, hk3⟩)
      · have kp3 := kp.trans ks'
        have := hQ kf s.sto _ 73 (kp2.trans kp3) (kp3.2 _ _ hg2) ⟨by rw [List.length_map]; exact hlen, hlay _, .inr ⟨es, rfl, hok, .inl ⟨fun h => hn ?_, rfl⟩⟩⟩
        · rw [w73] at this
          exact this
        · rw [← he] at h; exact (List.nodup_append.mp h).1
      · exact ⟨cr, ks ++ sq e.b, _, i', q', σ3, rfl, rfl, kp.trans k3, hk3, hn, he, fun c mc => hcr c (List.mem_cons_of_mem _ mc)⟩
  · rintro _ ⟨cr, ks, x, i, q, σ', hrem, rfl, kp, hk1, hns, he, _⟩
    cases cr with
    | cons e cr => cases hrem
    | nil =>
      rw [List.flatMap_nil, List.append_nil] at he
      subst he
      refine ⟨kp.2 _ _ hg2, ?_⟩
      have hlt : (((es.flatMap fun c => sq c.b).length : Nat) : Int) < R * C := by
        rcases hbd with h | h
        · exact absurd hns h
        · exact h
      have eL : ∀ σ4 : Sto, σ4[kd]? = some (.dict (es.flatMap fun c => sq c.b)) → pLenD [.ref kd] ⟨mvL k R C n a m (some (.ref k6)) (some (.ref kf)) (some (.ref kd)) x i q, σ4⟩ = .ok (.int ((es.flatMap fun c => sq c.b).length : Nat)) ⟨mvL k R C n a m (some (.ref k6)) (some (.ref kf)) (some (.ref kd)) x i q, σ4⟩ := fun σ4 h => by
        unfold pLenD
        simp only [h]
        rw [if_pos (by exact nLt fun hzz => linN [_] [le1 (.n 4611686018427387904) x0, le1 x0 (.n 200000)] (Eq.refl true) hzz hT)]
      have hk4 := (Ext.app σ' [.list [.str (Str.ofString "made"), .str (Str.ofString "bare")]]).get hk1
      have eI : (bnd (consM (binM pLt (bnd (consM (pvar 8) nilM) pLenD) (binM pMul (pvar 1) (pvar 2))) nilM) pIntOf) ⟨mvL k R C n a m (some (.ref k6)) (some (.ref kf)) (some (.ref kd)) x i q, σ' ++ [.list [.str (Str.ofString "made"), .str (Str.ofString "bare")]]⟩ = .ok (.int 1) ⟨mvL k R C n a m (some (.ref k6)) (some (.ref kf)) (some (.ref kd)) x i q, σ' ++ [.list [.str (Str.ofString "made"), .str (Str.ofString "bare")]]⟩ := by
        refine run_bnd (b := [.bool (decide ((((es.flatMap fun c => sq c.b).length : Nat) : Int) < R * C))]) (run_cons (run_bin (run_bnd (b := [.ref kd]) rfl (eL _ hk4)) (run_bin (a := .int R) (b := .int C) rfl rfl (run_mul (by rw [small64_of (by exact iLt fun hzz => linI [_] [le1 x0 (.s (.n 0) (.n 1000000)), le1 (.n 1) x0] (Eq.refl true) hzz hR) (by exact iLt fun hzz => linI [_] [le1 (.n 1000000) x0, le1 x0 (.n 20)] (Eq.refl true) hzz hR2)]; rfl))) rfl) rfl) ?_
        rw [decide_eq_true hlt]
        rfl
      have pk : binM pIdx (listM (consM (ret1 (.str (Str.ofString "made"))) (consM (ret1 (.str (Str.ofString "bare"))) nilM))) (bnd (consM (binM pLt (bnd (consM (pvar 8) nilM) pLenD) (binM pMul (pvar 1) (pvar 2))) nilM) pIntOf) ⟨mvL k R C n a m (some (.ref k6)) (some (.ref kf)) (some (.ref kd)) x i q, σ'⟩ = .ok (.str (Str.ofString "bare")) ⟨mvL k R C n a m (some (.ref k6)) (some (.ref kf)) (some (.ref kd)) x i q, σ' ++ [.list [.str (Str.ofString "made"), .str (Str.ofString "bare")]]⟩ :=
        run_of (W_pick (ds := [.str (Str.ofString "made"), .str (Str.ofString "bare")]) (i := 1) (l := mvL k R C n a m (some (.ref k6)) (some (.ref kf)) (some (.ref kd)) x i q) (σ := σ') rfl (by show 2 ≤ 1000; decide) eI (by decide) (by show (1 : Int) < 2; decide) fun hh => ⟨rfl, rfl⟩)
      refine W_seqR (run_bnd (tup2 rfl pk) rfl) ?_
      have kp5 := kp.trans (Kp.app σ' [.list [.str (Str.ofString "made"), .str (Str.ofString "bare")]])
      have := hQ kf _ _ 85 (kp2.trans kp5) (kp5.2 _ _ hg2) ⟨by rw [List.length_map]; exact hlen, hlay _, .inr ⟨es, rfl, hok, .inr ⟨hns, hlt, rfl⟩⟩⟩
      rw [w85] at this
      exact this
end Mine

end

/- part V04 -/
section
set_option Elab.async false
set_option linter.unusedVariables false
set_option linter.unusedSimpArgs false
set_option maxRecDepth 10000
set_option maxHeartbeats 2000000
namespace Mine
open PySem PyProof.Rows PySem.Builtin.Str
noncomputable def vL (ns : List Int) (r c l w b u : D) (s p : Option D) : Loc := locOf [some (.scr ns), some r, some c, some l, some w, some b, some u, s, p]
section
variable {ns : List Int} {r c l w b u d : D} {s p : Option D}
theorem vL_1 : upd (vL ns r c l w b u s p) 1 d = vL ns d c l w b u s p := upd_locOf (by show 1 < 9; decide)
theorem vL_2 : upd (vL ns r c l w b u s p) 2 d = vL ns r d l w b u s p := upd_locOf (by show 2 < 9; decide)
theorem vL_3 : upd (vL ns r c l w b u s p) 3 d = vL ns r c d w b u s p := upd_locOf (by show 3 < 9; decide)
theorem vL_6 : upd (vL ns r c l w b u s p) 6 d = vL ns r c l w b d s p := upd_locOf (by show 6 < 9; decide)
theorem vL_7 : upd (vL ns r c l w b u s p) 7 d = vL ns r c l w b u (some d) p := upd_locOf (by show 7 < 9; decide)
theorem vL_8 : upd (vL ns r c l w b u s p) 8 d = vL ns r c l w b u s (some d) := upd_locOf (by show 8 < 9; decide)
end
theorem bads_all : ∀ d, d ∈ [D.int 0, .int 21, .int (-1), .bool true, .str (Str.ofString "3"), .none, .int 1000, .int (-20), .bool false] → plainD d = true ∧ sizeB d = false := by
  intro d m
  simp only [List.mem_cons, List.not_mem_nil, or_false] at m
  rcases m with rfl | rfl | rfl | rfl | rfl | rfl | rfl | rfl | rfl <;> exact ⟨rfl, rfl⟩
theorem run_at {ns : List Int} {i : Int} {S : St} {m : Mn (List D)} (hl : ns.length < 2 ^ 62) (h0 : 0 ≤ i) (hk : i < 2 ^ 63) (e : m S = .ok [.scr ns, .int i] S) : bnd m F__law_at S = .ok (.int (ns.getD i.toNat 0)) S := run_bnd e (run_of (W_at h0 hk hl ⟨rfl, rfl⟩))
/-- how the law goes on: the sizes, the cells, the word that is due -/
structure Due (r c : D) (kl : Nat) (y : Str) (σ : Sto) : Prop where
  ex : ∃ ds ad, σ[kl]? = some (.list ds) ∧ ds.length ≤ 300 ∧ (∀ d, d ∈ ds → LayD σ 2 3 d) ∧ y = wordOf ad ∧ (ad = 37 ∨ ad = 49 ∨ ad = 61 ∨ ad = 73 ∨ ad = 85) ∧ ∀ σ' l, Kp σ σ' → X (F_made [r, c, .ref kl]) ⟨l, σ'⟩ ad fun s => s.loc = l ∧ Kp σ' s.sto
theorem pure04 (ns : List Int) (hn : ns.length ≤ 63) : ∃ σ', F_law [.scr ns] ⟨emptyL, []⟩ = .ok (.bool true) ⟨emptyL, σ'⟩ := by
  suffices h : W (F_law [.scr ns]) ⟨emptyL, []⟩ (fun d st' => d = .bool true ∧ st'.loc = emptyL) by
    obtain ⟨d, ⟨l, σ'⟩, e, rfl, hl⟩ := h
    cases hl
    exact ⟨σ', e⟩
  have hsl : (1000 : Nat) ≤ sizeLine := by decide
  have hl62 : ns.length < 2 ^ 62 := by omega
  refine W_mkFn rfl ?_
  unfold d_law
  refine W_seqW (W_bnd.mpr (W_bnd.mpr (W_bnd.mpr (W_bnd.mpr (W_run rfl (W_at (by decide) (by decide) hl62 (W_run rfl (W_size fun R hR hR2 => W_run rfl ?_))))))))
  refine W_seqW (W_bnd.mpr (W_bnd.mpr (W_bnd.mpr (W_bnd.mpr (W_run rfl (W_at (by decide) (by decide) hl62 (W_run rfl (W_size fun C hC hC2 => W_run rfl ?_))))))))
  refine W_seqW (W_bnd.mpr (W_bnd.mpr (W_run rfl (W_cells hn hR hR2 hC hC2 fun cs j0 ht hv hx h1 h2 => W_run rfl ?_))))
  have ok : CsOk R C cs := ⟨ht, hv, hx, h1, h2⟩
  clear ht hv hx h1 h2
  show W _ ⟨upd (upd (upd (bindP emptyL [0] [.scr ns]) 1 (.int R)) 2 (.int C)) 3 (.ref (([] : Sto) ++ j0).length), ([] : Sto) ++ j0 ++ [.list (cs.map ceD)]⟩ _
  have gk : (([] : Sto) ++ j0 ++ [PO.list (cs.map ceD)])[(([] : Sto) ++ j0).length]? = some (.list (cs.map ceD)) := List.getElem?_concat_length
  generalize (([] : Sto) ++ j0).length = kc at gk ⊢
  generalize ([] : Sto) ++ j0 ++ [PO.list (cs.map ceD)] = σ at gk ⊢
  refine W_seq1 (st1 := ⟨upd (upd (upd (upd (bindP emptyL [0] [.scr ns]) 1 (.int R)) 2 (.int C)) 3 (.ref kc)) 4 (.int ((ns.getD (2 : Int).toNat 0).fmod 12)), σ⟩) (run_set (st1 := ⟨upd (upd (upd (bindP emptyL [0] [.scr ns]) 1 (.int R)) 2 (.int C)) 3 (.ref kc), σ⟩) (run_bin (run_at (ns := ns) (i := 2) hl62 (by decide) (by decide) rfl) rfl (run_mod5 (by decide)))) ?_
  generalize (ns.getD (2 : Int).toNat 0).fmod 12 = way
  have m9 := fmod_range (a := ns.getD (3 : Int).toNat 0) (b := 9) (by decide)
  refine W_seqW (W_bnd.mpr (W_pick (ds := [.int 0, .int 21, .int (-1), .bool true, .str (Str.ofString "3"), .none, .int 1000, .int (-20), .bool false]) (i := (ns.getD (3 : Int).toNat 0).fmod 9) (l := upd (upd (upd (upd (bindP emptyL [0] [.scr ns]) 1 (.int R)) 2 (.int C)) 3 (.ref kc)) 4 (.int way)) (σ := σ) rfl (by show 9 ≤ 1000; decide) (run_bin (run_at (ns := ns) (i := 3) hl62 (by decide) (by decide) rfl) rfl (run_mod5 (by decide))) m9.1 m9.2 fun hh => ?_))
  have hb := bads_all _ (List.getElem_mem hh)
  generalize [D.int 0, .int 21, .int (-1), .bool true, .str (Str.ofString "3"), .none, .int 1000, .int (-20), .bool false][((ns.getD (3 : Int).toNat 0).fmod 9).toNat] = bad at hb ⊢
  refine W_run rfl ?_
  have gk1 := (Ext.app σ [.list [.int 0, .int 21, .int (-1), .bool true, .str (Str.ofString "3"), .none, .int 1000, .int (-20), .bool false]]).get gk
  show W _ ⟨upd (upd (upd (upd (upd (bindP emptyL [0] [.scr ns]) 1 (.int R)) 2 (.int C)) 3 (.ref kc)) 4 (.int way)) 5 bad, σ ++ [.list [.int 0, .int 21, .int (-1), .bool true, .str (Str.ofString "3"), .none, .int 1000, .int (-20), .bool false]]⟩ _
  generalize σ ++ [PO.list [.int 0, .int 21, .int (-1), .bool true, .str (Str.ofString "3"), .none, .int 1000, .int (-20), .bool false]] = σ1 at gk1 ⊢
  have hloc : upd (upd (upd (upd (upd (upd (bindP emptyL [0] [.scr ns]) 1 (.int R)) 2 (.int C)) 3 (.ref kc)) 4 (.int way)) 5 bad) 6 (.str (Str.ofString "size")) = vL ns (.int R) (.int C) (.ref kc) (.int way) bad (.str (Str.ofString "size")) none none := by
    funext i; rcases i with _ | _ | _ | _ | _ | _ | _ | _ | _ | i <;> rfl
  refine W_seq1 (st1 := ⟨vL ns (.int R) (.int C) (.ref kc) (.int way) bad (.str (Str.ofString "size")) none none, σ1⟩) (by rw [← hloc]; rfl) ?_
  clear hloc
  have w37 : wordOf 37 = Str.ofString "size" := rfl
  have hlc := ok.l2
  have plainCs : ∀ σ d, d ∈ cs.map ceD → LayD σ 2 3 d := fun σ d md => ok.lays md σ
  have dueS : ∀ {r c : D} {kl : Nat} {σ : Sto} {ds : List D}, σ[kl]? = some (.list ds) → ds.length ≤ 300 → (∀ d, d ∈ ds → LayD σ 2 3 d) → plainD r = true → plainD c = true → (sizeB r = false ∨ sizeB c = false) → Due r c kl (Str.ofString "size") σ := fun g hl hy h1 h2 h3 =>
    ⟨_, 37, g, hl, hy, w37.symm, .inl rfl, fun σ' l kp => X_made_size (st := ⟨l, σ'⟩) h1 h2 h3⟩
  have dueF : ∀ {kl : Nat} {σ : Sto} {ds : List D} {ad : Addr}, σ[kl]? = some (.list ds) → Fault R C σ ds ad → Due (.int R) (.int C) kl (wordOf ad) σ := fun g hf =>
    ⟨_, _, g, hf.len, hf.lay, rfl, .inr hf.ad, fun σ' l kp => hf.made hR hR2 hC hC2 kp g l⟩
  have a4 : ∀ (r c l u : D) (s p : Option D) (σ : Sto), bnd (consM (pvar 0) (consM (ret1 (.int 4)) nilM)) F__law_at ⟨vL ns r c l (.int way) bad u s p, σ⟩ = .ok (.int (ns.getD (4 : Int).toNat 0)) ⟨vL ns r c l (.int way) bad u s p, σ⟩ := fun r c l u s p σ => run_at (ns := ns) (i := 4) hl62 (by decide) (by decide) rfl
  -- rows, columns, cells and the word
  refine W_seqW (W.mono (Q := fun fl s => fl = .next ∧ ∃ r c kl y sp σ', s = ⟨vL ns r c (.ref kl) (.int way) bad (.str y) sp none, σ'⟩ ∧ Due r c kl y σ' ∧ plainD c = true) ?_ ?_)
  · refine W_ifM.mpr (W_run (run_cmp (t := way == 0) rfl rfl rfl rfl) ?_)
    by_cases q0 : (way == 0) = true
    · rw [if_pos q0]
      exact W_seq1 (st1 := ⟨vL ns bad (.int C) (.ref kc) (.int way) bad (.str (Str.ofString "size")) none none, σ1⟩) (by rw [← vL_1 (r := .int R) (d := bad)]; rfl) (W_run rfl ⟨rfl, _, _, kc, _, _, _, rfl, dueS gk1 (by rw [List.length_map]; omega) (plainCs _) hb.1 rfl (.inl hb.2), rfl⟩)
    rw [if_neg q0]
    refine W_seqW (W.mono (Q := fun fl s => fl = .next ∧ ∃ r c kl y sp σ', s = ⟨vL ns r c (.ref kl) (.int way) bad (.str y) sp none, σ'⟩ ∧ Due r c kl y σ' ∧ plainD c = true) ?_ fun fl s hs => by obtain ⟨rfl, hs⟩ := hs; exact W_run rfl ⟨rfl, hs⟩)
    refine W_ifM.mpr (W_run (run_cmp (t := way == 1) rfl rfl rfl rfl) ?_)
    by_cases q1 : (way == 1) = true
    · rw [if_pos q1]
      exact W_seq1 (st1 := ⟨vL ns (.int R) bad (.ref kc) (.int way) bad (.str (Str.ofString "size")) none none, σ1⟩) (by rw [← vL_2 (c := .int C) (d := bad)]; rfl) (W_run rfl ⟨rfl, _, _, kc, _, _, _, rfl, dueS gk1 (by rw [List.length_map]; omega) (plainCs _) rfl hb.1 (.inr hb.2), hb.1⟩)
    rw [if_neg q1]
    refine W_seqW (W.mono (Q := fun fl s => fl = .next ∧ ∃ r c kl y sp σ', s = ⟨vL ns r c (.ref kl) (.int way) bad (.str y) sp none, σ'⟩ ∧ Due r c kl y σ' ∧ plainD c = true) ?_ fun fl s hs => by obtain ⟨rfl, hs⟩ := hs; exact W_run rfl ⟨rfl, hs⟩)
    have tl : ∀ kr σ' ds ad, Kp σ1 σ' → σ'[kr]? = some (.list ds) → Fault R C σ' ds ad → W (setvar 7 (.tup [.ref kr, .str (wordOf ad)])) ⟨vL ns (.int R) (.int C) (.ref kc) (.int way) bad (.str (Str.ofString "size")) none none, σ'⟩ (thn (seqM (bnd (binM pIdx (pvar 7) (ret1 (.int 0))) (setvar 3)) (seqM (bnd (binM pIdx (pvar 7) (ret1 (.int 1))) (setvar 6)) (ret1 .next))) fun fl s => fl = .next ∧ ∃ r c kl y sp σ', s = ⟨vL ns r c (.ref kl) (.int way) bad (.str y) sp none, σ'⟩ ∧ Due r c kl y σ' ∧ plainD c = true) := fun kr σ' ds ad kp g hf => by
      refine W_run (a := Fl.next) (st1 := ⟨vL ns (.int R) (.int C) (.ref kc) (.int way) bad (.str (Str.ofString "size")) (some (.tup [.ref kr, .str (wordOf ad)])) none, σ'⟩) (by rw [← vL_7 (s := none) (d := .tup [.ref kr, .str (wordOf ad)])]; rfl) ?_
      refine W_seq1 (st1 := ⟨vL ns (.int R) (.int C) (.ref kr) (.int way) bad (.str (Str.ofString "size")) (some (.tup [.ref kr, .str (wordOf ad)])) none, σ'⟩) (by rw [← vL_3 (l := .ref kc) (d := .ref kr)]; rfl) ?_
      refine W_seq1 (st1 := ⟨vL ns (.int R) (.int C) (.ref kr) (.int way) bad (.str (wordOf ad)) (some (.tup [.ref kr, .str (wordOf ad)])) none, σ'⟩) (by rw [← vL_6 (u := .str (Str.ofString "size")) (d := .str (wordOf ad))]; rfl) ?_
      exact W_run rfl ⟨rfl, _, _, kr, _, _, _, rfl, dueF g hf, rfl⟩
    refine W_ifM.mpr (W_run (run_cmp (t := decide (way > 9)) rfl rfl rfl rfl) ?_)
    by_cases q9 : decide (way > 9) = true
    · rw [if_pos q9]
      exact W_seqW (W_bnd.mpr (W_bnd.mpr (W_run (run_cons rfl (run_cons rfl (run_cons rfl (run_cons (a4 _ _ _ _ _ _ _) rfl)))) (W_moved hR hR2 hC hC2 ok gk1 tl))))
    · rw [if_neg q9]
      exact W_seqW (W_bnd.mpr (W_bnd.mpr (W_run (run_cons rfl (run_cons rfl (run_cons (a4 _ _ _ _ _ _ _) rfl))) (W_spoilt hR hR2 hC hC2 ok gk1 tl))))
  rintro _ _ ⟨rfl, r, c, kl, y, sp, σ2, rfl, hdue, hpc⟩
  refine W_seqW (W.mono (Q := fun fl s => fl = .next ∧ ∃ r c kl y sp σ', s = ⟨vL ns r c (.ref kl) (.int way) bad (.str y) sp none, σ'⟩ ∧ Due r c kl y σ') ?_ ?_)
  · refine W_ifM.mpr (W_run (run_cmp (t := way == 8) rfl rfl rfl rfl) ?_)
    by_cases q8 : (way == 8) = true
    · rw [if_pos q8]
      refine W_seq1 (st1 := ⟨vL ns bad c (.ref kl) (.int way) bad (.str y) sp none, σ2⟩) (by rw [← vL_1 (r := r) (d := bad)]; rfl) ?_
      refine W_seq1 (st1 := ⟨vL ns bad c (.ref kl) (.int way) bad (.str (Str.ofString "size")) sp none, σ2⟩) (by rw [← vL_6 (u := .str y) (d := .str (Str.ofString "size"))]; rfl) ?_
      obtain ⟨ds, ad, g, hl, hy, _⟩ := hdue.ex
      exact W_run rfl ⟨rfl, _, _, kl, _, _, _, rfl, dueS g hl hy hb.1 hpc (.inl hb.2)⟩
    · rw [if_neg q8]
      exact W_run rfl ⟨rfl, r, c, kl, y, sp, σ2, rfl, hdue⟩
  rintro _ _ ⟨rfl, r, c, kl, y, sp, σ3, rfl, hdue⟩
  obtain ⟨ds, ad, g, hl, hy, rfl, had, hx⟩ := hdue.ex
  refine W_seqW (W_bnd.mpr (W_bnd.mpr (W_run (run_cons rfl rfl) (W_listOf (ds := ds) g (by omega) (W_run (a := Fl.next) (st1 := ⟨vL ns r c (.ref kl) (.int way) bad (.str (wordOf ad)) sp (some (.ref σ3.length)), σ3 ++ [.list ds]⟩) (by rw [← vL_8 (p := none) (d := .ref σ3.length)]; rfl) ?_)))))
  have kp := Kp.app σ3 [.list ds]
  have g2 : (σ3 ++ [PO.list ds])[σ3.length]? = some (.list ds) := List.getElem?_concat_length
  have g1 := kp.2 _ _ g
  generalize σ3.length = kk at g2 ⊢
  generalize σ3 ++ [PO.list ds] = σ4 at kp g1 g2 ⊢
  refine W_seqW (W_bnd.mpr (W_andV.mpr (W_bin (W_bnd.mpr (W_run (run_cons rfl (run_cons rfl (run_cons rfl rfl))) (W_outcome (ad := ad) had (fun l => hx σ4 l kp) fun z σ5 hz k5 => W_run rfl ?_))))))
  refine W_run (a := .bool true) (st1 := ⟨vL ns r c (.ref kl) (.int way) bad (.str (wordOf ad)) sp (some (.ref kk)), σ5⟩) ?_ (W_run (a := true) rfl ?_)
  · show pEq1 (.str z) (.str (wordOf ad)) _ = _
    exact run_of (W_ret1.mpr ⟨congrArg D.bool (by show (cl z == cl (wordOf ad)) = true; rw [hz]; exact beq_self_eq_true _), rfl⟩)
  · refine W_bin (W_run rfl (W_run rfl (W_eq3_same (σ := σ3) hy (by decide) (kp.trans k5) (k5.2 _ _ g1) (k5.2 _ _ g2) (W_run rfl ⟨rfl, rfl⟩))))
end Mine

end

/- part E04 -/
section
open PySem PySem.W PyProof.Rows
set_option Elab.async false
set_option maxRecDepth 100000
set_option maxHeartbeats 8000000
namespace Mine
theorem t04 : PySem.Challenge.rw_uf030034_04.Holds := hd (by
  intro w s₀ s₁ mg mb G Y fa o pm cd doc dV kV ho hd hcd hD hmg hg args vals as hpre hlay hrd hwl hlo
  have KX := kIn_of Y
  refine Ground.open G ?_
  intro T B D TE TW
  wrow_args hpre hlay hrd hwl hlo
  have L : Lay ⟨pw, w, s₁.heap, s₁.os, s₁.gens⟩ (hK w.params) := ⟨KX, ⟨mg, T.g⟩, ⟨mb, T.b, T.builtins⟩, T.nolimit⟩
  have hm : mg (Str.ofString "law") = some (.ref 259) := mg_of KX T.g (by kernel_rfl)
  have hn : ((defOf (view pw hKeep) PySem.Challenge.rw_uf030034_04.name).get hX).1.name = Str.ofString "law" := by kernel_rfl
  exact law_ends (sf_law L) (by decide) (by rw [hn, hm] at hmg; cases hmg; rfl) (by assumption) (by assumption) hg (fun _ => rfl) (by kernel_rfl) (pure04 _ (by omega)))
end Mine

end

set_option maxRecDepth 100000 in
set_option maxHeartbeats 8000000 in
theorem PySem.Challenge.cw_uf030034_04_holds : PySem.Challenge.rw_uf030034_04.Holds := by
  exact Mine.t04
