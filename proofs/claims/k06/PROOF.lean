import PyProof.Rows.All
import HandS.ForMost
import KE.DataEq
import HandS.Wide
import PyProof.Rows.RegStrFacts
import PyProof.ReprLen
import HandS.TupAny
import HandS.Zip
import HandS.Style
import HandS.Exc
import HandS.ExcInit
import HandS.Lambda
import HandS.IsInst
import HandS.TupMul
import HandS.Small
import HandS.Iter
import KE.GoesEnum
import HandS.Defaults
import HandS.Head0
import HandS.Head1
import HandS.Head2
import HandS.HeadEnd
import HandS.HeadHook1
import HandS.HeadHook2
import HandS.ExcField
import HandS.TryMany
import HandS.Conv
import HandS.DictComp
import KE.KRevSl
import HandS.WordsDict
import HandS.ListItems
import HandS.Finally
import KE.KEqDict
import KE.KExcIs
import HandS.SetFor
import HandS.OwnEq
import HandS.ListEq
import KE.KIndexOf
import HandS.MakeKwOnly
import HandS.NoneIn
import HandS.Text
import Lean
import Wide.All
import Wide.FinOn
import PySem.Challenge.RW_whenline_k06_errors
set_option Elab.async false
set_option linter.all false
set_option maxRecDepth 100000
set_option maxHeartbeats 0

/-! DM, the core: data as values, a heap of numbered cells, readings as predicate transformers (what follows; what is raised). No program, no rule of the layer below. -/
namespace DM
open PySem L2

/-- a value: tuples, and lists and dicts that nobody writes to any more, are values; else: the cell of that number -/
inductive D where
  | non | bl (b : Bool) | int (i : Int) | str (s : Str) | tup (l : List D) | lis (l : List D) | dct (ks : List Key) (vs : List D) | ref (n : Nat)
abbrev Fs := List (Str × D)
/-- a cell: a list, a dict, an instance of a class by its name; a pen (of which nothing is told) -/
inductive MO where
  | lst (l : List D) | dic (l : List (Key × D)) | ins (c : Str) (fs : Fs) | pen | dit (l : List (List Key × D)) | dfz (l : List (Key × D)) | ptp (l : List D)
  /-- an error as a value, its dict's cell; such a dict; the lambdas' table of a def; a lambda's code -/
  | exv (c : Str) (k : Option Nat) | xdc (fs : Fs) | tab (q : Str) (ks : List Nat) | cod (q : Str)
abbrev MH := List (Option MO)
abbrev DSt := List (Option D)
mutual
/-- a value names no cell from n on -/
def D.bel (n : Nat) : D → Bool
  | .ref k => decide (k < n)
  | .tup l => D.bels n l
  | .lis l => D.bels n l
  | .dct _ l => D.bels n l
  | _ => true
def D.bels (n : Nat) : List D → Bool
  | [] => true
  | x :: r => x.bel n && D.bels n r
end
def MO.bel (n : Nat) : MO → Bool
  | .lst l => D.bels n l
  | .dic l => D.bels n (l.map (·.2))
  | .ins _ fs => D.bels n (fs.map (·.2))
  | .pen => true
  | .dit l => D.bels n (l.map (·.2))
  | .dfz l => D.bels n (l.map (·.2))
  | .ptp l => D.bels n l
  | .exv _ k => k.all fun j => decide (j < n)
  | .xdc fs => D.bels n (fs.map (·.2))
  | .tab _ ks => ks.all fun j => decide (j < n)
  | .cod _ => true
def bMO (n : Nat) : Option MO → Bool
  | some o => o.bel n
  | none => true
def bD (n : Nat) : Option D → Bool
  | some o => o.bel n
  | none => true
def belM (n : Nat) (M : MH) : Bool := M.all (bMO n)
def belS (n : Nat) (ρ : DSt) : Bool := ρ.all (bD n)
/-- a pen: a list of the script's ints that nobody writes to, a count, a rest -/
def PenD (l : List D) : Prop := ∃ (cs : List Int) (at' left : Int), l = [.lis (cs.map D.int), .int at', .int left] ∧ 0 ≤ at' ∧ 0 ≤ left ∧ cs.length ≤ 63
/-- less is told of a cell -/
def LeO (o u : MO) : Prop := o = u ∨ (o = .pen ∧ ∃ l, u = .lst l ∧ PenD l)
/-- less is known -/
def LessP (M' M : MH) : Prop := ∀ (i : Nat) o, M'[i]? = some (some o) → ∃ u, M[i]? = some (some u) ∧ LeO o u
/-- .. and cells behind the first n may be let go, if nothing names them -/
def LessM (n : Nat) (M' M : MH) : Prop := LessP M' M ∧ (M'.length = M.length ∨ (n ≤ M'.length ∧ M'.length ≤ M.length ∧ belM M'.length M' = true))
def Less (ρ' ρ : DSt) : Prop := ρ'.length = ρ.length ∧ ∀ (i : Nat) d, ρ'[i]? = some (some d) → ρ[i]? = some (some d)
theorem Less.rfl {ρ : DSt} : Less ρ ρ := ⟨Eq.refl _, fun _ _ h => h⟩
theorem LessM.rfl {M : MH} {n : Nat} : LessM n M M := ⟨fun _ o h => ⟨o, h, .inl (Eq.refl _)⟩, .inl (Eq.refl _)⟩

/-- what comes later, not looked at before its time: simp does not go into it -/
structure Later {α : Sort _} (Q : α) : Type where
  mk ::
def hold {α : Sort _} (Q : α) (_ : Later Q) : α := Q
/-- the same, and it stays -/
def stop {α : Sort _} (Q : α) (_ : Later Q) : α := Q
@[simp ↓] theorem hold1 {α : Sort _} {Q : α → Prop} {t : Later Q} {a : α} : hold Q t a ↔ Q a := Iff.rfl
@[simp ↓] theorem hold2 {α β : Sort _} {Q : α → β → Prop} {t : Later Q} {a : α} {b : β} : hold Q t a b ↔ Q a b := Iff.rfl
@[simp ↓] theorem hold3 {α β γ : Sort _} {Q : α → β → γ → Prop} {t : Later Q} {a : α} {b : β} {c : γ} : hold Q t a b c ↔ Q a b c := Iff.rfl
/-- two ways -/
def br (b : Bool) (A B : Prop) : Prop := if b = true then A else B
theorem br_of {b : Bool} {A B : Prop} (h : b = true → A) (g : b = false → B) : br b A B := by
  cases b
  · exact g rfl
  · exact h rfl
@[simp] theorem br_t {A B : Prop} : br true A B ↔ A := Iff.rfl
@[simp] theorem br_f {A B : Prop} : br false A B ↔ B := Iff.rfl
def isB (x : D) (B : Bool → Prop) : Prop := ∃ k, x = .bl k ∧ B k
@[simp] theorem isB_bl {k : Bool} {B : Bool → Prop} : isB (.bl k) B ↔ B k := ⟨fun ⟨_, e, h⟩ => by cases e; exact h, fun h => ⟨k, rfl, h⟩⟩
def asI (x : D) (B : Int → Prop) : Prop := ∃ i, x = .int i ∧ B i
@[simp] theorem asI_int {i : Int} {B : Int → Prop} : asI (.int i) B ↔ B i := ⟨fun ⟨_, e, h⟩ => by cases e; exact h, fun h => ⟨i, rfl, h⟩⟩
def as1 (ds : List D) (B : D → Prop) : Prop := ∃ x, ds = [x] ∧ B x
@[simp] theorem as1_ {x : D} {B : D → Prop} : as1 [x] B ↔ B x := ⟨fun ⟨_, e, h⟩ => by cases e; exact h, fun h => ⟨x, rfl, h⟩⟩
def as2 (ds : List D) (B : D → D → Prop) : Prop := ∃ x y, ds = [x, y] ∧ B x y
@[simp] theorem as2_ {x y : D} {B : D → D → Prop} : as2 [x, y] B ↔ B x y := ⟨fun ⟨_, _, e, h⟩ => by cases e; exact h, fun h => ⟨x, y, rfl, h⟩⟩

abbrev DQ := D → MH → Prop
/-- what is raised: the class, the fields -/
abbrev XQ := Str → Fs → MH → Prop
abbrev noX : XQ := fun _ _ _ => False
abbrev DE := DSt → MH → XQ → DQ → Prop
abbrev DT := DSt → MH → XQ → (Bool → MH → Prop) → Prop
abbrev DA := DSt → MH → XQ → (List D → MH → Prop) → Prop
structure DEnds where
  nx : DSt → MH → Prop
  rt : DQ
  bk : DSt → MH → Prop := fun _ _ => False
  ct : DSt → MH → Prop := fun _ _ => False
  ex : Str → Fs → DSt → MH → Prop := fun _ _ _ _ => False
abbrev DS := DEnds → DSt → MH → Prop
abbrev SpD := List D → MH → XQ → DQ → Prop
/-- what is raised in a statement -/
def xAt (E : DEnds) (ρ : DSt) : XQ := fun c fs M => E.ex c fs ρ M
/-- it may be forgotten -/
def WkM (n : Nat) (P : MH → Prop) (M : MH) : Prop := ∃ M', LessM n M' M ∧ P M'
def WkD (n : Nat) (P : D → MH → Prop) (d : D) (M : MH) : Prop := ∃ M', LessM n M' M ∧ (M'.length = M.length ∨ d.bel M'.length = true) ∧ P d M'
def WkL (n : Nat) (P : List D → MH → Prop) (l : List D) (M : MH) : Prop := ∃ M', LessM n M' M ∧ (M'.length = M.length ∨ D.bels M'.length l = true) ∧ P l M'
def Wk (n : Nat) (P : DSt → MH → Prop) (ρ : DSt) (M : MH) : Prop := ∃ ρ' M', Less ρ' ρ ∧ LessM n M' M ∧ (M'.length = M.length ∨ belS M'.length ρ' = true) ∧ P ρ' M'
theorem WkM.of {n : Nat} {P : MH → Prop} {M : MH} (h : P M) : WkM n P M := ⟨M, .rfl, h⟩
theorem WkD.of {n : Nat} {P : D → MH → Prop} {d : D} {M : MH} (h : P d M) : WkD n P d M := ⟨M, .rfl, .inl rfl, h⟩
theorem WkL.of {n : Nat} {P : List D → MH → Prop} {d : List D} {M : MH} (h : P d M) : WkL n P d M := ⟨M, .rfl, .inl rfl, h⟩
theorem Wk.of {n : Nat} {P : DSt → MH → Prop} {ρ : DSt} {M : MH} (h : P ρ M) : Wk n P ρ M := ⟨ρ, M, .rfl, .rfl, .inl rfl, h⟩

/-- a new cell -/
def newD (M : MH) (o : MO) (Q : DQ) : Prop := Q (.ref M.length) (M ++ [some o])
@[simp] theorem newD_ {M : MH} {o : MO} {Q : DQ} : newD M o Q ↔ Q (.ref M.length) (M ++ [some o]) := Iff.rfl
/-- a list, a dict as a value: of what nobody writes to -/
def MO.frz : MO → D → Prop
  | .lst l, d => d = .lis l
  | .dic l, d => d = .dct (l.map (·.1)) (l.map (·.2))
  | _, _ => False
abbrev MkR := MH → MO → DQ → Prop
/-- a new list or dict that nobody will write to -/
def newZ : MkR := fun M o Q => ∃ d, o.frz d ∧ Q d M
@[simp] theorem newZ_lst {M : MH} {l : List D} {Q : DQ} : newZ M (.lst l) Q ↔ Q (.lis l) M := ⟨fun ⟨d, e, q⟩ => by cases (show d = .lis l from e); exact q, fun q => ⟨_, rfl, q⟩⟩
@[simp] theorem newZ_dic {M : MH} {l : List (Key × D)} {Q : DQ} : newZ M (.dic l) Q ↔ Q (.dct (l.map (·.1)) (l.map (·.2))) M := ⟨fun ⟨d, e, q⟩ => by cases (show d = .dct (l.map (·.1)) (l.map (·.2)) from e); exact q, fun q => ⟨_, rfl, q⟩⟩

/-! ### expressions -/
def dVar (i : Nat) : DE := fun ρ M _ Q => ∃ d, ρ[i]? = some (some d) ∧ Q d M
def dC (d : D) : DE := fun _ M _ Q => Q d M
abbrev RD2 := D → D → MH → DQ → Prop
abbrev RD1 := D → MH → DQ → Prop
def dOp (r : RD2) (a b : DE) : DE := fun ρ M E Q => a ρ M E fun x M1 => b ρ M1 E fun y M2 => r x y M2 Q
def dUn (r : RD1) (a : DE) : DE := fun ρ M E Q => a ρ M E fun x M1 => r x M1 Q
def dNil : DA := fun _ M _ Q => Q [] M
def dCons (a : DE) (r : DA) : DA := fun ρ M E Q => a ρ M E fun x M1 => r ρ M1 E fun xs M2 => Q (x :: xs) M2
def dTup (a : DA) : DE := fun ρ M E Q => a ρ M E fun xs M1 => xs.length ≤ sizeLine ∧ Q (.tup xs) M1
def dLst (mk : MkR) (a : DA) : DE := fun ρ M E Q => a ρ M E fun xs M1 => xs.length ≤ sizeLine ∧ mk M1 (.lst xs) Q
def dCall (r : SpD) (a : DA) : DE := fun ρ M E Q => a ρ M E fun xs M1 => r xs M1 E Q
abbrev BD := List D → MH → DQ → Prop
/-- a call of a built-in -/
def dCallB (r : BD) (a : DA) : DE := fun ρ M E Q => a ρ M E fun xs M1 => r xs M1 Q
def dTest (a : DE) : DT := fun ρ M E Q => a ρ M E fun x M1 => isB x fun k => Q k M1
def dAnd (t u : DT) : DT := fun ρ M E Q => t ρ M E fun c M1 => br c (u ρ M1 E Q) (Q false M1)
def dOr (t u : DT) : DT := fun ρ M E Q => t ρ M E fun c M1 => br c (Q true M1) (u ρ M1 E Q)
def dNot (t : DT) : DT := fun ρ M E Q => t ρ M E fun c M1 => Q (!c) M1
def dAndV (a b : DE) : DE := fun ρ M E Q => a ρ M E fun x M1 => isB x fun c => br c (b ρ M1 E Q) (Q (.bl false) M1)
def dOrV (a b : DE) : DE := fun ρ M E Q => a ρ M E fun x M1 => isB x fun c => br c (Q (.bl true) M1) (b ρ M1 E Q)
def dNotV (a : DE) : DE := fun ρ M E Q => a ρ M E fun x M1 => isB x fun c => Q (.bl (!c)) M1
def dIf (t : DT) (a b : DE) : DE := fun ρ M E Q => t ρ M E fun c M1 => br c (a ρ M1 E Q) (b ρ M1 E Q)
def dChain (r r' : RD2) (a b c : DE) : DE := fun ρ M E Q => a ρ M E fun x M1 => b ρ M1 E fun y M2 => r x y M2 fun z M3 => isB z fun k =>
  br k (c ρ M3 E fun u M4 => r' y u M4 Q) (Q (.bl false) M3)
/-- a list, a dict that nobody will write to from now on -/
def rFrz : RD1 := fun x M Q => ∃ k o d, x = .ref k ∧ M[k]? = some (some o) ∧ o.frz d ∧ Q d (M.set k none)

/-! ### operations by values -/
def rI (C : Int → Int → Prop) (g : Int → Int → D) : RD2 := fun x y M Q => ∃ i j, x = .int i ∧ y = .int j ∧ C i j ∧ Q (g i j) M
def rAdd : RD2 := rI (fun _ _ => True) fun i j => .int (i + j)
def rSub : RD2 := rI (fun _ _ => True) fun i j => .int (i - j)
def CMulD (i j : Int) : Prop := (i.natAbs < 2 ^ 64) ∨ (j.natAbs < 2 ^ 64)
def rMulI : RD2 := rI CMulD fun i j => .int (i * j)
def CDivD (_ j : Int) : Prop := 0 < j ∧ j < 2 ^ 400
def rDiv : RD2 := rI CDivD fun i j => .int (i / j)
def rMod : RD2 := rI (fun _ j => 0 < j) fun i j => .int (i % j)
def CPowD (i j : Int) : Prop := 0 ≤ j ∧ j ≤ 1000 ∧ i.natAbs < 2 ^ 64
def rPow : RD2 := rI CPowD fun i j => .int (i ^ j.toNat)
def rLt : RD2 := rI (fun _ _ => True) fun i j => .bl (decide (i < j))
def rLe : RD2 := rI (fun _ _ => True) fun i j => .bl (decide (i ≤ j))
def rGt : RD2 := rI (fun _ _ => True) fun i j => .bl (decide (j < i))
def rGe : RD2 := rI (fun _ _ => True) fun i j => .bl (decide (j ≤ i))
def rNeg : RD1 := fun x M Q => ∃ i, x = .int i ∧ Q (.int (-i)) M
def D.isN : D → Bool
  | .non => true
  | _ => false
def rIsN : RD1 := fun x M Q => Q (.bl x.isN) M
def rNotN : RD1 := fun x M Q => Q (.bl (!x.isN)) M

/-! ### data as a whole: what ==, repr see -/
mutual
def D.plain : D → Bool
  | .tup l => D.plains l
  | .lis l => D.plains l
  | .dct _ _ => false
  | .ref _ => false
  | _ => true
def D.plains : List D → Bool
  | [] => true
  | x :: r => x.plain && D.plains r
end
mutual
def D.py : D → PyData
  | .non => .none
  | .bl b => .bool b
  | .int i => .int i
  | .str x => .str x
  | .tup l => .tuple (D.pys l)
  | .lis l => .list (D.pys l)
  | .dct _ _ => .none
  | .ref _ => .none
def D.pys : List D → List PyData
  | [] => []
  | x :: r => x.py :: D.pys r
end
mutual
inductive Sees (M : MH) : D → PyData → Prop
  | non : Sees M .non .none
  | bl (b : Bool) : Sees M (.bl b) (.bool b)
  | int (i : Int) : Sees M (.int i) (.int i)
  | str (x : Str) : Sees M (.str x) (.str x)
  | tup {l : List D} {ps : List PyData} : SeesL M l ps → Sees M (.tup l) (.tuple ps)
  | lis {l : List D} {ps : List PyData} : SeesL M l ps → Sees M (.lis l) (.list ps)
  | lst {a : Nat} {l : List D} {ps : List PyData} : M[a]? = some (some (.lst l)) → SeesL M l ps → Sees M (.ref a) (.list ps)
inductive SeesL (M : MH) : List D → List PyData → Prop
  | nil : SeesL M [] []
  | cons {x : D} {l : List D} {p : PyData} {ps : List PyData} : Sees M x p → SeesL M l ps → SeesL M (x :: l) (p :: ps)
end
mutual
theorem Sees.py (M : MH) : ∀ x : D, x.plain = true → Sees M x x.py
  | .non, _ => .non
  | .bl b, _ => .bl b
  | .int i, _ => .int i
  | .str x, _ => .str x
  | .tup l, h => .tup (SeesL.pys M l h)
  | .lis l, h => .lis (SeesL.pys M l h)
  | .dct _ _, h => nomatch h
  | .ref _, h => nomatch h
theorem SeesL.pys (M : MH) : ∀ l : List D, D.plains l = true → SeesL M l (D.pys l)
  | [], _ => .nil
  | x :: r, h => by
    have h' : (x.plain && D.plains r) = true := h
    rw [Bool.and_eq_true] at h'
    exact .cons (Sees.py M x h'.1) (SeesL.pys M r h'.2)
end
def rEq : RD2 := fun x y M Q => ∃ p q, Sees M x p ∧ Sees M y q ∧ p.plain = true ∧ q.plain = true ∧ p.depth ≤ 60 ∧ Q (.bl (PyData.eqv p q)) M
def rNe : RD2 := fun x y M Q => ∃ p q, Sees M x p ∧ Sees M y q ∧ p.plain = true ∧ q.plain = true ∧ p.depth ≤ 60 ∧ Q (.bl (!PyData.eqv p q)) M
def cRepr : BD := fun ds M Q => ∃ x p, ds = [x] ∧ Sees M x p ∧ p.showable = true ∧ p.hasDict = false ∧ p.shown.length ≤ sizeLine ∧ p.depth ≤ 60 ∧ Q (.str p.shown) M

/-! ### sequences -/
def ixD (n : Nat) (i : Int) : Option Nat := if 0 ≤ i then (if i < n then some i.toNat else none) else (if 0 ≤ i + n then some (i + n).toNat else none)
/-- the items of a tuple, of a list -/
def seqD (M : MH) : D → Option (List D)
  | .tup l => some l
  | .lis l => some l
  | .ref k => match M[k]? with
    | some (some (.lst l)) => some l
    | _ => none
  | _ => none
def itemQ (l : List D) (a : Int) (M : MH) (Q : DQ) : Prop := ∃ j d, ixD l.length a = some j ∧ l[j]? = some d ∧ Q d M
def rIx : RD2 := fun x y M Q => ∃ l i, seqD M x = some l ∧ y = .int i ∧ itemQ l i M Q
def cutD {α : Type} (l : List α) (lo hi : Option Nat) : List α := (l.take (hi.getD l.length)).drop (lo.getD 0)
/-- x[lo:hi]; the ends are from 0 on -/
def rSl (mk : MkR) (x : D) (lo hi : Option Int) (M : MH) (Q : DQ) : Prop := (∀ i, lo = some i → 0 ≤ i) ∧ (∀ i, hi = some i → 0 ≤ i) ∧
  ((∃ l, x = .tup l ∧ Q (.tup (cutD l (lo.map Int.toNat) (hi.map Int.toNat))) M) ∨
   ∃ l, (∀ l', x ≠ .tup l') ∧ seqD M x = some l ∧ mk M (.lst (cutD l (lo.map Int.toNat) (hi.map Int.toNat))) Q)
abbrev DO := DSt → MH → XQ → (Option Int → MH → Prop) → Prop
def dNone : DO := fun _ M _ Q => Q none M
def dSome (a : DE) : DO := fun ρ M E Q => a ρ M E fun x M1 => asI x fun i => Q (some i) M1
def dSl (mk : MkR) (a : DE) (lo hi : DO) : DE := fun ρ M E Q => a ρ M E fun x M1 => lo ρ M1 E fun i M2 => hi ρ M2 E fun j M3 => rSl mk x i j M3 Q
def cLen : BD := fun ds M Q => as1 ds fun x => (∃ l, seqD M x = some l ∧ Q (.int l.length) M)
def cList (mk : MkR) : BD := fun ds M Q => as1 ds fun x => ∃ l, seqD M x = some l ∧ mk M (.lst l) Q
def cTuple : BD := fun ds M Q => as1 ds fun x => ∃ l, seqD M x = some l ∧ Q (.tup l) M
/-- +: of ints; tuples; lists; texts -/
def rPlus (mk : MkR) : RD2 := fun x y M Q =>
  match x, y with
  | .int i, .int j => Q (.int (i + j)) M
  | .tup l, .tup m => l.length + m.length ≤ sizeLine ∧ Q (.tup (l ++ m)) M
  | .str l, .str m => l.length + m.length ≤ sizeLine ∧ Q (.str (l ++ m)) M
  | x, y => ∃ l m, (∀ l', x ≠ .tup l') ∧ (∀ l', y ≠ .tup l') ∧ seqD M x = some l ∧ seqD M y = some m ∧ l.length + m.length ≤ sizeLine ∧ mk M (.lst (l ++ m)) Q
/-- *: of ints; a tuple and a small int -/
def rMul : RD2 := fun x y M Q =>
  match x, y with
  | .int i, .int j => CMulD i j ∧ Q (.int (i * j)) M
  | .tup l, .int k => l ≠ [] ∧ 1 ≤ k ∧ k ≤ 1000 ∧ l.length ≤ 1000 ∧ Q (.tup (List.replicate k.toNat l).flatten) M
  | _, _ => False
def rRev (mk : MkR) : RD1 := fun x M Q => (∃ l, x = .tup l ∧ Q (.tup l.reverse) M) ∨ ∃ l, (∀ l', x ≠ .tup l') ∧ seqD M x = some l ∧ mk M (.lst l.reverse) Q
/-- keys, dicts -/
def D.key : D → Option Key
  | .int i => some (.inl i)
  | .str s => some (.inr s)
  | _ => none
def kD : Key → D
  | .inl i => .int i
  | .inr s => .str s
def lookD {κ : Type} [DecidableEq κ] (l : List (κ × D)) (k : κ) : Option D := (l.find? fun p => decide (p.1 = k)).map (·.2)
/-- the pairs of a dict -/
def dicD (M : MH) : D → Option (List (Key × D))
  | .dct ks vs => some (ks.zip vs)
  | .ref k => match M[k]? with
    | some (some (.dic l)) => some l
    | some (some (.dfz l)) => some l
    | _ => none
  | _ => none
def rItemD : RD2 := fun x y M Q => ∃ l k d, dicD M x = some l ∧ y.key = some k ∧ lookD l k = some d ∧ Q d M
/-- x[i] of a list, a tuple, a dict -/
def rItem : RD2 := fun x y M Q => rIx x y M Q ∨ rItemD x y M Q
def cIntB : BD := fun ds M Q => as1 ds fun x => (∃ i, x = .int i ∧ Q (.int i) M) ∨ ∃ k, x = .bl k ∧ Q (.int (if k then 1 else 0)) M
def cMax2 : BD := fun ds M Q => as2 ds fun x y => asI x fun i => asI y fun j => Q (.int (if j > i then j else i)) M
def cMin2 : BD := fun ds M Q => as2 ds fun x y => asI x fun i => asI y fun j => Q (.int (if j < i then j else i)) M
def cAbs : BD := fun ds M Q => as1 ds fun x => asI x fun i => Q (.int (if i < 0 then -i else i)) M

inductive Ty where
  | int | bool | str | tuple | list | dict
def Ty.nm : Ty → String
  | .int => "int"
  | .bool => "bool"
  | .str => "str"
  | .tuple => "tuple"
  | .list => "list"
  | .dict => "dict"
/-- isinstance of data -/
@[simp] def isTy (M : MH) (T : Ty) : D → Bool
  | .int _ => match T with | .int => true | _ => false
  | .bl _ => match T with | .int => true | .bool => true | _ => false
  | .str _ => match T with | .str => true | _ => false
  | .tup _ => match T with | .tuple => true | _ => false
  | .lis _ => match T with | .list => true | _ => false
  | .dct _ _ => match T with | .dict => true | _ => false
  | .ref k => match M[k]? with
    | some (some (.lst _)) => (match T with | .list => true | _ => false)
    | some (some (.dic _)) => (match T with | .dict => true | _ => false)
    | some (some (.dit _)) => (match T with | .dict => true | _ => false)
    | some (some (.dfz _)) => (match T with | .dict => true | _ => false)
    | _ => false
  | .non => false
@[simp] def tyOk (M : MH) : D → Prop
  | .ref k => (∃ l, M[k]? = some (some (.lst l))) ∨ ∃ l, M[k]? = some (some (.dic l))
  | _ => True
def rIsi (T : Ty) : RD1 := fun x M Q => tyOk M x ∧ Q (.bl (isTy M T x)) M

/-! ### statements -/
def dNext : DS := fun E ρ M => E.nx ρ M
def dSeq (t u : DS) : DS := fun E ρ M => t { E with nx := u E } ρ M
/-- one after another, by what holds in between -/
def dCut (t u : DS) : DS := fun E ρ M => ∃ J : DSt → MH → Prop, t { E with nx := J } ρ M ∧ ∀ ρ' M', J ρ' M' → u E ρ' M'
theorem dCut_of {t u : DS} {E : DEnds} {ρ : DSt} {M : MH} (h : t { E with nx := u E } ρ M) : dCut t u E ρ M := ⟨u E, h, fun _ _ q => q⟩
def dBreak : DS := fun E ρ M => E.bk ρ M
def dCont : DS := fun E ρ M => E.ct ρ M
def dDrop (a : DE) : DS := fun E ρ M => a ρ M (xAt E ρ) fun _ M1 => E.nx ρ M1
def dRet (a : DE) : DS := fun E ρ M => a ρ M (xAt E ρ) E.rt
def dRetN : DS := fun E _ M => E.rt .non M
def dIfS (c : DT) (t u : DS) : DS := fun E ρ M => c ρ M (xAt E ρ) fun b M1 => br b (t E ρ M1) (u E ρ M1)
/-- targets: a name's slot, several targets -/
inductive Tg where
  | nm (i : Nat) | tp (l : List Tg)
mutual
def Tg.store : Tg → D → DSt → (DSt → Prop) → Prop
  | .nm i, d, ρ, Q => Q (ρ.set i (some d))
  | .tp ts, d, ρ, Q => ∃ l, d = .tup l ∧ l.length = ts.length ∧ Tg.stores ts l ρ Q
def Tg.stores : List Tg → List D → DSt → (DSt → Prop) → Prop
  | t :: ts, d :: ds, ρ, Q => t.store d ρ fun ρ' => Tg.stores ts ds ρ' Q
  | _, _, ρ, Q => Q ρ
end
def dAsg (a : DE) (g : Tg) : DS := fun E ρ M => a ρ M (xAt E ρ) fun x M1 => g.store x ρ fun ρ' => E.nx ρ' M1
/-- a, b = e1, e2 -/
def dPar (i j : Nat) (a : DA) : DS := fun E ρ M => a ρ M (xAt E ρ) fun ds M1 => as2 ds fun x y => E.nx ((ρ.set i (some x)).set j (some y)) M1
/-- o[i] = v: of a list, of a dict -/
def setQ (l : List D) (a : Int) (v : D) (Q : List D → Prop) : Prop := ∃ j, ixD l.length a = some j ∧ Q (l.set j v)
def putD {κ : Type} [DecidableEq κ] (l : List (κ × D)) (k : κ) (v : D) : List (κ × D) := if l.any (fun p => decide (p.1 = k)) then l.map (fun p => if p.1 = k then (p.1, v) else p) else l ++ [(k, v)]
def rSet (o i v : D) (M : MH) (Q : MH → Prop) : Prop := ∃ p, o = .ref p ∧
  ((∃ l k, M[p]? = some (some (.lst l)) ∧ i = .int k ∧ setQ l k v fun l' => Q (M.set p (some (.lst l')))) ∨
   (∃ l k, M[p]? = some (some (.dic l)) ∧ i.key = some k ∧ l.length < sizeLine ∧ Q (M.set p (some (.dic (putD l k v))))))
def dSetIx (e o i : DE) : DS := fun E ρ M => e ρ M (xAt E ρ) fun v M1 => o ρ M1 (xAt E ρ) fun x M2 => i ρ M2 (xAt E ρ) fun k M3 => rSet x k v M3 fun M4 => E.nx ρ M4
/-- x.append(e), x.extend(y) -/
def mAppend : D → BD := fun x ds M Q => ∃ a l d, x = .ref a ∧ ds = [d] ∧ M[a]? = some (some (.lst l)) ∧ l.length < sizeLine ∧ Q .non (M.set a (some (.lst (l ++ [d]))))
def mExtend : D → BD := fun x ds M Q => ∃ a l y m, x = .ref a ∧ ds = [y] ∧ M[a]? = some (some (.lst l)) ∧ seqD M y = some m ∧ (∀ l', y ≠ .tup l') ∧ l.length + m.length ≤ sizeLine ∧ Q .non (M.set a (some (.lst (l ++ m))))
def isLst (M : MH) (x : D) : Prop := ∃ a l, x = .ref a ∧ M[a]? = some (some (.lst l))
def dMeth (ty : MH → D → Prop) (r : D → BD) (o : DE) (a : DA) : DE := fun ρ M E Q => o ρ M E fun x M1 => ty M1 x ∧ a ρ M1 E fun ds M2 => r x ds M2 Q

/-! ### loops, comprehensions -/
/-- what a loop walks: its items, what must stay -/
abbrev DI := DSt → MH → XQ → (List D → (MH → Prop) → MH → Prop) → Prop
def seqI (x : D) (M : MH) (R : List D → (MH → Prop) → MH → Prop) : Prop :=
  match x with
  | .tup l => R l (fun _ => True) M
  | .lis l => R l (fun _ => True) M
  | .ref p => ∃ l, M[p]? = some (some (.lst l)) ∧ R l (fun M => M[p]? = some (some (.lst l))) M
  | _ => False
def iSeq (a : DE) : DI := fun ρ M E R => a ρ M E fun x M1 => seqI x M1 R
def rangeD (lo : Int) : Nat → List D
  | 0 => []
  | n + 1 => .int lo :: rangeD (lo + 1) n
def iRange1 (a : DA) : DI := fun ρ M E R => a ρ M E fun ds M1 => as1 ds fun x => asI x fun j => j < 2 ^ 62 ∧ -(2 ^ 62) ≤ j ∧ R (rangeD 0 j.toNat) (fun _ => True) M1
def iRange2 (a : DA) : DI := fun ρ M E R => a ρ M E fun ds M1 => as2 ds fun x y => asI x fun i => asI y fun j => (-(2 ^ 62) ≤ i ∧ i < 2 ^ 62 ∧ j < 2 ^ 62 ∧ -(2 ^ 62) ≤ j) ∧ R (rangeD i (j - i).toNat) (fun _ => True) M1
def enumD (k : Int) : List D → List D
  | [] => []
  | x :: r => .tup [.int k, x] :: enumD (k + 1) r
def enumI (x : D) (M : MH) (R : List D → (MH → Prop) → MH → Prop) : Prop := seqI x M fun l G M1 => R (enumD 0 l) G M1
def iEnum (a : DA) : DI := fun ρ M E R => a ρ M E fun ds M1 => as1 ds fun x => enumI x M1 R
def zipD (l m : List D) : List D := (l.zip m).map fun p => .tup [p.1, p.2]
def zipI (x y : D) (M : MH) (R : List D → (MH → Prop) → MH → Prop) : Prop := ∃ l m, x = .tup l ∧ y = .tup m ∧ R (zipD l m) (fun _ => True) M
def iZip (a : DA) : DI := fun ρ M E R => a ρ M E fun ds M1 => as2 ds fun x y => zipI x y M1 R
/-! ### forgetting -/
def lessS : DSt → DSt → Prop
  | none :: a, _ :: b => lessS a b
  | some x :: a, y :: b => some x = y ∧ lessS a b
  | [], [] => True
  | _, _ => False
def lessH : MH → MH → Prop
  | [], _ => True
  | none :: a, _ :: b => lessH a b
  | some o :: a, u :: b => (∃ v, u = some v ∧ LeO o v) ∧ lessH a b
  | _ :: _, [] => False
theorem less_of : ∀ {a b : DSt}, lessS a b → Less a b
  | [], [], _ => .rfl
  | none :: a, y :: b, h => by
    have ih := less_of (a := a) (b := b) h
    exact ⟨by simp [ih.1], fun i d e => by
      cases i with
      | zero => simp at e
      | succ i => simpa using ih.2 i d (by simpa using e)⟩
  | some x :: a, y :: b, h => by
    obtain ⟨e, h⟩ := h
    subst e
    have ih := less_of h
    exact ⟨by simp [ih.1], fun i d e => by
      cases i with
      | zero => simpa using e
      | succ i => simpa using ih.2 i d (by simpa using e)⟩
  | [], _ :: _, h => h.elim
  | some _ :: _, [], h => h.elim
  | none :: _, [], h => h.elim
theorem lessP_of : ∀ {a b : MH}, lessH a b → LessP a b
  | [], _, _ => fun i o e => by simp at e
  | none :: a, y :: b, h => fun i o e => by
    cases i with
    | zero => simp at e
    | succ i => simpa using lessP_of (a := a) (b := b) h i o (by simpa using e)
  | some x :: a, y :: b, ⟨⟨v, e1, e2⟩, h⟩ => fun i o e => by
    cases i with
    | zero => simp at e; subst e; subst e1; exact ⟨v, rfl, e2⟩
    | succ i => simpa using lessP_of h i o (by simpa using e)
  | none :: _, [], h => h.elim
  | some _ :: _, [], h => h.elim
@[simp] theorem leO_rfl {o : MO} : LeO o o ↔ True := iff_true_intro (.inl rfl)
theorem lessH_rfl : ∀ {a : MH}, lessH a a
  | [] => trivial
  | none :: a => lessH_rfl (a := a)
  | some o :: a => ⟨⟨o, rfl, .inl rfl⟩, lessH_rfl (a := a)⟩
@[simp] theorem lessH_self {a : MH} : lessH a a ↔ True := iff_true_intro lessH_rfl
theorem lessH_app' : ∀ {M a b : MH}, lessH a b → lessH (M ++ a) (M ++ b)
  | [], _, _, h => h
  | none :: M, _, _, h => lessH_app' (M := M) h
  | some o :: M, _, _, h => ⟨⟨o, rfl, .inl rfl⟩, lessH_app' (M := M) h⟩
@[simp] theorem lessH_app {M a b : MH} : lessH (M ++ a) (M ++ b) ↔ lessH a b := by
  refine ⟨fun h => ?_, lessH_app'⟩
  induction M with
  | nil => exact h
  | cons x M ih => cases x with
    | none => exact ih h
    | some o => exact ih h.2
@[simp] theorem lessH_pre {M b : MH} : lessH M (M ++ b) ↔ True := iff_true_intro (by have := lessH_app' (M := M) (a := []) (b := b) trivial; simpa using this)
/-- a typed state: its slots, its cells -/
def cutOk (n : Nat) (f : DSt) (m M' : MH) : Prop := m.length = M'.length ∨ (n ≤ m.length ∧ m.length ≤ M'.length ∧ belM m.length m = true ∧ belS m.length f = true)
def nxP {T : Type} (n : Nat) (P : T → Prop) (f : T → DSt) (m : T → MH) : DSt → MH → Prop := fun ρ' M' => ∃ t, lessS (f t) ρ' ∧ lessH (m t) M' ∧ cutOk n (f t) (m t) M' ∧ P t
theorem nxP.wk {T : Type} {n : Nat} {P : T → Prop} {f : T → DSt} {m : T → MH} {ρ : DSt} {M : MH} (h : nxP n P f m ρ M) : Wk n (fun ρ' M' => ∃ t, ρ' = f t ∧ M' = m t ∧ P t) ρ M := by
  obtain ⟨t, h1, h2, h3, h4⟩ := h
  refine ⟨f t, m t, less_of h1, ⟨lessP_of h2, ?_⟩, ?_, t, rfl, rfl, h4⟩
  · rcases h3 with h3 | ⟨h3, h5, h6, h7⟩
    · exact .inl h3
    · exact .inr ⟨h3, h5, h6⟩
  · exact h3.imp id fun h => h.2.2.2
/-- a turn's end -/
theorem nx_of {T : Type} {n : Nat} {P : T → Prop} {f : T → DSt} {m : T → MH} {ρ : DSt} {M : MH} {l : Later (nxP n P f m)} (t : T) (h4 : P t) (h1 : lessS (f t) ρ) (h2 : lessH (m t) M) (h3 : cutOk n (f t) (m t) M) : stop (nxP n P f m) l ρ M := ⟨t, h1, h2, h3, h4⟩
/-- a loop by a typed state that stands ahead of its turns; at a turn's end cells that are newer than the loop may be let go -/
def loopD (G : MH → Prop) (g : Tg) (tb : DS) (xs : List D) (E : DEnds) (ρ : DSt) (M : MH) : Prop :=
  ∃ (T : Type) (f : T → DSt) (m : T → MH) (J : Nat → T → Prop), nxP M.length (J 0) f m ρ M ∧ (∀ i x t, xs[i]? = some x → J i t → G (m t) ∧ g.store x (f t) fun ρ2 => tb { E with nx := stop (nxP M.length (J (i + 1)) f m) ⟨⟩, ct := stop (nxP M.length (J (i + 1)) f m) ⟨⟩, bk := E.nx } ρ2 (m t)) ∧ ∀ t, J xs.length t → G (m t) ∧ E.nx (f t) (m t)
/-- .. turn by turn -/
def nxI (n : Nat) (P : DSt → MH → Prop) : DSt → MH → Prop := nxP n (fun t : DSt × MH => P t.1 t.2) Prod.fst Prod.snd
def loopR (n : Nat) (G : MH → Prop) (g : Tg) (tb : DS) : List D → DEnds → DSt → MH → Prop
  | [], E, ρ, M => G M ∧ E.nx ρ M
  | x :: xs, E, ρ, M => G M ∧ g.store x ρ fun ρ1 => tb { E with nx := stop (nxI n (loopR n G g tb xs E)) ⟨⟩, ct := stop (nxI n (loopR n G g tb xs E)) ⟨⟩, bk := E.nx } ρ1 M
theorem lessS_rfl : ∀ {a : DSt}, lessS a a
  | [] => trivial
  | none :: a => lessS_rfl (a := a)
  | some _ :: a => ⟨rfl, lessS_rfl (a := a)⟩
@[simp] theorem lessS_self {a : DSt} : lessS a a ↔ True := iff_true_intro lessS_rfl
theorem loopD_of {G : MH → Prop} {g : Tg} {tb : DS} {xs : List D} {E : DEnds} {ρ : DSt} {M : MH} (h : loopR M.length G g tb xs E ρ M) : loopD G g tb xs E ρ M := by
  refine ⟨DSt × MH, Prod.fst, Prod.snd, fun i t => loopR M.length G g tb (xs.drop i) E t.1 t.2, ⟨(ρ, M), lessS_rfl, lessH_rfl, .inl rfl, h⟩, fun i x t e q => ?_, fun t q => ?_⟩
  · have hl := (List.getElem?_eq_some_iff.mp e).1
    dsimp only at q
    rw [List.drop_eq_getElem_cons hl] at q
    have : xs[i] = x := (List.getElem?_eq_some_iff.mp e).2
    rw [this] at q
    exact q
  · dsimp only at q; rw [List.drop_length] at q; exact q
def dFor (w : DI) (g : Tg) (tb : DS) : DS := fun E ρ M => w ρ M (xAt E ρ) fun xs G M1 => loopD G g tb xs E ρ M1
def wipeD (ρ : DSt) : List Nat → DSt
  | [] => ρ
  | v :: vs => (wipeD ρ vs).set v none
def tYesD : DT := fun _ M _ Q => Q true M
/-- the cells are as before, but for new ones that nothing names -/
def backM (M M3 : MH) : Prop := M3 = M ∨ ∃ L, M3 = M ++ L ∧ belM M.length M = true
def backD (M : MH) (y : D) (M3 : MH) : Prop := M3 = M ∨ ((∃ L, M3 = M ++ L ∧ belM M.length M = true) ∧ y.bel M.length = true)
/-- a comprehension: each item gives one, or none, as R tells; the cells stay -/
def compD (G : MH → Prop) (g : Tg) (tt : DT) (te : DE) (ρ : DSt) (xs : List D) (M : MH) (Q : List D → MH → Prop) : Prop :=
  G M ∧ ∃ R : Nat → D → Option D → Prop, (∀ i x, xs[i]? = some x → g.store x ρ fun ρ1 => tt ρ1 M noX fun b M2 => br b (te ρ1 M2 noX (stop (fun y M3 => backD M y M3 ∧ R i x (some y)) ⟨⟩)) (stop (backM M M2 ∧ R i x none) ⟨⟩)) ∧
    ∀ ys : List (Option D), ys.length = xs.length → (∀ (i : Nat) x y, xs[i]? = some x → ys[i]? = some y → R i x y) → Q (ys.filterMap id) M
def dLC (mk : MkR) (w : DI) (g : Tg) (tt : DT) (te : DE) (vs : List Nat) : DE := fun ρ M E Q => w ρ M E fun xs G M1 => xs.length ≤ sizeLine ∧ compD G g tt te (wipeD ρ vs) xs M1 fun acc M2 => mk M2 (.lst acc) Q
def dWhile (c : DT) (tb : DS) : DS := fun E ρ M => ∃ (T : Type) (f : T → DSt) (m : T → MH) (J : Nat → T → Prop), (∃ n, nxP M.length (J n) f m ρ M) ∧ ∀ n t, J n t →
  c (f t) (m t) (xAt E (f t)) fun b M2 => br b (tb { E with nx := stop (nxP M.length (fun t => ∃ k, k < n ∧ J k t) f m) ⟨⟩, ct := stop (nxP M.length (fun t => ∃ k, k < n ∧ J k t) f m) ⟨⟩, bk := E.nx } (f t) M2) (E.nx (f t) M2)
/-- x op= e of a name -/
def dAug (i : Nat) (r : RD2) (e : DE) : DS := fun E ρ M => dVar i ρ M (xAt E ρ) fun x _ => e ρ M (xAt E ρ) fun y M1 => r x y M1 fun z M2 => E.nx (ρ.set i (some z)) M2
/-- at a def's end what it made may be forgotten -/
def ends (n : Nat) (X : XQ) (Q : DQ) : DEnds := { nx := fun _ M => WkD n Q .non M, rt := fun d M => WkD n Q d M, ex := fun c fs _ M => WkL n (fun _ M' => X c fs M') (fs.map (·.2)) M }
def startD (n : Nat) (ds : List D) : DSt := ds.map some ++ List.replicate (n - ds.length) none

/-- a pen may be looked into -/
def Opens (M : MH) (B : MH → Prop) : Prop := B M ∨ ∃ p : Nat, M[p]? = some (some .pen) ∧ ∀ l, PenD l → B (M.set p (some (.lst l)))
/-- what is shown of a def: its promise sp by its body's reading t; k parameters, N slots -/
abbrev OkD (sp : SpD) (k N : Nat) (t : DS) : Prop := ∀ ds M X Q, sp ds M X Q → ds.length = k ∧ (belM M.length M = true → D.bels M.length ds = true → Opens M fun M' => t (ends M.length X Q) (startD N ds) M')
/-! ### instances, exceptions -/
def lookF (fs : Fs) (f : Str) : Option D := fs.lookup f
def insD (M : MH) : D → Option (Str × Fs)
  | .ref k => match M[k]? with
    | some (some (.ins c fs)) => some (c, fs)
    | _ => none
  | _ => none
def rAttr (cs : List Str) (f : Str) : RD1 := fun x M Q => ∃ c fs d, insD M x = some (c, fs) ∧ c ∈ cs ∧ lookF fs f = some d ∧ Q d M
def putA (f : Str) (v : D) : Fs → Fs
  | p :: r => if p.1 = f then (p.1, v) :: r else p :: putA f v r
  | [] => [(f, v)]
def rSetF (cs : List Str) (f : Str) (o v : D) (M : MH) (Q : MH → Prop) : Prop := ∃ k c fs, o = .ref k ∧ M[k]? = some (some (.ins c fs)) ∧ c ∈ cs ∧ fs.length < 900 ∧ Q (M.set k (some (.ins c (putA f v fs))))
def dSetF (cs : List Str) (f : Str) (e o : DE) : DS := fun E ρ M => e ρ M (xAt E ρ) fun v M1 => o ρ M1 (xAt E ρ) fun x M2 => rSetF cs f x v M2 fun M3 => E.nx ρ M3
/-- o.f op= e -/
def dAugF (cs : List Str) (f : Str) (r : RD2) (o e : DE) : DS := fun E ρ M => o ρ M (xAt E ρ) fun x M1 => ∃ c fs v, insD M1 x = some (c, fs) ∧ c ∈ cs ∧ lookF fs f = some v ∧ e ρ M1 (xAt E ρ) fun y M3 => r v y M3 fun z M4 => ∃ k fs', x = .ref k ∧ M4[k]? = some (some (.ins c fs')) ∧ fs'.length < 900 ∧ E.nx ρ (M4.set k (some (.ins c (putA f z fs'))))
/-- o.m(..): by the class of o -/
def dCallM (tbl : List (Str × SpD)) (m : Str) (o : DE) (a : DA) : DE := fun ρ M E Q => o ρ M E fun x M1 => ∃ c fs sp, insD M1 x = some (c, fs) ∧ tbl.lookup c = some sp ∧ lookF fs m = none ∧ a ρ M1 E fun ds M2 => sp (x :: ds) M2 E Q
/-- C(..) by its __init__ -/
def dNew (c : Str) (sp : SpD) (a : DA) : DE := fun ρ M E Q => a ρ M E fun ds M1 => sp (.ref M1.length :: ds) (M1 ++ [some (.ins c [])]) E fun d M2 => d = .non ∧ Q (.ref M1.length) M2
/-- raise C(..): the fields by the arguments -/
def dRaise (c : Str) (f : List Str) (a : DA) : DS := fun E ρ M => a ρ M (xAt E ρ) fun ds M1 => ds.length = f.length ∧ E.ex c (f.zip ds) ρ M1
/-- try: .. except C as e: .. ; e's slot -/
def setN (ρ : DSt) : Option Nat → DSt
  | some i => ρ.set i none
  | none => ρ
def sufE (E : DEnds) (i : Option Nat) : DEnds := { nx := fun ρ M => E.nx (setN ρ i) M, rt := E.rt, bk := fun ρ M => E.bk (setN ρ i) M, ct := fun ρ M => E.ct (setN ρ i) M }
def dTry (t : DS) (hs : List (Str × Option Nat × (Fs → DS))) : DS := fun E ρ M => t { E with ex := fun c fs ρ1 M1 => match hs.lookup c with | some u => u.2 fs (sufE E u.1) (setN ρ1 u.1) M1 | none => E.ex c fs ρ1 M1 } ρ M
def dXf (fs : Fs) (f : Str) : DE := fun _ M _ Q => ∃ d, lookF fs f = some d ∧ Q d M

theorem szl (n : Nat) (h : n ≤ 1000) : n ≤ sizeLine := by rw [sizeLine_eq]; omega
theorem szl' (n : Nat) (h : n ≤ 1000) : n < sizeLine := by rw [sizeLine_eq]; omega
end DM

/-! DM: evaluation over data by simp; helpers for promises. Plain Lean. -/
namespace DM
open PySem L2
section
variable {ρ : DSt} {M : MH} {E : XQ} {Q : DQ} {d e : D} {l m : List D} {i : Nat} {t : Tg} {ts : List Tg} {R : DSt → Prop}
@[simp ↓] theorem store_nm : Tg.store (.nm i) d ρ R ↔ R (ρ.set i (some d)) := by rw [Tg.store]
@[simp ↓] theorem store_tp : Tg.store (.tp ts) (.tup l) ρ R ↔ l.length = ts.length ∧ Tg.stores ts l ρ R := by
  rw [Tg.store]
  constructor
  · rintro ⟨m, e, h⟩; cases e; exact h
  · intro h; exact ⟨l, rfl, h⟩
@[simp ↓] theorem stores_cons : Tg.stores (t :: ts) (d :: l) ρ R ↔ Tg.store t d ρ fun ρ' => Tg.stores ts l ρ' R := by rw [Tg.stores]
@[simp ↓] theorem stores_nil : Tg.stores [] l ρ R ↔ R ρ := by
  rw [Tg.stores]
  intro _ _ _ _ h; cases h
@[simp ↓] theorem dVar_z : dVar 0 (some d :: ρ) M E Q ↔ Q d M := by simp [dVar]
@[simp ↓] theorem dVar_s {x : Option D} : dVar (i + 1) (x :: ρ) M E Q ↔ dVar i ρ M E Q := by simp [dVar]
end
/-! ### what simp opens -/
section
variable {ρ : DSt} {M : MH} {X : XQ} {Q : DQ} {d : D} {a b c : DE} {r r' : RD2} {r1 : RD1} {t u : DS} {T U : DT} {A : DA} {sp : SpD} {bd : BD} {E : DEnds} {R : List D → MH → Prop} {B : Bool → MH → Prop} {i j : Nat} {g : Tg} {mk : MkR}
@[simp ↓] theorem dC_ : dC d ρ M X Q ↔ Q d M := Iff.rfl
@[simp ↓] theorem dOp_ : dOp r a b ρ M X Q ↔ a ρ M X (hold (fun x M1 => b ρ M1 X (hold (fun y M2 => r x y M2 Q) ⟨⟩)) ⟨⟩) := Iff.rfl
@[simp ↓] theorem dUn_ : dUn r1 a ρ M X Q ↔ a ρ M X (hold (fun x M1 => r1 x M1 Q) ⟨⟩) := Iff.rfl
@[simp ↓] theorem dNil_ : dNil ρ M X R ↔ R [] M := Iff.rfl
@[simp ↓] theorem dCons_ : dCons a A ρ M X R ↔ a ρ M X (hold (fun x M1 => A ρ M1 X (hold (fun xs M2 => R (x :: xs) M2) ⟨⟩)) ⟨⟩) := Iff.rfl
@[simp ↓] theorem dTup_ : dTup A ρ M X Q ↔ A ρ M X (hold (fun xs M1 => xs.length ≤ sizeLine ∧ Q (.tup xs) M1) ⟨⟩) := Iff.rfl
@[simp ↓] theorem dLst_ : dLst mk A ρ M X Q ↔ A ρ M X (hold (fun xs M1 => xs.length ≤ sizeLine ∧ mk M1 (.lst xs) Q) ⟨⟩) := Iff.rfl
@[simp ↓] theorem dCall_ : dCall sp A ρ M X Q ↔ A ρ M X (hold (fun xs M1 => sp xs M1 X Q) ⟨⟩) := Iff.rfl
@[simp ↓] theorem dCallB_ : dCallB bd A ρ M X Q ↔ A ρ M X (hold (fun xs M1 => bd xs M1 Q) ⟨⟩) := Iff.rfl
@[simp ↓] theorem dTest_ : dTest a ρ M X B ↔ a ρ M X (hold (fun x M1 => isB x (hold (fun k => B k M1) ⟨⟩)) ⟨⟩) := Iff.rfl
@[simp ↓] theorem dAnd_ : dAnd T U ρ M X B ↔ T ρ M X (hold (fun c M1 => br c (U ρ M1 X B) (B false M1)) ⟨⟩) := Iff.rfl
@[simp ↓] theorem dOr_ : dOr T U ρ M X B ↔ T ρ M X (hold (fun c M1 => br c (B true M1) (U ρ M1 X B)) ⟨⟩) := Iff.rfl
@[simp ↓] theorem dNot_ : dNot T ρ M X B ↔ T ρ M X (hold (fun c M1 => B (!c) M1) ⟨⟩) := Iff.rfl
@[simp ↓] theorem dAndV_ : dAndV a b ρ M X Q ↔ a ρ M X (hold (fun x M1 => isB x (hold (fun c => br c (b ρ M1 X Q) (Q (.bl false) M1)) ⟨⟩)) ⟨⟩) := Iff.rfl
@[simp ↓] theorem dOrV_ : dOrV a b ρ M X Q ↔ a ρ M X (hold (fun x M1 => isB x (hold (fun c => br c (Q (.bl true) M1) (b ρ M1 X Q)) ⟨⟩)) ⟨⟩) := Iff.rfl
@[simp ↓] theorem dNotV_ : dNotV a ρ M X Q ↔ a ρ M X (hold (fun x M1 => isB x (hold (fun c => Q (.bl (!c)) M1) ⟨⟩)) ⟨⟩) := Iff.rfl
@[simp ↓] theorem dIf_ : dIf T a b ρ M X Q ↔ T ρ M X (hold (fun c M1 => br c (a ρ M1 X Q) (b ρ M1 X Q)) ⟨⟩) := Iff.rfl
@[simp ↓] theorem dChain_ : dChain r r' a b c ρ M X Q ↔ a ρ M X (hold (fun x M1 => b ρ M1 X (hold (fun y M2 => r x y M2 (hold (fun z M3 => isB z (hold (fun k => br k (c ρ M3 X (hold (fun u M4 => r' y u M4 Q) ⟨⟩)) (Q (.bl false) M3)) ⟨⟩)) ⟨⟩)) ⟨⟩)) ⟨⟩) := Iff.rfl
@[simp ↓] theorem dNext_ : dNext E ρ M ↔ E.nx ρ M := Iff.rfl
@[simp ↓] theorem dSeq_ : dSeq t u E ρ M ↔ t { E with nx := u E } ρ M := Iff.rfl
@[simp ↓] theorem dDrop_ : dDrop a E ρ M ↔ a ρ M (xAt E ρ) (hold (fun _ M1 => E.nx ρ M1) ⟨⟩) := Iff.rfl
@[simp ↓] theorem dRet_ : dRet a E ρ M ↔ a ρ M (xAt E ρ) (hold E.rt ⟨⟩) := Iff.rfl
@[simp ↓] theorem dRetN_ : dRetN E ρ M ↔ E.rt .non M := Iff.rfl
@[simp ↓] theorem dIfS_ : dIfS T t u E ρ M ↔ T ρ M (xAt E ρ) (hold (fun b M1 => br b (t E ρ M1) (u E ρ M1)) ⟨⟩) := Iff.rfl
@[simp ↓] theorem dAsg_ : dAsg a g E ρ M ↔ a ρ M (xAt E ρ) (hold (fun x M1 => g.store x ρ (hold (fun ρ' => E.nx ρ' M1) ⟨⟩)) ⟨⟩) := Iff.rfl
@[simp ↓] theorem dPar_ : dPar i j A E ρ M ↔ A ρ M (xAt E ρ) (hold (fun ds M1 => as2 ds (hold (fun x y => E.nx ((ρ.set i (some x)).set j (some y)) M1) ⟨⟩)) ⟨⟩) := Iff.rfl
theorem dCut_by {J : DSt → MH → Prop} (h : t { E with nx := stop J ⟨⟩ } ρ M) (h' : ∀ ρ' M', J ρ' M' → u E ρ' M') : dCut t u E ρ M := ⟨J, h, h'⟩
@[simp ↓] theorem dBreak_ : dBreak E ρ M ↔ E.bk ρ M := Iff.rfl
@[simp ↓] theorem dCont_ : dCont E ρ M ↔ E.ct ρ M := Iff.rfl
@[simp ↓] theorem dSetIx_ {e : DE} : dSetIx e a b E ρ M ↔ e ρ M (xAt E ρ) (hold (fun v M1 => a ρ M1 (xAt E ρ) (hold (fun x M2 => b ρ M2 (xAt E ρ) (hold (fun k M3 => rSet x k v M3 (hold (fun M4 => E.nx ρ M4) ⟨⟩)) ⟨⟩)) ⟨⟩)) ⟨⟩) := Iff.rfl
@[simp ↓] theorem dMeth_ {ty} {w} : dMeth ty w a A ρ M X Q ↔ a ρ M X (hold (fun x M1 => ty M1 x ∧ A ρ M1 X (hold (fun ds M2 => w x ds M2 Q) ⟨⟩)) ⟨⟩) := Iff.rfl
@[simp ↓] theorem dAug_ : dAug i r a E ρ M ↔ dVar i ρ M (xAt E ρ) (hold (fun x _ => a ρ M (xAt E ρ) (hold (fun y M1 => r x y M1 (hold (fun z M2 => E.nx (ρ.set i (some z)) M2) ⟨⟩)) ⟨⟩)) ⟨⟩) := Iff.rfl
@[simp ↓] theorem dSl_ {lo hi} : dSl mk a lo hi ρ M X Q ↔ a ρ M X (hold (fun x M1 => lo ρ M1 X (hold (fun i M2 => hi ρ M2 X (hold (fun j M3 => rSl mk x i j M3 Q) ⟨⟩)) ⟨⟩)) ⟨⟩) := Iff.rfl
@[simp ↓] theorem dNone_ {S : Option Int → MH → Prop} : dNone ρ M X S ↔ S none M := Iff.rfl
@[simp ↓] theorem dSome_ {S : Option Int → MH → Prop} : dSome a ρ M X S ↔ a ρ M X (hold (fun x M1 => asI x (hold (fun i => S (some i) M1) ⟨⟩)) ⟨⟩) := Iff.rfl
@[simp ↓] theorem tYesD_ : tYesD ρ M X B ↔ B true M := Iff.rfl
@[simp ↓] theorem ends_rt {n : Nat} : (ends n X Q).rt d M ↔ WkD n Q d M := Iff.rfl
@[simp ↓] theorem ends_nx {n : Nat} : (ends n X Q).nx ρ M ↔ WkD n Q .non M := Iff.rfl
@[simp ↓] theorem ends_ex {n : Nat} {c : Str} {fs : Fs} : (ends n X Q).ex c fs ρ M ↔ WkL n (fun _ M' => X c fs M') (fs.map (·.2)) M := Iff.rfl
@[simp] theorem startD_ {n : Nat} {ds : List D} : startD n ds = ds.map some ++ List.replicate (n - ds.length) none := rfl
@[simp ↓] theorem iRange1_ {Z : List D → (MH → Prop) → MH → Prop} : iRange1 A ρ M X Z ↔ A ρ M X (hold (fun ds M1 => as1 ds (hold (fun x => asI x (hold (fun j => j < 2 ^ 62 ∧ -(2 ^ 62) ≤ j ∧ Z (rangeD 0 j.toNat) (fun _ => True) M1) ⟨⟩)) ⟨⟩)) ⟨⟩) := Iff.rfl
@[simp ↓] theorem iRange2_ {Z : List D → (MH → Prop) → MH → Prop} : iRange2 A ρ M X Z ↔ A ρ M X (hold (fun ds M1 => as2 ds (hold (fun x y => asI x (hold (fun i => asI y (hold (fun j => (-(2 ^ 62) ≤ i ∧ i < 2 ^ 62 ∧ j < 2 ^ 62 ∧ -(2 ^ 62) ≤ j) ∧ Z (rangeD i (j - i).toNat) (fun _ => True) M1) ⟨⟩)) ⟨⟩)) ⟨⟩)) ⟨⟩) := Iff.rfl
@[simp ↓] theorem iSeq_ {Z : List D → (MH → Prop) → MH → Prop} : iSeq a ρ M X Z ↔ a ρ M X (hold (fun x M1 => seqI x M1 Z) ⟨⟩) := Iff.rfl
@[simp ↓] theorem iEnum_ {Z : List D → (MH → Prop) → MH → Prop} : iEnum A ρ M X Z ↔ A ρ M X (hold (fun ds M1 => as1 ds (hold (fun x => enumI x M1 Z) ⟨⟩)) ⟨⟩) := Iff.rfl
@[simp ↓] theorem iZip_ {Z : List D → (MH → Prop) → MH → Prop} : iZip A ρ M X Z ↔ A ρ M X (hold (fun ds M1 => as2 ds (hold (fun x y => zipI x y M1 Z) ⟨⟩)) ⟨⟩) := Iff.rfl
@[simp ↓] theorem dFor_ {w : DI} : dFor w g t E ρ M ↔ w ρ M (xAt E ρ) (hold (fun xs G M1 => loopD G g t xs E ρ M1) ⟨⟩) := Iff.rfl
@[simp ↓] theorem dLC_ {w : DI} {vs : List Nat} : dLC mk w g T a vs ρ M X Q ↔ w ρ M X (hold (fun xs G M1 => xs.length ≤ sizeLine ∧ compD G g T a (wipeD ρ vs) xs M1 (hold (fun acc M2 => mk M2 (.lst acc) Q) ⟨⟩)) ⟨⟩) := Iff.rfl
@[simp ↓] theorem dRaise_ {c : Str} {f : List Str} : dRaise c f A E ρ M ↔ A ρ M (xAt E ρ) (hold (fun ds M1 => ds.length = f.length ∧ E.ex c (f.zip ds) ρ M1) ⟨⟩) := Iff.rfl
@[simp ↓] theorem dTry_ {hs} : dTry t hs E ρ M ↔ t { E with ex := fun c fs ρ1 M1 => match hs.lookup c with | some u => u.2 fs (sufE E u.1) (setN ρ1 u.1) M1 | none => E.ex c fs ρ1 M1 } ρ M := Iff.rfl
@[simp ↓] theorem xAt_ {c : Str} {fs : Fs} : xAt E ρ c fs M ↔ E.ex c fs ρ M := Iff.rfl
@[simp] theorem noE_nx : (sufE E none).nx = E.nx := rfl
@[simp ↓] theorem dXf_ {fs : Fs} {f : Str} : dXf fs f ρ M X Q ↔ ∃ d, lookF fs f = some d ∧ Q d M := Iff.rfl
@[simp] theorem CPowD_ {i j : Int} : CPowD i j ↔ 0 ≤ j ∧ j ≤ 1000 ∧ i.natAbs < 2 ^ 64 := Iff.rfl
@[simp] theorem szle {n : Nat} (h : n ≤ 1000) : n ≤ sizeLine ↔ True := iff_true_intro (Nat.le_trans h (szl 1000 (by decide)))
@[simp] theorem szlt {n : Nat} (h : n < 1000) : n < sizeLine ↔ True := iff_true_intro (Nat.lt_of_lt_of_le h (szl 1000 (by decide)))
section
variable {M l : MH} {v : Option MO} {k : Nat}
@[simp] theorem get_len : (M ++ l)[M.length]? = l[0]? := by simp [List.getElem?_append_right]
@[simp] theorem get_lenk : (M ++ l)[M.length + k]? = l[k]? := by rw [List.getElem?_append_right (Nat.le_add_right _ _)]; simp
@[simp] theorem get_old {p : Nat} {x : Option MO} (h : M[p]? = some x) : (M ++ l)[p]? = some x := by
  rw [List.getElem?_append_left (List.getElem?_eq_some_iff.mp h).1, h]
@[simp] theorem set_len : (M ++ l).set M.length v = M ++ l.set 0 v := by simp [List.set_append_right]
@[simp] theorem set_lenk : (M ++ l).set (M.length + k) v = M ++ l.set k v := by rw [List.set_append_right (h := Nat.le_add_right _ _)]; simp
end
@[simp] theorem sl0 : (0 : Nat) ≤ sizeLine := szl 0 (by decide)
@[simp] theorem sl1 : (1 : Nat) ≤ sizeLine := szl 1 (by decide)
@[simp] theorem sl2 : (2 : Nat) ≤ sizeLine := szl 2 (by decide)
@[simp] theorem sl3 : (3 : Nat) ≤ sizeLine := szl 3 (by decide)
@[simp] theorem sl4 : (4 : Nat) ≤ sizeLine := szl 4 (by decide)
@[simp] theorem sl5 : (5 : Nat) ≤ sizeLine := szl 5 (by decide)
@[simp] theorem sl6 : (6 : Nat) ≤ sizeLine := szl 6 (by decide)
@[simp] theorem sl7 : (7 : Nat) ≤ sizeLine := szl 7 (by decide)
@[simp] theorem sl8 : (8 : Nat) ≤ sizeLine := szl 8 (by decide)
@[simp] theorem sl9 : (9 : Nat) ≤ sizeLine := szl 9 (by decide)
@[simp] theorem sl10 : (10 : Nat) ≤ sizeLine := szl 10 (by decide)
@[simp] theorem sl11 : (11 : Nat) ≤ sizeLine := szl 11 (by decide)
@[simp] theorem sl12 : (12 : Nat) ≤ sizeLine := szl 12 (by decide)
@[simp] theorem sl13 : (13 : Nat) ≤ sizeLine := szl 13 (by decide)
@[simp] theorem sl14 : (14 : Nat) ≤ sizeLine := szl 14 (by decide)
@[simp] theorem sl15 : (15 : Nat) ≤ sizeLine := szl 15 (by decide)
@[simp] theorem sl16 : (16 : Nat) ≤ sizeLine := szl 16 (by decide)
@[simp] theorem sl17 : (17 : Nat) ≤ sizeLine := szl 17 (by decide)
@[simp] theorem sl18 : (18 : Nat) ≤ sizeLine := szl 18 (by decide)
@[simp] theorem sl19 : (19 : Nat) ≤ sizeLine := szl 19 (by decide)
@[simp] theorem sl20 : (20 : Nat) ≤ sizeLine := szl 20 (by decide)
@[simp] theorem sl40 : (40 : Nat) ≤ sizeLine := szl 40 (by decide)
end
/-! ### == of plain data -/
mutual
theorem plain_py : ∀ d : D, d.plain = true → d.py.plain = true
  | .non, _ | .bl _, _ | .int _, _ | .str _, _ => rfl
  | .tup l, h => plains_py l h
  | .lis l, h => plains_py l h
  | .ref _, h => nomatch h
  | .dct _ _, h => nomatch h
theorem plains_py : ∀ l : List D, D.plains l = true → PyData.plainAll (D.pys l) = true
  | [], _ => rfl
  | x :: r, h => by
    have h' : (x.plain && D.plains r) = true := h
    rw [Bool.and_eq_true] at h'
    rw [D.pys, PyData.plainAll, plain_py x h'.1, plains_py r h'.2]; rfl
end
theorem rEq_of {x y : D} {M : MH} {Q : DQ} (hx : x.plain = true) (hy : y.plain = true) (nx : x.py.depth ≤ 60) (q : Q (.bl (PyData.eqv x.py y.py)) M) : rEq x y M Q :=
  ⟨_, _, .py M x hx, .py M y hy, plain_py x hx, plain_py y hy, nx, q⟩
theorem rNe_of {x y : D} {M : MH} {Q : DQ} (hx : x.plain = true) (hy : y.plain = true) (nx : x.py.depth ≤ 60) (q : Q (.bl (!PyData.eqv x.py y.py)) M) : rNe x y M Q :=
  ⟨_, _, .py M x hx, .py M y hy, plain_py x hx, plain_py y hy, nx, q⟩
theorem plain_ints : ∀ ns : List Int, D.plains (ns.map D.int) = true
  | [] => rfl
  | _ :: r => by rw [List.map_cons, D.plains, plain_ints r]; rfl
theorem dep_ints : ∀ ns : List Int, PyData.depthAll (D.pys (ns.map D.int)) = 0
  | [] => rfl
  | _ :: r => by rw [List.map_cons, D.pys, PyData.depthAll, dep_ints r]; rfl
/-! ### operations on ints, truths, texts, tuples -/
section
variable {M : MH} {Q : DQ} {a b : Int} {x y : Str} {k l' : Bool} {p : PyData} {d : D} {l m : List D} {n : Nat} {T : Ty} {mk : MkR}
@[simp] theorem rPlus_int : rPlus mk (.int a) (.int b) M Q ↔ Q (.int (a + b)) M := Iff.rfl
@[simp] theorem rPlus_tup : rPlus mk (.tup l) (.tup m) M Q ↔ (l.length + m.length ≤ sizeLine ∧ Q (.tup (l ++ m)) M) := Iff.rfl
@[simp] theorem rPlus_str : rPlus mk (.str x) (.str y) M Q ↔ (x.length + y.length ≤ sizeLine ∧ Q (.str (x ++ y)) M) := Iff.rfl
@[simp] theorem rPlus_lis : rPlus mk (.lis l) (.lis m) M Q ↔ (l.length + m.length ≤ sizeLine ∧ mk M (.lst (l ++ m)) Q) := by
  show (∃ a b, _) ↔ _
  constructor
  · rintro ⟨a, b, _, _, e, e', h⟩; cases e; cases e'; exact h
  · intro h; exact ⟨l, m, by simp, by simp, rfl, rfl, h⟩
@[simp] theorem rSub_int : rSub (.int a) (.int b) M Q ↔ Q (.int (a - b)) M := by simp [rSub, rI]
@[simp] theorem rAdd_int : rAdd (.int a) (.int b) M Q ↔ Q (.int (a + b)) M := by simp [rAdd, rI]
@[simp] theorem rMul_int : rMul (.int a) (.int b) M Q ↔ ((a.natAbs < 2 ^ 64 ∨ b.natAbs < 2 ^ 64) ∧ Q (.int (a * b)) M) := by simp [rMul, CMulD]
@[simp] theorem rMul_tup : rMul (.tup l) (.int a) M Q ↔ (l ≠ [] ∧ 1 ≤ a ∧ a ≤ 1000 ∧ l.length ≤ 1000 ∧ Q (.tup (List.replicate a.toNat l).flatten) M) := by simp [rMul]
@[simp] theorem rMulI_int : rMulI (.int a) (.int b) M Q ↔ ((a.natAbs < 2 ^ 64 ∨ b.natAbs < 2 ^ 64) ∧ Q (.int (a * b)) M) := by simp [rMulI, rI, CMulD]
@[simp] theorem rDiv_int : rDiv (.int a) (.int b) M Q ↔ (CDivD a b ∧ Q (.int (a / b)) M) := by simp [rDiv, rI]
@[simp] theorem rMod_int : rMod (.int a) (.int b) M Q ↔ (0 < b ∧ Q (.int (a % b)) M) := by simp [rMod, rI]
@[simp] theorem rPow_int : rPow (.int a) (.int b) M Q ↔ (CPowD a b ∧ Q (.int (a ^ b.toNat)) M) := by simp [rPow, rI]
@[simp] theorem rLt_int : rLt (.int a) (.int b) M Q ↔ Q (.bl (decide (a < b))) M := by simp [rLt, rI]
@[simp] theorem rLe_int : rLe (.int a) (.int b) M Q ↔ Q (.bl (decide (a ≤ b))) M := by simp [rLe, rI]
@[simp] theorem rGt_int : rGt (.int a) (.int b) M Q ↔ Q (.bl (decide (b < a))) M := by simp [rGt, rI]
@[simp] theorem rGe_int : rGe (.int a) (.int b) M Q ↔ Q (.bl (decide (b ≤ a))) M := by simp [rGe, rI]
@[simp] theorem rNeg_int : rNeg (.int a) M Q ↔ Q (.int (-a)) M := by simp [rNeg]
@[simp] theorem isN_non : D.isN .non = true := rfl
@[simp] theorem isN_int : D.isN (.int a) = false := rfl
@[simp] theorem isN_tup : D.isN (.tup l) = false := rfl
@[simp] theorem isN_lis : D.isN (.lis l) = false := rfl
@[simp] theorem isN_str : D.isN (.str x) = false := rfl
@[simp] theorem isN_bl : D.isN (.bl k) = false := rfl
@[simp] theorem isN_ref : D.isN (.ref n) = false := rfl
@[simp] theorem rIsN_ : rIsN d M Q ↔ Q (.bl d.isN) M := Iff.rfl
@[simp] theorem rNotN_ : rNotN d M Q ↔ Q (.bl (!d.isN)) M := Iff.rfl
theorem ixD_nat {i : Nat} (h : i < n) : ixD n (i : Int) = some i := by unfold ixD; simp [h]
@[simp] theorem ixD_0 : ixD (n + 1) 0 = some 0 := by unfold ixD; simp <;> omega
@[simp] theorem ixD_1 : ixD (n + 2) 1 = some 1 := by unfold ixD; simp <;> omega
@[simp] theorem ixD_2 : ixD (n + 3) 2 = some 2 := by unfold ixD; simp <;> omega
@[simp] theorem ixD_3 : ixD (n + 4) 3 = some 3 := by unfold ixD; simp <;> omega
@[simp] theorem ixD_m1 : ixD (n + 1) (-1) = some n := by unfold ixD; simp <;> omega
theorem itemQ_nat {j : Nat} (h : l[j]? = some d) : itemQ l (j : Int) M Q ↔ Q d M := by
  have hl := (List.getElem?_eq_some_iff.mp h).1
  constructor
  · rintro ⟨k, e, h1, h2, q⟩
    rw [ixD_nat hl] at h1; cases h1
    rw [h] at h2; cases h2; exact q
  · intro q; exact ⟨j, d, ixD_nat hl, h, q⟩
@[simp] theorem itemQ_0 : itemQ (d :: l) 0 M Q ↔ Q d M := itemQ_nat (j := 0) rfl
@[simp] theorem itemQ_1 {x0 : D} : itemQ (x0 :: d :: l) 1 M Q ↔ Q d M := itemQ_nat (j := 1) rfl
@[simp] theorem itemQ_2 {x0 x1 : D} : itemQ (x0 :: x1 :: d :: l) 2 M Q ↔ Q d M := itemQ_nat (j := 2) rfl
@[simp] theorem itemQ_3 {x0 x1 x2 : D} : itemQ (x0 :: x1 :: x2 :: d :: l) 3 M Q ↔ Q d M := itemQ_nat (j := 3) rfl
@[simp] theorem itemQ_4 {x0 x1 x2 x3 : D} : itemQ (x0 :: x1 :: x2 :: x3 :: d :: l) 4 M Q ↔ Q d M := itemQ_nat (j := 4) rfl
@[simp] theorem seqD_tup : seqD M (.tup l) = some l := rfl
@[simp] theorem seqD_lis : seqD M (.lis l) = some l := rfl
@[simp] theorem dicD_tup : dicD M (.tup l) = none := rfl
@[simp] theorem dicD_lis : dicD M (.lis l) = none := rfl
theorem seqD_at (h : M[n]? = some (some (.lst l))) : seqD M (.ref n) = some l := by unfold seqD; simp [h]
theorem dicD_at {l : List (Key × D)} (h : M[n]? = some (some (.dic l))) : dicD M (.ref n) = some l := by unfold dicD; simp [h]
theorem dicD_no (h : M[n]? = some (some (.lst l))) : dicD M (.ref n) = none := by unfold dicD; simp [h]
theorem seqD_no {l : List (Key × D)} (h : M[n]? = some (some (.dic l))) : seqD M (.ref n) = none := by unfold seqD; simp [h]
@[simp] theorem rItem_tup : rItem (.tup l) (.int a) M Q ↔ itemQ l a M Q := by simp [rItem, rIx, rItemD]
@[simp] theorem rItem_lis : rItem (.lis l) (.int a) M Q ↔ itemQ l a M Q := by simp [rItem, rIx, rItemD]
@[simp] theorem rItem_at (h : M[n]? = some (some (.lst l))) : rItem (.ref n) (.int a) M Q ↔ itemQ l a M Q := by simp [rItem, rIx, rItemD, seqD_at h, dicD_no h]
@[simp] theorem rItem_dic {l : List (Key × D)} (h : M[n]? = some (some (.dic l))) : rItem (.ref n) d M Q ↔ ∃ k e, d.key = some k ∧ lookD l k = some e ∧ Q e M := by
  simp only [rItem, rIx, rItemD, seqD_no h, dicD_at h]
  constructor
  · rintro (⟨_, _, e, _⟩ | ⟨m, k, e, e1, h1, h2, q⟩)
    · cases e
    · cases e1; exact ⟨k, e, h1, h2, q⟩
  · rintro ⟨k, e, h1, h2, q⟩; exact .inr ⟨_, k, e, rfl, h1, h2, q⟩
@[simp] theorem cLen_tup : cLen [.tup l] M Q ↔ Q (.int l.length) M := by simp [cLen]
@[simp] theorem cLen_lis : cLen [.lis l] M Q ↔ Q (.int l.length) M := by simp [cLen]
@[simp] theorem cLen_at (h : M[n]? = some (some (.lst l))) : cLen [.ref n] M Q ↔ Q (.int l.length) M := by simp [cLen, seqD_at h]
@[simp] theorem cTuple_tup : cTuple [.tup l] M Q ↔ Q (.tup l) M := by simp [cTuple]
@[simp] theorem cTuple_lis : cTuple [.lis l] M Q ↔ Q (.tup l) M := by simp [cTuple]
@[simp] theorem cTuple_at (h : M[n]? = some (some (.lst l))) : cTuple [.ref n] M Q ↔ Q (.tup l) M := by simp [cTuple, seqD_at h]
@[simp] theorem cList_tup : cList mk [.tup l] M Q ↔ mk M (.lst l) Q := by simp [cList]
@[simp] theorem cList_lis : cList mk [.lis l] M Q ↔ mk M (.lst l) Q := by simp [cList]
@[simp] theorem cList_at (h : M[n]? = some (some (.lst l))) : cList mk [.ref n] M Q ↔ mk M (.lst l) Q := by simp [cList, seqD_at h]
@[simp] theorem cIntB_int : cIntB [.int a] M Q ↔ Q (.int a) M := by simp [cIntB]
@[simp] theorem cIntB_bl : cIntB [.bl k] M Q ↔ Q (.int (if k then 1 else 0)) M := by cases k <;> simp [cIntB]
@[simp] theorem cMax2_int : cMax2 [.int a, .int b] M Q ↔ Q (.int (if b > a then b else a)) M := by simp [cMax2]
@[simp] theorem cMin2_int : cMin2 [.int a, .int b] M Q ↔ Q (.int (if b < a then b else a)) M := by simp [cMin2]
@[simp] theorem cAbs_int : cAbs [.int a] M Q ↔ Q (.int (if a < 0 then -a else a)) M := by simp [cAbs]
@[simp] theorem isLst_at (h : M[n]? = some (some (.lst l))) : isLst M (.ref n) ↔ True := iff_true_intro ⟨n, l, rfl, h⟩
@[simp] theorem mAppend_at (h : M[n]? = some (some (.lst l))) : mAppend (.ref n) [d] M Q ↔ l.length < sizeLine ∧ Q .non (M.set n (some (.lst (l ++ [d])))) := by simp [mAppend, h]
@[simp] theorem mExtend_at (h : M[n]? = some (some (.lst l))) : mExtend (.ref n) [.lis m] M Q ↔ l.length + m.length ≤ sizeLine ∧ Q .non (M.set n (some (.lst (l ++ m)))) := by simp [mExtend, h]
@[simp] theorem rFrz_at (h : M[n]? = some (some (.lst l))) : rFrz (.ref n) M Q ↔ Q (.lis l) (M.set n none) := by simp [rFrz, h, MO.frz]
theorem setQ_nat {j : Nat} {v : D} {P : List D → Prop} (h : j < l.length) : setQ l (j : Int) v P ↔ P (l.set j v) := by
  unfold setQ
  rw [ixD_nat h]
  simp
@[simp] theorem setQ_0 {x v : D} {P : List D → Prop} : setQ (x :: l) 0 v P ↔ P (v :: l) := setQ_nat (j := 0) (by simp)
@[simp] theorem setQ_1 {x y v : D} {P : List D → Prop} : setQ (x :: y :: l) 1 v P ↔ P (x :: v :: l) := setQ_nat (j := 1) (by simp)
@[simp] theorem setQ_2 {x y z v : D} {P : List D → Prop} : setQ (x :: y :: z :: l) 2 v P ↔ P (x :: y :: v :: l) := setQ_nat (j := 2) (by simp)
theorem rSet_at {v : D} {P : MH → Prop} (h : M[n]? = some (some (.lst l))) : rSet (.ref n) (.int a) v M P ↔ setQ l a v fun l' => P (M.set n (some (.lst l'))) := by simp [rSet, h]
theorem rSet_dic {v : D} {P : MH → Prop} {l : List (Key × D)} (h : M[n]? = some (some (.dic l))) : rSet (.ref n) d v M P ↔ ∃ k, d.key = some k ∧ l.length < sizeLine ∧ P (M.set n (some (.dic (putD l k v)))) := by simp [rSet, h]
@[simp] theorem rSl_tup {lo hi : Option Int} : rSl mk (.tup l) lo hi M Q ↔ (∀ i, lo = some i → 0 ≤ i) ∧ (∀ i, hi = some i → 0 ≤ i) ∧ Q (.tup (cutD l (lo.map Int.toNat) (hi.map Int.toNat))) M := by simp [rSl]
@[simp] theorem rSl_lis {lo hi : Option Int} : rSl mk (.lis l) lo hi M Q ↔ (∀ i, lo = some i → 0 ≤ i) ∧ (∀ i, hi = some i → 0 ≤ i) ∧ mk M (.lst (cutD l (lo.map Int.toNat) (hi.map Int.toNat))) Q := by simp [rSl]
@[simp ↓] theorem seqI_tup {R : List D → (MH → Prop) → MH → Prop} : seqI (.tup l) M R ↔ R l (fun _ => True) M := Iff.rfl
@[simp ↓] theorem seqI_lis {R : List D → (MH → Prop) → MH → Prop} : seqI (.lis l) M R ↔ R l (fun _ => True) M := Iff.rfl
theorem seqI_at {R : List D → (MH → Prop) → MH → Prop} (h : M[n]? = some (some (.lst l))) : seqI (.ref n) M R ↔ R l (fun M => M[n]? = some (some (.lst l))) M := by simp [seqI, h]
@[simp ↓] theorem enumI_ {R : List D → (MH → Prop) → MH → Prop} : enumI d M R ↔ seqI d M (hold (fun l G M1 => R (enumD 0 l) G M1) ⟨⟩) := Iff.rfl
@[simp ↓] theorem zipI_ {R : List D → (MH → Prop) → MH → Prop} : zipI (.tup l) (.tup m) M R ↔ R (zipD l m) (fun _ => True) M := by simp [zipI]
@[simp] theorem rIsi_ : rIsi T d M Q ↔ tyOk M d ∧ Q (.bl (isTy M T d)) M := Iff.rfl
@[simp] theorem sees_int : Sees M (.int a) p ↔ p = .int a := ⟨fun h => by cases h; rfl, fun h => h ▸ .int a⟩
@[simp] theorem sees_bl : Sees M (.bl k) p ↔ p = .bool k := ⟨fun h => by cases h; rfl, fun h => h ▸ .bl k⟩
@[simp] theorem sees_str : Sees M (.str x) p ↔ p = .str x := ⟨fun h => by cases h; rfl, fun h => h ▸ .str x⟩
@[simp] theorem sees_non : Sees M .non p ↔ p = .none := ⟨fun h => by cases h; rfl, fun h => h ▸ .non⟩
@[simp] theorem eq_int : rEq (.int a) (.int b) M Q ↔ Q (.bl (decide (a = b))) M := by
  constructor
  · rintro ⟨p, q, h1, h2, _, _, _, h⟩
    rw [sees_int] at h1 h2; subst h1; subst h2
    simpa [PyData.eqv, Bool.beq_eq_decide_eq] using h
  · intro q
    refine rEq_of rfl rfl (by simp [D.py, PyData.depth]) ?_
    simpa [D.py, PyData.eqv, Bool.beq_eq_decide_eq] using q
@[simp] theorem eq_bl : rEq (.bl k) (.bl l') M Q ↔ Q (.bl (k == l')) M := by
  constructor
  · rintro ⟨p, q, h1, h2, _, _, _, h⟩
    rw [sees_bl] at h1 h2; subst h1; subst h2
    simpa [PyData.eqv, Bool.beq_eq_decide_eq] using h
  · intro q
    refine rEq_of rfl rfl (by simp [D.py, PyData.depth]) ?_
    simpa [D.py, PyData.eqv, Bool.beq_eq_decide_eq] using q
@[simp] theorem eq_str : rEq (.str x) (.str y) M Q ↔ Q (.bl (x == y)) M := by
  constructor
  · rintro ⟨p, q, h1, h2, _, _, _, h⟩
    rw [sees_str] at h1 h2; subst h1; subst h2
    simpa [PyData.eqv, Bool.beq_eq_decide_eq] using h
  · intro q
    refine rEq_of rfl rfl (by simp [D.py, PyData.depth]) ?_
    simpa [D.py, PyData.eqv, Bool.beq_eq_decide_eq] using q
@[simp] theorem ne_int : rNe (.int a) (.int b) M Q ↔ Q (.bl (!(decide (a = b)))) M := by
  constructor
  · rintro ⟨p, q, h1, h2, _, _, _, h⟩
    rw [sees_int] at h1 h2; subst h1; subst h2
    simpa [PyData.eqv, Bool.beq_eq_decide_eq] using h
  · intro q
    refine rNe_of rfl rfl (by simp [D.py, PyData.depth]) ?_
    simpa [D.py, PyData.eqv, Bool.beq_eq_decide_eq] using q
@[simp] theorem ne_bl : rNe (.bl k) (.bl l') M Q ↔ Q (.bl (!(k == l'))) M := by
  constructor
  · rintro ⟨p, q, h1, h2, _, _, _, h⟩
    rw [sees_bl] at h1 h2; subst h1; subst h2
    simpa [PyData.eqv, Bool.beq_eq_decide_eq] using h
  · intro q
    refine rNe_of rfl rfl (by simp [D.py, PyData.depth]) ?_
    simpa [D.py, PyData.eqv, Bool.beq_eq_decide_eq] using q
@[simp] theorem ne_str : rNe (.str x) (.str y) M Q ↔ Q (.bl (!(x == y))) M := by
  constructor
  · rintro ⟨p, q, h1, h2, _, _, _, h⟩
    rw [sees_str] at h1 h2; subst h1; subst h2
    simpa [PyData.eqv, Bool.beq_eq_decide_eq] using h
  · intro q
    refine rNe_of rfl rfl (by simp [D.py, PyData.depth]) ?_
    simpa [D.py, PyData.eqv, Bool.beq_eq_decide_eq] using q
end
/-! ### repr of plain data -/
mutual
/-- what repr takes -/
def D.rok : D → Bool
  | .int i => decide (i.natAbs.log2 < 1920)
  | .str x => PyData.strOk x
  | .tup l | .lis l => D.roks l
  | .ref _ => false
  | .dct _ _ => false
  | _ => true
def D.roks : List D → Bool
  | [] => true
  | x :: r => x.rok && D.roks r
end
mutual
def D.wt : D → Nat
  | .str x => x.length + 1
  | .tup l | .lis l => D.wts l + 1
  | _ => 1
def D.wts : List D → Nat
  | [] => 0
  | x :: r => x.wt + D.wts r
end
theorem strOk_lt {x : Str} (h : PyData.strOk x = true) : ∀ c ∈ x.cps.toList, c < 16 ^ 8 := by
  have h0 : x.cps.all (· < 0x110000) = true := by simpa only [PyData.strOk] using h
  intro c hcm
  have := (Array.all_eq_true_iff_forall_mem.mp h0) c (Array.mem_toList_iff.mp hcm)
  have h1 : c < 0x110000 := by simpa using this
  exact Nat.lt_trans h1 (by decide)
mutual
theorem rok_all : ∀ d : D, d.rok = true → d.plain = true ∧ d.py.showable = true ∧ d.py.hasDict = false ∧ d.py.shown.length + 2 ≤ 1930 * d.wt
  | .non, _ => ⟨rfl, rfl, rfl, by decide⟩
  | .bl b, _ => ⟨rfl, rfl, rfl, by cases b <;> decide⟩
  | .int i, h => ⟨rfl, h, rfl, by
      have := PyProof.Rows.int_text_len_1921 (of_decide_eq_true h)
      show (Str.ofString (toString i)).length + 2 ≤ 1930 * 1
      omega⟩
  | .str x, h => ⟨rfl, rfl, rfl, by
      have := StrLaws.reprText_len x (strOk_lt h)
      show (reprText x).length + 2 ≤ 1930 * (x.length + 1)
      omega⟩
  | .tup l, h => by
    obtain ⟨a, b, c, e⟩ := roks_all l h
    refine ⟨a, b, c, ?_⟩
    have := tupleText_len_le (PyData.shownAll (D.pys l))
    rw [PyData.shownAll_length] at this
    show (tupleText (PyData.shownAll (D.pys l))).length + 2 ≤ 1930 * (D.wts l + 1)
    omega
  | .lis l, h => by
    obtain ⟨a, b, c, e⟩ := roks_all l h
    refine ⟨a, b, c, ?_⟩
    have := listText_len_le (PyData.shownAll (D.pys l))
    rw [PyData.shownAll_length] at this
    show (listText (PyData.shownAll (D.pys l))).length + 2 ≤ 1930 * (D.wts l + 1)
    omega
  | .ref _, h => nomatch h
  | .dct _ _, h => nomatch h
theorem roks_all : ∀ l : List D, D.roks l = true → D.plains l = true ∧ PyData.showableAll (D.pys l) = true ∧ PyData.hasDictAll (D.pys l) = false ∧ ((PyData.shownAll (D.pys l)).map (·.length)).sum + 2 * (D.pys l).length ≤ 1930 * D.wts l
  | [], _ => ⟨rfl, rfl, rfl, by decide⟩
  | x :: r, h => by
    have h' : (x.rok && D.roks r) = true := h
    rw [Bool.and_eq_true] at h'
    obtain ⟨a, b, c, e⟩ := rok_all x h'.1
    obtain ⟨a', b', c', e'⟩ := roks_all r h'.2
    refine ⟨by rw [D.plains, a, a']; rfl, by rw [D.pys, PyData.showableAll, b, b']; rfl, by rw [D.pys, PyData.hasDictAll, c, c']; rfl, ?_⟩
    simp only [D.pys, PyData.shownAll, D.wts, List.map_cons, List.sum_cons, List.length_cons]
    omega
end
theorem cRepr_of {d : D} {M : MH} {Q : DQ} (h : d.rok = true) (w : d.wt ≤ 8000) (k : d.py.depth ≤ 60) (q : Q (.str d.py.shown) M) : cRepr [d] M Q := by
  obtain ⟨a, b, c, e⟩ := rok_all d h
  exact ⟨d, d.py, rfl, .py M d a, b, c, by rw [sizeLine_eq]; omega, k, q⟩
end DM

/-! DM: draws, loops by a typed state, comprehensions, forgetting. Plain Lean. -/
namespace DM
open PySem L2
/-! ### the drawing defs: what they promise -/
def Wide (n : Int) : Prop := 0 < n ∧ n < 2 ^ 400
@[simp] theorem wide_of {n : Int} (h : 0 < n ∧ n < 2 ^ 200) : Wide n ↔ True := iff_true_intro ⟨h.1, Int.lt_trans h.2 (by exact of_decide_eq_true rfl)⟩
def pPen : SpD := fun ds M _ Q => ∃ ns : List Int, ds = [.lis (ns.map D.int)] ∧ Q (.ref M.length) (M ++ [some .pen])
/-- the pen, open: its parts -/
def penL (cs : List Int) (a l : Int) : List D := [.lis (cs.map D.int), .int a, .int l]
def pFresh : SpD := fun ds M _ Q => ∃ p cs a l, ds = [.ref p] ∧ M[p]? = some (some (.lst (penL cs a l))) ∧ 0 ≤ a ∧ ∀ n a' : Int, 0 ≤ n → 0 ≤ a' → Q (.int n) (M.set p (some (.lst (penL cs a' l))))
def pDraw : SpD := fun ds M _ Q => ∃ p many, ds = [.ref p, .int many] ∧ Wide many ∧ M[p]? = some (some .pen) ∧ ∀ d : Int, 0 ≤ d → d < many → Q (.int d) M
@[simp] theorem pen_ {ns : List Int} {M : MH} {X : XQ} {Q : DQ} : pPen [.lis (ns.map D.int)] M X Q ↔ Q (.ref M.length) (M ++ [some .pen]) := ⟨fun ⟨_, _, h⟩ => h, fun h => ⟨ns, rfl, h⟩⟩
@[simp] theorem draw_ {p : Nat} {many : Int} {M : MH} {X : XQ} {Q : DQ} : pDraw [.ref p, .int many] M X Q ↔ Wide many ∧ M[p]? = some (some .pen) ∧ ∀ d : Int, 0 ≤ d → d < many → Q (.int d) M := by
  constructor
  · rintro ⟨p', m', e, h⟩; cases e; exact h
  · intro h; exact ⟨p, many, rfl, h⟩
/-- a law's promise -/
def spLaw (n : Nat) : SpD := fun ds M _ Q => ∃ ns : List Int, ds = [.lis (ns.map D.int)] ∧ ns.length ≤ n ∧ M = [] ∧ ∀ M', Q (.bl true) M'
theorem stop1 {α : Sort _} {Q : α → Prop} {t : Later Q} {a : α} (h : Q a) : stop Q t a := h
theorem stop2 {α β : Sort _} {Q : α → β → Prop} {t : Later Q} {a : α} {b : β} (h : Q a b) : stop Q t a b := h
section
variable {n : Nat} {Q : DQ} {M : MH} {b c : Bool}
@[simp] theorem br_wand : br b (WkD n Q (.bl c) M) (WkD n Q (.bl false) M) ↔ WkD n Q (.bl (b && c)) M := by cases b <;> rfl
@[simp] theorem br_wor : br b (WkD n Q (.bl true) M) (WkD n Q (.bl c) M) ↔ WkD n Q (.bl (b || c)) M := by cases b <;> rfl
end
/-! ### loops -/
theorem rangeD_ln : ∀ (k : Nat) (lo : Int), (rangeD lo k).length = k
  | 0, _ => rfl
  | k + 1, lo => by rw [rangeD, List.length_cons, rangeD_ln k]
theorem rangeD_gt : ∀ (k : Nat) (lo : Int) (i : Nat), i < k → (rangeD lo k)[i]? = some (.int (lo + i))
  | 0, _, _, h => by omega
  | k + 1, lo, 0, _ => by simp [rangeD]
  | k + 1, lo, i + 1, h => by
    rw [rangeD, List.getElem?_cons_succ, rangeD_gt k (lo + 1) i (by omega)]
    congr 2
    push_cast
    omega
theorem rangeD_map (lo : Int) (k : Nat) : rangeD lo k = (List.range k).map fun i : Nat => D.int (lo + i) := by
  apply List.ext_getElem?
  intro i
  by_cases h : i < k
  · rw [rangeD_gt _ _ _ h]; simp [h]
  · rw [List.getElem?_eq_none (by rw [rangeD_ln]; omega), List.getElem?_eq_none (by simp; omega)]
section
variable {G : MH → Prop} {g : Tg} {tb : DS} {E : DEnds} {ρ : DSt} {M : MH}
/-- a turn's end -/
theorem nx_at {T : Type} {n : Nat} {P : T → Prop} {f : T → DSt} {m : T → MH} {ρ : DSt} {M : MH} {l : Later (nxP n P f m)} (t : T) (h1 : lessS (f t) ρ) (h4 : P t) (h2 : lessH (m t) M) (h3 : cutOk n (f t) (m t) M) : stop (nxP n P f m) l ρ M := ⟨t, h1, h2, h3, h4⟩
/-- over the items e x, x of l, by a typed state -/
theorem loop_st {α : Type} {l : List α} {e : α → D} {xs : List D} (hx : xs = l.map e) {T : Type} (f : T → DSt) (m : T → MH) (J : Nat → T → Prop) (start : nxP M.length (J 0) f m ρ M)
    (turn : ∀ (i : Nat) x t, l[i]? = some x → l.take (i + 1) = l.take i ++ [x] → J i t → G (m t) ∧ g.store (e x) (f t) fun ρ1 => tb { E with nx := stop (nxP M.length (J (i + 1)) f m) ⟨⟩, ct := stop (nxP M.length (J (i + 1)) f m) ⟨⟩, bk := E.nx } ρ1 (m t))
    (last : ∀ t, J l.length t → G (m t) ∧ E.nx (f t) (m t)) : loopD G g tb xs E ρ M := by
  subst hx
  refine ⟨T, f, m, J, start, fun i x t h q => ?_, fun t q => last t (by simpa using q)⟩
  rw [List.getElem?_map] at h
  cases el : l[i]? with
  | none => rw [el] at h; cases h
  | some y =>
    rw [el] at h; cases h
    exact turn i y t el (by rw [List.take_add_one, el]; rfl) q
/-- over range(lo, lo + n) -/
theorem loop_rng {n : Nat} {lo : Int} {T : Type} (f : T → DSt) (m : T → MH) (J : Nat → T → Prop) (start : nxP M.length (J 0) f m ρ M)
    (turn : ∀ (i : Nat) t, i < n → J i t → G (m t) ∧ g.store (.int (lo + i)) (f t) fun ρ1 => tb { E with nx := stop (nxP M.length (J (i + 1)) f m) ⟨⟩, ct := stop (nxP M.length (J (i + 1)) f m) ⟨⟩, bk := E.nx } ρ1 (m t))
    (last : ∀ t, J n t → G (m t) ∧ E.nx (f t) (m t)) : loopD G g tb (rangeD lo n) E ρ M :=
  loop_st (rangeD_map lo n) f m J start (fun i x t h _ q => by
    obtain ⟨h1, h2⟩ := List.getElem?_eq_some_iff.mp h
    simp at h1 h2
    subst h2
    exact turn i t h1 q) fun t q => last t (by simpa using q)
/-- a loop that carries nothing: the slots and the cells are the same ahead of each turn -/
theorem loop_same {α : Type} {l : List α} {e : α → D} {xs : List D} (hx : xs = l.map e) (f : DSt) (m : MH) (start : nxP M.length (fun _ : Unit => True) (fun _ => f) (fun _ => m) ρ M)
    (turn : ∀ (i : Nat) x, l[i]? = some x → G m ∧ g.store (e x) f fun ρ1 => tb { E with nx := stop (nxP M.length (fun _ : Unit => True) (fun _ => f) (fun _ => m)) ⟨⟩, ct := stop (nxP M.length (fun _ : Unit => True) (fun _ => f) (fun _ => m)) ⟨⟩, bk := E.nx } ρ1 m)
    (last : G m ∧ E.nx f m) : loopD G g tb xs E ρ M := loop_st hx (T := Unit) (fun _ => f) (fun _ => m) (fun _ _ => True) start (fun i x _ h _ _ => turn i x h) fun _ _ => last
end
theorem nxI_of {n : Nat} {P : DSt → MH → Prop} {l : Later (nxI n P)} {ρ : DSt} {M : MH} (h : P ρ M) : stop (nxI n P) l ρ M := ⟨(ρ, M), lessS_rfl, lessH_rfl, .inl rfl, h⟩
theorem WkL.of' {n : Nat} {P : List D → MH → Prop} {l : List D} {M : MH} (h : P l M) : WkL n P l M := .of h
@[simp] theorem enumD_nil {k : Int} : enumD k [] = [] := rfl
@[simp] theorem enumD_cons {k : Int} {x : D} {l : List D} : enumD k (x :: l) = .tup [.int k, x] :: enumD (k + 1) l := rfl
theorem plains_mem : ∀ {l : List D} {x : D}, D.plains l = true → x ∈ l → x.plain = true
  | y :: l, x, h, m => by
    rw [D.plains, Bool.and_eq_true] at h
    rcases List.mem_cons.mp m with e | m
    · rw [e]; exact h.1
    · exact plains_mem h.2 m
/-! ### comprehensions -/
section
variable {α : Type} {l : List α} {e : α → D} {xs : List D} {G : MH → Prop} {g : Tg} {tt : DT} {te : DE} {ρ : DSt} {M : MH} {Q : List D → MH → Prop}
/-- what an item gave -/
theorem back_ {y : D} : backD M y M := .inl rfl
theorem backM_ : backM M M := .inl rfl
theorem yes_of {P : Prop} {y : D} {M3 : MH} {R : D → Prop} {l : Later (fun y M3 => backD M y M3 ∧ R y)} (h : R y) (b : backD M y M3) : stop (fun y M3 => backD M y M3 ∧ R y) l y M3 := ⟨b, h⟩
/-- each item gives one, told by a relation -/
theorem comp_rel {β : Type} (hx : xs = l.map e) (enc : β → D) (P : Nat → α → β → Prop) (gl : G M)
    (turn : ∀ (i : Nat) x, l[i]? = some x → g.store (e x) ρ fun ρ1 => tt ρ1 M noX fun b M2 => br b (te ρ1 M2 noX (stop (fun y M3 => backD M y M3 ∧ (∃ a b, l[i]? = some a ∧ some y = some (enc b) ∧ P i a b)) ⟨⟩)) (stop (backM M M2 ∧ (∃ a b, l[i]? = some a ∧ (none : Option D) = some (enc b) ∧ P i a b)) ⟨⟩))
    (last : ∀ bs : List β, bs.length = l.length → (∀ (i : Nat) x b, l[i]? = some x → bs[i]? = some b → P i x b) → Q (bs.map enc) M) : compD G g tt te ρ xs M Q := by
  subst hx
  refine ⟨gl, fun i x y => ∃ a b, l[i]? = some a ∧ y = some (enc b) ∧ P i a b, fun i x h => ?_, fun ys hl h => ?_⟩
  · rw [List.getElem?_map] at h
    cases el : l[i]? with
    | none => rw [el] at h; cases h
    | some a =>
      rw [el] at h; cases h
      exact turn i a el
  · have : ∃ bs : List β, bs.length = l.length ∧ ys = bs.map (fun b => some (enc b)) ∧ ∀ (i : Nat) x b, l[i]? = some x → bs[i]? = some b → P i x b := by
      clear turn last
      have key : ∀ n ≤ ys.length, ∃ bs : List β, bs.length = n ∧ ys.take n = bs.map (fun b => some (enc b)) ∧ ∀ (i : Nat) x b, l[i]? = some x → bs[i]? = some b → P i x b := by
        intro n
        induction n with
        | zero => intro _; exact ⟨[], rfl, rfl, fun i x b _ h => by simp at h⟩
        | succ n ih =>
          intro hn
          obtain ⟨bs, h1, h2, h3⟩ := ih (by omega)
          have hy : ys[n]? = some ys[n] := List.getElem?_eq_getElem (by omega)
          have hln : n < l.length := by simp at hl; omega
          obtain ⟨a, b, ea, eb, hp⟩ := h n (e l[n]) ys[n] (by simp [hln]) hy
          refine ⟨bs ++ [b], by simp [h1], by rw [List.take_add_one, hy, h2, eb]; simp, fun i x b' hx hb => ?_⟩
          by_cases hi : i < n
          · rw [List.getElem?_append_left (by omega)] at hb; exact h3 i x b' hx hb
          · have : i = n := by
              have := (List.getElem?_eq_some_iff.mp hb).1
              simp at this; omega
            subst this
            rw [List.getElem?_append_right (by omega), h1] at hb
            simp at hb; subst hb
            rw [ea] at hx; cases hx
            exact hp
      obtain ⟨bs, h1, h2, h3⟩ := key ys.length (Nat.le_refl _)
      rw [List.take_length] at h2
      exact ⟨bs, by rw [h1, hl]; simp, h2, h3⟩
    obtain ⟨bs, h1, h2, h3⟩ := this
    subst h2
    have e1 : (bs.map fun b => some (enc b)).filterMap id = bs.map enc := by rw [List.filterMap_map]; simp [Function.comp_def, List.filterMap_eq_map']
    rw [e1]
    exact last bs h1 h3
/-- each item gives one, or none, by a function -/
theorem comp_fn (hx : xs = l.map e) (f : α → Option D) (gl : G M)
    (turn : ∀ (i : Nat) x, l[i]? = some x → g.store (e x) ρ fun ρ1 => tt ρ1 M noX fun b M2 => br b (te ρ1 M2 noX (stop (fun y M3 => backD M y M3 ∧ (∃ a, l[i]? = some a ∧ f a = some y)) ⟨⟩)) (stop (backM M M2 ∧ (∃ a, l[i]? = some a ∧ f a = none)) ⟨⟩))
    (last : Q (l.filterMap f) M) : compD G g tt te ρ xs M Q := by
  subst hx
  refine ⟨gl, fun i x y => ∃ a, l[i]? = some a ∧ f a = y, fun i x h => ?_, fun ys hl h => ?_⟩
  · rw [List.getElem?_map] at h
    cases el : l[i]? with
    | none => rw [el] at h; cases h
    | some a =>
      rw [el] at h; cases h
      exact turn i a el
  · have : ys = l.map f := by
      apply List.ext_getElem?
      intro i
      by_cases hi : i < l.length
      · have hy : i < ys.length := by rw [hl]; simpa using hi
        obtain ⟨a, ea, ef⟩ := h i (e l[i]) ys[i] (by simp [hi]) (List.getElem?_eq_getElem hy)
        rw [List.getElem?_eq_getElem hi] at ea; cases ea
        rw [List.getElem?_map, List.getElem?_eq_getElem hi, List.getElem?_eq_getElem hy, ← ef]; rfl
      · rw [List.getElem?_eq_none (by rw [hl]; simp; omega), List.getElem?_eq_none (by simp; omega)]
    subst this
    rw [List.filterMap_map]
    simpa [Function.comp_def] using last
end
end DM

/-! DM: equality of data, sizes for repr. Plain Lean. -/
namespace DM
open PySem L2
mutual
/-- no bool in it, nothing by address: == is sameness -/
def D.sharp : D → Bool
  | .non => true
  | .int _ => true
  | .str _ => true
  | .tup l => D.sharps l
  | .lis l => D.sharps l
  | _ => false
def D.sharps : List D → Bool
  | [] => true
  | x :: r => x.sharp && D.sharps r
end
mutual
theorem sharp_plain : ∀ x : D, x.sharp = true → x.plain = true
  | .non, _ => rfl
  | .int _, _ => rfl
  | .str _, _ => rfl
  | .tup l, h => sharps_plain l h
  | .lis l, h => sharps_plain l h
theorem sharps_plain : ∀ l : List D, D.sharps l = true → D.plains l = true
  | [], _ => rfl
  | x :: r, h => by
    rw [D.sharps, Bool.and_eq_true] at h
    rw [D.plains, sharp_plain x h.1, sharps_plain r h.2]; rfl
end
mutual
theorem eqv_sharp : ∀ x y : D, x.sharp = true → y.sharp = true → (PyData.eqv x.py y.py = true ↔ x = y)
  | .non, y, _, h => by cases y <;> simp [D.sharp] at h <;> simp [D.py, PyData.eqv]
  | .int i, y, _, h => by cases y <;> simp [D.sharp] at h <;> simp [D.py, PyData.eqv]
  | .str s, y, _, h => by cases y <;> simp [D.sharp] at h <;> simp [D.py, PyData.eqv]
  | .tup l, y, h, h' => by
    cases y with
    | tup m => simp [D.py, PyData.eqv, eqvs_sharp l m h h']
    | _ => simp [D.sharp] at h' <;> simp [D.py, PyData.eqv]
  | .lis l, y, h, h' => by
    cases y with
    | lis m => simp [D.py, PyData.eqv, eqvs_sharp l m h h']
    | _ => simp [D.sharp] at h' <;> simp [D.py, PyData.eqv]
theorem eqvs_sharp : ∀ l m : List D, D.sharps l = true → D.sharps m = true → (PyData.eqvAll (D.pys l) (D.pys m) = true ↔ l = m)
  | [], [], _, _ => by simp [D.pys, PyData.eqvAll]
  | [], _ :: _, _, _ => by simp [D.pys, PyData.eqvAll]
  | _ :: _, [], _, _ => by simp [D.pys, PyData.eqvAll]
  | x :: r, y :: m, h, h' => by
    rw [D.sharps, Bool.and_eq_true] at h h'
    simp [D.pys, PyData.eqvAll, eqv_sharp x y h.1 h'.1, eqvs_sharp r m h.2 h'.2]
end
/-- x == y -/
theorem rEq_sharp {x y : D} {M : MH} {Q : DQ} (hx : x.sharp = true) (hy : y.sharp = true) (k : x.py.depth ≤ 60) (q : ∀ b : Bool, (b = true ↔ x = y) → Q (.bl b) M) : rEq x y M Q :=
  rEq_of (sharp_plain x hx) (sharp_plain y hy) k (q _ (eqv_sharp x y hx hy))
theorem rNe_sharp {x y : D} {M : MH} {Q : DQ} (hx : x.sharp = true) (hy : y.sharp = true) (k : x.py.depth ≤ 60) (q : ∀ b : Bool, (b = true ↔ x ≠ y) → Q (.bl b) M) : rNe x y M Q :=
  rNe_of (sharp_plain x hx) (sharp_plain y hy) k (q _ (by have := eqv_sharp x y hx hy; cases h : PyData.eqv x.py y.py <;> simp_all))
theorem rNe_same {x y : D} {M : MH} {Q : DQ} (e : x = y) (hx : x.plain = true) (hk : x.py.depth ≤ 60) (q : Q (.bl false) M) : rNe x y M Q := by
  subst e
  refine rNe_of hx hx hk ?_
  rw [SeqAt.eqv_refl_plain _ (plain_py x hx)]
  exact q
theorem rEq_same {x y : D} {M : MH} {Q : DQ} (e : x = y) (hx : x.plain = true) (hk : x.py.depth ≤ 60) (q : Q (.bl true) M) : rEq x y M Q := by
  subst e
  refine rEq_of hx hx hk ?_
  rw [SeqAt.eqv_refl_plain _ (plain_py x hx)]
  exact q
/-- x == [], x == () -/
theorem eq_lnil {l : List D} {M : MH} {Q : DQ} (hx : D.plains l = true) (k : PyData.depthAll (D.pys l) ≤ 50) (q : Q (.bl l.isEmpty) M) : rEq (.lis l) (.lis []) M Q := by
  refine rEq_of hx rfl (by rw [D.py, PyData.depth]; omega) ?_
  cases l <;> simpa [D.py, D.pys, PyData.eqv, PyData.eqvAll] using q
theorem ne_tnil {l : List D} {M : MH} {Q : DQ} (hx : D.plains l = true) (k : PyData.depthAll (D.pys l) ≤ 50) (q : Q (.bl (!l.isEmpty)) M) : rNe (.tup l) (.tup []) M Q := by
  refine rNe_of hx rfl (by rw [D.py, PyData.depth]; omega) ?_
  cases l <;> simpa [D.py, D.pys, PyData.eqv, PyData.eqvAll] using q
theorem eq_tnil {l : List D} {M : MH} {Q : DQ} (hx : D.plains l = true) (k : PyData.depthAll (D.pys l) ≤ 50) (q : Q (.bl l.isEmpty) M) : rEq (.tup l) (.tup []) M Q := by
  refine rEq_of hx rfl (by rw [D.py, PyData.depth]; omega) ?_
  cases l <;> simpa [D.py, D.pys, PyData.eqv, PyData.eqvAll] using q
theorem item_all {l : List D} {i : Int} {M : MH} {Q : DQ} (h0 : 0 ≤ i) (h1 : i < l.length) (q : ∀ x ∈ l, Q x M) : itemQ l i M Q := by
  have e : i = ((i.toNat : Nat) : Int) := (Int.toNat_of_nonneg h0).symm
  have h : i.toNat < l.length := by omega
  rw [e, itemQ_nat (List.getElem?_eq_getElem h)]
  exact q _ (List.getElem_mem h)
theorem item_nth {l : List D} {i : Int} {M : MH} {Q : DQ} (h0 : 0 ≤ i) (h1 : i < l.length) (q : ∀ x, l[i.toNat]? = some x → Q x M) : itemQ l i M Q := by
  have e : i = ((i.toNat : Nat) : Int) := (Int.toNat_of_nonneg h0).symm
  have h : i.toNat < l.length := by omega
  rw [e, itemQ_nat (List.getElem?_eq_getElem h)]
  exact q _ (List.getElem?_eq_getElem h)
/-- ahead of the first turn -/
theorem nx_go {T : Type} {n : Nat} {P : T → Prop} {f : T → DSt} {m : T → MH} {ρ : DSt} {M : MH} (t : T) (h1 : lessS (f t) ρ) (h4 : P t) (h2 : lessH (m t) M) (h3 : cutOk n (f t) (m t) M) : nxP n P f m ρ M := ⟨t, h1, h2, h3, h4⟩
/-- the def's own cells are let go at its end -/
theorem WkD.cut {P : D → MH → Prop} {d : D} {M l : MH} (hb : belM M.length M = true) (hd : d.bel M.length = true) (h : P d M) : WkD M.length P d (M ++ l) := ⟨M, ⟨lessP_of (by simp), .inr ⟨Nat.le_refl _, by simp, hb⟩⟩, .inr hd, h⟩
theorem WkL.cut {P : List D → MH → Prop} {d : List D} {M l : MH} (hb : belM M.length M = true) (hd : D.bels M.length d = true) (h : P d M) : WkL M.length P d (M ++ l) := ⟨M, ⟨lessP_of (by simp), .inr ⟨Nat.le_refl _, by simp, hb⟩⟩, .inr hd, h⟩
/-! ### sizes -/
theorem rok_int {i : Int} (h : i.natAbs < 2 ^ 250) : D.rok (.int i) = true := by
  show decide (i.natAbs.log2 < 1920) = true
  refine decide_eq_true ?_
  by_cases z : i.natAbs = 0
  · rw [z]; decide
  · exact Nat.lt_of_lt_of_le ((Nat.log2_lt z).mpr h) (by decide)
theorem roks_map {α : Type} {f : α → D} : ∀ {l : List α}, (∀ x ∈ l, (f x).rok = true) → D.roks (l.map f) = true
  | [], _ => rfl
  | x :: r, h => by rw [List.map_cons, D.roks, h x (by simp), roks_map fun y hy => h y (by simp [hy])]; rfl
theorem wts_map {α : Type} {f : α → D} {c : Nat} : ∀ {l : List α}, (∀ x ∈ l, (f x).wt ≤ c) → D.wts (l.map f) ≤ c * l.length
  | [], _ => Nat.zero_le _
  | x :: r, h => by
    have h1 := h x (by simp)
    have h2 := wts_map (l := r) fun y hy => h y (by simp [hy])
    rw [List.map_cons, D.wts, List.length_cons, Nat.mul_add]
    omega
theorem dep_map {α : Type} {f : α → D} {c : Nat} : ∀ {l : List α}, (∀ x ∈ l, (f x).py.depth ≤ c) → PyData.depthAll (D.pys (l.map f)) ≤ c
  | [], _ => Nat.zero_le _
  | x :: r, h => by
    have h1 := h x (by simp)
    have h2 := dep_map (l := r) fun y hy => h y (by simp [hy])
    rw [List.map_cons, D.pys, PyData.depthAll]
    omega
theorem dep_tup {l : List D} {c : Nat} (h : PyData.depthAll (D.pys l) ≤ c) : (D.py (.tup l)).depth ≤ c + 1 := by
  rw [D.py, PyData.depth]; omega
theorem sharps_map {α : Type} {f : α → D} : ∀ {l : List α}, (∀ x ∈ l, (f x).sharp = true) → D.sharps (l.map f) = true
  | [], _ => rfl
  | x :: r, h => by rw [List.map_cons, D.sharps, h x (by simp), sharps_map fun y hy => h y (by simp [hy])]; rfl
theorem plains_map {α : Type} {f : α → D} : ∀ {l : List α}, (∀ x ∈ l, (f x).plain = true) → D.plains (l.map f) = true
  | [], _ => rfl
  | x :: r, h => by rw [List.map_cons, D.plains, h x (by simp), plains_map fun y hy => h y (by simp [hy])]; rfl
theorem bels_map {α : Type} {n : Nat} {f : α → D} : ∀ {l : List α}, (∀ x ∈ l, (f x).bel n = true) → D.bels n (l.map f) = true
  | [], _ => rfl
  | x :: r, h => by rw [List.map_cons, D.bels, h x (by simp), bels_map fun y hy => h y (by simp [hy])]; rfl
theorem zipD_map2 {α : Type} {f g : α → D} : ∀ l : List α, zipD (l.map f) (l.map g) = l.map fun x => .tup [f x, g x]
  | [] => rfl
  | x :: r => by
    have := zipD_map2 (f := f) (g := g) r
    simp [zipD] at this ⊢
    exact this
mutual
theorem rok_bel : ∀ (x : D) (n : Nat), x.rok = true → x.bel n = true
  | .non, _, _ => rfl
  | .bl _, _, _ => rfl
  | .int _, _, _ => rfl
  | .str _, _, _ => rfl
  | .tup l, n, h => roks_bel l n h
  | .lis l, n, h => roks_bel l n h
theorem roks_bel : ∀ (l : List D) (n : Nat), D.roks l = true → D.bels n l = true
  | [], _, _ => rfl
  | x :: r, n, h => by
    rw [D.roks, Bool.and_eq_true] at h
    rw [D.bels, rok_bel x n h.1, roks_bel r n h.2]; rfl
end
theorem wt_pos : ∀ x : D, 1 ≤ x.wt
  | .non => Nat.le_refl _
  | .bl _ => Nat.le_refl _
  | .int _ => Nat.le_refl _
  | .str _ => by rw [D.wt]; omega
  | .tup _ => by rw [D.wt]; omega
  | .lis _ => by rw [D.wt]; omega
  | .dct _ _ => by simp [D.wt]
  | .ref _ => by simp [D.wt]
theorem wts_len : ∀ l : List D, l.length ≤ D.wts l
  | [] => Nat.zero_le _
  | x :: r => by
    have := wt_pos x
    have := wts_len r
    rw [D.wts, List.length_cons]; omega
theorem cut_to {l : List D} {n : Nat} : cutD l none (some n) = l.take n := by simp [cutD]
theorem cut_from {l : List D} {n : Nat} : cutD l (some n) none = l.drop n := by simp [cutD]
/-! ### parts of what may be shown -/
theorem roks_app : ∀ {l m : List D}, D.roks (l ++ m) = (D.roks l && D.roks m)
  | [], m => by simp [D.roks]
  | x :: l, m => by rw [List.cons_append, D.roks, D.roks, roks_app, Bool.and_assoc]
theorem wts_app : ∀ {l m : List D}, D.wts (l ++ m) = D.wts l + D.wts m
  | [], m => by simp [D.wts]
  | x :: l, m => by rw [List.cons_append, D.wts, D.wts, wts_app]; omega
theorem dep_app : ∀ {l m : List D}, PyData.depthAll (D.pys (l ++ m)) = max (PyData.depthAll (D.pys l)) (PyData.depthAll (D.pys m))
  | [], m => by simp [D.pys, PyData.depthAll]
  | x :: l, m => by simp only [List.cons_append, D.pys, PyData.depthAll]; rw [dep_app]; omega
theorem split_at {l : List D} {i : Nat} {x : D} (h : l[i]? = some x) : l = l.take i ++ [x] ++ l.drop (i + 1) := by
  obtain ⟨h1, h2⟩ := List.getElem?_eq_some_iff.mp h
  rw [← h2]; simp
theorem rok_plain {x : D} (h : x.rok = true) : x.plain = true := (rok_all x h).1
end DM

/-! DM, the bridge: what the data and the cells are in the abstract heap of the layer below; liftings of readings. -/
namespace DM
open PySem PySem.Spec L2

/-! ### representation -/
/-- the cells with their addresses -/
structure MB where
  i : List Addr
  m : MH
  /-- the dicts that are walked -/
  lk : List Addr := []
/-- a list of the written part, as the boot leaves it -/
def SqK (K : PySem.W.Frag) (a : Addr) (xs : List V) : Prop := ∃ (its : Array Value) (n : Nat), K.lookup a = some { cls := .type "list", data := .seq its n } ∧ its.size ≤ sizeLine ∧ Vals xs its.toList
/-- a list that nobody writes to: locked, or written at the top -/
def SqF (K : PySem.W.Frag) (H : Hp) (a : Addr) (xs : List V) : Prop := (∃ o, H a = some (.frz o (.lst xs))) ∨ SqK K a xs
/-- a list that is read -/
def SqE (K : PySem.W.Frag) (H : Hp) (a : Addr) (xs : List V) : Prop := Rd H a (.lst xs) ∨ SqK K a xs
theorem SqF.e {K : PySem.W.Frag} {H : Hp} {a : Addr} {xs : List V} (h : SqF K H a xs) : SqE K H a xs := by
  rcases h with ⟨o, h⟩ | h
  · exact .inl (.inr ⟨o, h⟩)
  · exact .inr h
theorem SqE.l {K : PySem.W.Frag} {H : Hp} {a : Addr} {xs : List V} (h : SqE K H a xs) : SqL K H a xs := by
  rcases h with h | ⟨its, n, h1, h2, h3⟩
  · exact .inl h
  · exact .inr ⟨_, its, n, h1, rfl, rfl, rfl, h2, h3⟩
theorem SqE.at {X : Cx} {pins : List (Addr × Obj)} {σ : L2.St} {H : Hp} {s : Shared} {a : Addr} {xs : List V} (I : Inv X pins σ H s) (h : SqE X.K H a xs) : ∃ (its : List Value) (n : Nat), Vals xs its ∧ xs.length ≤ sizeLine ∧ s.heap.get? a = some { cls := .type "list", data := .seq its.toArray n } := by
  rcases h with h | ⟨its, n, h1, h2, h3⟩
  · obtain ⟨z, its, n, r, e⟩ := h.ok I.hok
    exact ⟨its, n, r, z, e⟩
  · have e := h3.length
    refine ⟨its.toList, n, h3, ?_, by simpa using I.kIn a _ h1⟩
    simp only [Array.length_toList] at e
    omega
section
variable (K : PySem.W.Frag) (M : MB) (H : Hp)
mutual
def Rep : D → V → Prop
  | .non, v => v = .non
  | .bl b, v => v = .bl b
  | .int i, v => v = .int i
  | .str s, v => v = .str s
  | .ref k, v => ∃ a, M.i[k]? = some a ∧ v = .ref a
  | .tup l, v => ∃ p vs, v = .ref p ∧ SqT K H p vs ∧ Reps l vs
  | .lis l, v => ∃ p vs, v = .ref p ∧ SqF K H p vs ∧ Reps l vs
  | .dct ks ds, v => ∃ p vs o, v = .ref p ∧ (H p = some (.frz o (.dK (ks.zip vs))) ∧ p ∉ M.lk) ∧ ks.length = ds.length ∧ Reps ds vs
def Reps : List D → List V → Prop
  | [], vs => vs = []
  | d :: l, vs => ∃ v r, vs = v :: r ∧ Rep d v ∧ Reps l r
end
end
/-- what values need of a later moment -/
structure KeepR (K : PySem.W.Frag) (M : MB) (H : Hp) (M' : MB) (H' : Hp) : Prop where
  t : ∀ a xs, SqT K H a xs → SqT K H' a xs
  f : ∀ a xs, SqF K H a xs → SqF K H' a xs
  z : ∀ a o u, H a = some (.frz o u) → a ∉ M.lk → H' a = some (.frz o u) ∧ a ∉ M'.lk
  r : ∀ (k : Nat) a, M.i[k]? = some a → M'.i[k]? = some a
/-- .. and what is walked stays so -/
structure KeepT (K : PySem.W.Frag) (M : MB) (H : Hp) (M' : MB) (H' : Hp) : Prop where
  t : ∀ a xs, SqT K H a xs → SqT K H' a xs
  f : ∀ a xs, SqF K H a xs → SqF K H' a xs
  z : ∀ a o u, H a = some (.frz o u) → a ∉ M.lk → H' a = some (.frz o u) ∧ a ∉ M'.lk
  r : ∀ (k : Nat) a, M.i[k]? = some a → M'.i[k]? = some a
  w : ∀ a o u, a ∈ M.lk → H a = some (.frz o u) → H' a = some (.frz o u) ∧ a ∈ M'.lk
theorem KeepT.R {K : PySem.W.Frag} {M M' : MB} {H H' : Hp} (k : KeepT K M H M' H') : KeepR K M H M' H' := ⟨k.t, k.f, k.z, k.r⟩
section
variable {K : PySem.W.Frag} {M M' : MB} {H H' : Hp}
theorem Reps.len : ∀ {l : List D} {vs : List V}, Reps K M H l vs → l.length = vs.length
  | [], _, h => by cases h; rfl
  | _ :: l, _, ⟨v, r, e, _, h⟩ => by subst e; simp [Reps.len h]
theorem Reps.get : ∀ {l : List D} {vs : List V} {j : Nat} {d : D}, Reps K M H l vs → l[j]? = some d → ∃ v, vs[j]? = some v ∧ Rep K M H d v
  | [], _, _, _, _, e => by simp at e
  | x :: l, _, 0, d, ⟨v, r, e, h1, _⟩, q => by subst e; simp at q; subst q; exact ⟨v, rfl, h1⟩
  | x :: l, _, j + 1, d, ⟨v, r, e, _, h2⟩, q => by
    subst e
    obtain ⟨u, h3, h4⟩ := Reps.get (j := j) h2 (by simpa using q)
    exact ⟨u, by simpa using h3, h4⟩
theorem Reps.getV : ∀ {l : List D} {vs : List V} {j : Nat} {v : V}, Reps K M H l vs → vs[j]? = some v → ∃ d, l[j]? = some d ∧ Rep K M H d v
  | [], _, _, _, h, e => by cases h; simp at e
  | x :: l, _, 0, w, ⟨v, r, e, h1, _⟩, q => by subst e; simp at q; subst q; exact ⟨x, rfl, h1⟩
  | x :: l, _, j + 1, w, ⟨v, r, e, _, h2⟩, q => by
    subst e
    obtain ⟨u, h3, h4⟩ := Reps.getV (j := j) h2 (by simpa using q)
    exact ⟨u, by simpa using h3, h4⟩
theorem Reps.app : ∀ {l m : List D} {vs ws : List V}, Reps K M H l vs → Reps K M H m ws → Reps K M H (l ++ m) (vs ++ ws)
  | [], _, _, _, h, g => by cases h; exact g
  | _ :: l, _, _, _, ⟨v, r, e, h1, h2⟩, g => by subst e; exact ⟨v, _, rfl, h1, Reps.app h2 g⟩
theorem Reps.take : ∀ {l : List D} {vs : List V} (n : Nat), Reps K M H l vs → Reps K M H (l.take n) (vs.take n)
  | [], _, n, h => by cases h; simp [Reps]
  | _ :: l, _, 0, _ => by simp [Reps]
  | _ :: l, _, n + 1, ⟨v, r, e, h1, h2⟩ => by subst e; exact ⟨v, _, rfl, h1, Reps.take n h2⟩
theorem Reps.drop : ∀ {l : List D} {vs : List V} (n : Nat), Reps K M H l vs → Reps K M H (l.drop n) (vs.drop n)
  | [], _, n, h => by cases h; simp [Reps]
  | _ :: l, _, 0, h => h
  | _ :: l, _, n + 1, ⟨v, r, e, h1, h2⟩ => by subst e; exact Reps.drop n h2
theorem Reps.set {d : D} {v : V} (q : Rep K M H d v) : ∀ {l : List D} {vs : List V} (j : Nat), Reps K M H l vs → Reps K M H (l.set j d) (vs.set j v)
  | [], _, _, h => by cases h; simp [Reps]
  | _ :: l, _, 0, ⟨w, r, e, h1, h2⟩ => by subst e; exact ⟨v, _, rfl, q, h2⟩
  | _ :: l, _, j + 1, ⟨w, r, e, h1, h2⟩ => by subst e; exact ⟨w, _, rfl, h1, Reps.set q j h2⟩
theorem Reps.one {d : D} {v : V} (q : Rep K M H d v) : Reps K M H [d] [v] := ⟨v, [], rfl, q, rfl⟩
theorem Reps.cons {d : D} {v : V} {l : List D} {vs : List V} (q : Rep K M H d v) (h : Reps K M H l vs) : Reps K M H (d :: l) (v :: vs) := ⟨v, vs, rfl, q, h⟩
theorem Reps.nil : Reps K M H [] [] := rfl
theorem Reps.rev : ∀ {l : List D} {vs : List V}, Reps K M H l vs → Reps K M H l.reverse vs.reverse
  | [], _, h => by cases h; exact Reps.nil
  | _ :: l, _, ⟨v, r, e, h1, h2⟩ => by subst e; rw [List.reverse_cons, List.reverse_cons]; exact Reps.app (Reps.rev h2) (Reps.one h1)
mutual
theorem Rep.monoR (k : KeepR K M H M' H') : ∀ {d : D} {v : V}, Rep K M H d v → Rep K M' H' d v
  | .non, _, h => h
  | .bl _, _, h => h
  | .int _, _, h => h
  | .str _, _, h => h
  | .ref _, _, ⟨a, h, e⟩ => ⟨a, k.r _ _ h, e⟩
  | .tup l, _, ⟨p, vs, e, h1, h2⟩ => ⟨p, vs, e, k.t _ _ h1, Reps.monoR k h2⟩
  | .lis l, _, ⟨p, vs, e, h1, h2⟩ => ⟨p, vs, e, k.f _ _ h1, Reps.monoR k h2⟩
  | .dct ks l, _, ⟨p, vs, o, e, h1, hl, h2⟩ => ⟨p, vs, o, e, k.z _ _ _ h1.1 h1.2, hl, Reps.monoR k h2⟩
theorem Reps.monoR (k : KeepR K M H M' H') : ∀ {l : List D} {vs : List V}, Reps K M H l vs → Reps K M' H' l vs
  | [], _, h => h
  | _ :: l, _, ⟨v, r, e, h1, h2⟩ => ⟨v, r, e, Rep.monoR k h1, Reps.monoR k h2⟩
end
theorem Rep.mono (k : KeepT K M H M' H') {d : D} {v : V} (h : Rep K M H d v) : Rep K M' H' d v := h.monoR k.R
theorem Reps.mono (k : KeepT K M H M' H') {l : List D} {vs : List V} (h : Reps K M H l vs) : Reps K M' H' l vs := h.monoR k.R
end

def RepKV {κ : Type} (K : PySem.W.Frag) (M : MB) (H : Hp) : List (κ × D) → List (κ × V) → Prop
  | [], ks => ks = []
  | (k, d) :: l, ks => ∃ v r, ks = (k, v) :: r ∧ Rep K M H d v ∧ RepKV K M H l r
def RepF (K : PySem.W.Frag) (M : MB) (H : Hp) : Fs → List (Str × V) → Prop
  | [], ks => ks = []
  | (k, d) :: l, ks => ∃ v r, ks = (k, v) :: r ∧ Rep K M H d v ∧ RepF K M H l r
def RepO (K : PySem.W.Frag) (mg : Str → Option Value) (M : MB) (H : Hp) (a : Addr) : MO → Prop
  | .lst l => ∃ vs, H a = some (.lst vs) ∧ Reps K M H l vs
  | .dic l => ∃ ks, H a = some (.dK ks) ∧ RepKV K M H l ks
  | .ins c fs => ∃ C dx gs, mg c = some (.ref C) ∧ H a = some (.ins C dx gs) ∧ RepF K M H fs gs
  | .pen => ∃ l vs, PenD l ∧ H a = some (.lst vs) ∧ Reps K M H l vs
  | .dit l => ∃ ks, H a = some (.dT ks) ∧ RepKV K M H l ks
  | .dfz l => ∃ ks o, (H a = some (.frz o (.dK ks)) ∧ a ∈ M.lk) ∧ RepKV K M H l ks
  | .ptp l => ∃ vs o, (H a = some (.frz o (.tup vs)) ∧ o.dict = none) ∧ Reps K M H l vs
  | .exv c k => ∃ C d, mg c = some (.ref C) ∧ H a = some (exo a C d) ∧ (match k with | none => d = none | some j => ∃ dd, d = some dd ∧ M.i[j]? = some dd)
  | .xdc fs => ∃ gs, H a = some (exd a gs) ∧ RepF K M H fs gs
  | .tab _ ks => ∃ ps : Array Value, H a = some (.tbl ps) ∧ TriplesOk ps.toList ∧ (∀ k ∈ ks, ∃ c, M.i[k]? = some c) ∧ ∀ (pos : Pos) (cv : Value), codeAmong pos ps.toList = some cv → ∃ c k, cv = .ref c ∧ k ∈ ks ∧ M.i[k]? = some c
  | .cod q => H a = some (LamX.CodeO a q)
structure MR (K : PySem.W.Frag) (mg : Str → Option Value) (M : MB) (H : Hp) : Prop where
  len : M.m.length = M.i.length
  nd : M.i.Nodup
  tr : ∀ a ∈ M.i, H a ≠ none
  at_ : ∀ (k : Nat) a o, M.i[k]? = some a → M.m[k]? = some (some o) → RepO K mg M H a o
  lz : ∀ a ∈ M.lk, ∃ o u, H a = some (.frz o u)
def Slots (K : PySem.W.Frag) (M : MB) (H : Hp) (ρ : DSt) (σ : St) : Prop := ρ.length = σ.length ∧ ∀ (i : Nat) d, ρ[i]? = some (some d) → ∃ v, σ[i]? = some (some v) ∧ Rep K M H d v
/-- from a moment to a later one -/
structure Ev (M : MB) (H : Hp) (M' : MB) (H' : Hp) : Prop where
  tup : ∀ a xs, H a = some (.tup xs) → H' a = some (.tup xs)
  frz : ∀ a o u, H a = some (.frz o u) → H' a = some (.frz o u)
  frame : ∀ a o, H a = some o → a ∉ M.i → H' a = some o
  pre : ∀ (k : Nat) a, M.i[k]? = some a → M'.i[k]? = some a
  dom : ∀ a, a ∈ M'.i → a ∉ M.i → H a = none
  l : M'.lk = M.lk
def MB.add (M : MB) (a : Addr) (o : MO) : MB := ⟨M.i ++ [a], M.m ++ [some o], M.lk⟩
def MB.put (M : MB) (k : Nat) (o : Option MO) : MB := ⟨M.i, M.m.set k o, M.lk⟩
section
variable {K : PySem.W.Frag} {mg : Str → Option Value} {M M1 M2 M' : MB} {H H1 H2 H' : Hp} {ρ : DSt} {σ : St}
theorem RepKV.monoR {κ : Type} (k : KeepR K M H M' H') : ∀ {l : List (κ × D)} {ks : List (κ × V)}, RepKV K M H l ks → RepKV K M' H' l ks
  | [], _, h => h
  | (_, _) :: l, _, ⟨v, r, e, h1, h2⟩ => ⟨v, r, e, h1.monoR k, RepKV.monoR k h2⟩
theorem RepF.monoR (k : KeepR K M H M' H') : ∀ {l : Fs} {ks : List (Str × V)}, RepF K M H l ks → RepF K M' H' l ks
  | [], _, h => h
  | (_, _) :: l, _, ⟨v, r, e, h1, h2⟩ => ⟨v, r, e, h1.monoR k, RepF.monoR k h2⟩
theorem RepKV.mono {κ : Type} (k : KeepT K M H M' H') {l : List (κ × D)} {ks : List (κ × V)} (h : RepKV K M H l ks) : RepKV K M' H' l ks := h.monoR k.R
theorem RepF.mono (k : KeepT K M H M' H') {l : Fs} {ks : List (Str × V)} (h : RepF K M H l ks) : RepF K M' H' l ks := h.monoR k.R
theorem Ev.sq (e : Ev M H M' H') : KeepT K M H M' H' := ⟨fun a xs h => by
  rcases h with (h | ⟨o, h⟩) | h
  · exact .inl (.inl (e.tup _ _ h))
  · exact .inl (.inr ⟨o, e.frz _ _ _ h⟩)
  · exact .inr h, fun a xs h => by
  rcases h with ⟨o, g⟩ | g
  · exact .inl ⟨o, e.frz _ _ _ g⟩
  · exact .inr g, fun a o u h n => ⟨e.frz a o u h, by rw [e.l]; exact n⟩, e.pre, fun a o u n h => ⟨e.frz a o u h, by rw [e.l]; exact n⟩⟩
theorem Ev.refl : Ev M H M H := ⟨fun _ _ h => h, fun _ _ _ h => h, fun _ _ h _ => h, fun _ _ h => h, fun _ h g => absurd h g, rfl⟩
theorem mem_pre (e : ∀ (k : Nat) a, M.i[k]? = some a → M'.i[k]? = some a) {a : Addr} (h : a ∈ M.i) : a ∈ M'.i := by
  obtain ⟨k, hk⟩ := List.mem_iff_getElem?.mp h
  exact List.mem_of_getElem? (e k a hk)
theorem Ev.trans (e : Ev M H M1 H1) (f : Ev M1 H1 M2 H2) : Ev M H M2 H2 where
  tup := fun a xs h => f.tup a xs (e.tup a xs h)
  frz := fun a o u h => f.frz a o u (e.frz a o u h)
  frame := fun a o h n => f.frame a o (e.frame a o h n) fun z => by
    have := e.dom a z n
    rw [h] at this; cases this
  pre := fun k a h => f.pre k a (e.pre k a h)
  dom := fun a n n2 => by
    by_cases q : a ∈ M1.i
    · exact e.dom a q n2
    · have := f.dom a n q
      cases r : H a with
      | none => rfl
      | some o => rw [e.frame a o r n2] at this; cases this
  l := f.l.trans e.l
/-- cells are let go -/
def MB.less (M : MB) (M' : MH) : MB := ⟨M.i.take M'.length, M', M.lk⟩
theorem take_pre {M : MB} {n k : Nat} {a : Addr} (h : M.i[k]? = some a) (hk : k < n) : (M.i.take n)[k]? = some a := by rw [List.getElem?_take, if_pos hk]; exact h
theorem Ev.less {m : MH} (e : Ev M H M1 H1) (hn : M.i.length ≤ m.length) : Ev M H (M1.less m) H1 := ⟨e.tup, e.frz, e.frame, fun k a h => take_pre (e.pre k a h) (Nat.lt_of_lt_of_le (List.getElem?_eq_some_iff.mp h).1 hn), fun a h h' => e.dom a (List.mem_of_mem_take h) h', e.l⟩
theorem pre_len (e : ∀ (k : Nat) a, M.i[k]? = some a → M'.i[k]? = some a) : M.i.length ≤ M'.i.length := by
  by_cases h : M.i.length = 0
  · omega
  · have h1 : M.i.length - 1 < M.i.length := by omega
    have := (List.getElem?_eq_some_iff.mp (e _ _ (List.getElem?_eq_getElem h1))).1
    omega
end
/-- how far a value reaches into the cells -/
theorem lt_of_get {α : Type} {l : List α} {k : Nat} {a : α} (h : l[k]? = some a) : k < l.length := (List.getElem?_eq_some_iff.mp h).1
section
variable {K : PySem.W.Frag} {mg : Str → Option Value} {M M1 M2 M' : MB} {H H1 H2 H' : Hp} {ρ : DSt} {σ : St}
theorem Rep.ev {d : D} {v : V} (h : Rep K M H d v) (e : Ev M H M' H') : Rep K M' H' d v := h.mono e.sq
theorem Reps.ev {l : List D} {vs : List V} (h : Reps K M H l vs) (e : Ev M H M' H') : Reps K M' H' l vs := h.mono e.sq
theorem RepF.ev {l : Fs} {vs : List (Str × V)} (h : RepF K M H l vs) (e : Ev M H M' H') : RepF K M' H' l vs := h.mono e.sq
theorem RepKV.ev {κ : Type} {l : List (κ × D)} {vs : List (κ × V)} (h : RepKV K M H l vs) (e : Ev M H M' H') : RepKV K M' H' l vs := h.mono e.sq
theorem Slots.ev (h : Slots K M H ρ σ) (e : Ev M H M' H') : Slots K M' H' ρ σ := ⟨h.1, fun i d q => by
  obtain ⟨v, h1, h2⟩ := h.2 i d q
  exact ⟨v, h1, h2.ev e⟩⟩
theorem Slots.set {i : Nat} {d : D} {v : V} (h : Slots K M H ρ σ) (r : Rep K M H d v) : Slots K M H (ρ.set i (some d)) (σ.set i (some v)) := by
  refine ⟨by simp [h.1], fun j x e => ?_⟩
  by_cases hj : i = j
  · subst hj
    by_cases hl : i < ρ.length
    · rw [List.getElem?_set_self hl] at e
      cases e
      exact ⟨v, by rw [List.getElem?_set_self (by rw [← h.1]; exact hl)], r⟩
    · rw [List.getElem?_eq_none (by simp; omega)] at e
      cases e
  · rw [List.getElem?_set_ne hj] at e
    obtain ⟨w, h1, h2⟩ := h.2 j x e
    exact ⟨w, by rw [List.getElem?_set_ne hj]; exact h1, h2⟩
theorem Slots.less {ρ' : DSt} (h : Slots K M H ρ σ) (l : Less ρ' ρ) : Slots K M H ρ' σ := ⟨l.1.trans h.1, fun i d e => h.2 i d (l.2 i d e)⟩
/-- the tracked addresses -/
theorem MR.mem {p : Addr} (R : MR K mg M H) (n : H p = none) : p ∉ M.i := fun h => R.tr p h n
theorem RepO.keepR {a : Addr} {o : MO} (h : RepO K mg M H a o) (k : KeepR K M H M' H') (ha : ∀ u, H a = some u → H' a = some u) (hl : a ∈ M.lk → a ∈ M'.lk) : RepO K mg M' H' a o := by
  cases o with
  | lst l => obtain ⟨vs, h1, h2⟩ := h; exact ⟨vs, ha _ h1, h2.monoR k⟩
  | dic l => obtain ⟨vs, h1, h2⟩ := h; exact ⟨vs, ha _ h1, h2.monoR k⟩
  | dit l => obtain ⟨vs, h1, h2⟩ := h; exact ⟨vs, ha _ h1, h2.monoR k⟩
  | dfz l => obtain ⟨vs, o, h1, h2⟩ := h; exact ⟨vs, o, ⟨ha _ h1.1, hl h1.2⟩, h2.monoR k⟩
  | ptp l => obtain ⟨vs, o, h1, h2⟩ := h; exact ⟨vs, o, ⟨ha _ h1.1, h1.2⟩, h2.monoR k⟩
  | ins C fs => obtain ⟨C', dx, gs, h0, h1, h2⟩ := h; exact ⟨C', dx, gs, h0, ha _ h1, h2.monoR k⟩
  | pen => obtain ⟨l, vs, h0, h1, h2⟩ := h; exact ⟨l, vs, h0, ha _ h1, h2.monoR k⟩
  | exv c j => obtain ⟨C, d, h0, h1, h2⟩ := h; exact ⟨C, d, h0, ha _ h1, by
      cases j with
      | none => exact h2
      | some j => obtain ⟨dd, e, h3⟩ := h2; exact ⟨dd, e, k.r _ _ h3⟩⟩
  | xdc fs => obtain ⟨gs, h1, h2⟩ := h; exact ⟨gs, ha _ h1, h2.monoR k⟩
  | tab q ks => obtain ⟨ps, h1, h2, h3, h4⟩ := h; exact ⟨ps, ha _ h1, h2, fun j hj => (h3 j hj).imp fun c => k.r _ _, fun pos cv e => by
      obtain ⟨c, j, e1, e2, e3⟩ := h4 pos cv e
      exact ⟨c, j, e1, e2, k.r _ _ e3⟩⟩
  | cod q => exact ha _ h
theorem RepO.keep {a : Addr} {o : MO} (h : RepO K mg M H a o) (k : KeepT K M H M' H') (ha : ∀ u, H a = some u → H' a = some u) : RepO K mg M' H' a o := by
  cases o with
  | lst l => obtain ⟨vs, h1, h2⟩ := h; exact ⟨vs, ha _ h1, h2.mono k⟩
  | dic l => obtain ⟨vs, h1, h2⟩ := h; exact ⟨vs, ha _ h1, h2.mono k⟩
  | dit l => obtain ⟨vs, h1, h2⟩ := h; exact ⟨vs, ha _ h1, h2.mono k⟩
  | dfz l => obtain ⟨vs, o, h1, h2⟩ := h; exact ⟨vs, o, k.w _ _ _ h1.2 h1.1, h2.mono k⟩
  | ptp l => obtain ⟨vs, o, h1, h2⟩ := h; exact ⟨vs, o, ⟨ha _ h1.1, h1.2⟩, h2.mono k⟩
  | ins C fs => obtain ⟨C', dx, gs, h0, h1, h2⟩ := h; exact ⟨C', dx, gs, h0, ha _ h1, h2.mono k⟩
  | pen => obtain ⟨l, vs, h0, h1, h2⟩ := h; exact ⟨l, vs, h0, ha _ h1, h2.mono k⟩
  | exv c j => obtain ⟨C, d, h0, h1, h2⟩ := h; exact ⟨C, d, h0, ha _ h1, by
      cases j with
      | none => exact h2
      | some j => obtain ⟨dd, e, h3⟩ := h2; exact ⟨dd, e, k.r _ _ h3⟩⟩
  | xdc fs => obtain ⟨gs, h1, h2⟩ := h; exact ⟨gs, ha _ h1, h2.mono k⟩
  | tab q ks => obtain ⟨ps, h1, h2, h3, h4⟩ := h; exact ⟨ps, ha _ h1, h2, fun j hj => (h3 j hj).imp fun c => k.r _ _, fun pos cv e => by
      obtain ⟨c, j, e1, e2, e3⟩ := h4 pos cv e
      exact ⟨c, j, e1, e2, k.r _ _ e3⟩⟩
  | cod q => exact ha _ h
/-- the heap grows by one object that is no cell -/
theorem Ev.new {p : Addr} {o : HO} (n : H p = none) : Ev M H M (upd H p o) :=
  ⟨fun a xs h => by rw [upd_ne (ne_of_none h n)]; exact h, fun a o u h => by rw [upd_ne (ne_of_none h n)]; exact h, fun a o h _ => by rw [upd_ne (ne_of_none h n)]; exact h, fun _ _ h => h, fun a h g => absurd h g, rfl⟩
theorem upd_some {p a : Addr} {o : HO} (h : H a ≠ none) : upd H p o a ≠ none := by
  unfold upd
  by_cases e : a = p
  · simp [e]
  · simp [e, h]
theorem MR.new {p : Addr} {o : HO} (h : MR K mg M H) (n : H p = none) : MR K mg M (upd H p o) := ⟨h.len, h.nd, fun a ha => upd_some (h.tr a ha), fun k a u e e' =>
  (h.at_ k a u e e').keep (Ev.new (M := M) (o := o) n).sq fun w q => by rw [upd_ne (ne_of_none q n)]; exact q, fun a ha => by
  obtain ⟨o', u', e⟩ := h.lz a ha
  exact ⟨o', u', by rw [upd_ne (ne_of_none e n)]; exact e⟩⟩
theorem sq_new {p : Addr} {vs : List V} : SqT K (upd H p (.tup vs)) p vs := .inl (.inl upd_same)
/-- a new cell -/
theorem pre_add {p : Addr} {u : MO} (k : Nat) (a : Addr) (h : M.i[k]? = some a) : (M.add p u).i[k]? = some a := by
  show (M.i ++ [p])[k]? = some a
  rw [List.getElem?_append_left (lt_of_get h)]; exact h
theorem Ev.made {p : Addr} {o : HO} {u : MO} (n : H p = none) : Ev M H (M.add p u) (upd H p o) :=
  ⟨(Ev.new (M := M) (o := o) n).tup, (Ev.new (M := M) (o := o) n).frz, (Ev.new (M := M) (o := o) n).frame, pre_add, fun a h g => by
    have : a ∈ M.i ++ [p] := h
    rcases List.mem_append.mp this with h | h
    · exact absurd h g
    · rw [List.mem_singleton.mp h]; exact n, rfl⟩
/-- .. of what was tracked already -/
theorem Ev.join {p : Addr} {u : MO} (e : Ev M H M1 H1) (n : H p = none) (np : p ∉ M.i) : Ev M H (M1.add p u) H1 :=
  ⟨e.tup, e.frz, e.frame, fun k a h => pre_add k a (e.pre k a h), fun a h g => by
    have : a ∈ M1.i ++ [p] := h
    rcases List.mem_append.mp this with h | h
    · exact e.dom a h g
    · rw [List.mem_singleton.mp h]; exact n, e.l⟩
theorem get_last {α : Type} (l : List α) (x : α) : (l ++ [x])[l.length]? = some x := by simp
theorem MR.join {p : Addr} {u : MO} (h : MR K mg M H) (n : H p ≠ none) (np : p ∉ M.i) (r : RepO K mg (M.add p u) H p u) : MR K mg (M.add p u) H := by
  refine ⟨by simp [MB.add, h.len], List.nodup_append.mpr ⟨h.nd, by simp, fun a ha b hb => by rw [List.mem_singleton.mp hb]; exact fun z => np (z ▸ ha)⟩, fun a ha => ?_, fun k a o e e' => ?_, h.lz⟩
  · have : a ∈ M.i ++ [p] := ha
    rcases List.mem_append.mp this with h' | h'
    · exact h.tr a h'
    · rw [List.mem_singleton.mp h']; exact n
  · have e : (M.i ++ [p])[k]? = some a := e
    have e' : (M.m ++ [some u])[k]? = some (some o) := e'
    by_cases hk : k < M.i.length
    · rw [List.getElem?_append_left hk] at e
      rw [List.getElem?_append_left (by rw [h.len]; exact hk)] at e'
      exact (h.at_ k a o e e').keep ⟨fun _ _ q => q, fun _ _ q => q, fun _ _ _ q n => ⟨q, n⟩, pre_add, fun _ _ _ n q => ⟨q, n⟩⟩ fun _ q => q
    · have hk' : k = M.i.length := by
        have := lt_of_get e; rw [List.length_append] at this; simp at this; omega
      subst hk'
      rw [get_last] at e; cases e
      rw [← h.len, get_last] at e'; cases e'
      exact r
theorem MR.made {p : Addr} {o : HO} {u : MO} (h : MR K mg M H) (n : H p = none) (r : RepO K mg (M.add p u) (upd H p o) p u) : MR K mg (M.add p u) (upd H p o) :=
  (h.new (o := o) n).join (by rw [upd_same]; simp) (h.mem n) r
theorem rep_last {p : Addr} {u : MO} (h : MR K mg M H) : Rep K (M.add p u) H' (.ref M.m.length) (.ref p) := ⟨p, by show (M.i ++ [p])[M.m.length]? = some p; rw [h.len, get_last], rfl⟩
/-- a cell is written -/
theorem Ev.put {a : Addr} {o : HO} {u : HO} {k : Nat} {v : Option MO} (q : M.i[k]? = some a) (e : H a = some o) (mu : Mut (some o)) : Ev M H (M.put k v) (upd H a u) where
  tup := fun b xs h => by
    have : b ≠ a := fun z => by subst z; rw [e] at h; cases h; exact mu
    rw [upd_ne this]; exact h
  frz := fun b o' u' h => by
    have : b ≠ a := fun z => by subst z; rw [e] at h; cases h; exact mu
    rw [upd_ne this]; exact h
  frame := fun b o' h n => by
    have : b ≠ a := fun z => by subst z; exact n (List.mem_of_getElem? q)
    rw [upd_ne this]; exact h
  pre := fun _ _ h => h
  dom := fun b n n2 => absurd n n2
  l := rfl
theorem nd_ne {l : List Addr} (h : l.Nodup) {j k : Nat} {a b : Addr} (hj : l[j]? = some a) (hk : l[k]? = some b) (n : j ≠ k) : a ≠ b := fun z => by
  subst z
  obtain ⟨lj, ej⟩ := List.getElem?_eq_some_iff.mp hj
  obtain ⟨lk, ek⟩ := List.getElem?_eq_some_iff.mp hk
  exact n ((List.getElem_inj h).mp (ej.trans ek.symm))
theorem MR.put {a : Addr} {o : HO} {u : HO} {k : Nat} {v : MO} (h : MR K mg M H) (q : M.i[k]? = some a) (e : H a = some o) (mu : Mut (some o)) (r : RepO K mg (M.put k (some v)) (upd H a u) a v) : MR K mg (M.put k (some v)) (upd H a u) := by
  refine ⟨by simp [MB.put, h.len], h.nd, fun b hb => upd_some (h.tr b hb), fun j b x g g' => ?_, fun b hb => by
    obtain ⟨o', u', e'⟩ := h.lz b hb
    have : b ≠ a := fun z => by subst z; rw [e] at e'; cases e'; exact mu
    exact ⟨o', u', by rw [upd_ne this]; exact e'⟩⟩
  have g : M.i[j]? = some b := g
  have g' : (M.m.set k (some v))[j]? = some (some x) := g'
  by_cases z : k = j
  · subst z
    rw [q] at g; cases g
    rw [List.getElem?_set_self (by rw [h.len]; exact lt_of_get q)] at g'; cases g'
    exact r
  · rw [List.getElem?_set_ne z] at g'
    exact (h.at_ j b x g g').keep (Ev.put (M := M) (v := some v) (u := u) q e mu).sq fun w' q' => by rw [upd_ne (nd_ne h.nd g q (Ne.symm z))]; exact q'
/-- nothing more is told of a cell; it may be locked -/
theorem MR.lock {a : Addr} {o : HO} {u : HO} {k : Nat} (h : MR K mg M H) (q : M.i[k]? = some a) (e : H a = some o) (mu : Mut (some o)) : MR K mg (M.put k none) (upd H a u) := by
  refine ⟨by simp [MB.put, h.len], h.nd, fun b hb => upd_some (h.tr b hb), fun j b x g g' => ?_, fun b hb => by
    obtain ⟨o', u', e'⟩ := h.lz b hb
    have : b ≠ a := fun z => by subst z; rw [e] at e'; cases e'; exact mu
    exact ⟨o', u', by rw [upd_ne this]; exact e'⟩⟩
  have g : M.i[j]? = some b := g
  have g' : (M.m.set k none)[j]? = some (some x) := g'
  by_cases z : k = j
  · subst z
    rw [List.getElem?_set_self (by rw [h.len]; exact lt_of_get q)] at g'; cases g'
  · rw [List.getElem?_set_ne z] at g'
    exact (h.at_ j b x g g').keep (Ev.put (M := M) (v := none) (u := u) q e mu).sq fun w' q' => by rw [upd_ne (nd_ne h.nd g q (Ne.symm z))]; exact q'
theorem MR.get {k : Nat} {o : MO} (h : MR K mg M H) (e : M.m[k]? = some (some o)) : ∃ a, M.i[k]? = some a ∧ RepO K mg M H a o := by
  have : k < M.i.length := by rw [← h.len]; exact lt_of_get e
  exact ⟨M.i[k], List.getElem?_eq_getElem this, h.at_ k _ o (List.getElem?_eq_getElem this) e⟩
end
/-! ### values that do not reach beyond the first n cells -/
section
variable {K : PySem.W.Frag} {mg : Str → Option Value} {M M1 : MB} {H H1 : Hp} {m : MH}
mutual
theorem Rep.bel {n : Nat} (e : ∀ (k : Nat) a, k < n → M.i[k]? = some a → M1.i[k]? = some a) (el : M1.lk = M.lk) : ∀ {d : D} {v : V}, d.bel n = true → Rep K M H d v → Rep K M1 H d v
  | .non, _, _, h => h
  | .bl _, _, _, h => h
  | .int _, _, _, h => h
  | .str _, _, _, h => h
  | .ref k, _, b, ⟨a, h, q⟩ => ⟨a, e k a (by simpa [D.bel] using b) h, q⟩
  | .tup l, _, b, ⟨p, vs, q, h1, h2⟩ => ⟨p, vs, q, h1, Reps.bel e el (by simpa [D.bel] using b) h2⟩
  | .lis l, _, b, ⟨p, vs, q, h1, h2⟩ => ⟨p, vs, q, h1, Reps.bel e el (by simpa [D.bel] using b) h2⟩
  | .dct ks l, _, b, ⟨p, vs, o, q, h1, hl, h2⟩ => ⟨p, vs, o, q, ⟨h1.1, by rw [el]; exact h1.2⟩, hl, Reps.bel e el (by simpa [D.bel] using b) h2⟩
theorem Reps.bel {n : Nat} (e : ∀ (k : Nat) a, k < n → M.i[k]? = some a → M1.i[k]? = some a) (el : M1.lk = M.lk) : ∀ {l : List D} {vs : List V}, D.bels n l = true → Reps K M H l vs → Reps K M1 H l vs
  | [], _, _, h => h
  | x :: l, _, b, ⟨v, r, q, h1, h2⟩ => by
    rw [D.bels, Bool.and_eq_true] at b
    exact ⟨v, r, q, Rep.bel e el b.1 h1, Reps.bel e el b.2 h2⟩
end
theorem RepKV.bel {κ : Type} {n : Nat} (e : ∀ (k : Nat) a, k < n → M.i[k]? = some a → M1.i[k]? = some a) (el : M1.lk = M.lk) : ∀ {l : List (κ × D)} {vs : List (κ × V)}, D.bels n (l.map (·.2)) = true → RepKV K M H l vs → RepKV K M1 H l vs
  | [], _, _, h => h
  | (_, _) :: l, _, b, ⟨v, r, q, h1, h2⟩ => by
    rw [List.map_cons, D.bels, Bool.and_eq_true] at b
    exact ⟨v, r, q, h1.bel e el b.1, RepKV.bel e el b.2 h2⟩
theorem RepF.bel {n : Nat} (e : ∀ (k : Nat) a, k < n → M.i[k]? = some a → M1.i[k]? = some a) (el : M1.lk = M.lk) : ∀ {l : Fs} {vs : List (Str × V)}, D.bels n (l.map (·.2)) = true → RepF K M H l vs → RepF K M1 H l vs
  | [], _, _, h => h
  | (_, _) :: l, _, b, ⟨v, r, q, h1, h2⟩ => by
    rw [List.map_cons, D.bels, Bool.and_eq_true] at b
    exact ⟨v, r, q, h1.bel e el b.1, RepF.bel e el b.2 h2⟩
theorem penD_bel {l : List D} {n : Nat} (h : PenD l) : D.bels n l = true := by
  obtain ⟨cs, a, b, rfl, _⟩ := h
  have : ∀ cs : List Int, D.bels n (cs.map D.int) = true := fun cs => by
    induction cs with
    | nil => rfl
    | cons c cs ih => rw [List.map_cons, D.bels, ih]; rfl
  simp [D.bels, D.bel, this]
theorem RepO.bel {n : Nat} {a : Addr} {o : MO} (e : ∀ (k : Nat) a, k < n → M.i[k]? = some a → M1.i[k]? = some a) (el : M1.lk = M.lk) (b : o.bel n = true) (h : RepO K mg M H a o) : RepO K mg M1 H a o := by
  cases o with
  | lst l => obtain ⟨vs, h1, h2⟩ := h; exact ⟨vs, h1, h2.bel e el b⟩
  | dic l => obtain ⟨vs, h1, h2⟩ := h; exact ⟨vs, h1, h2.bel e el b⟩
  | dit l => obtain ⟨vs, h1, h2⟩ := h; exact ⟨vs, h1, h2.bel e el b⟩
  | dfz l => obtain ⟨vs, o, h1, h2⟩ := h; exact ⟨vs, o, ⟨h1.1, by rw [el]; exact h1.2⟩, h2.bel e el b⟩
  | ptp l => obtain ⟨vs, o, h1, h2⟩ := h; exact ⟨vs, o, h1, h2.bel e el b⟩
  | ins C fs => obtain ⟨C', dx, gs, h0, h1, h2⟩ := h; exact ⟨C', dx, gs, h0, h1, h2.bel e el b⟩
  | pen => obtain ⟨l, vs, h0, h1, h2⟩ := h; exact ⟨l, vs, h0, h1, h2.bel e el (penD_bel h0)⟩
  | exv c j => obtain ⟨C, d, h0, h1, h2⟩ := h; exact ⟨C, d, h0, h1, by
      cases j with
      | none => exact h2
      | some j => obtain ⟨dd, e', h3⟩ := h2; exact ⟨dd, e', e _ _ (of_decide_eq_true b) h3⟩⟩
  | xdc fs => obtain ⟨gs, h1, h2⟩ := h; exact ⟨gs, h1, h2.bel e el b⟩
  | tab q ks =>
    have b : ∀ j ∈ ks, j < n := fun j hj => of_decide_eq_true (List.all_eq_true.mp b j hj)
    obtain ⟨ps, h1, h2, h3, h4⟩ := h; exact ⟨ps, h1, h2, fun j hj => (h3 j hj).imp fun c => e _ _ (b j hj), fun pos cv e' => by
      obtain ⟨c, j, e1, e2, e3⟩ := h4 pos cv e'
      exact ⟨c, j, e1, e2, e _ _ (b j e2) e3⟩⟩
  | cod q => exact h
theorem less_same (h : MR K mg M H) (e : m.length = M.m.length) : M.less m = ⟨M.i, m, M.lk⟩ := by
  unfold MB.less; rw [e, h.len, List.take_length]
theorem belM_at {n : Nat} {m : MH} (h : belM n m = true) {k : Nat} {o : MO} (e : m[k]? = some (some o)) : o.bel n = true :=
  List.all_eq_true.mp h _ (List.mem_of_getElem? e)
theorem RepO.leO {a : Addr} {o u : MO} (h : RepO K mg M H a u) (l : LeO o u) : RepO K mg M H a o := by
  rcases l with e | ⟨e, l, e', p⟩
  · subst e; exact h
  · subst e; subst e'
    obtain ⟨vs, h1, h2⟩ := h
    exact ⟨l, vs, p, h1, h2⟩
theorem MR.less {n : Nat} (h : MR K mg M H) (s : LessM n m M.m) : MR K mg (M.less m) H := by
  obtain ⟨s, hl⟩ := s
  rcases hl with hl | ⟨h1, h2, hb⟩
  · rw [less_same h hl]
    exact ⟨hl.trans h.len, h.nd, h.tr, fun k a o e e' => by
      obtain ⟨u, g1, g2⟩ := s k o e'
      exact ((h.at_ k a u e g1).leO g2).keep ⟨fun _ _ q => q, fun _ _ q => q, fun _ _ _ q n => ⟨q, n⟩, fun _ _ q => q, fun _ _ _ n q => ⟨q, n⟩⟩ fun _ q => q, h.lz⟩
  · refine ⟨by simp [MB.less]; rw [h.len] at h2; omega, h.nd.sublist (List.take_sublist _ _), fun a ha => h.tr a (List.mem_of_mem_take ha), fun k a o e e' => ?_, h.lz⟩
    have e : (M.i.take m.length)[k]? = some a := e
    have e' : m[k]? = some (some o) := e'
    have ek : M.i[k]? = some a := by
      rw [List.getElem?_take] at e
      split at e
      · exact e
      · cases e
    obtain ⟨u, g1, g2⟩ := s k o e'
    exact ((h.at_ k a u ek g1).leO g2).bel (fun j b hj q => take_pre q hj) rfl (belM_at hb e')
theorem Rep.less {d : D} {v : V} (h : Rep K M H d v) (R : MR K mg M H) (s : m.length = M.m.length ∨ d.bel m.length = true) : Rep K (M.less m) H d v := by
  rcases s with s | s
  · rw [less_same R s]; exact (Rep.mono (M := M) (M' := ⟨M.i, m, M.lk⟩) ⟨fun _ _ q => q, fun _ _ q => q, fun _ _ _ q n => ⟨q, n⟩, fun _ _ q => q, fun _ _ _ n q => ⟨q, n⟩⟩ h)
  · exact h.bel (M1 := M.less m) (fun j b hj q => take_pre q hj) rfl s
theorem Reps.less {d : List D} {v : List V} (h : Reps K M H d v) (R : MR K mg M H) (s : m.length = M.m.length ∨ D.bels m.length d = true) : Reps K (M.less m) H d v := by
  rcases s with s | s
  · rw [less_same R s]; exact (Reps.mono (M := M) (M' := ⟨M.i, m, M.lk⟩) ⟨fun _ _ q => q, fun _ _ q => q, fun _ _ _ q n => ⟨q, n⟩, fun _ _ q => q, fun _ _ _ n q => ⟨q, n⟩⟩ h)
  · exact h.bel (M1 := M.less m) (fun j b hj q => take_pre q hj) rfl s
theorem Slots.cut {ρ ρ' : DSt} {σ : St} (h : Slots K M H ρ σ) (R : MR K mg M H) (l : Less ρ' ρ) (s : m.length = M.m.length ∨ belS m.length ρ' = true) : Slots K (M.less m) H ρ' σ := by
  refine ⟨(h.less l).1, fun i d e => ?_⟩
  obtain ⟨v, h1, h2⟩ := (h.less l).2 i d e
  refine ⟨v, h1, h2.less R (s.imp id fun b => ?_)⟩
  exact List.all_eq_true.mp b _ (List.mem_of_getElem? e)
/-- what is below holds from the start: values that are there name cells that are there -/
theorem LessM.ge {n : Nat} {M' : MH} (s : LessM n m M') (h : n ≤ M'.length) : n ≤ m.length := by
  rcases s.2 with e | ⟨e, _⟩
  · omega
  · exact e
mutual
theorem Rep.is_bel : ∀ {d : D} {v : V}, Rep K M H d v → d.bel M.i.length = true
  | .non, _, _ => rfl
  | .bl _, _, _ => rfl
  | .int _, _, _ => rfl
  | .str _, _, _ => rfl
  | .ref k, _, ⟨a, h, q⟩ => by simpa [D.bel] using lt_of_get h
  | .tup l, _, ⟨p, vs, q, h1, h2⟩ => Reps.is_bel h2
  | .lis l, _, ⟨p, vs, q, h1, h2⟩ => Reps.is_bel h2
  | .dct ks l, _, ⟨p, vs, o, q, h1, hl, h2⟩ => Reps.is_bel h2
theorem Reps.is_bel : ∀ {l : List D} {vs : List V}, Reps K M H l vs → D.bels M.i.length l = true
  | [], _, h => rfl
  | x :: l, _, ⟨v, r, q, h1, h2⟩ => by rw [D.bels, Rep.is_bel h1, Reps.is_bel h2]; rfl
end
theorem RepKV.is_bel {κ : Type} : ∀ {l : List (κ × D)} {vs : List (κ × V)}, RepKV K M H l vs → D.bels M.i.length (l.map (·.2)) = true
  | [], _, h => rfl
  | (_, _) :: l, _, ⟨v, r, q, h1, h2⟩ => by rw [List.map_cons, D.bels, h1.is_bel, RepKV.is_bel h2]; rfl
theorem RepF.is_bel : ∀ {l : Fs} {vs : List (Str × V)}, RepF K M H l vs → D.bels M.i.length (l.map (·.2)) = true
  | [], _, h => rfl
  | (_, _) :: l, _, ⟨v, r, q, h1, h2⟩ => by rw [List.map_cons, D.bels, h1.is_bel, RepF.is_bel h2]; rfl
theorem MR.is_bel (h : MR K mg M H) : belM M.m.length M.m = true := by
  refine List.all_eq_true.mpr fun o ho => ?_
  cases o with
  | none => rfl
  | some o =>
    obtain ⟨k, hk⟩ := List.mem_iff_getElem?.mp ho
    obtain ⟨a, _, r⟩ := h.get hk
    rw [h.len]
    cases o with
    | lst l => obtain ⟨vs, h1, h2⟩ := r; exact h2.is_bel
    | dic l => obtain ⟨vs, h1, h2⟩ := r; exact h2.is_bel
    | dit l => obtain ⟨vs, h1, h2⟩ := r; exact h2.is_bel
    | dfz l => obtain ⟨vs, o, h1, h2⟩ := r; exact h2.is_bel
    | ptp l => obtain ⟨vs, o, h1, h2⟩ := r; exact h2.is_bel
    | ins C fs => obtain ⟨C', dx, gs, h0, h1, h2⟩ := r; exact h2.is_bel
    | pen => rfl
    | exv c j =>
      obtain ⟨C, d, h0, h1, h2⟩ := r
      cases j with
      | none => rfl
      | some j => obtain ⟨dd, e', h3⟩ := h2; exact decide_eq_true (lt_of_get h3)
    | xdc fs => obtain ⟨gs, h1, h2⟩ := r; exact h2.is_bel
    | tab q ks =>
      obtain ⟨ps, h1, h2, h3, h4⟩ := r
      exact List.all_eq_true.mpr fun j hj => by
        obtain ⟨c, h⟩ := h3 j hj
        exact decide_eq_true (lt_of_get h)
    | cod q => rfl
end

/-! ### liftings -/
/-- what the body wishes of an exception -/
def Wx (X : Cx) : WX := fun cls d σ H => ∀ (u : Value) (s' : Shared), XE X (fun cls' d' σ' H' => cls' = cls ∧ d' = d ∧ σ' = σ ∧ H' = H) u s' → X.xe u s'
theorem takes_Wx (X : Cx) : Takes X (Wx X) := fun u s' ⟨a, B, sI, pins, σ, H, cls, d, e, I, nb, up, sky, na, os, ag, w⟩ =>
  w u s' ⟨a, B, sI, pins, σ, H, cls, d, e, I, nb, up, sky, na, os, ag, rfl, rfl, rfl, rfl⟩
theorem wx_of {X : Cx} {W : WX} (tk : Takes X W) {cls : Value} {d : Option Addr} {σ : L2.St} {H : Hp} (w : W cls d σ H) : Wx X cls d σ H := fun u s' ⟨a, B, sI, pins, σ', H', cls', d', e, I, nb, up, sky, na, os, ag, e1, e2, e3, e4⟩ =>
  tk u s' ⟨a, B, sI, pins, σ', H', cls', d', e, I, nb, up, sky, na, os, ag, by rw [e1, e2, e3, e4]; exact w⟩
/-- the errors' classes that the texts have -/
def xcs : List Str := ["InvalidStatement", "InvalidClaim", "ParseError", "UnknownStatement", "UnknownMark", "UnknownRecord", "UnknownSource", "Unjoinable", "LimitExceeded"]
/-- the class named c at C is caught by its own name alone -/
structure XC (K : PySem.W.Frag) (mg : Str → Option Value) (c : Str) (C : Addr) : Prop where
  at_ : mg c = some (.ref C)
  own : ∀ c2 ∈ xcs, ∀ C2, mg c2 = some (.ref C2) → PySem.W.exmOne K (.ref C) (.ref C2) = some (decide (c = c2))
/-- an exception's dict, its fields -/
def XRep (K : PySem.W.Frag) (M : MB) (H : Hp) (fs : Fs) (d : Option Addr) : Prop := (fs = [] ∧ d = none) ∨ ∃ dd gs, d = some dd ∧ H dd = some (.xd gs) ∧ dd ∉ M.i ∧ RepF K M H fs gs
section
variable (X : Cx)
/-- what may be raised from M, H on, at the slots σ -/
def XOk (M : MB) (σ : L2.St) (H : Hp) (E : XQ) : Prop := ∀ c fs C d M' H', Ev M H M' H' → MR X.K X.mg M' H' → XC X.K X.mg c C → XRep X.K M' H' fs d → E c fs M'.m → Wx X (.ref C) d σ H'
def LE (t : DE) : TE := fun σ H Q => ∃ ρ M E Qd, Slots X.K M H ρ σ ∧ MR X.K X.mg M H ∧ t ρ M.m E Qd ∧ XOk X M σ H E ∧ ∀ v d M' H', Ev M H M' H' → MR X.K X.mg M' H' → Rep X.K M' H' d v → Qd d M'.m → Q v H'
def LT (t : DT) : TT := fun σ H Q => ∃ ρ M E Qd, Slots X.K M H ρ σ ∧ MR X.K X.mg M H ∧ t ρ M.m E Qd ∧ XOk X M σ H E ∧ ∀ b M' H', Ev M H M' H' → MR X.K X.mg M' H' → Qd b M'.m → Q b H'
def LA (t : DA) : TA := fun σ H Q => ∃ ρ M E Qd, Slots X.K M H ρ σ ∧ MR X.K X.mg M H ∧ t ρ M.m E Qd ∧ XOk X M σ H E ∧ ∀ vs ds M' H', Ev M H M' H' → MR X.K X.mg M' H' → Reps X.K M' H' ds vs → Qd ds M'.m → Q vs H'
/-- the ends of a statement that began at M, H -/
structure EndsOk (M : MB) (H : Hp) (De : DEnds) (D : Ends) : Prop where
  nx : ∀ σ' H' ρ' M', Ev M H M' H' → Slots X.K M' H' ρ' σ' → MR X.K X.mg M' H' → De.nx ρ' M'.m → D.nx σ' H'
  rt : ∀ v d M' H', Ev M H M' H' → MR X.K X.mg M' H' → Rep X.K M' H' d v → De.rt d M'.m → D.rt v H'
  bk : ∀ σ' H' ρ' M', Ev M H M' H' → Slots X.K M' H' ρ' σ' → MR X.K X.mg M' H' → De.bk ρ' M'.m → D.bk σ' H'
  ct : ∀ σ' H' ρ' M', Ev M H M' H' → Slots X.K M' H' ρ' σ' → MR X.K X.mg M' H' → De.ct ρ' M'.m → D.ct σ' H'
  ex : ∀ c fs C d σ' H' ρ' M', Ev M H M' H' → Slots X.K M' H' ρ' σ' → MR X.K X.mg M' H' → XC X.K X.mg c C → XRep X.K M' H' fs d → De.ex c fs ρ' M'.m → Wx X (.ref C) d σ' H'
def LS (t : DS) : TS := fun D σ H => ∃ ρ M De, Slots X.K M H ρ σ ∧ MR X.K X.mg M H ∧ t De ρ M.m ∧ EndsOk X M H De D
end
theorem EndsOk.later {X : Cx} {M M1 : MB} {H H1 : Hp} {De : DEnds} {D : Ends} (h : EndsOk X M H De D) (e : Ev M H M1 H1) : EndsOk X M1 H1 De D :=
  ⟨fun σ H ρ M f => h.nx σ H ρ M (e.trans f), fun v d M H f => h.rt v d M H (e.trans f), fun σ H ρ M f => h.bk σ H ρ M (e.trans f), fun σ H ρ M f => h.ct σ H ρ M (e.trans f), fun c fs C d σ H ρ M f => h.ex c fs C d σ H ρ M (e.trans f)⟩
theorem XOk.later {X : Cx} {M M1 : MB} {σ : L2.St} {H H1 : Hp} {E : XQ} (h : XOk X M σ H E) (e : Ev M H M1 H1) : XOk X M1 σ H1 E := fun c fs C d M' H' f => h c fs C d M' H' (e.trans f)
theorem XOk.no {X : Cx} {M : MB} {σ : L2.St} {H : Hp} : XOk X M σ H noX := fun _ _ _ _ _ _ _ _ _ _ q => q.elim
theorem EndsOk.xok {X : Cx} {M : MB} {H : Hp} {De : DEnds} {D : Ends} {ρ : DSt} {σ : L2.St} (h : EndsOk X M H De D) (S : Slots X.K M H ρ σ) : XOk X M σ H (xAt De ρ) := fun c fs C d M' H' f R hc r q => h.ex c fs C d σ H' ρ M' f (S.ev f) R hc r q
abbrev PEd (X : Cx) (e : Expr) (t : DE) : Prop := PE X e (LE X t)
abbrev PTd (X : Cx) (e : Expr) (t : DT) : Prop := PT X e (LT X t)
abbrev PWd (X : Cx) (e : Expr) (t : DT) : Prop := PW X e (LT X t)
abbrev PAd (X : Cx) (es : List Expr) (t : DA) : Prop := PA X es (LA X t)
abbrev PSd (X : Cx) (st : Stmt) (t : DS) : Prop := PS X st (LS X t)
abbrev PSsd (X : Cx) (st : List Stmt) (t : DS) : Prop := PSs X st (LS X t)
section
variable {X : Cx}
theorem peI {e : Expr} {te te' : TE} (h : PE X e te) (i : ∀ σ H Q, te' σ H Q → te σ H Q) : PE X e te' := ⟨fun pins s σ H Q I q => h.run pins s σ H Q I (i σ H Q q)⟩
theorem ptI {e : Expr} {te te' : TT} (h : PT X e te) (i : ∀ σ H Q, te' σ H Q → te σ H Q) : PT X e te' := ⟨fun pins s σ H Q I q => h.run pins s σ H Q I (i σ H Q q)⟩
theorem pwI {e : Expr} {te te' : TT} (h : PW X e te) (i : ∀ σ H Q, te' σ H Q → te σ H Q) : PW X e te' := ⟨fun wh pins s σ H Q I q => h.run wh pins s σ H Q I (i σ H Q q)⟩
theorem paI {e : List Expr} {te te' : TA} (h : PA X e te) (i : ∀ σ H Q, te' σ H Q → te σ H Q) : PA X e te' := ⟨fun pos pins s σ H Q I q => h.run pos pins s σ H Q I (i σ H Q q)⟩
theorem psI {e : Stmt} {te te' : TS} (h : PS X e te) (i : ∀ D σ H, te' D σ H → te D σ H) : PS X e te' := ⟨fun pins s σ H D I q => h.run pins s σ H D I (i D σ H q)⟩
theorem pssI {e : List Stmt} {te te' : TS} (h : PSs X e te) (i : ∀ D σ H, te' D σ H → te D σ H) : PSs X e te' := ⟨fun pins s σ H D I q => h.run pins s σ H D I (i D σ H q)⟩
end
end DM

/-! DL, the rules: each construct of Python by its reading over data. -/
namespace DM
open PySem PySem.Spec L2
section
variable {X : Cx} {e a b c : Expr} {es : List Expr} {ta tb tc : DE} {tA tB' : DT} {t : DA} {pos : Pos} {rest : List Expr}

/-! ### names, constants -/
theorem de_var (i : Nat) {x : Str} {pos : Pos} (hN : X.N[i]? = some x := by rfl) (hv : Vis X.env.scope x := by first | exact Or.inl rfl | exact Or.inr (Or.inl rfl) | exact Or.inr (Or.inr rfl)) (hd : (x == ("__debug__" : Str)) = false := by decide)
    (hcd : (x == ("__classdict__" : Str)) = false := by decide) : PEd X (.Name x pos) (dVar i) := peI (pe_var hN hv hd hcd) fun σ H Q ⟨ρ, M, E, Qd, S, R, ⟨d, h1, h2⟩, xo, k⟩ => by
  obtain ⟨v, e1, r⟩ := S.2 i d h1
  exact ⟨v, e1, k v d M H .refl R r h2⟩
theorem de_const {d : D} {v : V} (h : PE X e (tC v)) (r : ∀ M H, Rep X.K M H d v) : PEd X e (dC d) := peI h fun σ H Q ⟨ρ, M, E, Qd, S, R, q, xo, k⟩ => k v d M H .refl R (r M H) q
theorem de_int {i j pos} : PEd X (.Constant (.int i) j pos) (dC (.int i)) := de_const pe_int fun _ _ => rfl
theorem de_bl {b j pos} : PEd X (.Constant (.bool b) j pos) (dC (.bl b)) := de_const pe_bl fun _ _ => rfl
theorem de_non {j pos} : PEd X (.Constant .none j pos) (dC .non) := de_const pe_non fun _ _ => rfl
theorem de_str {x j pos} : PEd X (.Constant (.str x) j pos) (dC (.str x)) := de_const pe_str fun _ _ => rfl
/-- a module's constant that is flat -/
theorem de_glob {x : Str} {d : D} {v : V} {u : Value} {pos : Pos} (hm : X.mg x = some u) (r : RelV v u) (rd : ∀ M H, Rep X.K M H d v) (hg : Gl X x := by rfl) (hd : (x == ("__debug__" : Str)) = false := by decide) : PEd X (.Name x pos) (dC d) :=
  de_const (pe_glob hg hm r hd) rd

/-! ### argument lists, displays -/
theorem da_nil : PAd X [] dNil := paI pa_nil fun σ H Q ⟨ρ, M, E, Qd, S, R, q, xo, k⟩ => k [] [] M H .refl R .nil q
theorem da_cons (ha : PEd X e ta) (hr : PAd X es t) (hs : starEach (e :: es) X.env = (false, eval e X.env) :: starEach es X.env := by rfl) : PAd X (e :: es) (dCons ta t) :=
  paI (pa_cons ha hr hs) fun σ H Q ⟨ρ, M, E, Qd, S, R, q, xo, k⟩ => ⟨ρ, M, E, _, S, R, q, xo, fun v d M1 H1 e1 R1 r1 q1 =>
    ⟨ρ, M1, E, _, S.ev e1, R1, q1, xo.later e1, fun vs ds M2 H2 e2 R2 r2 q2 => k _ _ M2 H2 (e1.trans e2) R2 (.cons (r1.ev e2) r2) q2⟩⟩
/-! ### makers of lists and dicts -/
def frzQ (Q : VK) : VK := fun v H1 => Q v H1 ∨ ∃ a u, v = .ref a ∧ H1 a = some u ∧ Mut (some u) ∧ ∀ o, Q v (upd H1 a (.frz o u))
def tFrz (te : TE) : TE := fun σ H Q => te σ H (frzQ Q)
theorem pe_frz {te : TE} (h : PE X e te) : PE X e (tFrz te) := ⟨fun pins s σ H Q I q => thn (h.run pins s σ H _ I q) fun v s1 ⟨x, H1, I1, r, h⟩ => by
  rcases h with q1 | ⟨a, u, ex, ea, mu, q1⟩
  · exact ⟨x, H1, I1, r, q1⟩
  · subst ex
    obtain ⟨od, J⟩ := I1.lock ea mu
    exact ⟨_, _, J, r, q1 od⟩⟩
structure MkOk (mk : MkR) : Prop where
  of : ∀ {K : PySem.W.Frag} {mg : Str → Option Value} {M0 M : MB} {H0 H : Hp} {p : Addr} {o : MO} {ho : HO} {Qd : DQ} {Q : VK}, Ev M0 H0 M H → H0 p = none → p ∉ M0.i → p ∉ M.i → H p = some ho → Mut (some ho) → MR K mg M H → RepO K mg M H p o → mk M.m o Qd →
  (∀ v d M' H', Ev M0 H0 M' H' → MR K mg M' H' → Rep K M' H' d v → Qd d M'.m → Q v H') → frzQ Q (.ref p) H
theorem MkOk.new {mk : MkR} (hm : MkOk mk) {K : PySem.W.Frag} {mg : Str → Option Value} {M : MB} {H : Hp} {p : Addr} {o : MO} {ho : HO} {Qd : DQ} {Q : VK} (R : MR K mg M H) (n : H p = none) (mu : Mut (some ho)) (r : RepO K mg M (upd H p ho) p o) (q : mk M.m o Qd)
    (k : ∀ v d M' H', Ev M H M' H' → MR K mg M' H' → Rep K M' H' d v → Qd d M'.m → Q v H') : frzQ Q (.ref p) (upd H p ho) := hm.of (.new n) n (R.mem n) (R.mem n) upd_same mu (R.new n) r q k
/-- what is locked was none that a value holds -/
theorem KeepT.lock {K : PySem.W.Frag} {M : MB} {H : Hp} {p : Addr} {ho u : HO} (h : H p = some ho) (mu : Mut (some ho)) : KeepT K M H M (upd H p u) := by
  have ne : ∀ {a : Addr} {u' : HO}, H a = some u' → ¬ Mut (some u') → upd H p u a = some u' := fun {a u'} q w => by
    have : a ≠ p := fun z => by subst z; rw [h] at q; cases q; exact w mu
    rw [upd_ne this]; exact q
  refine ⟨fun a xs q => ?_, fun a xs q => ?_, fun a o v q n => ⟨ne q fun z => z, n⟩, fun _ _ q => q, fun a o v n q => ⟨ne q fun z => z, n⟩⟩
  · rcases q with (q | ⟨o, q⟩) | q
    · exact .inl (.inl (ne q fun z => z))
    · exact .inl (.inr ⟨o, ne q fun z => z⟩)
    · exact .inr q
  · rcases q with ⟨o, g⟩ | g
    · exact .inl ⟨o, ne g fun z => z⟩
    · exact .inr g
theorem MR.hid {K : PySem.W.Frag} {mg : Str → Option Value} {M : MB} {H : Hp} {p : Addr} {ho u : HO} (R : MR K mg M H) (h : H p = some ho) (mu : Mut (some ho)) (n : p ∉ M.i) : MR K mg M (upd H p u) := ⟨R.len, R.nd, fun a ha => upd_some (R.tr a ha), fun k a o e e' =>
  (R.at_ k a o e e').keep (.lock h mu) fun w q => by rw [upd_ne (fun z => by subst z; exact n (List.mem_of_getElem? e))]; exact q, fun a ha => by
  obtain ⟨o', u', e'⟩ := R.lz a ha
  have : a ≠ p := fun z => by subst z; rw [h] at e'; cases e'; exact mu
  exact ⟨o', u', by rw [upd_ne this]; exact e'⟩⟩
/-- what may be written is not walked -/
theorem MR.nlk {K : PySem.W.Frag} {mg : Str → Option Value} {M : MB} {H : Hp} {p : Addr} {ho : HO} (R : MR K mg M H) (h : H p = some ho) (mu : Mut (some ho)) : p ∉ M.lk := fun hp => by
  obtain ⟨o', u', e'⟩ := R.lz p hp
  rw [h] at e'; cases e'; exact mu
theorem Ev.hid {M M' : MB} {H H' : Hp} {p : Addr} {o : HO} (e : Ev M H M' H') (n : H p = none) : Ev M H M' (upd H' p o) :=
  ⟨fun a xs h => by rw [upd_ne (ne_of_none h n)]; exact e.tup a xs h, fun a o u h => by rw [upd_ne (ne_of_none h n)]; exact e.frz a o u h, fun a o h m => by rw [upd_ne (ne_of_none h n)]; exact e.frame a o h m, e.pre, e.dom, e.l⟩
theorem frz_rep {M : MB} {H : Hp} {mg : Str → Option Value} {K : PySem.W.Frag} {a : Addr} {o : MO} {d : D} (r : RepO K mg M H a o) (f : o.frz d) : ∃ u, H a = some u ∧ Mut (some u) ∧ ∀ ob, ∀ M' H', KeepT K M H M' H' → H' a = some (.frz ob u) → a ∉ M'.lk → Rep K M' H' d (.ref a) := by
  cases o with
  | lst l =>
    cases (show d = .lis l from f)
    obtain ⟨vs, h1, h2⟩ := r
    exact ⟨_, h1, trivial, fun ob M' H' e h _ => ⟨a, vs, rfl, .inl ⟨ob, h⟩, h2.mono e⟩⟩
  | dic l =>
    cases (show d = .dct _ _ from f)
    obtain ⟨ks, h1, h2⟩ := r
    have key : ∀ {l : List (Key × D)} {ks : List (Key × V)} {M : MB} {H : Hp}, RepKV K M H l ks → (l.map (·.1)).zip (ks.map (·.2)) = ks ∧ Reps K M H (l.map (·.2)) (ks.map (·.2)) := by
      intro l
      induction l with
      | nil => intro ks M H h; cases h; exact ⟨rfl, rfl⟩
      | cons x l ih =>
        intro ks M H h
        obtain ⟨k, d⟩ := x
        obtain ⟨v, r, e, h1, h2⟩ := h
        subst e
        obtain ⟨i1, i2⟩ := ih h2
        exact ⟨by simp [i1], ⟨v, _, rfl, h1, i2⟩⟩
    refine ⟨_, h1, trivial, fun ob M' H' e h nl => ⟨a, ks.map (·.2), ob, rfl, ⟨?_, nl⟩, by simp, ((key h2).2).mono e⟩⟩
    rw [(key h2).1]; exact h
  | ins _ _ => exact f.elim
  | dit _ => exact f.elim
  | dfz _ => exact f.elim
  | ptp _ => exact f.elim
  | pen => exact f.elim
  | exv _ _ => exact f.elim
  | xdc _ => exact f.elim
  | tab _ _ => exact f.elim
  | cod _ => exact f.elim
theorem mkD : MkOk newD := ⟨fun {K mg M0 M H0 H p o ho Qd Q} e n n0 np hp mu R r q k =>
  .inl (k (.ref p) (.ref M.m.length) (M.add p o) H (e.join n n0) (R.join (by rw [hp]; simp) np (r.keep (M' := M.add p o) ⟨fun _ _ h => h, fun _ _ h => h, fun _ _ _ h n => ⟨h, n⟩, pre_add, fun _ _ _ n h => ⟨h, n⟩⟩ fun _ h => h)) (rep_last R) q)⟩
theorem mkZ : MkOk newZ := ⟨fun {K mg M0 M H0 H p o ho Qd Q} e n n0 np hp mu R r ⟨d, f, q⟩ k => by
  obtain ⟨u, h1, h2, h3⟩ := frz_rep r f
  rw [hp] at h1; cases h1
  exact .inr ⟨p, _, rfl, hp, mu, fun ob => k (.ref p) d M (upd H p (.frz ob ho)) (e.hid n) (R.hid hp mu np) (h3 ob M _ (.lock hp mu) upd_same (R.nlk hp mu)) q⟩⟩
theorem de_tup {x1} (h : PAd X es t) : PEd X (.Tuple es x1 pos) (dTup t) := peI (pe_tup h) fun σ H Q ⟨ρ, M, E, Qd, S, R, q, xo, k⟩ =>
  ⟨ρ, M, E, _, S, R, q, xo, fun vs ds M1 H1 e1 R1 r1 ⟨z, q1⟩ => ⟨by rw [← r1.len]; exact z, fun p n =>
    k (.ref p) (.tup ds) M1 (upd H1 p (.tup vs)) (e1.trans (.new n)) (R1.new n) ⟨p, vs, rfl, sq_new, r1.ev (Ev.new (M := M1) n)⟩ q1⟩⟩
theorem de_lst {mk : MkR} (hm : MkOk mk) (h : PAd X es t) : PEd X (.List es pos) (dLst mk t) := peI (pe_frz (pe_lst h)) fun σ H Q ⟨ρ, M, E, Qd, S, R, q, xo, k⟩ =>
  ⟨ρ, M, E, _, S, R, q, xo, fun vs ds M1 H1 e1 R1 r1 ⟨z, q1⟩ => ⟨by rw [← r1.len]; exact z, fun p n =>
    hm.new R1 n trivial (o := .lst ds) ⟨vs, upd_same, r1.ev (Ev.new (M := M1) n)⟩ q1 fun v d M' H' e' R' r' q' => k v d M' H' (e1.trans e') R' r' q'⟩⟩

/-! ### operations -/
def OpD (X : Cx) (f : Value → Value → Sem Value) (r : RD2) : Prop := ∃ r' : R2, OpR X f r' ∧ ∀ (x y : D) (v w : V) (M : MB) (H : Hp) (Qd : DQ) (Q : VK), MR X.K X.mg M H → Rep X.K M H x v → Rep X.K M H y w → r x y M.m Qd →
  (∀ z d M' H', Ev M H M' H' → MR X.K X.mg M' H' → Rep X.K M' H' d z → Qd d M'.m → Q z H') → r' v w H Q
def UnD (X : Cx) (f : Value → Sem Value) (r : RD1) : Prop := ∃ r', UnR X f r' ∧ ∀ (x : D) (v : V) (M : MB) (H : Hp) (Qd : DQ) (Q : VK), MR X.K X.mg M H → Rep X.K M H x v → r x M.m Qd →
  (∀ z d M' H', Ev M H M' H' → MR X.K X.mg M' H' → Rep X.K M' H' d z → Qd d M'.m → Q z H') → r' v H Q
def CallD (X : Cx) (f : Value) (r : BD) : Prop := ∃ r', CallR X f r' ∧ ∀ (ds : List D) (vs : List V) (M : MB) (H : Hp) (Qd : DQ) (Q : VK), MR X.K X.mg M H → Reps X.K M H ds vs → r ds M.m Qd →
  (∀ z d M' H', Ev M H M' H' → MR X.K X.mg M' H' → Rep X.K M' H' d z → Qd d M'.m → Q z H') → r' vs H Q
theorem lift_op {r : RD2} {r' : R2} (h : ∀ (x y : D) (v w : V) (M : MB) (H : Hp) (Qd : DQ) (Q : VK), MR X.K X.mg M H → Rep X.K M H x v → Rep X.K M H y w → r x y M.m Qd →
    (∀ z d M' H', Ev M H M' H' → MR X.K X.mg M' H' → Rep X.K M' H' d z → Qd d M'.m → Q z H') → r' v w H Q) (σ : L2.St) (H : Hp) (Q : VK) : LE X (dOp r ta tb) σ H Q → tOp r' (LE X ta) (LE X tb) σ H Q := fun ⟨ρ, M, E, Qd, S, R, q, xo, k⟩ =>
  ⟨ρ, M, E, _, S, R, q, xo, fun v d M1 H1 e1 R1 r1 q1 => ⟨ρ, M1, E, _, S.ev e1, R1, q1, xo.later e1, fun w d2 M2 H2 e2 R2 r2 q2 =>
    h d d2 v w M2 H2 Qd Q R2 (r1.ev e2) r2 q2 fun z d M' H' e' R' r' q' => k z d M' H' ((e1.trans e2).trans e') R' r' q'⟩⟩
theorem de_op {op : Operator} {r : RD2} (ho : OpD X (binaryOp op) r) (ha : PEd X a ta) (hb : PEd X b tb) : PEd X (.BinOp a op b pos) (dOp r ta tb) := by
  obtain ⟨r', h1, h2⟩ := ho
  exact peI (pe_op h1 ha hb) (lift_op h2)
/-- .. of what makes lists -/
def OpZ (X : Cx) (f : Value → Value → Sem Value) (r : RD2) : Prop := ∃ r' : R2, OpR X f r' ∧ ∀ (x y : D) (v w : V) (M : MB) (H : Hp) (Qd : DQ) (Q : VK), MR X.K X.mg M H → Rep X.K M H x v → Rep X.K M H y w → r x y M.m Qd →
  (∀ z d M' H', Ev M H M' H' → MR X.K X.mg M' H' → Rep X.K M' H' d z → Qd d M'.m → Q z H') → r' v w H (frzQ Q)
def CallZ (X : Cx) (f : Value) (r : BD) : Prop := ∃ r', CallR X f r' ∧ ∀ (ds : List D) (vs : List V) (M : MB) (H : Hp) (Qd : DQ) (Q : VK), MR X.K X.mg M H → Reps X.K M H ds vs → r ds M.m Qd →
  (∀ z d M' H', Ev M H M' H' → MR X.K X.mg M' H' → Rep X.K M' H' d z → Qd d M'.m → Q z H') → r' vs H (frzQ Q)
theorem de_opZ {op : Operator} {r : RD2} (ho : OpZ X (binaryOp op) r) (ha : PEd X a ta) (hb : PEd X b tb) : PEd X (.BinOp a op b pos) (dOp r ta tb) := by
  obtain ⟨r', h1, h2⟩ := ho
  exact peI (pe_frz (pe_op h1 ha hb)) fun σ H Q ⟨ρ, M, E, Qd, S, R, q, xo, k⟩ =>
    ⟨ρ, M, E, _, S, R, q, xo, fun v d M1 H1 e1 R1 r1 q1 => ⟨ρ, M1, E, _, S.ev e1, R1, q1, xo.later e1, fun w d2 M2 H2 e2 R2 r2 q2 =>
      h2 d d2 v w M2 H2 Qd Q R2 (r1.ev e2) r2 q2 fun z d M' H' e' R' r' q' => k z d M' H' ((e1.trans e2).trans e') R' r' q'⟩⟩
theorem de_cmp {op : CmpOp} {r : RD2} (ho : OpD X (compareOp op) r) (ha : PEd X a ta) (hb : PEd X b tb) (hm : behindInMarks op b = false := by first | exact nomark _ | rfl) : PEd X (.Compare a [op] [b] pos) (dOp r ta tb) := by
  obtain ⟨r', h1, h2⟩ := ho
  exact peI (pe_cmpR h1 ha hb hm) (lift_op h2)
theorem lift_test {t : DE} {te : TE} (h : ∀ σ H Q, LE X t σ H Q → te σ H Q) (σ : L2.St) (H : Hp) (Q : Bool → Hp → Prop) : LT X (dTest t) σ H Q → tTest te σ H Q := fun ⟨ρ, M, E, Qd, S, R, q, xo, k⟩ =>
  h σ H _ ⟨ρ, M, E, _, S, R, q, xo, fun v d M1 H1 e1 R1 r1 ⟨c, e, q1⟩ => by
    subst e
    exact ⟨c, r1, k c M1 H1 e1 R1 q1⟩⟩
theorem dt_cmp {op : CmpOp} {r : RD2} (ho : OpD X (compareOp op) r) (ha : PEd X a ta) (hb : PEd X b tb) (hm : behindInMarks op b = false := by first | exact nomark _ | rfl) : PTd X (.Compare a [op] [b] pos) (dTest (dOp r ta tb)) := by
  obtain ⟨r', h1, h2⟩ := ho
  exact ptI (pt_cmpR h1 ha hb hm) (lift_test (lift_op h2))
theorem de_un {op : UnaryOp} {r : RD1} (ho : UnD X (unaryOp op) r) (ha : PEd X a ta) : PEd X (.UnaryOp op a pos) (dUn r ta) := by
  obtain ⟨r', h1, h2⟩ := ho
  exact peI (pe_un h1 ha) fun σ H Q ⟨ρ, M, E, Qd, S, R, q, xo, k⟩ => ⟨ρ, M, E, _, S, R, q, xo, fun v d M1 H1 e1 R1 r1 q1 => h2 d v M1 H1 Qd Q R1 r1 q1 fun z d M' H' e' R' r' q' => k z d M' H' (e1.trans e') R' r' q'⟩
theorem dt_val (h : PEd X e ta) (he : ∀ whole, isTrue e X.env whole = (do let v ← whole; standAt e.pos; holding [v] (truthy v)) := by intro _; rfl) : PTd X e (dTest ta) :=
  ptI (pt_val h he) fun σ H Q ⟨ρ, M, E, Qd, S, R, q, xo, k⟩ => ⟨ρ, M, E, _, S, R, q, xo, fun v d M1 H1 e1 R1 r1 ⟨c, e, q1⟩ => by
    subst e
    exact ⟨c, r1, k c M1 H1 e1 R1 q1⟩⟩
theorem isN_eq {K : PySem.W.Frag} {H : Hp} {d : D} {v : V} (r : Rep K M H d v) : decide (v = V.non) = d.isN := by
  cases d with
  | non => cases r; rfl
  | bl _ => cases r; rfl
  | int _ => cases r; rfl
  | str _ => cases r; rfl
  | ref _ => obtain ⟨a, _, e⟩ := r; subst e; rfl
  | tup _ => obtain ⟨p, vs, e, _⟩ := r; subst e; rfl
  | lis _ => obtain ⟨p, vs, e, _⟩ := r; subst e; rfl
  | dct _ _ => obtain ⟨p, vs, o, e, _⟩ := r; subst e; rfl
theorem lift_isN (σ : L2.St) (H : Hp) (Q : VK) : LE X (dUn rIsN ta) σ H Q → tIsN (LE X ta) σ H Q := fun ⟨ρ, M, E, Qd, S, R, q, xo, k⟩ =>
  ⟨ρ, M, E, _, S, R, q, xo, fun v d M1 H1 e1 R1 r1 q1 => by dsimp only; rw [isN_eq r1]; exact k _ (.bl d.isN) M1 H1 e1 R1 rfl q1⟩
theorem lift_notN (σ : L2.St) (H : Hp) (Q : VK) : LE X (dUn rNotN ta) σ H Q → tNotN (LE X ta) σ H Q := fun ⟨ρ, M, E, Qd, S, R, q, xo, k⟩ =>
  ⟨ρ, M, E, _, S, R, q, xo, fun v d M1 H1 e1 R1 r1 q1 => by dsimp only; rw [isN_eq r1]; exact k _ (.bl (!d.isN)) M1 H1 e1 R1 rfl q1⟩
theorem de_isN {j pos'} (ha : PEd X a ta) : PEd X (.Compare a [.Is] [.Constant .none j pos'] pos) (dUn rIsN ta) := peI (pe_cmp (pc_isN ha) rfl) lift_isN
theorem de_notN {j pos'} (ha : PEd X a ta) : PEd X (.Compare a [.IsNot] [.Constant .none j pos'] pos) (dUn rNotN ta) := peI (pe_cmp (pc_notN ha) rfl) lift_notN
theorem dt_isN {j pos'} (ha : PEd X a ta) : PTd X (.Compare a [.Is] [.Constant .none j pos'] pos) (dTest (dUn rIsN ta)) := ptI (pt_cmp (pc_isN ha) rfl) (lift_test lift_isN)
theorem dt_notN {j pos'} (ha : PEd X a ta) : PTd X (.Compare a [.IsNot] [.Constant .none j pos'] pos) (dTest (dUn rNotN ta)) := ptI (pt_cmp (pc_notN ha) rfl) (lift_test lift_notN)
theorem lift_chain {r r2 : RD2} {r' r2' : R2} (h : ∀ (x y : D) (v w : V) (M : MB) (H : Hp) (Qd : DQ) (Q : VK), MR X.K X.mg M H → Rep X.K M H x v → Rep X.K M H y w → r x y M.m Qd →
    (∀ z d M' H', Ev M H M' H' → MR X.K X.mg M' H' → Rep X.K M' H' d z → Qd d M'.m → Q z H') → r' v w H Q)
    (h' : ∀ (x y : D) (v w : V) (M : MB) (H : Hp) (Qd : DQ) (Q : VK), MR X.K X.mg M H → Rep X.K M H x v → Rep X.K M H y w → r2 x y M.m Qd →
    (∀ z d M' H', Ev M H M' H' → MR X.K X.mg M' H' → Rep X.K M' H' d z → Qd d M'.m → Q z H') → r2' v w H Q) (σ : L2.St) (H : Hp) (Q : VK) : LE X (dChain r r2 ta tb tc) σ H Q → tChain r' r2' (LE X ta) (LE X tb) (LE X tc) σ H Q := fun ⟨ρ, M, E, Qd, S, R, q, xo, k⟩ =>
  ⟨ρ, M, E, _, S, R, q, xo, fun v d M1 H1 e1 R1 r1 q1 => ⟨ρ, M1, E, _, S.ev e1, R1, q1, xo.later e1, fun w d2 M2 H2 e2 R2 r2 q2 =>
    h d d2 v w M2 H2 _ _ R2 (r1.ev e2) r2 q2 fun z d3 M3 H3 e3 R3 r3 ⟨c, ec, q3⟩ => by
      subst ec
      refine ⟨c, r3, ?_⟩
      cases c with
      | false => exact k _ (.bl false) M3 H3 ((e1.trans e2).trans e3) R3 rfl q3
      | true => exact ⟨ρ, M3, E, _, S.ev ((e1.trans e2).trans e3), R3, q3, xo.later ((e1.trans e2).trans e3), fun u d4 M4 H4 e4 R4 r4 q4 => h' d2 d4 w u M4 H4 Qd Q R4 (r2.ev (e3.trans e4)) r4 q4 fun z d M' H' e' R' r' q' => k z d M' H' ((((e1.trans e2).trans e3).trans e4).trans e') R' r' q'⟩⟩⟩
theorem de_chain {op op' : CmpOp} {r r' : RD2} (ho : OpD X (compareOp op) r) (ho' : OpD X (compareOp op') r') (ha : PEd X a ta) (hb : PEd X b tb) (hc : PEd X c tc)
    (hm : lastMarks [op, op'] [b, c] = false := by with_unfolding_all rfl) : PEd X (.Compare a [op, op'] [b, c] pos) (dChain r r' ta tb tc) := by
  obtain ⟨r1, h1, h2⟩ := ho
  obtain ⟨r2, h3, h4⟩ := ho'
  exact peI (pe_chain h1 h3 ha hb hc hm) (lift_chain h2 h4)
theorem dt_chain {op op' : CmpOp} {r r' : RD2} (ho : OpD X (compareOp op) r) (ho' : OpD X (compareOp op') r') (ha : PEd X a ta) (hb : PEd X b tb) (hc : PEd X c tc)
    (hm : lastMarks [op, op'] [b, c] = false := by with_unfolding_all rfl) : PTd X (.Compare a [op, op'] [b, c] pos) (dTest (dChain r r' ta tb tc)) := by
  obtain ⟨r1, h1, h2⟩ := ho
  obtain ⟨r2, h3, h4⟩ := ho'
  exact ptI (pt_chain h1 h3 ha hb hc hm) (lift_test (lift_chain h2 h4))

/-! ### tests -/
theorem dw_and1 (ha : PTd X a tA) : PWd X (.BoolOp .And [a] pos) tA := pw_and1 ha
theorem dw_or1 (ha : PTd X a tA) : PWd X (.BoolOp .Or [a] pos) tA := pw_or1 ha
theorem dw_and (ha : PTd X a tA) (hb : PWd X (.BoolOp .And (b :: rest) pos) tB') : PWd X (.BoolOp .And (a :: b :: rest) pos) (dAnd tA tB') :=
  pwI (pw_and ha hb) fun σ H Q ⟨ρ, M, E, Qd, S, R, q, xo, k⟩ => ⟨ρ, M, E, _, S, R, q, xo, fun c M1 H1 e1 R1 q1 => by
    cases c with
    | false => exact k false M1 H1 e1 R1 q1
    | true => exact ⟨ρ, M1, E, _, S.ev e1, R1, q1, xo.later e1, fun b M' H' e' R' q' => k b M' H' (e1.trans e') R' q'⟩⟩
theorem dw_or (ha : PTd X a tA) (hb : PWd X (.BoolOp .Or (b :: rest) pos) tB') : PWd X (.BoolOp .Or (a :: b :: rest) pos) (dOr tA tB') :=
  pwI (pw_or ha hb) fun σ H Q ⟨ρ, M, E, Qd, S, R, q, xo, k⟩ => ⟨ρ, M, E, _, S, R, q, xo, fun c M1 H1 e1 R1 q1 => by
    cases c with
    | true => exact k true M1 H1 e1 R1 q1
    | false => exact ⟨ρ, M1, E, _, S.ev e1, R1, q1, xo.later e1, fun b M' H' e' R' q' => k b M' H' (e1.trans e') R' q'⟩⟩
theorem dt_bool (h : PWd X e tA) : PTd X e tA := PW.pt h
theorem dt_not (ha : PTd X a tA) : PTd X (.UnaryOp .Not a pos) (dNot tA) := ptI (pt_not ha) fun σ H Q ⟨ρ, M, E, Qd, S, R, q, xo, k⟩ => ⟨ρ, M, E, _, S, R, q, xo, fun c M1 H1 e1 R1 q1 => k _ M1 H1 e1 R1 q1⟩
theorem de_one {op} (h : PEd X a ta) : PEd X (.BoolOp op [a] pos) ta := pe_one h
theorem de_and (ha : PEd X a ta) (hb : PEd X (.BoolOp .And (b :: rest) pos) tb) : PEd X (.BoolOp .And (a :: b :: rest) pos) (dAndV ta tb) :=
  peI (pe_and ha hb) fun σ H Q ⟨ρ, M, E, Qd, S, R, q, xo, k⟩ => ⟨ρ, M, E, _, S, R, q, xo, fun v d M1 H1 e1 R1 r1 ⟨c, ec, q1⟩ => by
    subst ec
    refine ⟨c, r1, ?_⟩
    cases c with
    | false => exact k _ (.bl false) M1 H1 e1 R1 rfl q1
    | true => exact ⟨ρ, M1, E, _, S.ev e1, R1, q1, xo.later e1, fun z d M' H' e' R' r' q' => k z d M' H' (e1.trans e') R' r' q'⟩⟩
theorem de_or (ha : PEd X a ta) (hb : PEd X (.BoolOp .Or (b :: rest) pos) tb) : PEd X (.BoolOp .Or (a :: b :: rest) pos) (dOrV ta tb) :=
  peI (pe_or ha hb) fun σ H Q ⟨ρ, M, E, Qd, S, R, q, xo, k⟩ => ⟨ρ, M, E, _, S, R, q, xo, fun v d M1 H1 e1 R1 r1 ⟨c, ec, q1⟩ => by
    subst ec
    refine ⟨c, r1, ?_⟩
    cases c with
    | true => exact k _ (.bl true) M1 H1 e1 R1 rfl q1
    | false => exact ⟨ρ, M1, E, _, S.ev e1, R1, q1, xo.later e1, fun z d M' H' e' R' r' q' => k z d M' H' (e1.trans e') R' r' q'⟩⟩
theorem de_not (ha : PEd X a ta) : PEd X (.UnaryOp .Not a pos) (dNotV ta) := peI (pe_not ha) fun σ H Q ⟨ρ, M, E, Qd, S, R, q, xo, k⟩ => ⟨ρ, M, E, _, S, R, q, xo, fun v d M1 H1 e1 R1 r1 ⟨c, ec, q1⟩ => by
  subst ec
  exact ⟨c, r1, k _ (.bl (!c)) M1 H1 e1 R1 rfl q1⟩⟩
theorem de_ifExp (hc : PTd X c tA) (ha : PEd X a ta) (hb : PEd X b tb) : PEd X (.IfExp c a b pos) (dIf tA ta tb) := peI (pe_ifExp hc ha hb) fun σ H Q ⟨ρ, M, E, Qd, S, R, q, xo, k⟩ => ⟨ρ, M, E, _, S, R, q, xo, fun c M1 H1 e1 R1 q1 => by
  cases c with
  | true => exact ⟨ρ, M1, E, _, S.ev e1, R1, q1, xo.later e1, fun z d M' H' e' R' r' q' => k z d M' H' (e1.trans e') R' r' q'⟩
  | false => exact ⟨ρ, M1, E, _, S.ev e1, R1, q1, xo.later e1, fun z d M' H' e' R' r' q' => k z d M' H' (e1.trans e') R' r' q'⟩⟩
end
end DM

/-! DL, the operations: which operations on data the model has. -/
namespace DM
open PySem PySem.Spec L2
set_option maxHeartbeats 1000000 in
theorem tuple_mul1 (l : Addr) (items : Array Value) (n : Nat) (sl : Array (Option Value)) (dd : Option Addr) (u : Tok) :
    Meets (Builtin.«tuple.__mul__» ⟨[.ref l, .int 1 u], []⟩) (fun _ R s => s.heap.get? l = some { cls := .type "tuple", dict := dd, data := .seq items n, slots := sl } ∧ R (.ok (.ret (Value.ref l))) s) :=
  .of_wp fun prog w A R s h => by
    obtain ⟨hp, g, d, tk, os⟩ := s
    obtain ⟨hl, h⟩ := h
    have f1 := AutoSeq1.idx_int
    wp_walk using wpAny_loadPart' hl
    exact ⟨_, rfl, h⟩
section
variable {X : Cx}
set_option maxHeartbeats 1000000 in
theorem op_rep1T : OpR X (binaryOp .Mult) (fun x y H Q => ∃ l xs, x = .ref l ∧ y = .int 1 ∧ SqT X.K H l xs ∧ Q (.ref l) H) := by
  intro pins s σ H x y v u Q I rx ry h
  obtain ⟨l, xs, rfl, rfl, hT, q⟩ := h
  cases rx
  obtain ⟨t, rfl⟩ := ry
  obtain ⟨its, r, ⟨⟨cls, dd, data, sl⟩, ho, hc, n, hd⟩, hs⟩ := I.tuple hT
  simp only at hc hd
  subst hc hd
  refine wpAny_binaryOp_repeat_ref (T := "tuple") (U := "int") (by decide) ⟨_, ho, rfl⟩ (fun s' => typeIs_int s' 1 t) noFill_tuple_mul F.fills_int_mul F.slot_int_rmul repeat_tuple F.slot_int_index.lookup
    (call_meets F.slot_int_rmul (typeIs_int s 1 t) F.entry_int_rmul (F.args_int_rmul_2 _ _) (int_rmul_tuple 1 t l its.toArray n dd sl)
      ⟨ho, rfl, ⟨_, ho, rfl⟩, call_meets F.slot_tuple_mul ⟨_, ho, rfl⟩ F.entry_tuple_mul (F.args_tuple_mul_2 _ _) (tuple_mul1 l its.toArray n sl dd t) ⟨ho, ?_⟩⟩)
  exact ⟨.ref l, H, I, rfl, q⟩
/-- two ints -/
theorem od_I {f : Value → Value → Sem Value} {C : Int → Int → Prop} {C' : Int → Int → Prop} {g : Int → Int → D} {g' : Int → Int → V} (ho : OpR X f (L2.rI C' g')) (hc : ∀ i j, C i j → C' i j) (hg : ∀ i j, C i j → ∀ M H, Rep X.K M H (g i j) (g' i j)) : OpD X f (rI C g) :=
  ⟨_, ho, fun x y v w M H Qd Q R rx ry ⟨i, j, ex, ey, c, q⟩ k => by
    subst ex; subst ey
    exact ⟨i, j, rx, ry, hc i j c, k _ (g i j) M H .refl R (hg i j c M H) q⟩⟩
theorem od_I0 {f : Value → Value → Sem Value} {g : Int → Int → D} {g' : Int → Int → V} (ho : OpR X f (L2.rI0 g')) (hg : ∀ i j M H, Rep X.K M H (g i j) (g' i j)) : OpD X f (rI (fun _ _ => True) g) :=
  ⟨_, ho, fun x y v w M H Qd Q R rx ry ⟨i, j, ex, ey, c, q⟩ k => by
    subst ex; subst ey
    exact ⟨i, j, rx, ry, k _ (g i j) M H .refl R (hg i j M H) q⟩⟩
theorem OpD.or {f : Value → Value → Sem Value} {r r' : RD2} (h : OpD X f r) (h' : OpD X f r') : OpD X f (fun x y M Q => r x y M Q ∨ r' x y M Q) := by
  obtain ⟨a, h1, h2⟩ := h
  obtain ⟨b, h3, h4⟩ := h'
  refine ⟨_, h1.or h3, fun x y v w M H Qd Q R rx ry q k => ?_⟩
  rcases q with q | q
  · exact .inl (h2 x y v w M H Qd Q R rx ry q k)
  · exact .inr (h4 x y v w M H Qd Q R rx ry q k)
theorem od_sub : OpD X (binaryOp .Sub) rSub := od_I0 op_sub fun _ _ _ _ => rfl
theorem od_add : OpD X (binaryOp .Add) rAdd := od_I0 op_add fun _ _ _ _ => rfl
theorem nat64 {i : Int} (h : i.natAbs < 2 ^ 64) : -(2 ^ 64) < i ∧ i < 2 ^ 64 := by omega
theorem od_mulI : OpD X (binaryOp .Mult) rMulI := od_I op_mul (fun i j c => by rcases c with c | c <;> first | exact .inl (nat64 c) | exact .inr (nat64 c)) fun _ _ _ _ _ => rfl
theorem od_div : OpD X (binaryOp .FloorDiv) rDiv := od_I op_fdivW (fun i j c => ⟨c.1, by
  have h := c.2
  have : j.natAbs < 2 ^ 400 := by
    have e := Int.natAbs_of_nonneg (Int.le_of_lt c.1)
    exact Int.ofNat_lt.mp (by rw [e]; exact h)
  exact Nat.lt_of_lt_of_le (PySem.Flt.log2_lt_of (by decide : 0 < 400) this) (by decide)⟩) fun _ _ _ _ _ => rfl
theorem od_mod : OpD X (binaryOp .Mod) rMod := od_I op_mod (fun i j c => c) fun _ _ _ _ _ => rfl
theorem od_pow : OpD X (binaryOp .Pow) rPow := od_I op_pow (fun i j c => ⟨c.1, by have := c.2.1; omega, c.2.2⟩) fun _ _ _ _ _ => rfl
theorem od_lt : OpD X (compareOp .Lt) rLt := od_I0 op_lt fun _ _ _ _ => rfl
theorem od_le : OpD X (compareOp .LtE) rLe := od_I0 op_le fun _ _ _ _ => rfl
theorem od_gt : OpD X (compareOp .Gt) rGt := od_I0 op_gt fun _ _ _ _ => rfl
theorem od_ge : OpD X (compareOp .GtE) rGe := od_I0 op_ge fun _ _ _ _ => rfl
theorem ud_neg : UnD X (unaryOp .USub) rNeg := ⟨_, un_neg, fun x v M H Qd Q R rx ⟨i, e, q⟩ k => by
  subst e
  exact ⟨i, rx, k _ (.int (-i)) M H .refl R rfl q⟩⟩

/-! ### == -/
mutual
theorem Sees.dp {K : PySem.W.Frag} {mg : Str → Option Value} {M : MB} {H : Hp} (R : MR K mg M H) : ∀ {x : D} {p : PyData} {v : V}, Sees M.m x p → Rep K M H x v → Dp K H v p
  | _, _, _, .non, r => by cases r; exact .non
  | _, _, _, .bl b, r => by cases r; exact .bl b
  | _, _, _, .int i, r => by cases r; exact .int i
  | _, _, _, .str x, r => by cases r; exact .str x
  | _, _, _, .tup h, ⟨p, vs, e, h1, h2⟩ => by subst e; exact .tup h1 (SeesL.dp R h h2)
  | _, _, _, .lis h, ⟨p, vs, e, h1, h2⟩ => by subst e; exact .lst h1.e.l (SeesL.dp R h h2)
  | _, _, _, .lst h hl, ⟨a, ha, e⟩ => by
    subst e
    obtain ⟨vs, h1, h2⟩ := R.at_ _ _ _ ha h
    exact .lst (SqL.of h1) (SeesL.dp R hl h2)
theorem SeesL.dp {K : PySem.W.Frag} {mg : Str → Option Value} {M : MB} {H : Hp} (R : MR K mg M H) : ∀ {l : List D} {ps : List PyData} {vs : List V}, SeesL M.m l ps → Reps K M H l vs → DpAll K H vs ps
  | _, _, _, .nil, r => by cases r; exact .nil
  | _, _, _, .cons h hl, ⟨v, r, e, h1, h2⟩ => by subst e; exact .cons (Sees.dp R h h1) (SeesL.dp R hl h2)
end
theorem OpD.imp {f : Value → Value → Sem Value} {r r' : RD2} (h : OpD X f r) (i : ∀ x y M Q, r' x y M Q → r x y M Q) : OpD X f r' := by
  obtain ⟨a, h1, h2⟩ := h
  exact ⟨a, h1, fun x y v w M H Qd Q R rx ry q k => h2 x y v w M H Qd Q R rx ry (i _ _ _ _ q) k⟩
theorem od_eq (hu : X.A.units + 64 < cLine) : OpD X (compareOp .Eq) rEq := by
  refine ⟨fun x y H Q => ∃ d e, Dp X.K H x d ∧ Dp X.K H y e ∧ d.plain = true ∧ e.plain = true ∧ d.depth ≤ 60 ∧ Q (.bl (PyData.eqv d e)) H, ?_, fun x y v w M H Qd Q R rx ry ⟨p, q, h1, h2, h3, h4, h5, g⟩ k =>
    ⟨p, q, h1.dp R rx, h2.dp R ry, h3, h4, h5, k _ (.bl _) M H .refl R rfl g⟩⟩
  intro pins s σ H x y v u Q I rx ry ⟨d, e, hd, he, sd, se, hk, q⟩
  obtain ⟨as, r1⟩ := Dp.reads I d x v hd rx
  obtain ⟨bs, r2⟩ := Dp.reads I e y u he ry
  exact SeqAt.eq_plain r1 r2 sd se (Nat.lt_of_le_of_lt (Nat.add_le_add_left (Nat.le_trans (Nat.min_le_left _ _) (Nat.le_trans hk (by decide : 60 ≤ 64))) _) hu) ⟨.bl _, H, I, rfl, q⟩
theorem od_ne (hu : X.A.units + 64 < cLine) : OpD X (compareOp .NotEq) rNe := by
  refine ⟨fun x y H Q => ∃ d e, Dp X.K H x d ∧ Dp X.K H y e ∧ d.plain = true ∧ e.plain = true ∧ d.depth ≤ 60 ∧ Q (.bl (!PyData.eqv d e)) H, ?_, fun x y v w M H Qd Q R rx ry ⟨p, q, h1, h2, h3, h4, h5, g⟩ k =>
    ⟨p, q, h1.dp R rx, h2.dp R ry, h3, h4, h5, k _ (.bl _) M H .refl R rfl g⟩⟩
  intro pins s σ H x y v u Q I rx ry ⟨d, e, hd, he, sd, se, hk, q⟩
  obtain ⟨as, r1⟩ := Dp.reads I d x v hd rx
  obtain ⟨bs, r2⟩ := Dp.reads I e y u he ry
  exact SeqAt.ne_plain r1 r2 sd se (Nat.lt_of_le_of_lt (Nat.add_le_add_left (Nat.le_trans (Nat.min_le_left _ _) (Nat.le_trans hk (by decide : 60 ≤ 64))) _) hu) ⟨.bl _, H, I, rfl, q⟩

/-! ### repr -/
theorem cd_repr (hg : X.A.guards = some []) (hu : X.A.units + 64 < cLine) : CallD X (.builtin "repr") cRepr := by
  refine ⟨fun vs H Q => ∃ v p, vs = [v] ∧ Dp X.K H v p ∧ p.showable = true ∧ p.hasDict = false ∧ p.shown.length ≤ sizeLine ∧ p.depth ≤ 60 ∧ Q (.str p.shown) H, ?_, fun ds vs M H Qd Q R rs ⟨x, p, e, h1, h2, h3, h4, h5, q⟩ k => ?_⟩
  · intro pins s σ H xs us Q I r ⟨v, p, e, h1, h2, h3, h4, h5, q⟩
    subst e
    obtain ⟨u, eu, ru⟩ := vals1 r
    subst eu
    obtain ⟨as, rd⟩ := Dp.reads I p v u h1 ru
    have fin : ∀ tk, EP X pins σ Q (.str p.shown s.toks) { s with toks := tk } := fun tk => ⟨.str _, H, I.tok _, ⟨_, rfl⟩, q⟩
    cases h1 with
    | non => cases (show u = Value.none from ru); exact P.repr_of_none (fin _)
    | bl b => cases (show u = Value.bool b from ru); exact P.repr_of_bool (by cases b <;> exact fin _)
    | int i => obtain ⟨t, rfl⟩ := (show ∃ t, u = Value.int i t from ru); exact P.repr_of_int (of_decide_eq_true h2) (fin _)
    | str y => obtain ⟨t, rfl⟩ := (show ∃ t, u = Value.str y t from ru); exact P.repr_of_str (fin _) h4
    | @lst a xs ds ha hb =>
      cases (show u = Value.ref a from ru)
      exact repr_of_reads' rd h2 (fun z => by rw [h3] at z; cases z) hg (by omega) (fun _ _ z => z) (fun h' u tk kk => ⟨.str _, H, I.kept kk, ⟨u, rfl⟩, q⟩) h4
    | @tup a xs ds ha hb =>
      cases (show u = Value.ref a from ru)
      exact repr_of_reads' rd h2 (fun z => by rw [h3] at z; cases z) hg (by omega) (fun _ _ z => z) (fun h' u tk kk => ⟨.str _, H, I.kept kk, ⟨u, rfl⟩, q⟩) h4
  · subst e
    obtain ⟨v, r, e, rv, er⟩ := rs
    subst e; cases er
    exact ⟨v, p, rfl, h1.dp R rv, h2, h3, h4, h5, k _ (.str _) M H .refl R rfl q⟩

/-! ### sequences -/
theorem SqF.l {K : PySem.W.Frag} {H : Hp} {a : Addr} {xs : List V} (h : SqF K H a xs) : SqL K H a xs := h.e.l
theorem seqD_ref {M : MH} {k : Nat} {l : List D} (h : seqD M (.ref k) = some l) : M[k]? = some (some (.lst l)) := by
  have h' : (match M[k]? with
    | some (some (.lst l)) => some l
    | _ => none) = some l := h
  split at h'
  · cases h'; assumption
  · cases h'
theorem sq_of {K : PySem.W.Frag} {mg : Str → Option Value} {M : MB} {H : Hp} {x : D} {v : V} {l : List D} (R : MR K mg M H) (r : Rep K M H x v) (h : seqD M.m x = some l) : ∃ p vs, v = .ref p ∧ Reps K M H l vs ∧ ((x = .tup l ∧ SqT K H p vs) ∨ ((∀ l', x ≠ .tup l') ∧ SqE K H p vs)) := by
  cases x with
  | tup m => cases h; obtain ⟨p, vs, e, h1, h2⟩ := r; exact ⟨p, vs, e, h2, .inl ⟨rfl, h1⟩⟩
  | lis m => cases h; obtain ⟨p, vs, e, h1, h2⟩ := r; exact ⟨p, vs, e, h2, .inr ⟨by simp, h1.e⟩⟩
  | ref k => obtain ⟨a, ha, e⟩ := r; obtain ⟨vs, h1, h2⟩ := R.at_ _ _ _ ha (seqD_ref h); exact ⟨a, vs, e, h2, .inr ⟨by simp, .inl (.inl h1)⟩⟩
  | _ => cases h
theorem ixN_D {n : Nat} {i : Int} {j : Nat} (h : ixD n i = some j) : ixN n i = some j ∧ j < n := by
  unfold ixD at h
  unfold ixN
  by_cases h0 : 0 ≤ i
  · rw [if_pos h0] at h ⊢
    by_cases h1 : i < n
    · rw [if_pos h1] at h ⊢; cases h; exact ⟨rfl, by omega⟩
    · rw [if_neg h1] at h; cases h
  · rw [if_neg h0] at h ⊢
    by_cases h1 : 0 ≤ i + n
    · rw [if_pos h1] at h; cases h; rw [if_pos (by omega)]; exact ⟨rfl, by omega⟩
    · rw [if_neg h1] at h; cases h
def IxD (X : Cx) (r : RD2) : Prop := ∃ r' : R2, IxR X r' ∧ ∀ (x y : D) (v w : V) (M : MB) (H : Hp) (Qd : DQ) (Q : VK), MR X.K X.mg M H → Rep X.K M H x v → Rep X.K M H y w → r x y M.m Qd →
  (∀ z d M' H', Ev M H M' H' → MR X.K X.mg M' H' → Rep X.K M' H' d z → Qd d M'.m → Q z H') → r' v w H Q
theorem ix_any : IxR X (fun x y H Q => rIxT X.K x y H Q ∨ rIxL X.K x y H Q) := by
  intro value slice pins s σ H x y v u Q I rx ry h
  rcases h with h | h
  · exact ix_tup value slice pins s σ H x y v u Q I rx ry h
  · exact ix_list value slice pins s σ H x y v u Q I rx ry h
theorem xd_seq : IxD X rIx := ⟨_, ix_any, fun x y v w M H Qd Q R rx ry ⟨l, i, h1, h2, j, d, h3, h4, q⟩ k => by
  subst h2
  obtain ⟨p, vs, e, rs, hs⟩ := sq_of R rx h1
  subst e
  obtain ⟨z, g1, g2⟩ := rs.get h4
  have at' : atI vs i = some z := by
    unfold atI
    rw [← rs.len, (ixN_D h3).1]
    exact g1
  have fin := k z d M H .refl R g2 q
  rcases hs with ⟨_, hs⟩ | ⟨_, hs⟩
  · exact .inl ⟨p, vs, i, z, rfl, ry, hs, at', fin⟩
  · exact .inr ⟨p, vs, i, z, rfl, ry, hs.l, at', fin⟩⟩
theorem de_ix {a b : Expr} {ta tb : DE} {pos : Pos} {r : RD2} (hr : IxD X r) (ha : PEd X a ta) (hb : PEd X b tb) (hs : PlainIx b := by exact fun _ _ => rfl) : PEd X (.Subscript a b pos) (dOp r ta tb) := by
  obtain ⟨r', h1, h2⟩ := hr
  exact peI (pe_ix h1 ha hb hs) (lift_op h2)
theorem sIx_nn (n : Nat) {i : Int} (h : 0 ≤ i) (d : Nat) : HT.sIx n d (some i) = min i.toNat n := by
  show (if i < 0 then (i + (n : Int)).toNat else min i.toNat n) = _
  rw [if_neg (by omega)]
theorem cut_eq {α : Type} (xs : List α) (lo hi : Option Int) (h1 : ∀ i, lo = some i → 0 ≤ i) (h2 : ∀ i, hi = some i → 0 ≤ i) :
    (xs.drop (HT.sIx xs.length 0 lo)).take (HT.sIx xs.length xs.length hi - HT.sIx xs.length 0 lo) = cutD xs (lo.map Int.toNat) (hi.map Int.toNat) := by
  have el : HT.sIx xs.length 0 lo = min ((lo.map Int.toNat).getD 0) xs.length := by
    cases lo with
    | none => simp [HT.sIx]
    | some i => rw [sIx_nn _ (h1 i rfl)]; rfl
  have eh : HT.sIx xs.length xs.length hi = min ((hi.map Int.toNat).getD xs.length) xs.length := by
    cases hi with
    | none => simp [HT.sIx]
    | some i => rw [sIx_nn _ (h2 i rfl)]; rfl
  rw [el, eh]
  unfold cutD
  rw [List.drop_take]
  apply List.ext_getElem?
  intro j
  simp only [List.getElem?_take, List.getElem?_drop]
  generalize (lo.map Int.toNat).getD 0 = a
  generalize (hi.map Int.toNat).getD xs.length = b
  by_cases ha : a ≤ xs.length
  · rw [Nat.min_eq_left ha]
    by_cases hb : b ≤ xs.length
    · rw [Nat.min_eq_left hb]
    · by_cases h : j < xs.length - a
      · rw [if_pos (by omega), if_pos (by omega)]
      · rw [if_neg (by omega)]
        split
        · rw [List.getElem?_eq_none (by omega)]
        · rfl
  · rw [if_neg (by omega)]
    split
    · rw [List.getElem?_eq_none (by omega)]
    · rfl
theorem Reps.cut {K : PySem.W.Frag} {H : Hp} {l : List D} {vs : List V} (r : Reps K M H l vs) (lo hi : Option Int) (h1 : ∀ i, lo = some i → 0 ≤ i) (h2 : ∀ i, hi = some i → 0 ≤ i) :
    Reps K M H (cutD l (lo.map Int.toNat) (hi.map Int.toNat)) (cutV vs lo hi) := by
  rw [← cut_eq l lo hi h1 h2]
  unfold cutV
  rw [r.len]
  exact (r.drop _).take _
def LO (X : Cx) (t : DO) : TO := fun σ H Q => ∃ ρ M E Qd, Slots X.K M H ρ σ ∧ MR X.K X.mg M H ∧ t ρ M.m E Qd ∧ XOk X M σ H E ∧ ∀ i M' H', Ev M H M' H' → MR X.K X.mg M' H' → Qd i M'.m → Q i H'
theorem do_none : PO X none (LO X dNone) := ⟨fun pins s σ H Q I ⟨ρ, M, E, Qd, S, R, q, xo, k⟩ => po_none.run pins s σ H Q I (k none M H .refl R q)⟩
theorem do_some {e : Expr} {te : DE} (h : PEd X e te) : PO X (some e) (LO X (dSome te)) := ⟨fun pins s σ H Q I ⟨ρ, M, E, Qd, S, R, q, xo, k⟩ => (po_some h).run pins s σ H Q I ⟨ρ, M, E, _, S, R, q, xo, fun v d M1 H1 e1 R1 r1 ⟨i, e, q1⟩ => by
  subst e
  exact ⟨i, r1, k (some i) M1 H1 e1 R1 q1⟩⟩⟩
theorem de_slice {mk : MkR} (hm : MkOk mk) {e : Expr} {lo hi : Option Expr} {te : DE} {tl th : DO} {p2 pos : Pos} (he : PEd X e te) (hl : PO X lo (LO X tl)) (hh : PO X hi (LO X th)) :
    PEd X (.Subscript e (.Slice lo hi none p2) pos) (dSl mk te tl th) :=
  peI (pe_frz (pe_slice (sl_tupA.or sl_list) he hl hh)) fun σ H Q ⟨ρ, M, E, Qd, S, R, q, xo, k⟩ => ⟨ρ, M, E, _, S, R, q, xo, fun v d M1 H1 e1 R1 r1 q1 => ⟨ρ, M1, E, _, S.ev e1, R1, q1, xo.later e1, fun i M2 H2 e2 R2 q2 =>
    ⟨ρ, M2, E, _, S.ev (e1.trans e2), R2, q2, xo.later (e1.trans e2), fun j M3 H3 e3 R3 ⟨p1, p2, q3⟩ => by
      have r3 := r1.ev (e2.trans e3)
      rcases q3 with ⟨l, e, q3⟩ | ⟨l, hn, hx, q3⟩
      · subst e
        obtain ⟨a, vs, ea, ht, rs⟩ := r3
        subst ea
        refine .inl ⟨a, vs, rfl, ht, fun ⟨z1, z2⟩ => ?_, fun _ p n => ?_⟩
        · have hc := rs.cut i j p1 p2
          have : cutV vs i j = vs := by unfold cutV; rw [z1, z2]; simp
          rw [this] at hc
          exact .inl <| k _ (.tup (cutD l (i.map Int.toNat) (j.map Int.toNat))) M3 H3 ((e1.trans e2).trans e3) R3 ⟨a, vs, rfl, ht, hc⟩ q3
        · exact .inl <| k _ (.tup (cutD l (i.map Int.toNat) (j.map Int.toNat))) M3 (upd H3 p (.tup (cutV vs i j))) (((e1.trans e2).trans e3).trans (.new n)) (R3.new n) ⟨p, _, rfl, sq_new, (rs.cut i j p1 p2).ev (Ev.new (M := M3) n)⟩ q3
      · obtain ⟨a, vs, ea, rs, hl⟩ := sq_of R3 r3 hx
        subst ea
        rcases hl with ⟨e, _⟩ | ⟨_, hl⟩
        · exact absurd e (hn l)
        · exact .inr ⟨a, vs, rfl, hl.l, fun p n => hm.new R3 n trivial (o := .lst (cutD l (i.map Int.toNat) (j.map Int.toNat))) ⟨_, upd_same, (rs.cut i j p1 p2).ev (Ev.new (M := M3) n)⟩ q3 fun v d M' H' e' R' r' q' => k v d M' H' (((e1.trans e2).trans e3).trans e') R' r' q'⟩⟩⟩⟩

/-! ### calls of builtins -/
theorem de_callB {x : Str} {p pos : Pos} {e : Expr} {es : List Expr} {t : DA} {id : String} {r : BD} (hc : CallD X (.builtin id) r) (hm : X.mg x = none) (ha : PAd X (e :: es) t) (hv : bootBuiltins x = some (.builtin id) := by decide +kernel) (hg : Gl X x := by rfl)
    (hn : x ≠ "__name__" := by decide) (hdb : (x == ("__debug__" : Str)) = false := by decide) (he : starEach (e :: es) X.env = (false, eval e X.env) :: starEach es X.env := by rfl) (hpl : (backTo pos (starEach es X.env)).any (·.1) = false := by rfl) :
    PEd X (.Call (.Name x p) (e :: es) [] pos) (dCallB r t) := by
  obtain ⟨r', h1, h2⟩ := hc
  exact peI (pe_callB h1 hg hm hv ha hn hdb he hpl) fun σ H Q ⟨ρ, M, E, Qd, S, R, q, xo, k⟩ => ⟨ρ, M, E, _, S, R, q, xo, fun vs ds M1 H1 e1 R1 r1 q1 => h2 ds vs M1 H1 Qd Q R1 r1 q1 fun z d M' H' e' R' r' q' => k z d M' H' (e1.trans e') R' r' q'⟩
theorem de_callTy {x : Str} {p pos : Pos} {e : Expr} {es : List Expr} {t : DA} {T : String} {r : BD} (hc : CallD X (.type T) r) (hm : X.mg x = none) (ha : PAd X (e :: es) t) (hv : bootBuiltins x = some (.type T) := by decide +kernel) (hg : Gl X x := by rfl)
    (hn : x ≠ "__name__" := by decide) (hdb : (x == ("__debug__" : Str)) = false := by decide) (he : starEach (e :: es) X.env = (false, eval e X.env) :: starEach es X.env := by rfl) (hpl : (backTo pos (starEach es X.env)).any (·.1) = false := by rfl) :
    PEd X (.Call (.Name x p) (e :: es) [] pos) (dCallB r t) := by
  obtain ⟨r', h1, h2⟩ := hc
  exact peI (pe_callTy h1 hg hm hv ha hn hdb he hpl) fun σ H Q ⟨ρ, M, E, Qd, S, R, q, xo, k⟩ => ⟨ρ, M, E, _, S, R, q, xo, fun vs ds M1 H1 e1 R1 r1 q1 => h2 ds vs M1 H1 Qd Q R1 r1 q1 fun z d M' H' e' R' r' q' => k z d M' H' (e1.trans e') R' r' q'⟩
theorem de_callTyZ {x : Str} {p pos : Pos} {e : Expr} {es : List Expr} {t : DA} {T : String} {r : BD} (hc : CallZ X (.type T) r) (hm : X.mg x = none) (ha : PAd X (e :: es) t) (hv : bootBuiltins x = some (.type T) := by decide +kernel) (hg : Gl X x := by rfl)
    (hn : x ≠ "__name__" := by decide) (hdb : (x == ("__debug__" : Str)) = false := by decide) (he : starEach (e :: es) X.env = (false, eval e X.env) :: starEach es X.env := by rfl) (hpl : (backTo pos (starEach es X.env)).any (·.1) = false := by rfl) :
    PEd X (.Call (.Name x p) (e :: es) [] pos) (dCallB r t) := by
  obtain ⟨r', h1, h2⟩ := hc
  exact peI (pe_frz (pe_callTy h1 hg hm hv ha hn hdb he hpl)) fun σ H Q ⟨ρ, M, E, Qd, S, R, q, xo, k⟩ => ⟨ρ, M, E, _, S, R, q, xo, fun vs ds M1 H1 e1 R1 r1 q1 => h2 ds vs M1 H1 Qd Q R1 r1 q1 fun z d M' H' e' R' r' q' => k z d M' H' (e1.trans e') R' r' q'⟩
theorem Reps.one' {K : PySem.W.Frag} {H : Hp} {d : D} {vs : List V} (h : Reps K M H [d] vs) : ∃ v, vs = [v] ∧ Rep K M H d v := by
  obtain ⟨v, r, e, h1, h2⟩ := h
  cases h2
  exact ⟨v, e, h1⟩
theorem Reps.two' {K : PySem.W.Frag} {H : Hp} {d e : D} {vs : List V} (h : Reps K M H [d, e] vs) : ∃ v w, vs = [v, w] ∧ Rep K M H d v ∧ Rep K M H e w := by
  obtain ⟨v, r, e, h1, w, r', e', h2, h3⟩ := h
  cases h3; subst e'
  exact ⟨v, w, e, h1, h2⟩
theorem cd_list {mk : MkR} (hm : MkOk mk) : CallZ X (.type "list") (cList mk) := ⟨_, call_list_of, fun ds vs M H Qd Q R rs ⟨x, e, l, h, q⟩ k => by
  subst e
  obtain ⟨v, ev, rv⟩ := rs.one'
  subst ev
  obtain ⟨p, us, ep, ru, hs⟩ := sq_of R rv h
  subst ep
  exact ⟨p, us, rfl, hs.symm.imp (·.2.l) (·.2), fun a n => hm.new R n trivial (o := .lst l) ⟨_, upd_same, ru.ev (Ev.new (M := M) n)⟩ q k⟩⟩
theorem cd_tuple : CallD X (.type "tuple") cTuple := ⟨_, call_tuple_of, fun ds vs M H Qd Q R rs ⟨x, e, l, h, q⟩ k => by
  subst e
  obtain ⟨v, ev, rv⟩ := rs.one'
  subst ev
  obtain ⟨p, us, ep, ru, hs⟩ := sq_of R rv h
  subst ep
  rcases hs with ⟨_, hs⟩ | ⟨_, hs⟩
  · exact ⟨p, us, rfl, .inr ⟨hs, k _ (.tup l) M H .refl R ⟨p, us, rfl, hs, ru⟩ q⟩⟩
  · exact ⟨p, us, rfl, .inl ⟨hs.l, fun a n => k _ (.tup l) M _ (.new n) (R.new n) ⟨a, us, rfl, sq_new, ru.ev (Ev.new (M := M) n)⟩ q⟩⟩⟩
theorem cd_int : CallD X (.type "int") cIntB := ⟨_, call_int1, fun ds vs M H Qd Q R rs ⟨x, e, h⟩ k => by
  subst e
  rcases h with ⟨i, e, q⟩ | ⟨i, e, q⟩
  · subst e
    obtain ⟨v, ev, rv⟩ := rs.one'
    subst ev; cases rv
    exact .inl ⟨i, rfl, k _ (.int i) M H .refl R rfl q⟩
  · subst e
    obtain ⟨v, ev, rv⟩ := rs.one'
    subst ev; cases rv
    exact .inr ⟨i, rfl, k _ (.int _) M H .refl R rfl q⟩⟩
theorem cd_abs : CallD X (.builtin "abs") cAbs := ⟨_, call_abs, fun ds vs M H Qd Q R rs ⟨x, e, i, ei, q⟩ k => by
  subst e; subst ei
  obtain ⟨v, ev, rv⟩ := rs.one'
  subst ev; cases rv
  exact ⟨i, rfl, k _ (.int _) M H .refl R rfl q⟩⟩
theorem cd_max2 (hc : X.calm = true) : CallD X (.builtin "max") cMax2 := ⟨_, call_max2 hc, fun ds vs M H Qd Q R rs ⟨x, y, e, i, ei, j, ej, q⟩ k => by
  subst e; subst ei; subst ej
  obtain ⟨v, w, ev, rv, rw'⟩ := rs.two'
  subst ev; cases rv; cases rw'
  exact ⟨i, j, rfl, k _ (.int _) M H .refl R rfl q⟩⟩
theorem cd_min2 (hc : X.calm = true) : CallD X (.builtin "min") cMin2 := ⟨_, call_min2 hc, fun ds vs M H Qd Q R rs ⟨x, y, e, i, ei, j, ej, q⟩ k => by
  subst e; subst ei; subst ej
  obtain ⟨v, w, ev, rv, rw'⟩ := rs.two'
  subst ev; cases rv; cases rw'
  exact ⟨i, j, rfl, k _ (.int _) M H .refl R rfl q⟩⟩
theorem cd_len : CallD X (.builtin "len") cLen := ⟨_, call_len, fun ds vs M H Qd Q R rs ⟨x, e, l, h, q⟩ k => by
  subst e
  obtain ⟨v, ev, rv⟩ := rs.one'
  subst ev
  obtain ⟨p, us, ep, ru, hs⟩ := sq_of R rv h
  subst ep
  refine ⟨.ref p, us.length, rfl, ?_, k _ (.int _) M H .refl R rfl (by rw [← ru.len]; exact q)⟩
  rcases hs with ⟨_, hs⟩ | ⟨_, hs⟩
  · exact .inr ⟨us, hs, rfl⟩
  · exact .inl ⟨us, hs.l, rfl⟩⟩

/-! ### isinstance of a builtin type -/
theorem kit_non (T : Ty) : kitB "NoneType" T.nm = some false := by cases T <;> decide +kernel
theorem kit_bl (T : Ty) : kitB "bool" T.nm = some (match T with | .int => true | .bool => true | _ => false) := by cases T <;> decide +kernel
theorem kit_int (T : Ty) : kitB "int" T.nm = some (match T with | .int => true | _ => false) := by cases T <;> decide +kernel
theorem kit_str (T : Ty) : kitB "str" T.nm = some (match T with | .str => true | _ => false) := by cases T <;> decide +kernel
theorem kit_tup (T : Ty) : kitB "tuple" T.nm = some (match T with | .tuple => true | _ => false) := by cases T <;> decide +kernel
theorem kit_lis (T : Ty) : kitB "list" T.nm = some (match T with | .list => true | _ => false) := by cases T <;> decide +kernel
theorem kit_dic (T : Ty) : kitB "dict" T.nm = some (match T with | .dict => true | _ => false) := by cases T <;> decide +kernel
theorem ty_of {K : PySem.W.Frag} {mg : Str → Option Value} {M : MB} {H : Hp} (R : MR K mg M H) {x : D} {v : V} (r : Rep K M H x v) (T : Ty) {Q : DQ} (h : rIsi T x M.m Q) : ∃ t b, TyX K H v (.type t) ∧ kitB t T.nm = some b ∧ Q (.bl b) M.m := by
  obtain ⟨ho, q⟩ := h
  cases x with
  | non => cases r; exact ⟨"NoneType", _, .base .non, kit_non T, by cases T <;> exact q⟩
  | bl b => cases r; exact ⟨"bool", _, .base (.bl b), kit_bl T, by cases T <;> exact q⟩
  | int i => cases r; exact ⟨"int", _, .base (.int i), kit_int T, by cases T <;> exact q⟩
  | str i => cases r; exact ⟨"str", _, .base (.str i), kit_str T, by cases T <;> exact q⟩
  | ref k =>
    obtain ⟨a, ha, e⟩ := r
    subst e
    rcases ho with ⟨l, hm⟩ | ⟨l, hm⟩
    · obtain ⟨vs, h1, h2⟩ := R.at_ _ _ _ ha hm
      exact ⟨"list", _, .base (.lst h1), kit_lis T, by simp only [isTy, hm] at q; cases T <;> exact q⟩
    · obtain ⟨vs, h1, h2⟩ := R.at_ _ _ _ ha hm
      exact ⟨"dict", _, .base (.dK h1), kit_dic T, by simp only [isTy, hm] at q; cases T <;> exact q⟩
  | tup l =>
    obtain ⟨p, vs, e, h1, h2⟩ := r
    subst e
    refine ⟨"tuple", _, ?_, kit_tup T, by cases T <;> exact q⟩
    rcases h1 with (h1 | ⟨o, h1⟩) | ⟨o, its, n, h1, h3, _⟩
    · exact .base (.tup h1)
    · exact .fTuple h1
    · exact .kTuple h1 h3
  | lis l =>
    obtain ⟨p, vs, e, h1, h2⟩ := r
    subst e
    refine ⟨"list", _, ?_, kit_lis T, by cases T <;> exact q⟩
    rcases h1 with ⟨o, h1⟩ | ⟨its, n, h1, _⟩
    · exact .base (.frz h1)
    · exact .kList h1 rfl
  | dct ks l =>
    obtain ⟨p, vs, o, e, ⟨h1, _⟩, _⟩ := r
    subst e
    exact ⟨"dict", _, .fDict h1, kit_dic T, by cases T <;> exact q⟩
theorem de_isi (T : Ty) {e : Expr} {te : DE} {x y : Str} {p p' pos : Pos} (hi : X.mg "isinstance" = none) (hT : X.mg y = none) (he : PEd X e te) (hx : x = "isinstance" := by rfl) (hv : bootBuiltins y = some (.type T.nm) := by decide +kernel)
    (hg : Gl X x := by rfl) (hg' : Gl X y := by rfl) (hn : y ≠ "__name__" := by decide) (hd : (y == ("__debug__" : Str)) = false := by decide)
    (h1 : starEach [e, .Name y p'] X.env = (false, eval e X.env) :: starEach [.Name y p'] X.env := by rfl) (h2 : starEach [.Name y p'] X.env = (false, eval (.Name y p') X.env) :: starEach [] X.env := by rfl) (hpl : (backTo pos (starEach [.Name y p'] X.env)).any (·.1) = false := by rfl) :
    PEd X (.Call (.Name x p) [e, .Name y p'] [] pos) (dUn (rIsi T) te) := by
  subst hx
  refine peI (pe_callB call_isi hg hi (by decide +kernel) (pa_cons he (pa_cons (pe_bltn (v := .ty T.nm) hg' hT hv rfl hn hd) pa_nil h2) h1) (by decide) (by decide) h1 hpl) fun σ H Q ⟨ρ, M, E, Qd, S, R, q, xo, k⟩ => ?_
  refine ⟨ρ, M, E, _, S, R, q, xo, fun v d M1 H1 e1 R1 r1 q1 => ?_⟩
  obtain ⟨t, b, h1, h2, h3⟩ := ty_of R1 r1 T q1
  exact ⟨v, .ty T.nm, .type t, .type T.nm, b, rfl, .ty _, h1, kit_ty h2, k _ (.bl b) M1 H1 e1 R1 rfl h3⟩

/-! ### + of tuples, of lists -/
theorem Reps.ne {K : PySem.W.Frag} {H : Hp} {l : List D} {vs : List V} (r : Reps K M H l vs) : l = [] ↔ vs = [] := by
  have := r.len
  cases l <;> cases vs <;> simp_all
theorem od_plusI : OpD X (binaryOp .Add) rAdd := od_add
def rCatT : RD2 := fun x y M Q => ∃ l m, x = .tup l ∧ y = .tup m ∧ l.length + m.length ≤ sizeLine ∧ Q (.tup (l ++ m)) M
def rCatL (mk : MkR) : RD2 := fun x y M Q => ∃ l m, (∀ l', x ≠ .tup l') ∧ (∀ l', y ≠ .tup l') ∧ seqD M x = some l ∧ seqD M y = some m ∧ l.length + m.length ≤ sizeLine ∧ mk M (.lst (l ++ m)) Q
def rCatS : RD2 := fun x y M Q => ∃ l m, x = .str l ∧ y = .str m ∧ l.length + m.length ≤ sizeLine ∧ Q (.str (l ++ m)) M
theorem od_catT : OpD X (binaryOp .Add) rCatT := ⟨_, op_catA (X := X), fun x y v w M H Qd Q R rx ry ⟨l, m, ex, ey, z, q⟩ k => by
  subst ex; subst ey
  obtain ⟨p, vs, ev, h1, r1⟩ := rx
  obtain ⟨p2, ws, ew, h2, r2⟩ := ry
  subst ev; subst ew
  refine ⟨p, p2, vs, ws, rfl, rfl, h1, h2, by rw [← r1.len, ← r2.len]; exact z, fun e => ?_, fun e e' => ?_, fun e e' a n => ?_⟩
  · have := r1.ne.mpr e
    subst this
    exact k _ (.tup m) M H .refl R ⟨p2, ws, rfl, h2, r2⟩ q
  · have := r2.ne.mpr e'
    subst this
    exact k _ (.tup l) M H .refl R ⟨p, vs, rfl, h1, r1⟩ (by simpa using q)
  · exact k _ (.tup (l ++ m)) M _ (.new n) (R.new n) ⟨a, _, rfl, sq_new, (r1.app r2).ev (Ev.new (M := M) n)⟩ q⟩
/-- two lists -/
theorem op_catL : OpR X (binaryOp .Add) (fun x y H Q => ∃ a b xs ys, x = .ref a ∧ y = .ref b ∧ SqL X.K H a xs ∧ SqL X.K H b ys ∧ xs.length + ys.length ≤ sizeLine ∧ ∀ p, H p = none → Q (.ref p) (upd H p (.lst (xs ++ ys)))) := by
  intro pins s σ H x y v u Q I rx ry ⟨a, b, xs, ys, ex, ey, hx, hy, hz, q⟩
  subst ex; subst ey
  cases rx; cases ry
  obtain ⟨its, r1, ⟨⟨c1, d1, dt1, s1⟩, n1, p1, e1, e2, e3⟩, _⟩ := I.list hx
  obtain ⟨its2, r2, ⟨⟨c2, d2, dt2, s2⟩, n2, p2, g1, g2, g3⟩, _⟩ := I.list hy
  dsimp only at e1 e2 e3 g1 g2 g3
  subst e1 e2 e3 g1 g2 g3
  have eq : its.toArray ++ its2.toArray = (its ++ its2).toArray := by simp
  refine concat_meets ⟨_, p1, rfl⟩ ⟨_, p2, rfl⟩ noFill_list_add seq_list_add PySem.F.slot_list_add PySem.F.entry_list_add (PySem.F.args_list_add_2 _ _)
    (PyProof.Rows.list_addW a b its.toArray its2.toArray n1 n2 none none s1 s2 (by simp only [List.size_toArray]; rw [← r1.length, ← r2.length]; exact hz)) ⟨p1, p2, ?_⟩
  rw [eq]
  exact ⟨.ref _, _, I.lnew (t' := s.toks) (r1.append r2) (by rw [List.length_append]; exact hz), rfl, q _ I.fresh⟩
theorem od_catL {mk : MkR} (hm : MkOk mk) : OpZ X (binaryOp .Add) (rCatL mk) := ⟨_, op_catL (X := X), fun x y v w M H Qd Q R rx ry ⟨l, m, nx, ny, hx, hy, z, q⟩ k => by
  obtain ⟨a, vs, ev, r1, h1⟩ := sq_of R rx hx
  obtain ⟨b, ws, ew, r2, h2⟩ := sq_of R ry hy
  subst ev; subst ew
  rcases h1 with ⟨e, _⟩ | ⟨_, h1⟩
  · exact absurd e (nx l)
  rcases h2 with ⟨e, _⟩ | ⟨_, h2⟩
  · exact absurd e (ny m)
  exact ⟨a, b, vs, ws, rfl, rfl, h1.l, h2.l, by rw [← r1.len, ← r2.len]; exact z, fun p n => hm.new R n trivial (o := .lst (l ++ m)) ⟨_, upd_same, (r1.app r2).ev (Ev.new (M := M) n)⟩ q k⟩⟩
theorem OpZ.or {f : Value → Value → Sem Value} {r r' : RD2} (h : OpZ X f r) (h' : OpZ X f r') : OpZ X f (fun x y M Q => r x y M Q ∨ r' x y M Q) := by
  obtain ⟨a, h1, h2⟩ := h
  obtain ⟨b, h3, h4⟩ := h'
  refine ⟨_, h1.or h3, fun x y v w M H Qd Q R rx ry q k => ?_⟩
  rcases q with q | q
  · exact .inl (h2 x y v w M H Qd Q R rx ry q k)
  · exact .inr (h4 x y v w M H Qd Q R rx ry q k)
theorem OpZ.imp {f : Value → Value → Sem Value} {r r' : RD2} (h : OpZ X f r) (i : ∀ x y M Q, r' x y M Q → r x y M Q) : OpZ X f r' := by
  obtain ⟨a, h1, h2⟩ := h
  exact ⟨a, h1, fun x y v w M H Qd Q R rx ry q k => h2 x y v w M H Qd Q R rx ry (i _ _ _ _ q) k⟩
/-- a rule for all continuations serves the ones that lock, too -/
theorem OpD.z {f : Value → Value → Sem Value} {r : RD2} (h : OpD X f r) : OpZ X f r := by
  obtain ⟨a, h1, h2⟩ := h
  exact ⟨a, h1, fun x y v w M H Qd Q R rx ry q k => h2 x y v w M H Qd (frzQ Q) R rx ry q fun z d M' H' e R r q => .inl (k z d M' H' e R r q)⟩
theorem od_catS : OpD X (binaryOp .Add) rCatS := ⟨_, op_add_str, fun x y v w M H Qd Q R rx ry ⟨i, j, ex, ey, c, q⟩ k => by
  subst ex; subst ey
  exact ⟨i, j, rx, ry, c, k _ (.str (i ++ j)) M H .refl R rfl q⟩⟩
theorem od_plus {mk : MkR} (hm : MkOk mk) : OpZ X (binaryOp .Add) (rPlus mk) := (od_add.z.or (od_catT.z.or (od_catS.z.or (od_catL hm)))).imp fun x y M Q q => by
  unfold rPlus at q
  split at q
  · exact .inl ⟨_, _, rfl, rfl, trivial, q⟩
  · exact .inr (.inl ⟨_, _, rfl, rfl, q.1, q.2⟩)
  · exact .inr (.inr (.inl ⟨_, _, rfl, rfl, q.1, q.2⟩))
  · exact .inr (.inr (.inr q))
def rRepD : RD2 := fun x y M Q => ∃ l k, x = .tup l ∧ y = .int k ∧ l ≠ [] ∧ 2 ≤ k ∧ k ≤ 1000 ∧ l.length ≤ 1000 ∧ Q (.tup (List.replicate k.toNat l).flatten) M
theorem Reps.rep {K : PySem.W.Frag} {M : MB} {H : Hp} {l : List D} {vs : List V} (r : Reps K M H l vs) : ∀ n : Nat, Reps K M H (List.replicate n l).flatten (List.replicate n vs).flatten
  | 0 => rfl
  | n + 1 => by rw [List.replicate_succ, List.replicate_succ, List.flatten_cons, List.flatten_cons]; exact r.app (Reps.rep r n)
theorem od_rep : OpD X (binaryOp .Mult) rRepD := ⟨_, op_repT (X := X), fun x y v w M H Qd Q R rx ry ⟨l, n, ex, ey, h1, h2, h3, h4, q⟩ k => by
  subst ex; subst ey
  obtain ⟨p, vs, ev, ht, r⟩ := rx
  subst ev; cases ry
  exact ⟨p, n, vs, rfl, rfl, ht, fun z => h1 (r.ne.mpr z), h2, h3, by rw [← r.len]; exact h4, fun a na => k _ (.tup (List.replicate n.toNat l).flatten) M _ (.new na) (R.new na) ⟨a, _, rfl, sq_new, (r.rep _).ev (Ev.new (M := M) na)⟩ q⟩⟩
def rRep1D : RD2 := fun x y M Q => ∃ l, x = .tup l ∧ y = .int 1 ∧ Q (.tup l) M
theorem od_rep1 : OpD X (binaryOp .Mult) rRep1D := ⟨_, op_rep1T (X := X), fun x y v w M H Qd Q R rx ry ⟨l, ex, ey, q⟩ k => by
  subst ex; subst ey
  obtain ⟨p, vs, ev, ht, r⟩ := rx
  subst ev; cases ry
  exact ⟨p, vs, rfl, rfl, ht, k _ (.tup l) M H .refl R ⟨p, vs, rfl, ht, r⟩ q⟩⟩
theorem od_mul : OpD X (binaryOp .Mult) rMul := (od_mulI.or (od_rep.or od_rep1)).imp fun x y M Q q => by
  unfold rMul at q
  split at q
  · exact .inl ⟨_, _, rfl, rfl, q.1, q.2⟩
  · obtain ⟨h1, h2, h3, h4, h5⟩ := q
    by_cases h : 2 ≤ (‹Int› : Int)
    · exact .inr (.inl ⟨_, _, rfl, rfl, h1, h, h3, h4, h5⟩)
    · have e : (‹Int› : Int) = 1 := by omega
      subst e
      exact .inr (.inr ⟨_, rfl, rfl, by simpa using h5⟩)
  · exact q.elim
theorem de_globI {x : Str} {i : Int} {pos : Pos} (h : ∃ t, X.mg x = some (.int i t)) (hg : Gl X x := by rfl) (hd : (x == ("__debug__" : Str)) = false := by decide) : PEd X (.Name x pos) (dC (.int i)) := by
  obtain ⟨t, e⟩ := h
  exact de_const (pe_glob (v := .int i) hg e ⟨t, rfl⟩ hd) fun _ _ => rfl
/-- d[k] -/
theorem ix_dict (hu : X.A.units + 1 < cLine) : IxR X (fun x y H Q => ∃ a v, x = .ref a ∧ DGet H a y (some v) ∧ Q v H) := by
  intro value slice pins s σ H x y v u Q I rx ry ⟨a, w, ex, g, q⟩ hs
  subst ex; cases rx
  have hT := dict_typeIs I g
  have core : wpAny (model X.prog X.w) X.A (getItem (.ref a) u) (EP X pins σ Q) X.xe s := d_getItem hu I g ry fun w' s3 I3 rw' => ⟨w, H, I3, rw', q⟩
  unfold PyProof.Rows.subscriptTail
  refine wpAny_bind ?_
  rw [getitemInPython_of_ne hT.not_modules]
  refine wpAny_bind (wpAny_specialOf hT PySem.F.slot_dict_getitem.lookup ?_)
  have last : wpAny (model X.prog X.w) X.A (subscripted slice false (.ref a) u) (fun r s₃ => wpAny (model X.prog X.w) X.A (letTemporaryGo value (.ref a) r >>= fun _ => pure r) (EP X pins σ Q) X.xe s₃) X.xe s := by
    rw [hs]
    exact wpAny_operating (wpAny_mono core (fun r s₃ h₃ => wpAny_bind (wpAny_letTemporaryGo (wpAny_pure h₃))) fun _ _ x => x)
  first
    | exact wpAny_pure (wpAny_bind last)
    | exact wpAny_bind (wpAny_pure (wpAny_bind last))
    | exact wpAny_bind last
theorem RepKV.val {κ : Type} [DecidableEq κ] {K : PySem.W.Frag} {M : MB} {H : Hp} {k : κ} : ∀ {l : List (κ × D)} {ks : List (κ × V)}, RepKV K M H l ks → (∀ d, lookD l k = some d → ∃ v, valV ks k = some v ∧ Rep K M H d v) ∧ (lookD l k = none → valV ks k = none)
  | [], _, h => by cases h; exact ⟨fun d e => by simp [lookD] at e, fun _ => rfl⟩
  | (j, d) :: l, _, ⟨v, r, e, h1, h2⟩ => by
    subst e
    by_cases hj : j = k
    · refine ⟨fun d' e => ?_, fun e => ?_⟩
      · simp [lookD, List.find?_cons, hj] at e
        subst e
        exact ⟨v, by simp [valV, List.find?_cons, hj], h1⟩
      · simp [lookD, List.find?_cons, hj] at e
    · have ih := RepKV.val (k := k) h2
      refine ⟨fun d' e => ?_, fun e => ?_⟩
      · simp [lookD, List.find?_cons, hj] at e
        obtain ⟨v', e1, r1⟩ := ih.1 d' (by simp [lookD]; exact e)
        exact ⟨v', by simpa [valV, List.find?_cons, hj] using e1, r1⟩
      · simp [lookD, List.find?_cons, hj] at e
        simpa [valV, List.find?_cons, hj] using ih.2 (by simp [lookD]; exact e)
theorem key_rep {K : PySem.W.Frag} {M : MB} {H : Hp} {d : D} {k : Key} {v : V} (h : d.key = some k) (r : Rep K M H d v) : v = kV k := by
  cases d <;> simp [D.key] at h <;> subst h <;> cases r <;> rfl
theorem kv_zip {K : PySem.W.Frag} {M : MB} {H : Hp} : ∀ {ks : List Key} {ds : List D} {vs : List V}, ks.length = ds.length → Reps K M H ds vs → RepKV K M H (ks.zip ds) (ks.zip vs)
  | [], _, _, _, _ => rfl
  | k :: ks, [], _, h, _ => nomatch h
  | k :: ks, d :: ds, _, h, ⟨v, r, e, h1, h2⟩ => by subst e; exact ⟨v, _, rfl, h1, kv_zip (by simpa using h) h2⟩
theorem dicD_ref {M : MH} {k : Nat} {l : List (Key × D)} (h : dicD M (.ref k) = some l) : M[k]? = some (some (.dic l)) ∨ M[k]? = some (some (.dfz l)) := by
  have h' : (match M[k]? with
    | some (some (.dic l)) => some l
    | some (some (.dfz l)) => some l
    | _ => none) = some l := h
  split at h'
  · cases h'; exact .inl (by assumption)
  · cases h'; exact .inr (by assumption)
  · cases h'
theorem dic_rd {K : PySem.W.Frag} {mg : Str → Option Value} {M : MB} {H : Hp} {x : D} {v : V} {l : List (Key × D)} (R : MR K mg M H) (r : Rep K M H x v) (h : dicD M.m x = some l) : ∃ a ks, v = .ref a ∧ Rd H a (.dK ks) ∧ RepKV K M H l ks := by
  cases x with
  | ref k =>
    obtain ⟨a, ha, e⟩ := r
    rcases dicD_ref h with g | g
    · obtain ⟨ks, h1, h2⟩ := R.at_ _ _ _ ha g
      exact ⟨a, ks, e, .inl h1, h2⟩
    · obtain ⟨ks, o, h1, h2⟩ := R.at_ _ _ _ ha g
      exact ⟨a, ks, e, .inr ⟨o, h1.1⟩, h2⟩
  | dct js ds =>
    cases h
    obtain ⟨p, vs, o, e, ⟨h1, _⟩, hl, h2⟩ := r
    exact ⟨p, _, e, .inr ⟨o, h1⟩, kv_zip hl h2⟩
  | _ => cases h
theorem xd_any (hu : X.A.units + 1 < cLine) : IxD X rItem := by
  obtain ⟨r', h1, h2⟩ := xd_seq (X := X)
  refine ⟨_, h1.or (ix_dict hu), fun x y v w M H Qd Q R rx ry q k => ?_⟩
  rcases q with q | ⟨l, j, d, hm, ek, hd, q⟩
  · exact .inl (h2 x y v w M H Qd Q R rx ry q k)
  · obtain ⟨a, ks, e, h3, h4⟩ := dic_rd R rx hm
    subst e
    obtain ⟨u, h5, h6⟩ := (h4.val (k := j)).1 d hd
    exact .inr ⟨a, u, rfl, .inl ⟨ks, j, h3, key_rep ek ry, h5.symm⟩, k _ d M H .refl R h6 q⟩

/-! ### a list, a dict that nobody writes to from now on -/
theorem de_frz {e : Expr} {te : DE} (h : PEd X e te) : PEd X e (dUn rFrz te) := peI (pe_frz h) fun σ H Q ⟨ρ, M, E, Qd, S, R, q, xo, k⟩ => ⟨ρ, M, E, _, S, R, q, xo, fun v d M1 H1 e1 R1 r1 ⟨j, o, d', ed, em, f, q1⟩ => by
  subst ed
  obtain ⟨a, ha, ev⟩ := r1
  subst ev
  obtain ⟨u, g1, g2, g3⟩ := frz_rep (R1.at_ _ _ _ ha em) f
  refine .inr ⟨a, u, rfl, g1, g2, fun ob => ?_⟩
  have E := Ev.put (M := M1) (k := j) (v := none) (u := .frz ob u) ha g1 g2
  exact k (.ref a) d' (M1.put j none) _ (e1.trans E) (R1.lock ha g1 g2) (g3 ob _ _ E.sq upd_same (R1.nlk g1 g2)) q1⟩
end
end DM

/-! DM: statements, loops, comprehensions. -/
namespace DM
open PySem PySem.Spec L2
section
variable {X : Cx} {e a b c : Expr} {es : List Expr} {ta tb tc te : DE} {tA : DT} {t u : DS} {pos : Pos} {st : Stmt} {rest : List Stmt}

theorem ds_nil : PSsd X [] dNext := pssI pss_nil fun D σ H ⟨ρ, M, De, S, R, q, k⟩ => k.nx σ H ρ M .refl S R q
theorem ds_cons (h1 : PSd X st t) (h2 : PSsd X rest u) : PSsd X (st :: rest) (dSeq t u) := pssI (pss_cons h1 h2) fun D σ H ⟨ρ, M, De, S, R, q, k⟩ =>
  ⟨ρ, M, _, S, R, q, ⟨fun σ1 H1 ρ1 M1 e1 S1 R1 q1 => ⟨ρ1, M1, De, S1, R1, q1, k.later e1⟩, k.rt, k.bk, k.ct, k.ex⟩⟩
theorem ds_cut (h1 : PSd X st t) (h2 : PSsd X rest u) : PSsd X (st :: rest) (dCut t u) := pssI (pss_cons h1 h2) fun D σ H ⟨ρ, M, De, S, R, ⟨J, q, hj⟩, k⟩ =>
  ⟨ρ, M, _, S, R, q, ⟨fun σ1 H1 ρ1 M1 e1 S1 R1 q1 => ⟨ρ1, M1, De, S1, R1, hj ρ1 M1.m q1, k.later e1⟩, k.rt, k.bk, k.ct, k.ex⟩⟩
theorem ds_one (h1 : PSd X st t) : PSsd X [st] t := pss_one h1
theorem ds_pass : PSd X (.Pass pos) dNext := psI ps_pass fun D σ H ⟨ρ, M, De, S, R, q, k⟩ => k.nx σ H ρ M .refl S R q
theorem ds_break : PSd X (.Break pos) dBreak := psI ps_break fun D σ H ⟨ρ, M, De, S, R, q, k⟩ => k.bk σ H ρ M .refl S R q
theorem ds_continue : PSd X (.Continue pos) dCont := psI ps_continue fun D σ H ⟨ρ, M, De, S, R, q, k⟩ => k.ct σ H ρ M .refl S R q
theorem ds_expr (he : PEd X e te) (hs : swapsWith e none pos.line X.env = pure false := by rfl) : PSd X (.Expr e pos) (dDrop te) := psI (ps_expr he hs) fun D σ H ⟨ρ, M, De, S, R, q, k⟩ =>
  ⟨ρ, M, _, _, S, R, q, k.xok S, fun v d M1 H1 e1 R1 r1 q1 => k.nx σ H1 ρ M1 e1 (S.ev e1) R1 q1⟩
theorem ds_ret (he : PEd X e te) : PSd X (.Return (some e) pos) (dRet te) := psI (ps_ret he) fun D σ H ⟨ρ, M, De, S, R, q, k⟩ =>
  ⟨ρ, M, _, _, S, R, q, k.xok S, fun v d M1 H1 e1 R1 r1 q1 => k.rt v d M1 H1 e1 R1 r1 q1⟩
theorem ds_retN : PSd X (.Return none pos) dRetN := psI ps_retN fun D σ H ⟨ρ, M, De, S, R, q, k⟩ => k.rt .non .non M H .refl R rfl q
theorem ds_if {c : Expr} {a b : List Stmt} (hc : PTd X c tA) (ha : PSsd X a t) (hb : PSsd X b u) : PSd X (.If c a b pos) (dIfS tA t u) := psI (ps_if hc ha hb) fun D σ H ⟨ρ, M, De, S, R, q, k⟩ =>
  ⟨ρ, M, _, _, S, R, q, k.xok S, fun c M1 H1 e1 R1 q1 => by
    cases c with
    | true => exact ⟨ρ, M1, De, S.ev e1, R1, q1, k.later e1⟩
    | false => exact ⟨ρ, M1, De, S.ev e1, R1, q1, k.later e1⟩⟩

/-! ### targets -/
mutual
/-- a target's reading below -/
def LG (K : PySem.W.Frag) : Tg → TG
  | .nm i => gName i
  | .tp ts => gTup K ts.length (LGs K ts)
def LGs (K : PySem.W.Frag) : List Tg → TGs
  | [] => gNil
  | t :: ts => gCons (LG K t) (LGs K ts)
end
mutual
theorem LG_ok {K : PySem.W.Frag} {M : MB} {H : Hp} : ∀ (g : Tg) {d : D} {v : V} {ρ : DSt} {σ : L2.St} {Qd : DSt → Prop} {Q : L2.St → Hp → Prop}, Rep K M H d v → Slots K M H ρ σ → g.store d ρ Qd → (∀ ρ' σ', Slots K M H ρ' σ' → Qd ρ' → Q σ' H) → LG K g v σ H Q
  | .nm i, _, _, _, _, _, _, r, S, q, k => by rw [LG]; exact k _ _ (S.set r) (by rw [Tg.store] at q; exact q)
  | .tp ts, _, _, _, _, _, _, r, S, q, k => by
    rw [Tg.store] at q
    rw [LG]
    obtain ⟨l, e, hl, q⟩ := q
    subst e
    obtain ⟨p, vs, ev, ht, rs⟩ := r
    subst ev
    exact ⟨p, vs, rfl, ht, by rw [← rs.len, hl], LGs_ok ts rs hl S q k⟩
theorem LGs_ok {K : PySem.W.Frag} {M : MB} {H : Hp} : ∀ (ts : List Tg) {l : List D} {vs : List V} {ρ : DSt} {σ : L2.St} {Qd : DSt → Prop} {Q : L2.St → Hp → Prop}, Reps K M H l vs → l.length = ts.length → Slots K M H ρ σ → Tg.stores ts l ρ Qd → (∀ ρ' σ', Slots K M H ρ' σ' → Qd ρ' → Q σ' H) → LGs K ts vs σ H Q
  | [], l, vs, _, _, _, _, r, hl, S, q, k => by
    have : l = [] := by cases l with | nil => rfl | cons _ _ => simp at hl
    subst this
    cases r
    rw [LGs]
    rw [Tg.stores] at q
    · exact ⟨rfl, k _ _ S q⟩
    · intro _ _ _ _ h; cases h
  | t :: ts, l, vs, _, _, _, _, r, hl, S, q, k => by
    cases l with
    | nil => simp at hl
    | cons d l =>
      obtain ⟨v, vr, ev, h1, h2⟩ := r
      subst ev
      rw [Tg.stores] at q
      rw [LGs]
      exact ⟨v, vr, rfl, LG_ok t h1 S q fun ρ' σ' S' q' => LGs_ok ts h2 (by simpa using hl) S' q' k⟩
end
structure PGd (X : Cx) (tg : Expr) (g : Tg) : Prop where
  of : PG X tg (LG X.K g)
structure PGsd (X : Cx) (tgs : List Expr) (gs : List Tg) : Prop where
  of : PGs X tgs (LGs X.K gs)
theorem dg_nm (i : Nat) {x : Str} {pos : Pos} (hN : X.N.Nodup) (hi : X.N[i]? = some x := by rfl) (hx : Loc X.env.scope x := by first | exact Or.inl rfl | exact Or.inr rfl) (hf : X.fn x = true ∨ X.env.scope.names.lookup x = some .local := by first | exact .inl rfl | exact .inr rfl | assumption) : PGd X (.Name x pos) (.nm i) :=
  ⟨by rw [LG]; exact pg_name hN hi hx hf⟩
theorem dgs_nil : PGsd X [] [] := ⟨by rw [LGs]; exact pgs_nil⟩
theorem dgs_cons {g : Tg} {gs : List Tg} (h1 : PGd X e g) (h2 : PGsd X es gs) (hs : (assignEach (e :: es) X.env).map (·.2) = assign e X.env :: (assignEach es X.env).map (·.2) := by rfl) : PGsd X (e :: es) (g :: gs) :=
  ⟨by rw [LGs]; exact pgs_cons h1.of h2.of hs⟩
theorem dg_tp {gs : List Tg} {k : Nat} (hc : X.calm = true) (h : PGsd X es gs) (hn : (assignEach es X.env).length = gs.length := by rfl) (hst : (assignEach es X.env).findIdx? (·.1) = none := by rfl) : PGd X (.Tuple es k pos) (.tp gs) :=
  ⟨by rw [LG]; exact pg_tup hc h.of hn hst⟩
theorem ds_set {i : Nat} {x : Str} {pos' : Pos} (hN : X.N.Nodup) (he : PEd X e te) (hi : X.N[i]? = some x := by rfl) (hx : Loc X.env.scope x := by first | exact Or.inl rfl | exact Or.inr rfl) (hs : swapsWith e (some (.Name x pos')) pos.line X.env = pure false := by rfl) (hf : X.fn x = true ∨ X.env.scope.names.lookup x = some .local := by first | exact .inl rfl | exact .inr rfl | assumption) :
    PSd X (.Assign [.Name x pos'] e pos) (dAsg te (.nm i)) := psI (ps_set hN hi hx he hs hf) fun D σ H ⟨ρ, M, De, S, R, q, k⟩ =>
  ⟨ρ, M, _, _, S, R, q, k.xok S, fun v d M1 H1 e1 R1 r1 q1 => k.nx _ H1 _ M1 e1 ((S.ev e1).set r1) R1 (by simpa only [Tg.store] using q1)⟩
theorem ds_asg {tg : Expr} {g : Tg} (he : PEd X e te) (hg : PGd X tg g) (hs : swapsWithSole [tg] e pos.line X.env = pure false := by rfl) (hw : swappedStores [tg] e X.env = pure none := by rfl) (h1 : (assignEach [tg] X.env).map (·.2) = [assign tg X.env] := by rfl) :
    PSd X (.Assign [tg] e pos) (dAsg te g) := psI (ps_asg he hg.of hs hw h1) fun D σ H ⟨ρ, M, De, S, R, q, k⟩ =>
  ⟨ρ, M, _, _, S, R, q, k.xok S, fun v d M1 H1 e1 R1 r1 q1 => LG_ok g r1 (S.ev e1) q1 fun ρ' σ' S' q' => k.nx σ' H1 ρ' M1 e1 S' R1 q'⟩
theorem ds_par {i j : Nat} {x y : Str} {a b : Expr} {t : DA} {px py pt : Pos} {kt k2 pt2} (hc : X.calm = true) (hN : X.N.Nodup) (ha : PAd X [a, b] t) (hi : X.N[i]? = some x := by rfl) (hj : X.N[j]? = some y := by rfl) (hij : i ≠ j := by decide)
    (hx : X.env.scope.names.lookup x = some .local := by rfl) (hy : X.env.scope.names.lookup y = some .local := by rfl)
    (hw : swappedStores [.Tuple [.Name x px, .Name y py] kt pt] (.Tuple [a, b] k2 pt2) X.env = pure (some [x, y]) := by rfl)
    (hs : swapsWithSole [.Tuple [.Name x px, .Name y py] kt pt] (.Tuple [a, b] k2 pt2) pos.line X.env = pure false := by rfl) :
    PSd X (.Assign [.Tuple [.Name x px, .Name y py] kt pt] (.Tuple [a, b] k2 pt2) pos) (dPar i j t) := psI (ps_par hc hN hi hj hij hx hy ha hw hs) fun D σ H ⟨ρ, M, De, S, R, q, k⟩ =>
  ⟨ρ, M, _, _, S, R, q, k.xok S, fun vs ds M1 H1 e1 R1 r1 ⟨x, y, ed, q1⟩ => by
    subst ed
    obtain ⟨v, w, ev, rv, rw'⟩ := r1.two'
    subst ev
    exact ⟨v, w, rfl, k.nx _ H1 _ M1 e1 (((S.ev e1).set rv).set rw') R1 q1⟩⟩
/-- o[i] = e -/
theorem RepKV.put {κ : Type} [DecidableEq κ] {K : PySem.W.Frag} {M : MB} {H : Hp} {k : κ} {d : D} {v : V} (r : Rep K M H d v) {l : List (κ × D)} {ks : List (κ × V)} (h : RepKV K M H l ks) : RepKV K M H (putD l k d) (putK ks k v) := by
  have h1 : ∀ {l : List (κ × D)} {ks : List (κ × V)}, RepKV K M H l ks → (l.any fun p => decide (p.1 = k)) = (ks.any fun p => decide (p.1 = k)) ∧ RepKV K M H (l.map fun p => if p.1 = k then (p.1, d) else p) (ks.map fun p => if p.1 = k then (p.1, v) else p) ∧ RepKV K M H (l ++ [(k, d)]) (ks ++ [(k, v)]) := by
    intro l
    induction l with
    | nil => intro ks h; cases h; exact ⟨rfl, rfl, ⟨v, [], rfl, r, rfl⟩⟩
    | cons x l ih =>
      intro ks h
      obtain ⟨j, e⟩ := x
      obtain ⟨w, ws, eq, h1, h2⟩ := h
      subst eq
      obtain ⟨i1, i2, i3⟩ := ih h2
      refine ⟨by simp [i1], ?_, ⟨w, _, rfl, h1, i3⟩⟩
      by_cases hj : j = k
      · simp only [List.map_cons, hj, if_true]; exact ⟨v, _, rfl, r, i2⟩
      · simp only [List.map_cons, hj, if_false]; exact ⟨w, _, rfl, h1, i2⟩
  obtain ⟨a, b, c⟩ := h1 h
  unfold putD putK
  rw [a]
  split
  · exact b
  · exact c
theorem ds_setIx {o i e : Expr} {to ti te : DE} {tpos : Pos} (hu : X.A.units + 1 < cLine) (he : PEd X e te) (ho : PEd X o to) (hi : PEd X i ti)
    (ha : ∀ v, assign (.Subscript o i tpos) X.env v = (do
      let ov ← holding [v] (eval o X.env)
      let iv ← holding [v, ov] (eval i X.env)
      standAt tpos
      holding [v, ov, iv] (setItem ov iv v)
      release [v, ov, iv] []) := by intro _; rfl)
    (hs : swapsWithSole [.Subscript o i tpos] e pos.line X.env = pure false := by rfl) (hw : swappedStores [.Subscript o i tpos] e X.env = pure none := by rfl) (h1 : (assignEach [.Subscript o i tpos] X.env).map (·.2) = [assign (.Subscript o i tpos) X.env] := by rfl) :
    PSd X (.Assign [.Subscript o i tpos] e pos) (dSetIx te to ti) := by
  have both : PSet X (fun o i v H Q => L2.rSetL o i v H Q ∨ rSetD o i v H Q) := by
    intro pins s σ H o i v ov iv u Q I ro ri rv h
    rcases h with h | h
    · exact set_list pins s σ H o i v ov iv u Q I ro ri rv h
    · exact set_dict hu pins s σ H o i v ov iv u Q I ro ri rv h
  exact psI (ps_asg he (pg_sub ho hi both ha) hs hw h1) fun D σ H ⟨ρ, M, De, S, R, q, k⟩ =>
  ⟨ρ, M, _, _, S, R, q, k.xok S, fun v d M1 H1 e1 R1 r1 q1 => ⟨ρ, M1, _, _, S.ev e1, R1, q1, (k.xok S).later e1, fun w d2 M2 H2 e2 R2 r2 q2 => ⟨ρ, M2, _, _, S.ev (e1.trans e2), R2, q2, (k.xok S).later (e1.trans e2), fun z d3 M3 H3 e3 R3 r3 ⟨c, ec, q3⟩ => by
    subst ec
    obtain ⟨a, hca, ew⟩ := r2.ev e3
    subst ew
    rcases q3 with ⟨l, n, hm, en, j, hj, q3⟩ | ⟨l, n, hm, en, hz, q3⟩
    · subst en; cases r3
      obtain ⟨vs, g1, g2⟩ := R3.at_ _ _ _ hca hm
      refine .inl ⟨a, vs, n, j, rfl, rfl, g1, by rw [← g2.len]; exact (ixN_D hj).1, ?_⟩
      have E := Ev.put (M := M3) (H := H3) (k := c) (v := some (.lst (l.set j d))) (u := .lst (vs.set j v)) hca g1 trivial
      exact k.nx _ _ ρ (M3.put c (some (.lst (l.set j d)))) (((e1.trans e2).trans e3).trans E) (S.ev (((e1.trans e2).trans e3).trans E)) (R3.put hca g1 trivial ⟨_, upd_same, (g2.set ((r1.ev e2).ev e3) j).ev E⟩) q3
    · obtain ⟨vs, g1, g2⟩ := R3.at_ _ _ _ hca hm
      have E := Ev.put (M := M3) (H := H3) (k := c) (v := some (.dic (putD l n d))) (u := .dK (putK vs n v)) hca g1 trivial
      have hl : l.length = vs.length := by
        have : ∀ {l : List (Key × DM.D)} {ks : List (Key × V)}, RepKV X.K M3 H3 l ks → l.length = ks.length := by
          intro l
          induction l with
          | nil => intro ks h; cases h; rfl
          | cons x l ih => intro ks h; obtain ⟨j, e⟩ := x; obtain ⟨w, ws, eq, h1, h2⟩ := h; subst eq; simp [ih h2]
        exact this g2
      refine .inr ⟨a, upd H3 a (.dK (putK vs n v)), rfl, ?_, ?_⟩
      · rw [key_rep en r3]; exact DPut.k g1 (by rw [← hl]; exact hz)
      · exact k.nx _ _ ρ (M3.put c (some (.dic (putD l n d)))) (((e1.trans e2).trans e3).trans E) (S.ev (((e1.trans e2).trans e3).trans E)) (R3.put hca g1 trivial ⟨_, upd_same, (g2.put ((r1.ev e2).ev e3)).ev E⟩) q3⟩⟩⟩
/-- x op= e of a name -/
def IpD (X : Cx) (op : Operator) (r : RD2) : Prop := ∃ r' : TIp, PIp X op r' ∧ ∀ (x y : D) (v w : V) (M : MB) (H : Hp) (Qd : DQ) (Q : VK), MR X.K X.mg M H → Rep X.K M H x v → Rep X.K M H y w → r x y M.m Qd →
  (∀ z d M' H', Ev M H M' H' → MR X.K X.mg M' H' → Rep X.K M' H' d z → Qd d M'.m → Q z H') → r' v w H Q
theorem pd_add : IpD X .Add rAdd := ⟨_, ip_add, fun x y v w M H Qd Q R rx ry ⟨i, j, ex, ey, c, q⟩ k => by
  subst ex; subst ey
  exact ⟨i, j, rx, ry, k _ (.int (i + j)) M H .refl R rfl q⟩⟩
theorem pd_sub : IpD X .Sub rSub := ⟨_, ip_sub, fun x y v w M H Qd Q R rx ry ⟨i, j, ex, ey, c, q⟩ k => by
  subst ex; subst ey
  exact ⟨i, j, rx, ry, k _ (.int (i - j)) M H .refl R rfl q⟩⟩
theorem pip_mul : PIp X .Mult (fun x y H Q => ∃ i j, x = .int i ∧ y = .int j ∧ CMul i j ∧ Q (.int (i * j)) H) := fun pins s σ H x y v u Q I r1 r2 h => iop_mul pins s σ H x y v u Q I r1 r2 h
theorem pd_mul : IpD X .Mult rMulI := ⟨_, pip_mul, fun x y v w M H Qd Q R rx ry ⟨i, j, ex, ey, c, q⟩ k => by
  subst ex; subst ey
  exact ⟨i, j, rx, ry, (by rcases c with c | c <;> first | exact .inl (nat64 c) | exact .inr (nat64 c)), k _ (.int (i * j)) M H .refl R rfl q⟩⟩
theorem ds_aug {i : Nat} {x : Str} {op : Operator} {r : RD2} {pos' : Pos} (hN : X.N.Nodup) (ho : IpD X op r) (he : PEd X e te) (hi : X.N[i]? = some x := by rfl) (hx : Loc X.env.scope x := by first | exact Or.inl rfl | exact Or.inr rfl) (hf : X.fn x = true ∨ X.env.scope.names.lookup x = some .local := by first | exact .inl rfl | exact .inr rfl | assumption) :
    PSd X (.AugAssign (.Name x pos') op e pos) (dAug i r te) := by
  obtain ⟨r', h1, h2⟩ := ho
  exact psI (ps_aug hN hi hx he h1 hf) fun D σ H ⟨ρ, M, De, S, R, ⟨x, ex, q⟩, k⟩ => by
    obtain ⟨v, ev, rv⟩ := S.2 i x ex
    exact ⟨v, ev, ρ, M, _, _, S, R, q, k.xok S, fun w d M1 H1 e1 R1 r1 q1 => h2 x d v w M1 H1 _ _ R1 (rv.ev e1) r1 q1 fun z dz M2 H2 e2 R2 r2 q2 => k.nx _ H2 _ M2 (e1.trans e2) ((S.ev (e1.trans e2)).set r2) R2 q2⟩

/-! ### methods of lists -/
def MtD (X : Cx) (id : String) (r : D → BD) : Prop := ∃ r', MtM X id r' ∧ ∀ (x : D) (ds : List D) (v : V) (vs : List V) (M : MB) (H : Hp) (Qd : DQ) (Q : VK), MR X.K X.mg M H → Rep X.K M H x v → Reps X.K M H ds vs → r x ds M.m Qd →
  (∀ z d M' H', Ev M H M' H' → MR X.K X.mg M' H' → Rep X.K M' H' d z → Qd d M'.m → Q z H') → r' v vs H Q
def TyD (X : Cx) (T : String) (ty : MH → D → Prop) : Prop := ∀ x v M H, MR X.K X.mg M H → Rep X.K M H x v → ty M.m x → tyV X.K T v H
theorem ty_lst {X : Cx} : TyD X "list" isLst := fun x v M H R r ⟨a, l, e, hm⟩ => by
  subst e
  obtain ⟨b, hb, e⟩ := r
  subst e
  obtain ⟨vs, h1, _⟩ := R.at_ _ _ _ hb hm
  exact .inl ⟨rfl, _, .inl (.inl h1)⟩
theorem de_meth {o e : Expr} {es : List Expr} {to : DE} {t : DA} {name : Str} {apos cpos : Pos} {T id : String} {r : D → BD} {ty : MH → D → Prop} (pa : PlainAttrs T) (slot : Slot T name id) (hty : typeOf (.builtin id) = pure (.type "method_descriptor")) (hm : MtD X id r) (hT : TyD X T ty) (ho : PEd X o to) (ha : PAd X (e :: es) t)
    (hbase : attributeBase o name X.env (eval o X.env) = eval o X.env := by rfl)
    (hfew : ((backTo cpos (starEach (e :: es) X.env)).all (fun x => !x.1) && (backToKw cpos (keywordEach [] X.env)).all (fun x => x.1.isSome)
      && decide ((e :: es).length + ([] : List Keyword).length + (if ([] : List Keyword).isEmpty then 0 else 1) < 30)) = true := by rfl)
    (hline : (apos.endLine == cpos.line) = true := by rfl) (hs : starEach (e :: es) X.env = (false, eval e X.env) :: starEach es X.env := by rfl) (hplain : (backTo cpos (starEach es X.env)).any (·.1) = false := by rfl) :
    PEd X (.Call (.Attribute o name apos) (e :: es) [] cpos) (dMeth ty r to t) := by
  obtain ⟨r', h1, h2⟩ := hm
  exact peI (pe_bm pa slot hty h1 ho ha hbase hfew hline hs hplain) fun σ H Q ⟨ρ, M, E, Qd, S, R, q, xo, k⟩ => ⟨ρ, M, E, _, S, R, q, xo, fun v d M1 H1 e1 R1 r1 ⟨q0, q1⟩ => ⟨hT d v M1 H1 R1 r1 q0, ρ, M1, E, _, S.ev e1, R1, q1, xo.later e1, fun vs ds M2 H2 e2 R2 r2 q2 =>
    h2 d ds v vs M2 H2 Qd Q R2 (r1.ev e2) r2 q2 fun z d M' H' e' R' r' q' => k z d M' H' ((e1.trans e2).trans e') R' r' q'⟩⟩
theorem md_append : MtD X "list.append" mAppend := ⟨_, mt_append, fun x ds v vs M H Qd Q R rx rs ⟨c, l, d, ex, ed, hm, hz, q⟩ k => by
  subst ex; subst ed
  obtain ⟨a, hc, ev⟩ := rx
  subst ev
  obtain ⟨w, ew, rw'⟩ := rs.one'
  subst ew
  obtain ⟨us, h1, h2⟩ := R.at_ _ _ _ hc hm
  have E := Ev.put (M := M) (H := H) (k := c) (v := some (.lst (l ++ [d]))) (u := .lst (us ++ [w])) hc h1 trivial
  exact ⟨a, us, w, rfl, rfl, h1, by rw [← h2.len]; exact hz, k _ .non (M.put c (some (.lst (l ++ [d])))) _ E (R.put hc h1 trivial ⟨_, upd_same, (h2.app (.one rw')).ev E⟩) rfl q⟩⟩
/-- xs.extend(ys) of any list -/
theorem mt_extendE : MtM X "list.extend" (fun x vs H Q => ∃ l b xs zs, x = .ref l ∧ vs = [.ref b] ∧ H l = some (.lst xs) ∧ SqE X.K H b zs ∧ xs.length + zs.length ≤ sizeLine ∧ Q .non (upd H l (.lst (xs ++ zs)))) := by
  intro pins s σ H x vs v us Q I rx rv ⟨l, b, xs, zs, ex, evs, hH, hB, hz, q⟩
  subst ex; subst evs
  cases rx
  obtain ⟨u, rfl, ru⟩ := rv.one
  cases ru
  obtain ⟨z, its, n, r, hl, e⟩ := I.lstM hH
  obtain ⟨its2, n2, r2, z2, e2⟩ := hB.at I
  have hl2 := r2.length
  refine call_meets F.slot_list_extend ⟨_, e, rfl⟩ F.entry_list_extend (F.args_list_extend_2 _ _)
    (AutoSeq1.list_extend_list_list_0 l its.toArray n b its2.toArray n2 ?_ (by rw [List.size_toArray]; omega) (by simp only [List.size_toArray]; omega)) ⟨e, e2, ?_⟩
  · rw [notLongL (by rw [List.size_toArray, List.size_toArray]; omega), Bool.and_false]; exact Bool.false_ne_true
  · exact ⟨.non, _, I.lset (its' := its ++ its2) hH e (by simp) (r.append r2) (by rw [List.length_append]; omega), rfl, q⟩
theorem md_extend : MtD X "list.extend" mExtend := ⟨_, mt_extendE, fun x ds v vs M H Qd Q R rx rs ⟨c, l, y, m, ex, ed, hm, hy, nt, hz, q⟩ k => by
  subst ex; subst ed
  obtain ⟨a, hc, ev⟩ := rx
  subst ev
  obtain ⟨w, ew, rw'⟩ := rs.one'
  subst ew
  obtain ⟨us, h1, h2⟩ := R.at_ _ _ _ hc hm
  obtain ⟨b, ws, eb, g2, g1⟩ := sq_of R rw' hy
  subst eb
  rcases g1 with ⟨z, _⟩ | ⟨_, g1⟩
  · exact absurd z (nt _)
  have E := Ev.put (M := M) (H := H) (k := c) (v := some (.lst (l ++ m))) (u := .lst (us ++ ws)) hc h1 trivial
  exact ⟨a, b, us, ws, rfl, rfl, h1, g1, by rw [← h2.len, ← g2.len]; exact hz, k _ .non (M.put c (some (.lst (l ++ m)))) _ E (R.put hc h1 trivial ⟨_, upd_same, (h2.app g2).ev E⟩) rfl q⟩⟩
end
end DM

/-! DM: loops, comprehensions. -/
namespace DM
open PySem PySem.Spec L2
/-- an iterator yields the items xs while G stands -/
structure Snd (K : PySem.W.Frag) (mg : Str → Option Value) (M0 : MB) (H0 : Hp) (J : It) (xs : List D) (G : MH → Prop) : Prop where
  go : ∀ i x M H, KeepT K M0 H0 M H → MR K mg M H → G M.m → xs[i]? = some x → J.go i H
  yld : ∀ i x M H v H', KeepT K M0 H0 M H → MR K mg M H → G M.m → xs[i]? = some x → J.yld i H v H' → Ev M H M H' ∧ MR K mg M H' ∧ Rep K M H' x v
  stop : ∀ M H, KeepT K M0 H0 M H → MR K mg M H → G M.m → J.stop xs.length H
def PId (X : Cx) (tg iter : Expr) (ti : DI) : Prop := ∃ wi, PI X tg iter wi ∧ ∀ (σ : L2.St) (H : Hp) (R : It → Hp → Prop) (ρ : DSt) (M : MB) (E : XQ) (Rd : List D → (MH → Prop) → MH → Prop), Slots X.K M H ρ σ → MR X.K X.mg M H → ti ρ M.m E Rd → XOk X M σ H E →
  (∀ J xs G M' H', Ev M H M' H' → MR X.K X.mg M' H' → Snd X.K X.mg M' H' J xs G → Rd xs G M'.m → R J H') → wi σ H R
theorem KeepT.refl {K : PySem.W.Frag} {M : MB} {H : Hp} : KeepT K M H M H := ⟨fun _ _ h => h, fun _ _ h => h, fun _ _ _ h n => ⟨h, n⟩, fun _ _ h => h, fun _ _ _ n h => ⟨h, n⟩⟩
theorem KeepT.trans {K : PySem.W.Frag} {M M1 M2 : MB} {H H1 H2 : Hp} (a : KeepT K M H M1 H1) (b : KeepT K M1 H1 M2 H2) : KeepT K M H M2 H2 := ⟨fun x y h => b.t x y (a.t x y h), fun x y h => b.f x y (a.f x y h), fun x y z h n => b.z x y z (a.z x y z h n).1 (a.z x y z h n).2, fun k x h => b.r k x (a.r k x h), fun x y z n h => b.w x y z (a.w x y z n h).2 (a.w x y z n h).1⟩
section
variable {X : Cx} {tg iter : Expr} {pos : Pos}
/-- over a tuple, a list -/
def itAny (K : PySem.W.Frag) (tl : TE) : TI := fun σ H R => tl σ H fun x H1 => ∃ a, x = .ref a ∧ ((∃ xs, SqT K H1 a xs ∧ R (Itt K a) H1) ∨ (∃ xs, SqL K H1 a xs ∧ R (Itl K a) H1))
theorem pi_seq {l : Expr} {tl : TE} (hl : PE X l tl) : PI X tg l (itAny X.K tl) := by
  refine ⟨fun pins s σ H R I h => ?_⟩
  refine thn (hl.run pins s σ H _ I h) fun v s1 ⟨x, H1, I1, r1, a, e, q⟩ => ?_
  subst e
  cases r1
  have step : ∀ {o : Obj} {J : It} {tn : Nat → Heap → Prop}, Turn X.prog X.w X.K tg J [s1.heap.objs.size] s1.heap.objs.size tn → tn 0 (s1.heap.push o) → R J H1 →
      PIE X pins σ tg R (.ref s1.heap.objs.size) { s1 with heap := s1.heap.push o } := fun {o J tn} T t0 q => by
    refine ⟨s1.heap.objs.size, [s1.heap.objs.size], _, _, H1, rfl, I1.kept (t' := s1.toks) fun b o e => Heap.get?_push_of_some _ e, T, t0, fun b hb => ?_, q⟩
    have e : b = s1.heap.objs.size := by simpa using hb
    subst e
    exact I1.fpOk (Nat.le_refl _) (I1.hok.fresh (Nat.le_refl _))
  rcases q with ⟨xs, hq, q⟩ | ⟨xs, hq, q⟩
  · obtain ⟨its, rv, p, hz⟩ := I1.tuple hq
    exact wpAny_pyIter_tuple (show s1.heap.IsTuple a its.toArray from p) (step (turn_tuple a _) ⟨_, Heap.get?_push_size _ rfl, rfl, rfl⟩ q)
  · obtain ⟨its, rv, p, hz⟩ := I1.list hq
    exact wpAny_pyIter_list p.isList (step (turn_list a _) ⟨_, Heap.get?_push_size _ rfl, rfl, rfl⟩ q)
theorem Snd.t {K : PySem.W.Frag} {mg : Str → Option Value} {M : MB} {H : Hp} {a : Addr} {vs : List V} {xs : List D} (h : SqT K H a vs) (r : Reps K M H xs vs) : Snd K mg M H (Itt K a) xs (fun _ => True) where
  go := fun i x M H' k R g e => by
    obtain ⟨v, e1, _⟩ := r.get e
    exact ⟨vs, v, k.t _ _ h, e1⟩
  yld := fun i x M H' v H'' k R g e y => by
    obtain ⟨e0, y⟩ := y
    subst e0
    obtain ⟨v', e1, r1⟩ := r.get e
    have := y vs (k.t _ _ h)
    rw [e1] at this; cases this
    exact ⟨.refl, R, r1.mono k⟩
  stop := fun M H' k R g => ⟨vs, k.t _ _ h, Nat.le_of_eq r.len.symm⟩
theorem Snd.f {K : PySem.W.Frag} {mg : Str → Option Value} {M : MB} {H : Hp} {a : Addr} {vs : List V} {xs : List D} (h : SqF K H a vs) (r : Reps K M H xs vs) : Snd K mg M H (Itl K a) xs (fun _ => True) where
  go := fun i x M H' k R g e => by
    obtain ⟨v, e1, _⟩ := r.get e
    exact ⟨vs, v, (k.f _ _ h).e.l, e1⟩
  yld := fun i x M H' v H'' k R g e y => by
    obtain ⟨e0, y⟩ := y
    subst e0
    obtain ⟨v', e1, r1⟩ := r.get e
    have := y vs (k.f _ _ h).e.l
    rw [e1] at this; cases this
    exact ⟨.refl, R, r1.mono k⟩
  stop := fun M H' k R g => ⟨vs, (k.f _ _ h).e.l, Nat.le_of_eq r.len.symm⟩
theorem Snd.l {K : PySem.W.Frag} {mg : Str → Option Value} {M : MB} {H : Hp} {p : Nat} {a : Addr} {xs : List D} (ha : M.i[p]? = some a) : Snd K mg M H (Itl K a) xs (fun M => M[p]? = some (some (.lst xs))) where
  go := fun i x M H' k R g e => by
    obtain ⟨vs, h1, r⟩ := R.at_ _ _ _ (k.r _ _ ha) g
    obtain ⟨v, e1, _⟩ := r.get e
    exact ⟨vs, v, .of h1, e1⟩
  yld := fun i x M H' v H'' k R g e y => by
    obtain ⟨e0, y⟩ := y
    subst e0
    obtain ⟨vs, h1, r⟩ := R.at_ _ _ _ (k.r _ _ ha) g
    obtain ⟨v', e1, r1⟩ := r.get e
    have := y vs (.of h1)
    rw [e1] at this; cases this
    exact ⟨.refl, R, r1⟩
  stop := fun M H' k R g => by
    obtain ⟨vs, h1, r⟩ := R.at_ _ _ _ (k.r _ _ ha) g
    exact ⟨vs, .of h1, Nat.le_of_eq r.len.symm⟩
theorem rangeD_get : ∀ (n : Nat) (lo : Int) (i : Nat), i < n → (rangeD lo n)[i]? = some (.int (lo + i))
  | 0, _, _, h => by omega
  | n + 1, lo, 0, _ => by simp [rangeD]
  | n + 1, lo, i + 1, h => by
    rw [rangeD, List.getElem?_cons_succ, rangeD_get n (lo + 1) i (by omega)]
    congr 2
    push_cast
    omega
theorem rangeD_len : ∀ (n : Nat) (lo : Int), (rangeD lo n).length = n
  | 0, _ => rfl
  | n + 1, lo => by rw [rangeD, List.length_cons, rangeD_len n]
theorem Snd.r {K : PySem.W.Frag} {mg : Str → Option Value} {M : MB} {H : Hp} {lo : Int} {n : Nat} : Snd K mg M H (Itr lo n) (rangeD lo n) (fun _ => True) where
  go := fun i x M H' k R g e => by
    have := (List.getElem?_eq_some_iff.mp e).1
    rw [rangeD_len] at this
    exact this
  yld := fun i x M H' v H'' k R g e y => by
    obtain ⟨e0, y⟩ := y
    subst e0; subst y
    have h := (List.getElem?_eq_some_iff.mp e).1
    rw [rangeD_len] at h
    rw [rangeD_get n lo i h] at e
    cases e
    exact ⟨.refl, R, rfl⟩
  stop := fun M H' k R g => by
    show n ≤ (rangeD lo n).length
    rw [rangeD_len]; exact Nat.le_refl _
/-- what seqI walks -/
theorem seqI_ok {M1 : MB} {H1 : Hp} {d : D} {v : V} {Rd : List D → (MH → Prop) → MH → Prop} (R1 : MR X.K X.mg M1 H1) (r1 : Rep X.K M1 H1 d v) (q : seqI d M1.m Rd) : ∃ a xs G, v = .ref a ∧ Rd xs G M1.m ∧ ((∃ vs, SqT X.K H1 a vs ∧ Snd X.K X.mg M1 H1 (Itt X.K a) xs G) ∨ ∃ vs, SqL X.K H1 a vs ∧ Snd X.K X.mg M1 H1 (Itl X.K a) xs G) := by
  cases d with
  | tup l => obtain ⟨a, vs, ev, h1, h2⟩ := r1; exact ⟨a, l, _, ev, q, .inl ⟨vs, h1, .t h1 h2⟩⟩
  | lis l => obtain ⟨a, vs, ev, h1, h2⟩ := r1; exact ⟨a, l, _, ev, q, .inr ⟨vs, h1.e.l, .f h1 h2⟩⟩
  | ref p =>
    obtain ⟨l, hm, q⟩ := q
    obtain ⟨a, ha, ev⟩ := r1
    obtain ⟨vs, h1, h2⟩ := R1.at_ _ _ _ ha hm
    exact ⟨a, l, _, ev, q, .inr ⟨vs, .of h1, .l ha⟩⟩
  | _ => exact q.elim
theorem di_seq {e : Expr} {te : DE} (he : PEd X e te) : PId X tg e (iSeq te) := ⟨_, pi_seq he, fun σ H R ρ M E Rd S Rm q xo k => ⟨ρ, M, E, _, S, Rm, q, xo, fun v d M1 H1 e1 R1 r1 q1 => by
  obtain ⟨a, xs, G, ev, qd, h⟩ := seqI_ok R1 r1 q1
  refine ⟨a, ev, ?_⟩
  rcases h with ⟨vs, h1, sn⟩ | ⟨vs, h1, sn⟩
  · exact .inl ⟨vs, h1, k _ xs G M1 H1 e1 R1 sn qd⟩
  · exact .inr ⟨vs, h1, k _ xs G M1 H1 e1 R1 sn qd⟩⟩⟩
theorem di_range1 {a : Expr} {ta : DA} {p pos : Pos} (hm : X.mg "range" = none) (ha : PAd X [a] ta) (hg : Gl X "range" := by rfl) (hs : starEach [a] X.env = [(false, eval a X.env)] := by rfl) : PId X tg (.Call (.Name "range" p) [a] [] pos) (iRange1 ta) :=
  ⟨_, pi_range1 hg hm ha hs, fun σ H R ρ M E Rd S Rm q xo k => ⟨ρ, M, E, _, S, Rm, q, xo, fun vs ds M1 H1 e1 R1 r1 ⟨x, ed, j, ej, h1, h2, q1⟩ => by
    subst ed; subst ej
    obtain ⟨v, ev, rv⟩ := r1.one'
    subst ev; cases rv
    exact ⟨j, rfl, h2, h1, k _ _ _ M1 H1 e1 R1 .r q1⟩⟩⟩
theorem di_range2 {a b : Expr} {ta : DA} {p pos : Pos} (hm : X.mg "range" = none) (ha : PAd X [a, b] ta) (hg : Gl X "range" := by rfl) (hs : starEach [a, b] X.env = [(false, eval a X.env), (false, eval b X.env)] := by rfl) (hs2 : starEach [b] X.env = [(false, eval b X.env)] := by rfl) :
    PId X tg (.Call (.Name "range" p) [a, b] [] pos) (iRange2 ta) :=
  ⟨_, pi_range2 hg hm ha hs hs2, fun σ H R ρ M E Rd S Rm q xo k => ⟨ρ, M, E, _, S, Rm, q, xo, fun vs ds M1 H1 e1 R1 r1 ⟨x, y, ed, i, ei, j, ej, ⟨h1, h2, h3, h4⟩, q1⟩ => by
    subst ed; subst ei; subst ej
    obtain ⟨v, w, ev, rv, rw'⟩ := r1.two'
    subst ev; cases rv; cases rw'
    exact ⟨i, j, rfl, ⟨h1, h2, h4, h3⟩, k _ _ _ M1 H1 e1 R1 .r q1⟩⟩⟩

/-! ### for -/
theorem drop_get {α : Type} {xs : List α} {i : Nat} (h : i < xs.length) : xs.drop i = xs[i] :: xs.drop (i + 1) := List.drop_eq_getElem_cons h
/-- forgetting, below -/
theorem wk_ok {K : PySem.W.Frag} {mg : Str → Option Value} {M1 M5 : MB} {H1 H5 : Hp} {P : DSt → MH → Prop} {ρ5 : DSt} {σ5 : L2.St} (R1 : MR K mg M1 H1) (e : Ev M1 H1 M5 H5) (S : Slots K M5 H5 ρ5 σ5) (R : MR K mg M5 H5) (w : Wk M1.m.length P ρ5 M5.m) :
    ∃ ρ6 M6, Ev M1 H1 M6 H5 ∧ Slots K M6 H5 ρ6 σ5 ∧ MR K mg M6 H5 ∧ P ρ6 M6.m := by
  obtain ⟨ρ6, m6, l6, s6, hb, q6⟩ := w
  have hn : M1.i.length ≤ m6.length := by rw [← R1.len]; exact s6.ge (by rw [R1.len, R.len]; exact pre_len e.pre)
  exact ⟨ρ6, M5.less m6, e.less hn, S.cut R l6 hb, R.less s6, q6⟩
theorem wkM_ok {K : PySem.W.Frag} {mg : Str → Option Value} {M1 M5 : MB} {H1 H5 : Hp} {P : MH → Prop} (R1 : MR K mg M1 H1) (e : Ev M1 H1 M5 H5) (R : MR K mg M5 H5) (w : WkM M1.m.length P M5.m) :
    ∃ M6, Ev M1 H1 M6 H5 ∧ MR K mg M6 H5 ∧ P M6.m ∧ (∀ a ∈ M6.i, a ∈ M5.i) := by
  obtain ⟨m6, s6, q6⟩ := w
  have hn : M1.i.length ≤ m6.length := by rw [← R1.len]; exact s6.ge (by rw [R1.len, R.len]; exact pre_len e.pre)
  exact ⟨M5.less m6, e.less hn, R.less s6, q6, fun a h => List.mem_of_mem_take h⟩
theorem wkL_ok {K : PySem.W.Frag} {mg : Str → Option Value} {M1 M5 : MB} {H1 H5 : Hp} {P : List D → MH → Prop} {l : List D} {vs : List V} (R1 : MR K mg M1 H1) (e : Ev M1 H1 M5 H5) (S : Reps K M5 H5 l vs) (R : MR K mg M5 H5) (w : WkL M1.m.length P l M5.m) :
    ∃ M6, Ev M1 H1 M6 H5 ∧ Reps K M6 H5 l vs ∧ MR K mg M6 H5 ∧ P l M6.m ∧ (∀ a ∈ M6.i, a ∈ M5.i) := by
  obtain ⟨m6, s6, hb, q6⟩ := w
  have hn : M1.i.length ≤ m6.length := by rw [← R1.len]; exact s6.ge (by rw [R1.len, R.len]; exact pre_len e.pre)
  exact ⟨M5.less m6, e.less hn, S.less R hb, R.less s6, q6, fun a h => List.mem_of_mem_take h⟩
theorem wkD_ok {K : PySem.W.Frag} {mg : Str → Option Value} {M1 M5 : MB} {H1 H5 : Hp} {P : D → MH → Prop} {d : D} {v : V} (R1 : MR K mg M1 H1) (e : Ev M1 H1 M5 H5) (S : Rep K M5 H5 d v) (R : MR K mg M5 H5) (w : WkD M1.m.length P d M5.m) :
    ∃ M6, Ev M1 H1 M6 H5 ∧ Rep K M6 H5 d v ∧ MR K mg M6 H5 ∧ P d M6.m := by
  obtain ⟨m6, s6, hb, q6⟩ := w
  have hn : M1.i.length ≤ m6.length := by rw [← R1.len]; exact s6.ge (by rw [R1.len, R.len]; exact pre_len e.pre)
  exact ⟨M5.less m6, e.less hn, S.less R hb, R.less s6, q6⟩
theorem ds_for {body : List Stmt} {ti : DI} {g : Tg} {tb : DS} (hp : PassesOwn (model X.prog X.w) X.A X.env X.xe) (hc : X.calm = true) (hi : PId X tg iter ti) (hg : PGd X tg g) (hb : PSsd X body tb)
    (hs : ∀ x, foldedSetIterable iter X.env x = pure x := by intro _; rfl) : PSd X (.For tg iter body [] pos) (dFor ti g tb) := by
  obtain ⟨wi, h1, h2⟩ := hi
  refine psI (ps_for hp hc h1 hg.of hb hs) fun D σ H ⟨ρ, M, De, S, R, q, k⟩ => h2 σ H _ ρ M _ _ S R q (k.xok S) fun J xs G M1 H1 e1 R1 sn ⟨T, f, m, I, i0, it, il⟩ => ?_
  obtain ⟨ρ0, M0, e0, S0, R0, q0⟩ := wk_ok R1 .refl (S.ev e1) R1 i0.wk
  refine ⟨fun i k σ' H' => ∃ t M', k = xs.length - i ∧ i ≤ xs.length ∧ M'.m = m t ∧ Slots X.K M' H' (f t) σ' ∧ MR X.K X.mg M' H' ∧ Ev M1 H1 M' H' ∧ I i t, ?_, ?_⟩
  · obtain ⟨t, e, em, q0⟩ := q0
    subst e
    exact ⟨_, t, M0, rfl, Nat.zero_le _, em, S0, R0, e0, q0⟩
  rintro i k' σ2 H2 ⟨t, M2, rfl, hi, em, S2, R2, e2, q2⟩
  have E2 : EndsOk X M2 H2 De D := k.later (e1.trans e2)
  by_cases hlt : i < xs.length
  · have ex : xs[i]? = some xs[i] := List.getElem?_eq_getElem hlt
    obtain ⟨g2, q2⟩ := it i _ t ex q2
    rw [← em] at g2 q2
    refine .inr ⟨sn.go i _ M2 H2 e2.sq R2 g2 ex, fun σ' H' => ∃ t M', i + 1 ≤ xs.length ∧ M'.m = m t ∧ Slots X.K M' H' (f t) σ' ∧ MR X.K X.mg M' H' ∧ Ev M1 H1 M' H' ∧ I (i + 1) t,
      fun σ' H' ⟨t', M', h, r⟩ => ⟨xs.length - (i + 1), by omega, t', M', rfl, h, r⟩, fun x H3 y => ?_⟩
    obtain ⟨e3, R3, r3⟩ := sn.yld i _ M2 H2 x H3 e2.sq R2 g2 ex y
    refine LG_ok g r3 (S2.ev e3) q2 fun ρ4 σ4 S4 q4 => ⟨ρ4, M2, _, S4, R3, q4, ?_⟩
    have E3 := E2.later e3
    have again : ∀ σ5 H5 ρ5 M5, Ev M2 H3 M5 H5 → Slots X.K M5 H5 ρ5 σ5 → MR X.K X.mg M5 H5 → nxP M1.m.length (I (i + 1)) f m ρ5 M5.m → ∃ t M', i + 1 ≤ xs.length ∧ M'.m = m t ∧ Slots X.K M' H5 (f t) σ5 ∧ MR X.K X.mg M' H5 ∧ Ev M1 H1 M' H5 ∧ I (i + 1) t := fun σ5 H5 ρ5 M5 e5 S5 R5 w => by
      obtain ⟨ρ6, M6, e6, S6, R6, t6, er, em6, q6⟩ := wk_ok R1 ((e2.trans e3).trans e5) S5 R5 w.wk
      subst er
      exact ⟨t6, M6, hlt, em6, S6, R6, e6, q6⟩
    exact ⟨again, E3.rt, E3.nx, again, E3.ex⟩
  · have e : i = xs.length := by omega
    subst e
    obtain ⟨g2, q2⟩ := il t q2
    rw [← em] at g2 q2
    exact .inl ⟨sn.stop M2 H2 e2.sq R2 g2, E2.nx _ _ _ _ .refl S2 R2 q2⟩

/-! ### while -/
theorem ds_while {c : Expr} {body : List Stmt} {tc : DT} {tb : DS} (hp : PassesOwn (model X.prog X.w) X.A X.env X.xe) (hc : PTd X c tc) (hb : PSsd X body tb) : PSd X (.While c body [] pos) (dWhile tc tb) :=
  psI (ps_while hp hc hb) fun D σ H ⟨ρ, M, De, S, R, ⟨T, f, m, I, ⟨n, i0⟩, it⟩, k⟩ => by
    refine ⟨fun j σ' H' => ∃ t M', M'.m = m t ∧ Slots X.K M' H' (f t) σ' ∧ MR X.K X.mg M' H' ∧ Ev M H M' H' ∧ I j t, ?_, ?_⟩
    · obtain ⟨ρ0, M0, e0, S0, R0, t, e, em, q0⟩ := wk_ok R .refl S R i0.wk
      subst e
      exact ⟨n, t, M0, em, S0, R0, e0, q0⟩
    rintro j σ2 H2 ⟨t, M2, em, S2, R2, e2, q2⟩
    have E2 : EndsOk X M2 H2 De D := k.later e2
    have q2 := it j t q2
    rw [← em] at q2
    refine ⟨f t, M2, _, _, S2, R2, q2, E2.xok S2, fun b M3 H3 e3 R3 q3 => ?_⟩
    have E3 := E2.later e3
    cases b with
    | false => exact E3.nx _ _ _ _ .refl (S2.ev e3) R3 q3
    | true =>
      refine ⟨fun σ' H' => ∃ j', j' < j ∧ ∃ t M', M'.m = m t ∧ Slots X.K M' H' (f t) σ' ∧ MR X.K X.mg M' H' ∧ Ev M H M' H' ∧ I j' t, fun σ' H' h => h, f t, M3, _, S2.ev e3, R3, q3, ?_⟩
      have again : ∀ σ5 H5 ρ5 M5, Ev M3 H3 M5 H5 → Slots X.K M5 H5 ρ5 σ5 → MR X.K X.mg M5 H5 → nxP M.m.length (fun t => ∃ j', j' < j ∧ I j' t) f m ρ5 M5.m → ∃ j', j' < j ∧ ∃ t M', M'.m = m t ∧ Slots X.K M' H5 (f t) σ5 ∧ MR X.K X.mg M' H5 ∧ Ev M H M' H5 ∧ I j' t := fun σ5 H5 ρ5 M5 e5 S5 R5 w => by
        obtain ⟨ρ6, M6, e6, S6, R6, t6, er, em6, j', hj, q6⟩ := wk_ok R ((e2.trans e3).trans e5) S5 R5 w.wk
        subst er
        exact ⟨j', hj, t6, M6, em6, S6, R6, e6, q6⟩
      exact ⟨again, E3.rt, E3.nx, again, E3.ex⟩

/-! ### [.. for .. in .. if ..] -/
def PTsd (X : Cx) (ifs : List Expr) (t : DT) : Prop := PTs X ifs (LT X t)
theorem dts_nil : PTsd X [] tYesD := ⟨fun pins s σ H Q I ⟨ρ, M, E, Qd, S, R, q, xo, k⟩ => pts_nil.run pins s σ H Q I (k true M H .refl R q)⟩
theorem dts_one {c : Expr} {t : DT} (h : PTd X c t) : PTsd X [c] t := pts_one h
theorem wipe_eq {K : PySem.W.Frag} {M : MB} {H : Hp} {ρ : DSt} {σ : L2.St} (S : Slots K M H ρ σ) : ∀ vs : List Nat, Slots K M H (wipeD ρ vs) (wipe σ vs)
  | [] => S
  | v :: vs => by
    have h := wipe_eq S vs
    unfold wipeD wipe
    refine ⟨by simp [h.1], fun i d e => ?_⟩
    by_cases hi : v = i
    · subst hi
      by_cases hl : v < (wipeD ρ vs).length
      · rw [List.getElem?_set_self hl] at e; cases e
      · rw [List.getElem?_eq_none (by simp; omega)] at e; cases e
    · rw [List.getElem?_set_ne hi] at e
      obtain ⟨w, e1, r⟩ := h.2 i d e
      exact ⟨w, by rw [List.getElem?_set_ne hi]; exact e1, r⟩
mutual
/-- the slots that a target stores -/
def Tg.slots : Tg → List Nat
  | .nm i => [i]
  | .tp ts => Tg.slotss ts
def Tg.slotss : List Tg → List Nat
  | [] => []
  | t :: ts => t.slots ++ Tg.slotss ts
end
theorem wipe_set {σ : L2.St} {v : Option V} {i : Nat} : ∀ {vs : List Nat}, i ∈ vs → wipe (σ.set i v) vs = wipe σ vs
  | w :: vs, h => by
    unfold wipe
    by_cases hi : i ∈ vs
    · rw [wipe_set hi]
    · have : w = i := by
        rcases List.mem_cons.mp h with z | z
        · exact z.symm
        · exact absurd z hi
      subst this
      have aux : ∀ us : List Nat, w ∉ us → wipe (σ.set w v) us = (wipe σ us).set w v := fun us => by
        induction us with
        | nil => intro _; rfl
        | cons u us ih =>
          intro hn
          unfold wipe
          rw [ih (fun z => hn (List.mem_cons_of_mem _ z))]
          exact List.set_comm _ _ (fun z => hn (by rw [z]; exact List.mem_cons_self))
      rw [aux vs hi, List.set_set]
mutual
theorem LG_wipe {K : PySem.W.Frag} {M : MB} {H : Hp} (vs : List Nat) : ∀ (g : Tg) {d : D} {v : V} {ρ : DSt} {σ : L2.St} {Qd : DSt → Prop} {Q : L2.St → Hp → Prop}, (∀ i ∈ g.slots, i ∈ vs) → Rep K M H d v → Slots K M H ρ σ → g.store d ρ Qd →
    (∀ ρ' σ', Slots K M H ρ' σ' → wipe σ' vs = wipe σ vs → Qd ρ' → Q σ' H) → LG K g v σ H Q
  | .nm i, _, _, _, _, _, _, hs, r, S, q, k => by
    rw [LG]
    rw [Tg.store] at q
    exact k _ _ (S.set r) (wipe_set (hs i (by simp [Tg.slots]))) q
  | .tp ts, _, _, _, _, _, _, hs, r, S, q, k => by
    rw [Tg.store] at q
    rw [LG]
    obtain ⟨l, e, hl, q⟩ := q
    subst e
    obtain ⟨p, us, ev, ht, rs⟩ := r
    subst ev
    exact ⟨p, us, rfl, ht, by rw [← rs.len, hl], LGs_wipe vs ts (fun i h => hs i (by simpa [Tg.slots] using h)) rs hl S q k⟩
theorem LGs_wipe {K : PySem.W.Frag} {M : MB} {H : Hp} (ws : List Nat) : ∀ (ts : List Tg) {l : List D} {vs : List V} {ρ : DSt} {σ : L2.St} {Qd : DSt → Prop} {Q : L2.St → Hp → Prop}, (∀ i ∈ Tg.slotss ts, i ∈ ws) → Reps K M H l vs → l.length = ts.length → Slots K M H ρ σ → Tg.stores ts l ρ Qd →
    (∀ ρ' σ', Slots K M H ρ' σ' → wipe σ' ws = wipe σ ws → Qd ρ' → Q σ' H) → LGs K ts vs σ H Q
  | [], l, vs, _, _, _, _, hs, r, hl, S, q, k => by
    have : l = [] := by cases l with | nil => rfl | cons _ _ => simp at hl
    subst this
    cases r
    rw [LGs]
    rw [Tg.stores] at q
    · exact ⟨rfl, k _ _ S rfl q⟩
    · intro _ _ _ _ h; cases h
  | t :: ts, l, vs, _, _, _, _, hs, r, hl, S, q, k => by
    cases l with
    | nil => simp at hl
    | cons d l =>
      obtain ⟨v, vr, ev, h1, h2⟩ := r
      subst ev
      rw [Tg.stores] at q
      rw [LGs]
      exact ⟨v, vr, rfl, LG_wipe ws t (fun i h => hs i (by rw [Tg.slotss]; exact List.mem_append_left _ h)) h1 S q fun ρ' σ' S' w' q' =>
        LGs_wipe ws ts (fun i h => hs i (by rw [Tg.slotss]; exact List.mem_append_right _ h)) h2 (by simpa using hl) S' q' fun ρ2 σ2 S2 w2 q2 => k ρ2 σ2 S2 (w2.trans w') q2⟩
end
theorem wipe_get (σ : L2.St) (j : Nat) : ∀ vs : List Nat, (wipe σ vs)[j]? = if j ∈ vs ∧ j < σ.length then some none else σ[j]?
  | [] => by simp [wipe]
  | v :: vs => by
    unfold wipe
    by_cases hj : v = j
    · subst hj
      by_cases hl : v < σ.length
      · rw [List.getElem?_set_self (by rw [wipe_length]; exact hl)]; simp [hl]
      · rw [List.getElem?_eq_none (by simp [wipe_length]; omega)]
        have : ¬ v < σ.length := hl
        simp [this]
    · rw [List.getElem?_set_ne hj, wipe_get σ j vs]
      simp only [List.mem_cons, Ne.symm hj, false_or]
theorem wipe_wipe (σ : L2.St) (vs : List Nat) : wipe (wipe σ vs) vs = wipe σ vs := by
  apply List.ext_getElem?
  intro j
  rw [wipe_get, wipe_length, wipe_get]
  split <;> rfl
theorem lift_lc {mk : MkR} (hmk : MkOk mk) {wi : TI} {ti : DI} {g : Tg} {tt : DT} {te : DE} {vs : List Nat} {tt' : TT} {te' : TE} (hg : ∀ i ∈ g.slots, i ∈ vs)
    (h2 : ∀ (σ : L2.St) (H : Hp) (R : It → Hp → Prop) (ρ : DSt) (M : MB) (E : XQ) (Rd : List D → (MH → Prop) → MH → Prop), Slots X.K M H ρ σ → MR X.K X.mg M H → ti ρ M.m E Rd → XOk X M σ H E → (∀ J xs G M' H', Ev M H M' H' → MR X.K X.mg M' H' → Snd X.K X.mg M' H' J xs G → Rd xs G M'.m → R J H') → wi σ H R)
    (htt : ∀ σ H Q ρ M Qd, Slots X.K M H ρ σ → MR X.K X.mg M H → tt ρ M.m noX Qd → (∀ b M' H', Ev M H M' H' → MR X.K X.mg M' H' → Qd b M'.m → Q b H') → tt' σ H Q)
    (hte : ∀ σ H Q ρ M Qd, Slots X.K M H ρ σ → MR X.K X.mg M H → te ρ M.m noX Qd → (∀ v d M' H', Ev M H M' H' → MR X.K X.mg M' H' → Rep X.K M' H' d v → Qd d M'.m → Q v H') → te' σ H Q)
    (σ : L2.St) (H : Hp) (Q Q' : VK) (hQ : ∀ v H, frzQ Q v H → Q' v H) : LE X (dLC mk ti g tt te vs) σ H Q → tLc wi (LG X.K g) tt' te' vs σ H Q' := fun ⟨ρ, M, E, Qd, S, R, q, xo, k⟩ => by
  refine h2 σ H _ ρ M E _ S R q xo fun J xs G M1 H1 e1 R1 sn ⟨hz, g1, Rl, it, il⟩ => fun D nD => ?_
  have mD : D ∉ M1.i := R1.mem nD
  -- between two turns
  let W : Nat → Nat → Hp → Prop := fun i m H' => ∃ (M' : MB) (ys : List (Option DM.D)) (av : List V), m = xs.length - i ∧ i ≤ xs.length ∧ ys.length = i ∧ Ev M1 H1 M' H' ∧ MR X.K X.mg M' H' ∧ D ∉ M'.i ∧ H' D = some (.lst av) ∧ Reps X.K M' H' (ys.filterMap id) av ∧ M'.m = M1.m ∧ ∀ (k : Nat) x y, xs[k]? = some x → ys[k]? = some y → Rl k x y
  refine ⟨W, ⟨_, M1, [], [], rfl, Nat.zero_le _, rfl, .new nD, R1.new nD, mD, upd_same, .nil, rfl, fun k x y _ h => by simp at h⟩, ?_⟩
  rintro i m H2 ⟨M2, ys, av, rfl, hi, hl, E12, R2, n2, hD, ra, em, q2⟩
  have g2 : G M2.m := by rw [em]; exact g1
  by_cases hlt : i < xs.length
  · have ex : xs[i]? = some xs[i] := List.getElem?_eq_getElem hlt
    have q3 := it i _ ex
    rw [← em] at q3
    have add : ∀ y, Rl i xs[i] y → ∀ (k : Nat) x z, xs[k]? = some x → (ys ++ [y])[k]? = some z → Rl k x z := fun y hy k x z hx hz => by
      by_cases hk : k < i
      · rw [List.getElem?_append_left (by omega)] at hz; exact q2 k x z hx hz
      · have : k = i := by
          have := (List.getElem?_eq_some_iff.mp hz).1
          simp at this; omega
        subst this
        rw [List.getElem?_append_right (by omega), hl] at hz
        simp at hz; subst hz
        rw [ex] at hx; cases hx
        exact hy
    refine .inr ⟨sn.go i _ M2 H2 E12.sq R2 g2 ex, fun H' => W (i + 1) (xs.length - (i + 1)) H', fun H' w => ⟨_, by omega, w⟩, fun x H3 y => ?_⟩
    obtain ⟨e3, R3, r3⟩ := sn.yld i _ M2 H2 x H3 E12.sq R2 g2 ex y
    refine LG_wipe vs g hg r3 ((wipe_eq S vs).ev (e1.trans (E12.trans e3))) q3 fun ρ4 σ4 S4 w4 q4 => ⟨by rw [w4, wipe_wipe], htt _ _ _ ρ4 M2 _ S4 R3 q4 fun b M5 H5 e5 R5 q5 => ?_⟩
    have E35 := e3.trans e5
    have n5 : D ∉ M5.i := fun z => by have := E35.dom D z n2; rw [hD] at this; cases this
    have hD5 := E35.frame D _ hD n2
    have lenM : M2.m.length = M1.m.length := by rw [em]
    have bA : DM.D.bels M1.m.length (ys.filterMap id) = true := by rw [← lenM, R2.len]; exact ra.is_bel
    cases b with
    | false =>
      obtain ⟨bk, hr⟩ := q5
      have w : WkL M1.m.length (fun _ m => m = M1.m) (ys.filterMap id) M5.m := by
        rw [em] at bk
        rcases bk with bk | ⟨L, bk, hb⟩
        · exact .of bk
        · exact ⟨M1.m, ⟨by rw [bk]; exact lessP_of (by simp), .inr ⟨Nat.le_refl _, by rw [bk]; simp, hb⟩⟩, .inr bA, rfl⟩
      obtain ⟨M6, e6, ra6, R6, q6, hM6⟩ := wkL_ok R1 (E12.trans E35) (ra.ev E35) R5 w
      exact ⟨M6, ys ++ [none], av, rfl, hlt, by simp [hl], e6, R6, fun z => n5 (hM6 D z), hD5, by simpa using ra6, q6, add none hr⟩
    | true =>
      refine hte _ _ _ ρ4 M5 _ (S4.ev e5) R5 q5 fun v d M6 H6 e6 R6 r6 ⟨bk, hr⟩ => ?_
      have n6 : D ∉ M6.i := fun z => by have := e6.dom D z n5; rw [hD5] at this; cases this
      have hD6 := e6.frame D _ hD5 n5
      have ra6 := (ra.ev (E35.trans e6)).app (.one r6)
      have w : WkL M1.m.length (fun _ m => m = M1.m) (ys.filterMap id ++ [d]) M6.m := by
        rw [em] at bk
        rcases bk with bk | ⟨⟨L, bk, hb⟩, hd⟩
        · exact .of bk
        · refine ⟨M1.m, ⟨by rw [bk]; exact lessP_of (by simp), .inr ⟨Nat.le_refl _, by rw [bk]; simp, hb⟩⟩, .inr ?_, rfl⟩
          have : ∀ {l : List DM.D}, DM.D.bels M1.m.length l = true → DM.D.bels M1.m.length (l ++ [d]) = true := fun {l} => by
            induction l with
            | nil => intro _; simp [DM.D.bels, hd]
            | cons x l ih => intro h; simp [DM.D.bels] at h ⊢; exact ⟨h.1, by simpa using ih h.2⟩
          exact this bA
      obtain ⟨M7, e7, ra7, R7, q7, hM7⟩ := wkL_ok R1 (E12.trans (E35.trans e6)) ra6 R6 w
      have n7 : D ∉ M7.i := fun z => n6 (hM7 D z)
      have lb : (ys.filterMap id).length ≤ ys.length := List.length_filterMap_le _ _
      refine ⟨av, hD6, ?_, M7, ys ++ [some d], av ++ [v], rfl, hlt, by simp [hl], e7.hid nD, R7.hid hD6 trivial n7, n7, upd_same, by simpa using ra7.mono (KeepT.lock hD6 trivial), q7, add (some d) hr⟩
      rw [← ra.len]; omega
  · have e : i = xs.length := by omega
    subst e
    have q3 := il ys hl q2
    rw [← em] at q3
    exact .inl ⟨sn.stop M2 H2 E12.sq R2 g2, hQ _ _ (hmk.of (o := .lst (ys.filterMap id)) (M0 := M1) (H0 := H1) E12 nD mD n2 hD trivial R2 ⟨av, hD, ra⟩ q3 fun v d M' H' e' R' r' q' => k v d M' H' (e1.trans e') R' r' q')⟩
theorem blkC_by {N N' : List Str} {sc sc' scope : Scope} {own : List (Str × Nat)} (h1 : N = N') (h2 : sc = sc') (h : blkC N' sc' scope own = true) : blkC N sc scope own = true := by subst h1; subst h2; exact h
abbrev blkE (X : Cx) (scope : Scope) (s : Shared) (H : Hp) (C : Addr) (cl : List (Str × Addr)) (fp : List Addr) : Cx := X.blk s H scope (compEnvC scope cl C X.env) fp
/-- .. where nothing is raised -/
def LT0 (K : PySem.W.Frag) (mg : Str → Option Value) (t : DT) : TT := fun σ H Q => ∃ ρ M Qd, Slots K M H ρ σ ∧ MR K mg M H ∧ t ρ M.m noX Qd ∧ ∀ b M' H', Ev M H M' H' → MR K mg M' H' → Qd b M'.m → Q b H'
def LE0 (K : PySem.W.Frag) (mg : Str → Option Value) (t : DE) : TE := fun σ H Q => ∃ ρ M Qd, Slots K M H ρ σ ∧ MR K mg M H ∧ t ρ M.m noX Qd ∧ ∀ v d M' H', Ev M H M' H' → MR K mg M' H' → Rep K M' H' d v → Qd d M'.m → Q v H'
theorem pts0 {X : Cx} {ifs : List Expr} {t : DT} (h : PTsd X ifs t) : PTs X ifs (LT0 X.K X.mg t) := ⟨fun pins s σ H Q I ⟨ρ, M, Qd, S, R, q, k⟩ => h.run pins s σ H Q I ⟨ρ, M, noX, Qd, S, R, q, .no, k⟩⟩
theorem pe0 {X : Cx} {e : Expr} {t : DE} (h : PEd X e t) : PE X e (LE0 X.K X.mg t) := peI h fun σ H Q ⟨ρ, M, Qd, S, R, q, k⟩ => ⟨ρ, M, noX, Qd, S, R, q, .no, k⟩
theorem de_lc {mk : MkR} (hmk : MkOk mk) {elt : Expr} {ifs : List Expr} {scope : Scope} {own : List (Str × Nat)} {ti : DI} {g : Tg} {tt : DT} {te : DE} (hc : X.calm = true) (hN : X.N.Nodup) (hi : PId X tg iter ti) (ok : blkC X.N X.env.scope scope own = true)
    (hg : ∀ s H C cl fp, PGd (blkE X scope s H C cl fp) tg g) (ht : ∀ s H C cl fp, PTsd (blkE X scope s H C cl fp) ifs tt) (he : ∀ s H C cl fp, PEd (blkE X scope s H C cl fp) elt te)
    (hv : ∀ i ∈ g.slots, i ∈ own.map (·.2) := by decide) (hs : ∀ x, foldedSetIterable iter X.env x = pure x := by intro _; rfl) :
    PEd X (.ListComp elt [⟨tg, iter, ifs, 0⟩] scope pos) (dLC mk ti g tt te (own.map (·.2))) := by
  obtain ⟨wi, h1, h2⟩ := hi
  exact peI (pe_frz (pe_lc (tt := LT0 X.K X.mg tt) (te := LE0 X.K X.mg te) hc hN h1 (blkOk_by ok) (fun s H C cl fp => (hg s H C cl fp).of) (fun s H C cl fp => pts0 (ht s H C cl fp)) (fun s H C cl fp => pe0 (he s H C cl fp)) hs))
    fun σ H Q => lift_lc hmk hv h2 (fun σ H Q ρ M Qd S R q k => ⟨ρ, M, Qd, S, R, q, k⟩) (fun σ H Q ρ M Qd S R q k => ⟨ρ, M, Qd, S, R, q, k⟩) σ H Q (frzQ Q) fun _ _ h => h
/-- a statement behind which something may be locked -/
def frzN (D : Ends) : Ends := { D with nx := fun σ' H' => D.nx σ' H' ∨ ∃ a u, H' a = some u ∧ Mut (some u) ∧ ∀ o, D.nx σ' (upd H' a (.frz o u)) }
theorem ps_frz {st : Stmt} {t : TS} (h : PS X st t) : PS X st (fun D σ H => t (frzN D) σ H) := by
  refine ⟨fun pins s σ H D I q => ?_⟩
  refine wpAny_mono (h.run pins s σ H (frzN D) I q) (fun f s1 hs => ?_) fun e s1 he => he
  cases f with
  | next =>
    obtain ⟨σ', H', J, q⟩ := hs
    rcases q with q | ⟨a, u, ea, mu, q⟩
    · exact ⟨σ', H', J, q⟩
    · obtain ⟨od, J'⟩ := J.lock ea mu
      exact ⟨σ', _, J', q od⟩
  | brk => exact hs
  | cont => exact hs
  | ret u => exact hs
theorem ds_setLc {mk : MkR} (hmk : MkOk mk) {i : Nat} {y : Str} {py spos : Pos} {elt : Expr} {ifs : List Expr} {scope : Scope} {own : List (Str × Nat)} {ti : DI} {g : Tg} {tt : DT} {te : DE} (hc : X.calm = true) (hN : X.N.Nodup) (hsw : swapsWith (.ListComp elt [⟨tg, iter, ifs, 0⟩] scope pos) (some (.Name y py)) spos.line X.env = pure true)
    (hi : PId X tg iter ti) (ok : blkC X.N X.env.scope scope own = true)
    (hg : ∀ s H C cl fp, PGd (blkE X scope s H C cl fp) tg g) (ht : ∀ s H C cl fp, PTsd (blkE X scope s H C cl fp) ifs tt) (he : ∀ s H C cl fp, PEd (blkE X scope s H C cl fp) elt te) (hy : X.N[i]? = some y := by rfl) (hyl : X.env.scope.names.lookup y = some .local := by rfl)
    (hv : ∀ i ∈ g.slots, i ∈ own.map (·.2) := by decide) (hs : ∀ x, foldedSetIterable iter X.env x = pure x := by intro _; rfl) :
    PSd X (.Assign [.Name y py] (.ListComp elt [⟨tg, iter, ifs, 0⟩] scope pos) spos) (dAsg (dLC mk ti g tt te (own.map (·.2))) (.nm i)) := by
  obtain ⟨wi, h1, h2⟩ := hi
  refine psI (ps_frz (ps_setLc (g := LG X.K g) (tt := LT0 X.K X.mg tt) (te := LE0 X.K X.mg te) hc hN hy hyl hsw h1 (blkOk_by ok) (fun s H C cl fp => (hg s H C cl fp).of) (fun s H C cl fp => pts0 (ht s H C cl fp)) (fun s H C cl fp => pe0 (he s H C cl fp)) hs)) fun D σ H ⟨ρ, M, De, S, R, q, k⟩ => ?_
  refine lift_lc hmk hv h2 (fun σ H Q ρ M Qd S R q k => ⟨ρ, M, Qd, S, R, q, k⟩) (fun σ H Q ρ M Qd S R q k => ⟨ρ, M, Qd, S, R, q, k⟩) σ H (fun v H1 => D.nx (σ.set i (some v)) H1) _ (fun v H1 h => ?_) ⟨ρ, M, _, _, S, R, q, k.xok S, fun v d M1 H1 e1 R1 r1 q1 => k.nx _ H1 _ M1 e1 ((S.ev e1).set r1) R1 (by simpa only [Tg.store] using q1)⟩
  show (frzN D).nx (σ.set i (some v)) H1
  rcases h with h | ⟨a, u, _, ea, mu, q⟩
  · exact .inl h
  · exact .inr ⟨a, u, ea, mu, q⟩
end
end DM

/-! DM: enumerate over tuples and lists, zip. -/
namespace DM
open PySem PySem.Spec PyProof.Rows L2
/-- enumerate(v) of anything whose iterator is known: one argument -/
theorem enum_new1 {v : Value} {ob : Obj} {Hh : Heap → Prop} (B : Begins v ob Hh) : Meets (Builtin.«enumerate.__new__» ⟨[.type "enumerate", v], []⟩) (fun _ R s => Hh s.heap ∧ R (.ok (.ret (.ref (s.heap.push ob).objs.size)))
    { s with heap := (s.heap.push ob).push { cls := .type "enumerate", data := .fields #[.none, .bool false, .ref s.heap.objs.size, rawInt 0, .none, .none] } }) := .of_wp fun prog w A R ss hh => by
  obtain ⟨hp, gg, dd, tt, oo⟩ := ss
  obtain ⟨z1, z2⟩ := hh
  have hsub := sub_enumerate
  have begin1 : ∀ {A2 : Around} {E2 Q2 : Value → Shared → Prop}, Q2 (.ref hp.objs.size) ⟨hp.push ob, gg, dd, tt, oo⟩ → wpAny (model prog w) A2 (pyIter v) Q2 E2 ⟨hp, gg, dd, tt, oo⟩ := fun qq => B.iter prog w _ _ ⟨hp, gg, dd, tt, oo⟩ _ z1 qq
  wp_walk using begin1
  refine wpAny_stack_any fun _ => wpAny_pure ?_
  split
  case h_1 c _ _ _ _ _ =>
    cases (c == Value.type "enumerate") <;> (wp_walk using begin1; exact ⟨_, rfl, z2⟩)
  all_goals (wp_walk using begin1; exact ⟨_, rfl, z2⟩)
section
variable {prog : Program} {w : World} {A : Around} {E : Value → Shared → Prop} {s : Shared}
theorem enum_call1 {v : Value} {ob : Obj} {Hh : Heap → Prop} {Q : Value → Shared → Prop} (B : Begins v ob Hh) (z1 : Hh s.heap)
    (k : ∀ h', IsEnum h' (s.heap.objs.size + 1) s.heap.objs.size 0 .none → h'.get? s.heap.objs.size = some ob → h'.objs.size = s.heap.objs.size + 2 → (∀ b o, s.heap.get? b = some o → h'.get? b = some o) → Q (.ref (s.heap.objs.size + 1)) { s with heap := h' }) :
    wpAny (model prog w) A (call (.type "enumerate") [v]) Q E s := by
  refine callType_new F.called_enumerate (by decide) (F.typeCall_enumerate_1 _) (F.newCall_enumerate_1 _) (fun o2 => F.args_object_init_2 o2 _) F.entry_enumerate_new (enum_new1 B) ⟨z1, ?_⟩
  have sz : (s.heap.push ob).objs.size = s.heap.objs.size + 1 := Heap.size_push ..
  show _ ∧ _
  rw [sz]
  have at1 := Heap.get?_push_size (s.heap.push ob) (o := { cls := .type "enumerate", data := .fields #[.none, .bool false, .ref s.heap.objs.size, rawInt 0, .none, .none] }) rfl
  rw [sz] at at1
  exact ⟨⟨_, at1, rfl⟩, k _ at1 (Heap.get?_push_of_some _ (Heap.get?_push_size _ B.free)) (by rw [Heap.size_push, sz]) fun b o x => Heap.get?_push_of_some _ (Heap.get?_push_of_some _ x)⟩
end
/-- the tuple at a, each item with its place in a new pair -/
def IteT (K : PySem.W.Frag) (a : Addr) : It where
  go := fun i H => ∃ (xs : List V) (x : V), SqT K H a xs ∧ xs[i]? = some x
  yld := fun i H v H' => ∃ T x, v = .ref T ∧ H T = none ∧ H' = upd H T (.tup [.int (i : Nat), x]) ∧ ∀ xs, SqT K H a xs → xs[i]? = some x
  stop := fun i H => ∃ xs : List V, SqT K H a xs ∧ xs.length = i
theorem turn_enumT {P : Program} {w : World} {K : PySem.W.Frag} {elts : List Expr} {kk : Nat} {tpos : Pos} (a e it : Addr) :
    Turn P w K (.Tuple elts kk tpos) (IteT K a) [e, it] e (fun i h => (∃ old, IsEnum h e it ((i : Nat) : Int) old) ∧ h.IsTupleIter it a i ∧ e ≠ it ∧ e ≠ a ∧ a ≠ it) where
  mem := by simp
  obj := fun i h ⟨⟨_, he⟩, ⟨o, ho, _, hd⟩, _⟩ b hb => by
    rcases (show b = e ∨ b = it by simpa using hb) with rfl | rfl
    · exact ⟨_, he, fun v q => nomatch q⟩
    · exact ⟨o, ho, fun v q => by rw [hd] at q; cases q⟩
  keep := fun i h h' ⟨⟨old, he⟩, hi, hne⟩ k => ⟨⟨old, k e (by simp) _ he⟩, hi.at fun o q => k it (by simp) o q, hne⟩
  item := by
    intro X hP hw hK hc i pins s σ H E I hf ⟨⟨old, he⟩, hit, hne, hea, hai⟩ ⟨xs, x, hq, hx⟩
    subst hP hw hK
    obtain ⟨its, rv, p, hz⟩ := I.tuple hq
    obtain ⟨u, hu, ru⟩ := rv.get hx
    have hT0 : s.heap.IsTuple a its.toArray := p
    have hel := Heap.lt_size he
    have hil : it < s.heap.objs.size := by obtain ⟨_, q, _⟩ := hit; exact Heap.lt_size q
    have hi' : i < its.toArray.size := by
      have := (List.getElem?_eq_some_iff.mp hu).1
      simpa using this
    refine wpAny_pyNext_enum_itemD (Draws.tuple (A := X.A.in1) (I.ok.hd hc) it a hai its.toArray) he ⟨hit, hT0⟩ hi' hne (by simp [hne, hea]) fun y h' tk hy ho hs' hT hsz hk => ?_
    have eu : y = u := by
      have : its[i]? = some y := by simpa using hy
      rw [hu] at this; cases this; rfl
    subst eu
    refine ⟨_, rfl, wpAny_letOwnedTupleGo_enum (s := { s with heap := h', toks := tk + 1 }) ho fun h'' he' sb => ?_⟩
    have hT2 : h''.get? s.heap.objs.size = some { cls := .type "tuple", data := .seq #[.int i tk, y] } := (sb.2 _ (Nat.ne_of_gt hel)).trans hT
    have made : ObjOk X.prog X.w (upd H s.heap.objs.size (.tup [.int (i : Nat), x])) h'' s.heap.objs.size (.tup [.int (i : Nat), x]) := ⟨by show 2 ≤ sizeLine; decide, [.int i tk, y], .cons ⟨_, rfl⟩ (.cons ru .nil), ⟨_, hT2, rfl, _, rfl⟩⟩
    have I1 : Inv X pins σ (upd H s.heap.objs.size (.tup [.int (i : Nat), x])) { s with heap := h'', toks := tk + 1 } :=
      I.turnedNew (ch := [e, it]) (fun b ob hb q => (sb.2 b fun z => hb (by simp [z])).trans (hk b ob (fun z => hb (by simp [z])) (fun z => hb (by simp [z])) q)) hf (Nat.le_refl _) made
    have ic : (((i + 1 : Nat) : Nat) : Int) = (i : Int) + 1 := by omega
    refine ⟨.ref s.heap.objs.size, _, I1, rfl, ⟨_, x, rfl, I.hok.fresh (Nat.le_refl _), rfl, fun ys hy => by rw [I.tuple_inj hy hq]; exact hx⟩, ⟨⟨y, by rw [ic]; exact he'⟩, hs'.1.at fun o q => (sb.2 it (Ne.symm hne)).trans q, hne, hea, hai⟩, fun b hb => ?_⟩
    have hb' : b < s.heap.objs.size := by
      rcases (show b = e ∨ b = it by simpa using hb) with rfl | rfl
      · exact hel
      · exact hil
    rw [upd_ne (Nat.ne_of_lt hb')]
    exact (hf b hb).1
  done := by
    intro X hP hw hK hc i pins s σ H E I hf ⟨⟨old, he⟩, hit, hne, hea, hai⟩ ⟨xs, hq, hx⟩
    subst hP hw hK
    obtain ⟨its, rv, p, hz⟩ := I.tuple hq
    obtain ⟨f0, f1, f2, f3, f4, f5⟩ := hf it (by simp)
    have hl := rv.length
    have hT0 : s.heap.IsTuple a its.toArray := p
    have ei : i = its.toArray.size := by simp; omega
    rw [ei] at hit
    exact wpAny_pyNext_enum_endD (Draws.tuple (A := X.A.in1) (I.ok.hd hc) it a hai its.toArray) he ⟨hit, hT0⟩ fun h' eb => ⟨rfl, I.turned (t' := s.toks) (fun b o hb q => eb b o hb q) f0 f1 f3 f4 f5⟩
  self := fun A i s Q E ⟨⟨_, he⟩, _⟩ h => wpAny_pyIter_enum he h
section
variable {X : Cx} {tg : Expr} {pos : Pos}
def itEnum (K : PySem.W.Frag) (ta : TA) : TI := fun σ H R => ta σ H fun vs H1 => ∃ a xs, vs = [.ref a] ∧ ((SqL K H1 a xs ∧ R (Ite K a) H1) ∨ (SqT K H1 a xs ∧ R (IteT K a) H1))
theorem pi_enumA {e : Expr} {ta : TA} {p tpos : Pos} {elts : List Expr} {kk : Nat} (hg : Gl X "enumerate") (hm : X.mg "enumerate" = none) (ha : PA X [e] ta) (hs : starEach [e] X.env = [(false, eval e X.env)] := by rfl) :
    PI X (.Tuple elts kk tpos) (.Call (.Name "enumerate" p) [e] [] pos) (itEnum X.K ta) := by
  refine ⟨fun pins s σ H R I h => Call_ (ld_blt I hg hm boot_enumerate (PyProof.Rows.callWith_type1 (thn (ha.run pos pins s σ H _ I h) fun us s1 ⟨vs, H1, I1, r1, a, xs, ex, q⟩ => ?_) hs rfl))⟩
  subst ex
  cases r1 with
  | cons r rr =>
    cases rr
    cases r
    have fp : ∀ b, b ∈ [s1.heap.objs.size + 1, s1.heap.objs.size] → FpOk X pins H1 b := fun b hb => by
      have hle : s1.heap.objs.size ≤ b := by
        rcases (show b = s1.heap.objs.size + 1 ∨ b = s1.heap.objs.size by simpa using hb) with z | z <;> rw [z] <;> omega
      exact I1.fpOk hle (I1.hok.fresh hle)
    rcases q with ⟨hq, q⟩ | ⟨hq, q⟩
    · obtain ⟨its, rv, p', hz⟩ := I1.list hq
      refine call_enumerate_list p'.isList fun h' he hit hsz hk => wpAny_pyIter_enum he ?_
      exact ⟨s1.heap.objs.size + 1, _, _, _, H1, rfl, I1.kept (t' := s1.toks) hk, turn_enum a (s1.heap.objs.size + 1) s1.heap.objs.size, ⟨⟨.none, he⟩, hit, Nat.succ_ne_self _⟩, fp, q⟩
    · obtain ⟨its, rv, p', hz⟩ := I1.tuple hq
      have hT0 : s1.heap.IsTuple a its.toArray := p'
      have hal : a < s1.heap.objs.size := by obtain ⟨_, z, _⟩ := hT0; exact Heap.lt_size z
      refine enum_call1 (begins_tuple a its.toArray) hT0 fun h' he ho hsz hk => wpAny_pyIter_enum he ?_
      exact ⟨s1.heap.objs.size + 1, _, _, _, H1, rfl, I1.kept (t' := s1.toks) hk, turn_enumT a (s1.heap.objs.size + 1) s1.heap.objs.size, ⟨⟨.none, he⟩, ⟨_, ho, rfl, rfl⟩, Nat.succ_ne_self _, Nat.ne_of_gt (Nat.lt_succ_of_lt hal), Nat.ne_of_lt hal⟩, fp, q⟩
theorem enumD_get : ∀ (xs : List D) (k : Int) (i : Nat) (x : D), xs[i]? = some x → (enumD k xs)[i]? = some (.tup [.int (k + i), x])
  | [], _, _, _, h => by simp at h
  | y :: r, k, 0, x, h => by simp at h; simp [enumD, h]
  | y :: r, k, i + 1, x, h => by
    rw [enumD, List.getElem?_cons_succ, enumD_get r (k + 1) i x (by simpa using h)]
    congr 4
    push_cast
    omega
theorem enumD_len : ∀ (xs : List D) (k : Int), (enumD k xs).length = xs.length
  | [], _ => rfl
  | y :: r, k => by rw [enumD, List.length_cons, List.length_cons, enumD_len r]
theorem enumD_inv {xs : List D} {k : Int} {i : Nat} {z : D} (h : (enumD k xs)[i]? = some z) : ∃ x, xs[i]? = some x ∧ z = .tup [.int (k + i), x] := by
  have hl := (List.getElem?_eq_some_iff.mp h).1
  rw [enumD_len] at hl
  have := enumD_get xs k i xs[i] (by simp [hl])
  rw [h] at this
  exact ⟨xs[i], by simp [hl], by cases this; rfl⟩
/-- a new pair is a tuple of values -/
theorem pair_made {K : PySem.W.Frag} {mg : Str → Option Value} {M : MB} {H : Hp} {T : Addr} {d e : D} {v u : V} (n : H T = none) (R : MR K mg M H) (r : Rep K M H d v) (r' : Rep K M H e u) :
    Ev M H M (upd H T (.tup [v, u])) ∧ MR K mg M (upd H T (.tup [v, u])) ∧ Rep K M (upd H T (.tup [v, u])) (.tup [d, e]) (.ref T) :=
  have rs : Reps K M H [d, e] [v, u] := ⟨_, _, rfl, r, _, _, rfl, r', rfl⟩
  ⟨.new n, R.new n, T, _, rfl, sq_new, Reps.ev rs (Ev.new (M := M) n)⟩
theorem Snd.et {K : PySem.W.Frag} {mg : Str → Option Value} {M : MB} {H : Hp} {a : Addr} {vs : List V} {xs : List D} (h : SqT K H a vs) (r : Reps K M H xs vs) : Snd K mg M H (IteT K a) (enumD 0 xs) (fun _ => True) where
  go := fun i z M H' k R g e => by
    obtain ⟨x, ex, ez⟩ := enumD_inv e
    obtain ⟨v, e1, _⟩ := r.get ex
    exact ⟨vs, v, k.t _ _ h, e1⟩
  yld := fun i z M H' v H'' k R g e y => by
    obtain ⟨x, ex, rfl⟩ := enumD_inv e
    obtain ⟨T, u, rfl, n, rfl, y⟩ := y
    obtain ⟨v', e1, r1⟩ := r.get ex
    have := y vs (k.t _ _ h)
    rw [e1] at this; cases this
    have ei : (0 : Int) + (i : Nat) = (i : Nat) := by omega
    rw [ei]
    exact pair_made n R rfl (r1.mono k)
  stop := fun M H' k R g => ⟨vs, k.t _ _ h, by rw [enumD_len]; exact r.len.symm⟩
/-- over a list: by what iterates the list -/
theorem Snd.el {K : PySem.W.Frag} {mg : Str → Option Value} {M : MB} {H : Hp} {a : Addr} {xs : List D} {G : MH → Prop} (s : Snd K mg M H (Itl K a) xs G) : Snd K mg M H (Ite K a) (enumD 0 xs) G where
  go := fun i z M H' k R g e => by
    obtain ⟨x, ex, ez⟩ := enumD_inv e
    exact s.go i x M H' k R g ex
  yld := fun i z M H' v H'' k R g e y => by
    obtain ⟨x, ex, rfl⟩ := enumD_inv e
    obtain ⟨T, u, rfl, n, rfl, y⟩ := y
    obtain ⟨_, _, r1⟩ := s.yld i x M H' u H' k R g ex ⟨rfl, y⟩
    have ei : (0 : Int) + (i : Nat) = (i : Nat) := by omega
    rw [ei]
    exact pair_made n R rfl r1
  stop := fun M H' k R g => by rw [enumD_len]; exact s.stop M H' k R g
theorem di_enum {e : Expr} {ta : DA} {p tpos : Pos} {elts : List Expr} {kk : Nat} (hm : X.mg "enumerate" = none) (ha : PAd X [e] ta) (hg : Gl X "enumerate" := by rfl) (hs : starEach [e] X.env = [(false, eval e X.env)] := by rfl) :
    PId X (.Tuple elts kk tpos) (.Call (.Name "enumerate" p) [e] [] pos) (iEnum ta) := ⟨_, pi_enumA hg hm ha hs, fun σ H R ρ M E Rd S Rm q xo k => ⟨ρ, M, E, _, S, Rm, q, xo, fun vs ds M1 H1 e1 R1 r1 q1 => by
  obtain ⟨x, ed, q1⟩ := q1
  subst ed
  obtain ⟨v, ev, r⟩ := r1.one'
  subst ev
  cases x with
  | tup l => obtain ⟨a, vs, ev, h1, h2⟩ := r; subst ev; exact ⟨a, vs, rfl, .inr ⟨h1, k _ _ _ M1 H1 e1 R1 (.et h1 h2) q1⟩⟩
  | lis l => obtain ⟨a, vs, ev, h1, h2⟩ := r; subst ev; exact ⟨a, vs, rfl, .inl ⟨h1.e.l, k _ _ _ M1 H1 e1 R1 (.el (.f h1 h2)) q1⟩⟩
  | ref p =>
    obtain ⟨l, hm, q⟩ := q1
    obtain ⟨a, ha, ev⟩ := r
    subst ev
    obtain ⟨vs, h1, h2⟩ := R1.at_ _ _ _ ha hm
    exact ⟨a, vs, rfl, .inl ⟨.of h1, k _ _ _ M1 H1 e1 R1 (.el (.l ha)) q⟩⟩
  | _ => exact q1.elim⟩⟩
/-! ### zip -/
theorem zipD_inv {l m : List D} {i : Nat} {z : D} (h : (zipD l m)[i]? = some z) : ∃ x y, l[i]? = some x ∧ m[i]? = some y ∧ z = .tup [x, y] := by
  unfold zipD at h
  rw [List.getElem?_map] at h
  cases e : (l.zip m)[i]? with
  | none => rw [e] at h; cases h
  | some q =>
    rw [e] at h
    rw [List.getElem?_zip_eq_some] at e
    cases h
    exact ⟨q.1, q.2, e.1, e.2, rfl⟩
theorem zipD_len {l m : List D} : (zipD l m).length = min l.length m.length := by simp [zipD]
theorem Snd.zt {K : PySem.W.Frag} {mg : Str → Option Value} {M : MB} {H : Hp} {a b : Addr} {vs us : List V} {l m : List D} (h : SqT K H a vs) (h' : SqT K H b us) (r : Reps K M H l vs) (r' : Reps K M H m us) : Snd K mg M H (RZ.ItzT K a b) (zipD l m) (fun _ => True) where
  go := fun i z M H' k R g e => by
    obtain ⟨x, y, ex, ey, rfl⟩ := zipD_inv e
    obtain ⟨v, e1, _⟩ := r.get ex
    obtain ⟨u, e2, _⟩ := r'.get ey
    exact ⟨vs, us, v, u, k.t _ _ h, k.t _ _ h', e1, e2⟩
  yld := fun i z M H' v H'' k R g e q => by
    obtain ⟨x, y, ex, ey, rfl⟩ := zipD_inv e
    obtain ⟨T, v1, u1, rfl, n, rfl, q1, q2⟩ := q
    obtain ⟨v2, e1, r1⟩ := r.get ex
    obtain ⟨u2, e2, r2⟩ := r'.get ey
    have t1 := q1 vs (k.t _ _ h)
    have t2 := q2 us (k.t _ _ h')
    rw [e1] at t1; cases t1
    rw [e2] at t2; cases t2
    exact pair_made n R (r1.mono k) (r2.mono k)
  stop := fun M H' k R g => ⟨vs, us, k.t _ _ h, k.t _ _ h', by
    have l1 := r.len
    have l2 := r'.len
    rw [zipD_len]; omega⟩
theorem di_zip {e e2 : Expr} {ta : DA} {p tpos : Pos} {elts : List Expr} {kk : Nat} (hm : X.mg "zip" = none) (ha : PAd X [e, e2] ta) (hg : Gl X "zip" := by rfl) (hs : starEach [e, e2] X.env = (false, eval e X.env) :: starEach [e2] X.env := by rfl)
    (hpl : (backTo pos (starEach [e2] X.env)).any (·.1) = false := by rfl) : PId X (.Tuple elts kk tpos) (.Call (.Name "zip" p) [e, e2] [] pos) (iZip ta) :=
  ⟨_, RZ.pi_zipA hg hm ha hs hpl, fun σ H R ρ M E Rd S Rm q xo k => ⟨ρ, M, E, _, S, Rm, q, xo, fun vs ds M1 H1 e1 R1 r1 q1 => by
    obtain ⟨x, y, ed, l, m, ex, ey, q1⟩ := q1
    subst ed
    obtain ⟨v, w, ev, rv, rw'⟩ := r1.two'
    subst ev
    subst ex; subst ey
    obtain ⟨a, xs, ev, t1, s1⟩ := rv
    obtain ⟨b, ys, ew, t2, s2⟩ := rw'
    subst ev; subst ew
    exact ⟨a, b, xs, ys, rfl, .inr ⟨t1, t2, k _ _ _ M1 H1 e1 R1 (.zt t1 t2 s1 s2) q1⟩⟩⟩⟩
end
end DM

/-! DM: defs by their promises over data, what they raise. -/
namespace DM
open PySem PySem.Spec L2
open PyProof.Rows (envOfC)
/-- what is raised, below -/
def XLo (K : PySem.W.Frag) (mg : Str → Option Value) (M : MB) (H : Hp) (Xd : XQ) (E : XK) : Prop := ∀ c fs C d M' H', Ev M H M' H' → MR K mg M' H' → XC K mg c C → XRep K M' H' fs d → Xd c fs M'.m → E (.ref C) d H'
/-- a promise over data, below -/
def liftSp (K : PySem.W.Frag) (mg : Str → Option Value) (sp : SpD) (vs : List V) (H : Hp) (Q : VK) (E : XK) : Prop := ∃ ds M Xd Qd, Reps K M H ds vs ∧ MR K mg M H ∧ sp ds M.m Xd Qd ∧ XLo K mg M H Xd E ∧ ∀ v d M' H', Ev M H M' H' → MR K mg M' H' → Rep K M' H' d v → Qd d M'.m → Q v H'
/-- the function object at f keeps the promise, where no repr is under way -/
structure FnD (P : Program) (w : World) (K : PySem.W.Frag) (mg : Str → Option Value) (base : Heap) (k : Nat) (f : Addr) (fd : FuncData) (ps : List Str) (sp : SpD) : Prop where
  len : ∀ ds M X Q, sp ds M X Q → ds.length = ps.length
  run : ∀ (A : Around) (outer : List Env) (s : Shared) (H : Hp) (args : Args) (us : List Value) (vs : List V) (Q : VK) (E : XK), Room k A → A.guards = some [] → Env0 P w K mg base A outer s H → BindsTo s fd args (ps.zip us) → Vals vs us → liftSp K mg sp vs H Q E →
    codeAny (model P w) A (.call (.ref f) args) (CR (L2.CX P w) outer P w H s Q E) s
theorem FnD.mono {P : Program} {w : World} {K : PySem.W.Frag} {mg : Str → Option Value} {base : Heap} {j k : Nat} {f : Addr} {fd : FuncData} {ps : List Str} {sp : SpD} (F : FnD P w K mg base j f fd ps sp) (l : j ≤ k) : FnD P w K mg base k f fd ps sp :=
  ⟨F.len, fun A outer s H args us vs Q E hr => F.run A outer s H args us vs Q E (hr.mono l)⟩
theorem FnD.imp {P : Program} {w : World} {K : PySem.W.Frag} {mg : Str → Option Value} {base : Heap} {k : Nat} {f : Addr} {fd : FuncData} {ps : List Str} {sp sp' : SpD} (F : FnD P w K mg base k f fd ps sp) (i : ∀ ds M X Q, sp' ds M X Q → sp ds M X Q) : FnD P w K mg base k f fd ps sp' :=
  ⟨fun ds M X Q h => F.len ds M X Q (i _ _ _ _ h), fun A outer s H args us vs Q E hr hg e0 hb r ⟨ds, M, Xd, Qd, a, b, c, d⟩ => F.run A outer s H args us vs Q E hr hg e0 hb r ⟨ds, M, Xd, Qd, a, b, i _ _ _ _ c, d⟩⟩
/-- a def of the module, by its name; every parameter is given -/
structure Known (P : Program) (w : World) (K : PySem.W.Frag) (mg : Str → Option Value) (base : Heap) (k : Nat) (x : Str) (sp : SpD) : Prop where
  ex : ∃ f fd ps, mg x = some (.ref f) ∧ PySem.W.keepIn K (.ref f) = true ∧ FnD P w K mg base k f fd ps sp ∧ Binds K fd ps []
theorem Known.mono {P : Program} {w : World} {K : PySem.W.Frag} {mg : Str → Option Value} {base : Heap} {j k : Nat} {x : Str} {sp : SpD} (h : Known P w K mg base j x sp) (l : j ≤ k) : Known P w K mg base k x sp := by
  obtain ⟨f, fd, ps, h1, h2, h3, h4⟩ := h.ex
  exact ⟨f, fd, ps, h1, h2, h3.mono l, h4⟩
theorem Known.imp {P : Program} {w : World} {K : PySem.W.Frag} {mg : Str → Option Value} {base : Heap} {k : Nat} {x : Str} {sp sp' : SpD} (h : Known P w K mg base k x sp) (i : ∀ ds M X Q, sp' ds M X Q → sp ds M X Q) : Known P w K mg base k x sp' := by
  obtain ⟨f, fd, ps, h1, h2, h3, h4⟩ := h.ex
  exact ⟨f, fd, ps, h1, h2, h3.imp i, h4⟩
section
variable {X : Cx} {k : Nat} {f : Addr} {fd : FuncData} {ps : List Str} {sp : SpD} {pos p : Pos}
/-- .. called -/
theorem run_keepsB {pins : List (Addr × Obj)} {σ : L2.St} {H : Hp} {s : Shared} {Q : VK} {us us' : List Value} {kw : List (Str × Value)} {vs : List V} (F : FnD X.prog X.w X.K X.mg X.base k f fd ps sp) (hr : Room k X.A) (hg : X.A.guards = some []) (I : Inv X pins σ H s) (hb : BindsTo s fd ⟨us, kw⟩ (ps.zip us')) (r : Vals vs us')
    (h : liftSp X.K X.mg sp vs H Q fun cls d H' => Wx X cls d σ H') : wpAny (model X.prog X.w) X.A (call (.ref f) us kw) (EP X pins σ Q) X.xe s := by
  refine wpAny_call (codeAny_mono (F.run X.A X.stack s H ⟨us, kw⟩ us' vs Q _ hr hg I.env0 hb r h) fun r s' hq => ?_)
  cases r with
  | error e => exact takes_Wx X e s' (XE.of_call I (fun _ _ _ z => z) hq)
  | ok fl => cases fl <;> first | exact I.after hq | exact False.elim hq
theorem run_keeps {pins : List (Addr × Obj)} {σ : L2.St} {H : Hp} {s : Shared} {Q : VK} {us : List Value} {vs : List V} (F : FnD X.prog X.w X.K X.mg X.base k f fd ps sp) (hb : Binds X.K fd ps []) (hr : Room k X.A) (hg : X.A.guards = some []) (I : Inv X pins σ H s) (r : Vals vs us)
    (h : liftSp X.K X.mg sp vs H Q fun cls d H' => Wx X cls d σ H') : wpAny (model X.prog X.w) X.A (call (.ref f) us) (EP X pins σ Q) X.xe s := by
  have hl : us.length = ps.length := by
    obtain ⟨ds, M, Xd, Qd, rs, R, q, _⟩ := h
    rw [← F.len _ _ _ _ q, rs.len, r.length]
  have b := hb s us I.kIn (by rw [List.append_nil]; exact hl)
  rw [List.append_nil] at b
  exact run_keepsB F hr hg I b r h
theorem lift_call {t : DA} (σ : L2.St) (H : Hp) (Q : VK) : LE X (dCall sp t) σ H Q → LA X t σ H (fun vs H1 => liftSp X.K X.mg sp vs H1 Q fun cls d H' => Wx X cls d σ H') := fun ⟨ρ, M, E, Qd, S, R, q, xo, k⟩ =>
  ⟨ρ, M, E, _, S, R, q, xo, fun vs ds M1 H1 e1 R1 r1 q1 => ⟨ds, M1, E, Qd, r1, R1, q1, xo.later e1, fun v d M' H' e' R' r' q' => k v d M' H' (e1.trans e') R' r' q'⟩⟩
theorem de_call {x : Str} {e : Expr} {es : List Expr} {t : DA} (F : Known X.prog X.w X.K X.mg X.base k x sp) (hr : Room k X.A) (hgd : X.A.guards = some []) (ha : PAd X (e :: es) t) (hg : Gl X x := by rfl)
    (hdb : (x == ("__debug__" : Str)) = false := by decide) (he : starEach (e :: es) X.env = (false, eval e X.env) :: starEach es X.env := by rfl) (hpl : (backTo pos (starEach es X.env)).any (·.1) = false := by rfl) :
    PEd X (.Call (.Name x p) (e :: es) [] pos) (dCall sp t) := by
  obtain ⟨f, fd, ps, hm, hk, F, hb⟩ := F.ex
  refine ⟨fun pins s σ H Q I h => ?_⟩
  refine wpAny_Call_Name_kw (ld_glob I hg hm ?_ hdb)
  refine PySem.W.callWith_K (h₀ := X.base) I.ok.mod.kin hk (thn (ha.run pos pins s σ H _ I (lift_call σ H Q h)) fun us s1 ⟨vs, H1, I1, r, q⟩ => ⟨I1.kIn, ?_⟩) he hpl
  exact run_keeps F hb hr hgd I1 r q
theorem de_call0 {x : Str} (F : Known X.prog X.w X.K X.mg X.base k x sp) (hr : Room k X.A) (hgd : X.A.guards = some []) (hg : Gl X x := by rfl) (hdb : (x == ("__debug__" : Str)) = false := by decide) :
    PEd X (.Call (.Name x p) [] [] pos) (dCall sp dNil) := by
  obtain ⟨f, fd, ps, hm, hk, F, hb⟩ := F.ex
  refine ⟨fun pins s σ H Q I ⟨ρ, M, E, Qd, S, R, q, xo, k⟩ => ?_⟩
  refine wpAny_Call_Name_kw (ld_glob I hg hm ?_ hdb)
  exact PySem.W.callWith_K0 I.kIn hk (run_keeps (us := []) (vs := []) F hb hr hgd I .nil ⟨[], M, E, Qd, .nil, R, q, xo, k⟩)
end
/-- a def's body, at its entry -/
abbrev Xf (P : Program) (w : World) (K : PySem.W.Frag) (mg : Str → Option Value) (base : Heap) (N : List Str) (qual : Str) (sc : Scope) (f : Addr) (cdv : Value) (A : Around) (outer : List Env) (s : Shared) (H : Hp) (E : XK) : Cx :=
  cxOf (L2.CX P w) P w K mg base N qual sc f cdv A outer s H E
theorem start_slots {K : PySem.W.Frag} {M : MB} {H : Hp} {N : List Str} {ds : List D} {vs : List V} (r : Reps K M H ds vs) (hl : ds.length ≤ N.length) : Slots K M H (startD N.length ds) (L2.start N vs) := by
  refine ⟨by unfold startD L2.start; simp [r.len], fun i d e => ?_⟩
  unfold startD at e
  unfold L2.start
  by_cases hi : i < ds.length
  · rw [List.getElem?_append_left (by simpa using hi), List.getElem?_map] at e
    rw [List.getElem?_append_left (by simpa [← r.len] using hi), List.getElem?_map]
    cases q : ds[i]? with
    | none => rw [q] at e; cases e
    | some x =>
      rw [q] at e
      cases e
      obtain ⟨v, h1, h2⟩ := r.get q
      exact ⟨v, by rw [h1]; rfl, h2⟩
  · rw [List.getElem?_append_right (by simpa using hi), List.getElem?_replicate] at e
    split at e <;> cases e
theorem xrep_cut {K : PySem.W.Frag} {mg : Str → Option Value} {M1 M5 : MB} {H1 H5 : Hp} {P : MH → Prop} {fs : Fs} {d : Option Addr} (R1 : MR K mg M1 H1) (e : Ev M1 H1 M5 H5) (S : XRep K M5 H5 fs d) (R : MR K mg M5 H5) (w : WkL M1.m.length (fun _ m => P m) (fs.map (·.2)) M5.m) :
    ∃ M6, Ev M1 H1 M6 H5 ∧ XRep K M6 H5 fs d ∧ MR K mg M6 H5 ∧ P M6.m := by
  obtain ⟨m6, s6, hb, q6⟩ := w
  have hn : M1.i.length ≤ m6.length := by rw [← R1.len]; exact s6.ge (by rw [R1.len, R.len]; exact pre_len e.pre)
  refine ⟨M5.less m6, e.less hn, ?_, R.less s6, q6⟩
  rcases S with S | ⟨dd, gs, h1, h2, h3, S⟩
  · exact .inl S
  · refine .inr ⟨dd, gs, h1, h2, fun z => h3 (List.mem_of_mem_take z), ?_⟩
    rcases hb with hb | hb
    · exact RepF.bel (M1 := M5.less m6) (n := M5.i.length) (fun k a hk q => take_pre q (by rw [hb, R.len]; exact hk)) rfl S.is_bel S
    · exact RepF.bel (M1 := M5.less m6) (fun k a hk q => take_pre q hk) rfl hb S
theorem opens_ok {K : PySem.W.Frag} {mg : Str → Option Value} {M : MB} {H : Hp} {B : MH → Prop} (R : MR K mg M H) (h : Opens M.m B) : ∃ M', (M'.i = M.i ∧ M'.lk = M.lk) ∧ MR K mg M' H ∧ B M'.m := by
  rcases h with h | ⟨p, e, h⟩
  · exact ⟨M, ⟨rfl, rfl⟩, R, h⟩
  · obtain ⟨a, ha, l, vs, hl, h1, h2⟩ := R.get e
    refine ⟨M.put p (some (.lst l)), ⟨rfl, rfl⟩, ⟨by simp [MB.put, R.len], R.nd, R.tr, fun j b x g g' => ?_, R.lz⟩, h l hl⟩
    have g : M.i[j]? = some b := g
    have g' : (M.m.set p (some (.lst l)))[j]? = some (some x) := g'
    have kt : KeepT K M H (M.put p (some (.lst l))) H := ⟨fun _ _ q => q, fun _ _ q => q, fun _ _ _ q n => ⟨q, n⟩, fun _ _ q => q, fun _ _ _ n q => ⟨q, n⟩⟩
    by_cases z : p = j
    · subst z
      rw [ha] at g; cases g
      rw [List.getElem?_set_self (by rw [R.len]; exact lt_of_get ha)] at g'; cases g'
      exact ⟨vs, h1, h2.mono kt⟩
    · rw [List.getElem?_set_ne z] at g'
      exact (R.at_ j b x g g').keep kt fun _ q => q
section
variable {P : Program} {w : World} {K : PySem.W.Frag} {mg : Str → Option Value} {base : Heap}
theorem fnD_of {x qual : Str} {params : Arguments} {body : List Stmt} {scope : Scope} {f : Addr} {fd : FuncData} {N ps : List Str} {k : Nat} {sp : SpD} {t : DS}
    (lk : ∃ (oc : Value) (od : Option Addr) (dV kV doc pm : Value) (an : Option Addr) (cdv ct : Value) (osl : Array (Option Value)), fd = PySem.W.fnOf x qual params body scope dV kV doc pm an cdv ct ∧ K.lookup f = some ⟨oc, od, .func fd, osl⟩ ∧ PySem.W.codeIn K cdv qual = true)
    (S : FnScope N ps scope)
    (hbody : ∀ (cdv : Value) (A : Around) (outer : List Env) (s : Shared) (H : Hp) (E : XK), Room k (A.deeper (envOfC qual scope s.heap.objs.size f cdv)) → (A.deeper (envOfC qual scope s.heap.objs.size f cdv)).guards = some [] →
      PSsd (Xf P w K mg base N qual scope f cdv A outer s H E) body t)
    (spec : ∀ ds M X Q, sp ds M X Q → ds.length = ps.length ∧ (belM M.length M = true → D.bels M.length ds = true → Opens M fun M' => t (ends M.length X Q) (startD N.length ds) M')) : FnD P w K mg base (k + 1) f fd ps sp := by
  refine ⟨fun ds M X Q h => (spec ds M X Q h).1, ?_⟩
  obtain ⟨oc, od, dV, kV, doc, pm, an, cdv, ct, osl, rfl, lk, hcd⟩ := lk
  intro A outer s H args us vs Q E hr hg e0 hb rv ⟨ds, M, Xd, Qd, rs, R, hsp, hx, kk⟩
  obtain ⟨hl, hq⟩ := spec ds M.m Xd Qd hsp
  have hq := hq R.is_bel (by rw [R.len]; exact rs.is_bel)
  have hlv : vs.length = ps.length := by rw [← rs.len]; exact hl
  obtain ⟨Mo, ⟨hMo, hLk⟩, Ro, hq⟩ := opens_ok R hq
  have evo : Ev M H Mo H := ⟨fun _ _ h => h, fun _ _ _ h => h, fun _ _ h _ => h, fun k a h => by rw [hMo]; exact h, fun a h g => absurd (by rw [← hMo]; exact h) g, hLk⟩
  have leno : M.m.length = Mo.m.length := by rw [R.len, Ro.len, hMo]
  rw [leno] at hq
  have KX : K.In s.heap := e0.mod.kin.keeps fun b o e => (e0.bs b o e).1
  have lim : s.heap.NoLimit := e0.mod.nolimit.keeps fun b o e => (e0.bs b o e).1
  have hpl : ps.length ≤ N.length := by have := congrArg List.length S.pre; rw [List.length_take] at this; omega
  have kinds : ∀ y ∈ ps.zip us, scope.names.lookup y.1 = some .local ∨ (scope.names.lookup y.1 = some .cell ∧ ((cellsFrom (s.heap.objs.size + 1) scope.names []).lookup y.1).isSome = true) := by
    rintro ⟨n, v⟩ hy
    have hn := (List.of_mem_zip hy).1
    rcases S.par n hn with q | q
    · left; exact q
    · right; exact ⟨q, PySem.W.cellsFrom_some _ _ _ (.inl q)⟩
  refine codeAny_call_function hr.depth (KX _ _ lk) rfl S.co S.gen rfl (PySem.W.codeRec_of KX hcd) (hb _ _ _ _ ?_)
  refine wpAny_newFunctionEnv_cells S.kind kinds fun env he s1 x => ?_
  subst he
  refine ⟨lim.keeps x.toInCall.keep, codeAny_func ?_⟩
  have I0 : Inv (Xf P w K mg base N qual scope f cdv A outer s H E) [] (L2.start N vs) H s1 := inv_start S hr.hd e0 hlv rv x
  have B := hbody cdv A outer s H E (hr.deeper _) hg
  have tk : Takes (Xf P w K mg base N qual scope f cdv A outer s H E) (fun cls d _ H => E cls d H) := takes_of rfl rfl rfl rfl
  refine wpAny_mono (B.run [] s1 (L2.start N vs) H { nx := fun _ H' => Q .non H', rt := Q } I0 ⟨startD N.length ds, Mo, ends Mo.m.length Xd Qd, start_slots (rs.ev evo) (by omega), Ro, hq, ?_, ?_, ?_, ?_, ?_⟩)
    (fun fl s' hs => ?_) fun e s' hs => hs
  · intro σ' H' ρ' M' e' S' R' w
    obtain ⟨M6, e6, r6, R6, q6⟩ := wkD_ok (d := .non) (v := .non) Ro e' rfl R' w
    exact kk .non .non M6 H' (evo.trans e6) R6 r6 q6
  · intro v d M' H' e' R' r' w
    obtain ⟨M6, e6, r6, R6, q6⟩ := wkD_ok Ro e' r' R' w
    exact kk v d M6 H' (evo.trans e6) R6 r6 q6
  · intro σ' H' ρ' M' e' S' R' q'; exact q'.elim
  · intro σ' H' ρ' M' e' S' R' q'; exact q'.elim
  · intro c fs C d σ' H' ρ' M' e' S' R' hc r' w
    obtain ⟨M6, e6, r6, R6, q6⟩ := xrep_cut Ro e' r' R' w
    exact wx_of tk (hx c fs C d M6 H' (evo.trans e6) R6 hc r6 q6)
  · have last : ∀ {σ' : L2.St} {H' : Hp} {v : V} {u : Value}, Inv (Xf P w K mg base N qual scope f cdv A outer s H E) [] σ' H' s' → RelV v u → Q v H' → CE outer P w H s Q u s' :=
      fun {σ' H' v u} J ru q => ⟨v, H', J.os, J.bare, J.base, J.hok, ru, q⟩
    cases fl
    all_goals first
      | (obtain ⟨v, σ', H', J, ru, q⟩ := hs; exact last J ru q)
      | (obtain ⟨σ', H', J, q⟩ := hs; exact last (v := V.non) (u := Value.none) J rfl q)
      | (obtain ⟨_, _, _, q⟩ := hs; exact False.elim q)
theorem lk_of {K : PySem.W.Frag} {x qual : Str} {params : Arguments} {body : List Stmt} {scope : Scope} {dvs : List V} {kws : List (Str × V)} {f : Addr} {fd : FuncData} (F : FunD K x qual params body scope dvs kws f fd) :
    ∃ (oc : Value) (od : Option Addr) (dV kV doc pm : Value) (an : Option Addr) (cdv ct : Value) (osl : Array (Option Value)), fd = PySem.W.fnOf x qual params body scope dV kV doc pm an cdv ct ∧ K.lookup f = some ⟨oc, od, .func fd, osl⟩ ∧ PySem.W.codeIn K cdv qual = true := by
  obtain ⟨a1, a2, a3, a4, a5, a6, a7, a8, a9, a10, h1, h2, h3, _⟩ := F.ex
  exact ⟨a1, a2, a3, a4, a5, a6, a7, a8, a9, a10, h1, h2, h3⟩
/-- what nobody asks -/
theorem FnD.never {k : Nat} {f : Addr} {fd : FuncData} {ps : List Str} {sp : SpD} (h : ∀ ds M X Q, sp ds M X Q → False) : FnD P w K mg base k f fd ps sp :=
  ⟨fun ds M X Q q => (h ds M X Q q).elim, fun _ _ _ _ _ _ _ _ _ _ _ _ _ _ ⟨ds, M, Xd, Qd, _, _, q, _⟩ => (h ds M.m Xd Qd q).elim⟩
end
end DM

/-! DM: the law's own call. -/
namespace DM
open PySem PySem.Spec L2
open PyProof.Rows (IntsAre AllBare)
/-- the promise of a law: a list of ints, nobody writes to it; True comes out -/
theorem reps_ints {K : PySem.W.Frag} {M : MB} {H : Hp} : ∀ ns : List Int, Reps K M H (ns.map D.int) (ns.map V.int)
  | [] => rfl
  | n :: ns => ⟨_, _, rfl, rfl, reps_ints ns⟩
theorem law_callD {P : Program} {w : World} {K : PySem.W.Frag} {mg mb : Str → Option Value} {k n : Nat} {fa a : Addr} {s₁ : Shared} {vs : List Value} {ns : List Int}
    (KX : K.In s₁.heap) (hns : s₁.heap.Ns mainGlobals mg) (hb : s₁.heap.Ns builtinsNs mb) (hbb : ∀ x : Str, x ≠ "__name__" → mb x = bootBuiltins x) (hlim : s₁.heap.NoLimit) (hg : s₁.gens = #[])
    (ha : s₁.heap.get? a = some { cls := .type "list", data := .seq vs.toArray }) (hi : IntsAre vs ns) (hl : ns.length ≤ sizeLine) (hn : ns.length ≤ n) (hr : Room k callerA)
    (F : ∀ base : Heap, K.In base → base.Ns mainGlobals mg → (∃ fd ps, FnD P w K mg base k fa fd ps (spLaw n) ∧ Binds K fd ps [])) :
    codeAny (model P w) callerA (.call (.ref fa) ⟨[.ref a], []⟩) (fun r s' => r = .ok (.ret (.bool true)) ∧ OldK s₁.heap s'.heap ∧ s'.os = s₁.os ∧ AllBare s'.gens) s₁ := by
  have rv := vals_ints hi
  have lenV := hi.length
  have main : ∀ H : Hp, Only H → SqF K H a (ns.map V.int) → HOk P w H s₁.heap → (∀ b, H b ≠ none → b = a) → (H a ≠ none → K.lookup a = none) →
      codeAny (model P w) callerA (.call (.ref fa) ⟨[.ref a], []⟩) (fun r s' => r = .ok (.ret (.bool true)) ∧ OldK s₁.heap s'.heap ∧ s'.os = s₁.os ∧ AllBare s'.gens) s₁ := by
    intro H hO hS hok hA hK
    have at_ : ∀ {b : Addr}, H b ≠ none → s₁.heap.get? b = some { cls := .type "list", data := .seq vs.toArray } := fun z => by rw [hA _ z]; exact ha
    have free : ∀ {b : Addr} {o : Obj} {es : Array DictEntry} {ep : Nat}, s₁.heap.get? b = some o → o.data = .dict es ep → H b = none := by
      intro b o es ep e d
      cases q : H b with
      | none => rfl
      | some u =>
        rw [at_ (b := b) (by rw [q]; simp)] at e
        cases e; cases d
    have nsK : ∀ {b : Addr} {m : Str → Option Value}, s₁.heap.Ns b m → (hidT s₁.heap H).Ns b m := by
      intro b m ⟨o, es, ep, e, d, r⟩
      exact ⟨o, es, ep, hidT_get e (free e d), d, r⟩
    have hKb : K.In (hidT s₁.heap H) := by
      intro b o e
      refine hidT_get (KX b o e) ?_
      cases q : H b with
      | none => rfl
      | some u =>
        have z : H b ≠ none := by rw [q]; simp
        have := hA b z
        subst this
        rw [hK z] at e; cases e
    have hM : Mod K mg (hidT s₁.heap H) := by
      obtain ⟨mc, l1, l2⟩ := hlim
      exact ⟨hKb, nsK hns, ⟨mb, nsK hb, hbb⟩, ⟨mc, nsK l1, l2⟩⟩
    have e0 : Env0 P w K mg (hidT s₁.heap H) callerA [] s₁ H := by
      refine ⟨rfl, hM, fun b o e => of_hidT e, Nat.le_of_eq (hidT_size _ _), trivial, fun b hb => ?_, hok, .of_eq hg⟩
      exact absurd (show b ∈ ([] : List Addr) from hb) (by simp)
    have start : liftSp K mg (spLaw n) [.ref a] H (fun v _ => v = .bl true) E0 := by
      refine ⟨[.lis (ns.map D.int)], ⟨[], [], []⟩, noX, fun d _ => d = .bl true, .one ⟨a, _, rfl, hS, reps_ints ns⟩, ⟨rfl, .nil, (fun _ h => nomatch h), fun k a o e => by simp at e, fun _ h => nomatch h⟩, ⟨ns, rfl, hn, rfl, fun _ => rfl⟩, (fun c fs C d M' H' _ _ _ _ q => q.elim), ?_⟩
      intro v d M' H' _ _ r e
      subst e
      exact r
    obtain ⟨fd, ps, F1, hbi⟩ := F _ hKb (nsK hns)
    have hps : ps.length = 1 := (F1.len _ _ noX (fun d _ => d = .bl true) ⟨ns, rfl, hn, rfl, fun _ => rfl⟩).symm
    have KX' : K.In s₁.heap := KX
    have hbt : BindsTo s₁ fd ⟨[.ref a], []⟩ (ps.zip [.ref a]) := by
      have := hbi s₁ [.ref a] KX' (by simp [hps])
      simpa using this
    refine codeAny_mono (F1.run callerA [] s₁ H ⟨[.ref a], []⟩ [.ref a] [.ref a] _ _ hr rfl e0 hbt (.cons rfl .nil) start) fun r s' h => ?_
    cases r with
    | error e => obtain ⟨_, _, _, _, _, _, _, _, _, _, _, _, z⟩ := h; exact False.elim z
    | ok fl =>
      cases fl with
      | ret u =>
        obtain ⟨v, H', os, bare, un, hok', r', q⟩ := h
        have q' : v = .bl true := q
        subst q'
        have eu : u = Value.bool true := r'
        subst eu
        refine ⟨rfl, OldK.of_keep fun b o e => ?_, os, bare⟩
        cases q2 : H b with
        | none => exact un.keep b o e q2 (fun z => absurd (show b ∈ ([] : List Addr) from z) (by simp)) (by simp)
        | some u2 =>
          rcases hO b with z | ⟨ob, xs, z⟩
          · rw [q2] at z; cases z
          · obtain ⟨g1, _⟩ := hok b _ z
            obtain ⟨g2, _⟩ := hok' b _ (un.frzs b ob _ z)
            rw [e] at g1; cases g1
            exact g2
      | next => exact False.elim h
      | brk => exact False.elim h
      | cont => exact False.elim h
  cases hk : K.lookup a with
  | some o =>
    have e := KX a o hk
    rw [ha] at e
    cases e
    refine main (fun _ => none) (fun _ => .inl rfl) (.inr ⟨vs.toArray, _, hk, ?_, by simpa using rv⟩) (fun b u z => ?_) (fun b z => absurd rfl z) fun z => absurd rfl z
    · rw [List.size_toArray, lenV]; exact hl
    · have z' : (none : Option HO) = some u := z
      cases z'
  | none =>
    let ho : HO := .frz { cls := .type "list", data := .seq vs.toArray } (.lst (ns.map V.int))
    refine main (fun b => if b = a then some ho else none) (fun b => ?_) (.inl ⟨{ cls := .type "list", data := .seq vs.toArray }, if_pos rfl⟩) (fun b u z => ?_) (fun b z => ?_) fun _ => hk
    · by_cases hb : b = a
      · exact .inr ⟨_, _, if_pos hb⟩
      · exact .inl (if_neg hb)
    · by_cases hb : b = a
      · have z' := (if_pos hb).symm.trans z
        cases z'
        subst hb
        exact ⟨ha, by rw [List.length_map]; exact hl, vs, _, rv, ha⟩
      · have z' := (if_neg hb).symm.trans z
        cases z'
    · by_cases hb : b = a
      · exact hb
      · exact absurd (if_neg hb) z
/-- the goal that a head leaves -/
theorem walk_D {l : PySem.W.OpenLaw} {n k : Nat} {q : Program} {loose : List Str} {XP : (Str → Option Value) → Heap → Prop} {YP : World → Heap → Prop} {d : DefRec}
    (hn : l.most = some n) (hn2 : n ≤ sizeLine) (hdf : d.params.defaults = []) (hr : Room k callerA)
    (F : ∀ (w : World) (mg : Str → Option Value) (fa : Addr) (h : Heap), YP w h → h.Ns mainGlobals mg → mg d.name = some (.ref fa) →
      ∃ K : PySem.W.Frag, K.In h ∧ ∀ base : Heap, K.In base → base.Ns mainGlobals mg → (∃ fd ps, FnD l.prog w K mg base k fa fd ps (spLaw n) ∧ Binds K fd ps [])) :
    PySem.W.WalkO q loose XP YP l.row.toRowW d [] (fun f vs => PySem.call f vs) := by
  refine Att.attach_call hn hdf
    fun w s₀ s₁ mg mb fa o pm cd doc a vs ns G Y ho hd hcd hmg hobj hints hlen hg => ?_
  obtain ⟨K, KX, hF⟩ := F w mg fa _ Y G.T.g hmg
  exact law_callD KX G.T.g G.T.b G.T.builtins G.T.nolimit hg hobj hints (Nat.le_trans hlen hn2) hlen hr hF
end DM

/-! DM: own classes of errors over built-in ones, raise, try. -/
namespace DM
open PySem PySem.Spec L2
open PyProof.Rows (envOfC)
/-- a built-in class of errors, as the base of an own one -/
structure EB (B newId initId : String) (tl : List Value) : Prop where
  F : ExcBaseFacts B newId initId tl
  pass : ∀ self c, refuseLoop self "__setattr__" (.ref c :: tl) = pure ()
  ob : tl.contains (.type "object") = true
  ty : typeOf (.type B) = pure (.type "type")
  st : Manifest.isStub B = false
  hd : PySem.W.handedIn (.builtin initId) = true
  fi : ∀ K : PySem.W.Frag, PySem.W.findCls K (.type B) (.type "type") "__init__" = some (.val (.builtin initId))
abbrev tlV : List Value := [.type "ValueError", .type "Exception", .type "BaseException", .type "object"]
abbrev tlL : List Value := [.type "LookupError", .type "Exception", .type "BaseException", .type "object"]
abbrev tlR : List Value := [.type "RuntimeError", .type "Exception", .type "BaseException", .type "object"]
abbrev tlO : List Value := [.type "OverflowError", .type "ArithmeticError", .type "Exception", .type "BaseException", .type "object"]
theorem ebV : EB "ValueError" "ValueError.__new__" "ValueError.__init__" tlV := ⟨PySem.F.excBase_ValueError, fun _ _ => by first | rfl | kernel_rfl, by decide +kernel, by kernel_rfl, by decide +kernel, rfl, fun _ => by kernel_rfl⟩
theorem ebL : EB "LookupError" "LookupError.__new__" "LookupError.__init__" tlL := ⟨PySem.F.excBase_LookupError, fun _ _ => by first | rfl | kernel_rfl, by decide +kernel, by kernel_rfl, by decide +kernel, rfl, fun _ => by kernel_rfl⟩
theorem ebR : EB "RuntimeError" "RuntimeError.__new__" "RuntimeError.__init__" tlR := ⟨PySem.F.excBase_RuntimeError, fun _ _ => by first | rfl | kernel_rfl, by decide +kernel, by kernel_rfl, by decide +kernel, rfl, fun _ => by kernel_rfl⟩
theorem ebO : EB "OverflowError" "OverflowError.__new__" "OverflowError.__init__" tlO := ⟨PySem.F.excBase_OverflowError, fun _ _ => by first | rfl | kernel_rfl, by decide +kernel, by kernel_rfl, by decide +kernel, rfl, fun _ => by kernel_rfl⟩
/-- the class at C of the text: its base, its parts -/
structure OexB (K : PySem.W.Frag) (C : Addr) (newId : String) (tl : List Value) : Prop where
  cls : ∃ nm q N bs sn sub ab col dd k0 k1 k2 k3 k5, K.lookup C = some (excClassObj nm q C N bs tl true sn sub ab col dd k0 k1 k2 k3 k5 newId)
  sa : PySem.W.findIn K (.ref C) "__setattr__" = some (some (.builtin "object.__setattr__"))
  exC : PySem.W.subIn K (.ref C) (.type "BaseException") = some true
  tyC : PySem.W.typeIn K (.ref C) = some (.type "type")
  kC : PySem.W.keepIn K (.ref C) = true
section
open PySem.W PySem.Calls PyProof.Rows PySem.HandSPX Builtin Builtin.ObjectAttr
variable {prog : Program} {w : World} {A : Around} {R : Result → Shared → Prop} {hp : Heap} {g : Array GenState} {d : Drawn} {t : Nat} {os : OsState}
/-- the first field of an exception of such a class: its dict is made -/
theorem osa_first {K : PySem.W.Frag} {B newId initId : String} {tl : List Value} (eb : EB B newId initId tl) {f : Str} {tk : Tok} {v : Value} {x C : Addr} {fv : Array Value} {cd : ClassData} (hK : K.In hp)
    (at_x : hp.get? x = some { cls := .ref C, data := .fields fv }) (at_C : W.clsIn K C = some cd) (mro : cd.mro = .ref C :: tl) (has : cd.hasDict = true) (no : W.findIn K (.ref C) f = some none)
    (fin : ∀ h' tk' dx, (∀ b o, b ≠ x → hp.get? b = some o → h'.get? b = some o) → hp.objs.size ≤ dx → dx ≠ x → h'.get? x = some { cls := .ref C, dict := some dx, data := .fields fv } →
      h'.Ns1 dx (fun y => if y = f then some v else none) → R (.ok (.ret .none)) ⟨h', g, d, tk', os⟩) :
    codeAny (model prog w) A (.call (.builtin "object.__setattr__") ⟨[.ref x, .str f tk, v], []⟩) R ⟨hp, g, d, t, os⟩ := by
  have J : W.InstAt hp x { cls := .ref C, data := .fields fv } C none := ⟨at_x, rfl, rfl, trivial⟩
  have S := PySem.F.store_object
  have xne : x ≠ hp.objs.size := Nat.ne_of_lt (Heap.lt_size at_x)
  have isO : W.Looks (model prog w) hp (isInstance (.ref x) (.type "object")) true :=
    J.type.andThen (W.looks_mroIn hK (by unfold W.mroIn; rw [at_C, Option.bind_some, mro, if_neg (by simp [List.isEmpty])]; rw [List.contains_cons, eb.ob, Bool.or_true]))
  have mroL : W.Looks (model prog w) hp (mroOf (.ref C)) cd.mro := (W.looks_clsIn hK at_C).andThen .now
  have noTaker : W.Looks (model prog w) hp (storeTaker? none) none := .now
  have clsL : W.Looks (model prog w) hp (classData C) cd := W.looks_clsIn hK at_C
  refine codeAny_call_builtin S.slot.plain S.entry (@W.check_slot (model prog w) _ _ ⟨hp, g, d, t, os⟩ "object.__setattr__" "object" "__setattr__" (.ref x) [.str f tk, v] [] _ S.kind S.split isO (S.args (.ref x) (.str f tk) v) ?_)
  rw [W.osa_eq, refuse_eq]; refine wpAny_bind (wpAny_bind (J.type.at (wpAny_bind (mroL.at ?_))))
  rw [mro, eb.pass]; refine wpAny_pure (wpAny_bind (J.type.at (wpAny_bind ((W.looks_findIn hK no).at (wpAny_bind (noTaker.at ?_))))))
  show wpAny _ _ (storeInOwnDict (.ref x) (.ref C) (.str f tk) f v false) _ _ _
  obtain ⟨c1, c2, c3, c4, c5, c6, c7, c8, c9, c10, c11⟩ := cd
  dsimp only at has; subst has
  unfold storeInOwnDict ownDictForStores
  repeat (first | with_reducible refine store_in_new ?_ ?_ | with_reducible refine wpAny_loadPart_at at_x ?_ | with_reducible refine clsL.at ?_ | wp_step)
  · exact ⟨_, #[], _, (Heap.get?_update_ne _ _ _ _ xne.symm).trans (Heap.get?_push_at rfl rfl), rfl, fun e he => absurd he (by simp), fun _ => rfl⟩
  · intro h' tk' made same
    have old : (hp.push { cls := .type "dict", data := .dict #[] }).get? x = some { cls := .ref C, data := .fields fv } := Heap.get?_push_of_some _ at_x
    exact fin h' tk' hp.objs.size (fun b o hb ho => (same.2 b (Nat.ne_of_lt (Heap.lt_size ho))).trans ((Heap.get?_update_ne _ _ _ _ hb).trans (Heap.get?_push_of_some _ ho))) (Nat.le_refl _) xne.symm
      ((same.2 x xne).trans (Heap.get?_update_self _ old rfl)) made
end
section
variable {X : Cx} {pins : List (Addr × Obj)} {σ : L2.St} {H : Hp} {s : Shared} {a C : Addr} {f : Str} {y : V} {u : Value} {E : Value → Shared → Prop} {A : Around} {B newId initId : String} {tl : List Value}
theorem oex_cls {K : PySem.W.Frag} (T : OexB K C newId tl) : ∃ cd, PySem.W.clsIn K C = some cd ∧ cd.mro = .ref C :: tl ∧ cd.hasDict = true := by
  obtain ⟨nm, q, N, bs, sn, sub, ab, col, dd, k0, k1, k2, k3, k5, hC⟩ := T.cls
  exact ⟨{ name := nm, bases := bs, mro := .ref C :: tl, ns := N, qualname := q, hasDict := true, slotNames := sn, subclasses := sub, abstract := ab, collection := col, hasDel := false }, by unfold PySem.W.clsIn; rw [hC] <;> rfl, rfl, rfl⟩
/-- self.f = y on an exception that is being made -/
theorem ost_first {Q : Unit → Shared → Prop} (eb : EB B newId initId tl) (T : OexB X.K C newId tl) (I : Inv X pins σ H s) (e : H a = some (exo a C none)) (hno : PySem.W.findIn X.K (.ref C) f = some none) (ry : RelV y u)
    (h : ∀ dx s', H dx = none → dx ≠ a → Inv X pins σ (upd (upd H dx (exd dx [(f, y)])) a (exo a C (some dx))) s' → Q () s') : wpAny (model X.prog X.w) A (setAttr (.ref a) f u) Q E s := by
  obtain ⟨cd, hcl, hm, hd⟩ := oex_cls T
  obtain ⟨t1, ho⟩ := exo_at I.hok e
  obtain ⟨hp, g, dr, t, os⟩ := s
  refine PySem.W.set_plain I.kIn (ox := { cls := .ref C, dict := none, data := .fields #[.ref t1, .none, .none, .none, .bool false, .none] }) (od := none) ⟨ho, rfl, rfl, trivial⟩ T.sa (osa_first eb I.kIn ho hcl hm hd hno fun h' tk' dx k dn dne hx hn => ?_)
  have hnd : H dx = none := I.hok.fresh dn
  have nd : ∀ {b : Addr} {o : Obj}, hp.get? b = some o → b ≠ dx := fun {b o} q => Nat.ne_of_lt (Nat.lt_of_lt_of_le (Heap.lt_size q) dn)
  have na : ∀ {b : Addr}, H b = none → b ≠ a := fun {b} n z => by subst z; rw [e] at n; cases n
  have un : Un X.fs [] H (upd (upd H dx (exd dx [(f, y)])) a (exo a C (some dx))) hp h' :=
    ⟨fun b o q n _ _ => k b o (na n) q, fun b o q n _ _ => ⟨o.slots, k b o (na n) q⟩, fun b o q n _ => by rw [upd_ne (na n), upd_ne (nd q)]; exact n,
     fun b o q _ => (Decidable.em (b = a)).elim (fun hb => by subst hb; exact ⟨_, hx⟩) (fun hb => ⟨o, k b o hb q⟩), fun b xs q => by rw [upd_ne (at_ne e q exo_tup), upd_ne (ne_of_none q hnd)]; exact q,
     fun b o v q => by rw [upd_ne (at_ne e q exo_frz), upd_ne (ne_of_none q hnd)]; exact q, fun b ps q => ⟨#[], by rw [upd_ne (at_ne e q exo_tbl), upd_ne (ne_of_none q hnd), q]; simp⟩⟩
  refine h dx _ hnd dne (I.un (t' := tk') un fun b o q => ?_)
  by_cases hb : b = a
  · subst hb; rw [upd_same] at q; cases q; exact exo_ok hx
  rw [upd_ne hb] at q
  by_cases hd : b = dx
  · subst hd; rw [upd_same] at q; cases q; exact exd_ok hn (relO_put (fs := []) ry fun g => True.intro)
  rw [upd_ne hd] at q
  refine (I.hok b o q).stay (fun c v hc z => k c v ?_ z) (fun c hc => by rw [upd_ne (at_ne e hc exo_own), upd_ne (ne_of_none hc hnd)]; exact hc) fun c xs hc => by rw [upd_ne (at_ne e hc exo_tup), upd_ne (ne_of_none hc hnd)]; exact hc
  rcases hc with hc | hc
  · rw [hc]; exact hb
  · exact at_ne e hc exo_own
/-- B.__init__(self, ..): nothing of it is told -/
theorem binit_ok {us : List Value} {Q : Value → Shared → Prop} (eb : EB B newId initId tl) (T : OexB X.K C newId tl) (I : Inv X pins σ H s) (e : H a = some (exo a C none)) (hl : us.length ≤ sizeLine) (h : ∀ s', Inv X pins σ H s' → Q .none s') :
    wpAny (model X.prog X.w) A (call (.builtin initId) (.ref a :: us)) Q E s := by
  obtain ⟨nm, q, N, bs, sn, sub, ab, col, dd, k0, k1, k2, k3, k5, hC⟩ := T.cls
  obtain ⟨t1, ho⟩ := exo_at I.hok e
  obtain ⟨hp, g, dr, t, os⟩ := s
  refine wpAny_call (PySem.HandSPX.init_base eb.F (fun _ => rfl) (I.kIn _ _ hC) ho hl fun h' t2 k hx => ?_)
  have J := I.write (t' := t) (x := a) (e := a) (o := exo a C none) (by rw [e]; exact True.intro) (.inl rfl) k ⟨_, hx⟩ (exo_ok hx)
  have eu : upd H a (exo a C none) = H := funext fun b => (Decidable.em (b = a)).elim (fun hb => by rw [hb, upd_same, e]) fun hb => by rw [upd_ne hb]
  rw [eu] at J
  exact h _ J
end
/-! ### the __init__ of such a class: its base's, one field or none -/
section
variable {X : Cx} {o e : Expr} {es : List Expr} {to te : TE} {ta : TA} {f : Str} {p p' p1 p2 pos : Pos} {B newId initId : String} {tl : List Value}
/-- B.__init__(self, 'm') -/
def tBi (K : PySem.W.Frag) (newId : String) (tl : List Value) (ta : TA) : TE := fun σ H Q => ta σ H fun vs H1 => ∃ (a C : Addr) (ws : List V), vs = .ref a :: ws ∧ ws.length ≤ 1000 ∧ OexB K C newId tl ∧ H1 a = some (exo a C none) ∧ Q .non H1
theorem pe_binit {x : Str} {pl : Sem Bool} (eb : EB B newId initId tl) (hx : bootBuiltins x = some (.type B)) (hg : Gl X x) (hm : X.mg x = none) (ha : PA X (e :: es) ta) (h1 : x ≠ "__name__") (h2 : (x == ("__debug__" : Str)) = false)
    (hB : (Value.type B == Value.builtin "builtin_function_or_method") = false)
    (hc : eval (.Call (.Attribute (.Name x p1) "__init__" p2) (e :: es) [] pos) X.env = (do
      let ov ← eval (.Name x p1) X.env
      standAt p2.atName
      let (f, first) ← holding [ov] (getMethod ov "__init__" pl)
      callWith pos f first (backTo pos (starEach (e :: es) X.env)) (backToKw pos (keywordEach [] X.env))) := by rfl)
    (he : starEach (e :: es) X.env = (false, eval e X.env) :: starEach es X.env := by rfl) (hpl : (backTo pos (starEach es X.env)).any (·.1) = false := by rfl) :
    PE X (.Call (.Attribute (.Name x p1) "__init__" p2) (e :: es) [] pos) (tBi X.K newId tl ta) := by
  refine ⟨fun pins s σ H Q I h => ?_⟩
  refine PySem.W.methodCall_KW (ld_blt I hg hm hx ?_ h1 h2) hc
  obtain ⟨m, fr⟩ := I.fr
  refine PySem.W.method_type fr I.ok.mod.kin eb.ty eb.st (eb.fi _) eb.hd ?_
  show wpAny _ _ (callWith pos (Value.builtin initId) [] (backTo pos (starEach (e :: es) X.env)) []) _ _ _
  refine PyProof.Rows.callWith_method1 (thn (ha.run pos pins _ σ H _ (I.tok _) h) fun us s1 ⟨vs, H1, I1, r1, a, C, ws, ev, hl, T, ea, q⟩ => ?_) he hpl
  subst ev
  cases r1 with
  | @cons _ u0 _ ur ra rw' =>
    obtain rfl : u0 = Value.ref a := ra
    exact binit_ok eb T I1 ea (by rw [← Paired.length rw', sizeLine_eq]; omega) fun s' J => ⟨.non, H1, J, rfl, q⟩
/-- self.f = e, the only one -/
def tOst1 (K : PySem.W.Frag) (newId : String) (tl : List Value) (f : Str) (to te : TE) : TS := fun D σ H => te σ H fun y H1 => to σ H1 fun x H2 => ∃ a C : Addr, x = .ref a ∧ OexB K C newId tl ∧ PySem.W.findIn K (.ref C) f = some none ∧
  H2 a = some (exo a C none) ∧ ∀ dx, H2 dx = none → dx ≠ a → D.nx σ (upd (upd H2 dx (exd dx [(f, y)])) a (exo a C (some dx)))
theorem ps_ost1 (eb : EB B newId initId tl) (ho : PE X o to) (he : PE X e te) (hs : swapsWith e (some (.Attribute o f p')) pos.line X.env = pure false := by rfl) : PS X (.Assign [.Attribute o f p'] e pos) (tOst1 X.K newId tl f to te) := by
  refine ⟨fun pins s σ H D I h => ?_⟩
  refine plainObj_wpAny_Assign_Attribute (thn (he.run pins s σ H _ I h) fun v s1 ⟨y, H1, I1, r1, q1⟩ => thn (ho.run pins s1 σ H1 _ I1 q1) fun u s2 ⟨x, H2, I2, r2, a, C, ex, T, hno, ea, q⟩ => ?_) hs
  subst ex
  obtain rfl : u = Value.ref a := r2
  exact ost_first eb T I2 ea hno r1 fun dx s' n ne J => ⟨σ, _, J, q dx n ne⟩
end
/-! ### the making -/
/-- what the __init__ of such a class keeps: one field, or none -/
def spX1 (K : PySem.W.Frag) (newId : String) (tl : List Value) (f : Str) : Sp := fun vs H Q _ => ∃ (a C : Addr) (y : V), vs = [.ref a, y] ∧ OexB K C newId tl ∧ PySem.W.findIn K (.ref C) f = some none ∧ H a = some (exo a C none) ∧ ∀ dx, H dx = none → dx ≠ a → Q .non (upd (upd H dx (exd dx [(f, y)])) a (exo a C (some dx)))
def spX0 (K : PySem.W.Frag) (newId : String) (tl : List Value) : Sp := fun vs H Q _ => ∃ (a C : Addr), vs = [.ref a] ∧ OexB K C newId tl ∧ H a = some (exo a C none) ∧ Q .non H
section
variable {X : Cx} {B newId initId : String} {tl : List Value} {x f : Str} {C fI : Addr} {k : Nat} {fd : FuncData} {ps : List Str} {p pos : Pos}
/-- C(e) -/
theorem pmk_x1 {e : Expr} {ta : TA} (eb : EB B newId initId tl) (T : OexB X.K C newId tl) (no : PySem.W.findIn X.K (.ref C) f = some none) (iC : PySem.W.findIn X.K (.ref C) "__init__" = some (some (.ref fI))) (tI : PySem.W.typeIn X.K (.ref fI) = some (.type "function"))
    (F1 : FnOk X.prog X.w X.K X.mg X.base (L2.CX X.prog X.w) k fI fd ps (spX1 X.K newId tl f)) (hr : Room (k + 1) X.A) (hb : Binds X.K fd ps []) (hg : Gl X x) (hm : X.mg x = some (.ref C)) (ha : PA X [e] ta)
    (hdb : (x == ("__debug__" : Str)) = false := by decide) (he : starEach [e] X.env = (false, eval e X.env) :: starEach [] X.env := by rfl) (hpl : (backTo pos (starEach [] X.env)).any (·.1) = false := by rfl) :
    PMk X (.Call (.Name x p) [e] [] pos) (fun σ H Q => ta σ H fun vs H1 => ∃ y, vs = [y] ∧ ∀ d, H1 d = none → Q (.ref C) (some d) (upd H1 d (.xd [(f, y)]))) := by
  intro pins s σ H Q I h
  obtain ⟨nm, q, N, bs, sn, sub, ab, col, dd, k0, k1, k2, k3, k5, hC⟩ := T.cls
  refine wpAny_Call_Name_kw (ld_glob I hg hm ?_ hdb)
  refine PySem.W.callWith_K (h₀ := X.base) I.ok.mod.kin T.kC (thn (ha.run pos pins s σ H _ I h) fun us s1 ⟨vs, H1, I1, r1, y, ev, q1⟩ => ⟨I1.kIn, ?_⟩) he hpl
  subst ev
  show wpAny _ _ (call (.ref C) us) _ _ _
  obtain ⟨hp, g, dr, tk, os⟩ := s1
  let a := hp.objs.size + 1
  have hsz : hp.objs.size ≤ a := Nat.le_succ _
  have hn : H1 a = none := I1.hok.fresh hsz
  have kk : ∀ b o, hp.get? b = some o → ((hp.push (PySem.W.kdv_tup us)).push (PySem.HandSPX.excO C hp.objs.size)).get? b = some o := fun b o e => Heap.get?_push_of_some _ (Heap.get?_push_of_some _ e)
  have hget : ((hp.push (PySem.W.kdv_tup us)).push (PySem.HandSPX.excO C hp.objs.size)).get? (hp.objs.size + 1) = some (PySem.HandSPX.excO C hp.objs.size) := by heap_get
  have I2 : Inv X pins σ (upd H1 a (exo a C none)) ⟨(hp.push (PySem.W.kdv_tup us)).push (PySem.HandSPX.excO C hp.objs.size), g, dr, tk, os⟩ :=
    I1.laid (t' := tk) (a := a) (o := exo a C none) (h' := (hp.push (PySem.W.kdv_tup us)).push (PySem.HandSPX.excO C hp.objs.size)) kk hsz (exo_ok hget)
  have r2 : Vals (V.ref a :: [y]) (Value.ref a :: us) := .cons rfl r1
  have hus : us.length = 1 := by rw [← Paired.length r1]; rfl
  let E0' : XK := fun _ _ _ => False
  have hq : spX1 X.K newId tl f (V.ref a :: [y]) (upd H1 a (exo a C none)) (fun v H2 => v = .non ∧ ∃ d, H2 a = some (exo a C (some d)) ∧ H2 d = some (exd d [(f, y)]) ∧ H1 d = none ∧ upd (del H2 a) d (.xd [(f, y)]) = upd H1 d (.xd [(f, y)])) E0' := by
    refine ⟨a, C, y, rfl, T, no, upd_same, fun dx n ne => ⟨rfl, dx, upd_same, by rw [upd_ne ne, upd_same], by rw [upd_ne ne] at n; exact n, ?_⟩⟩
    rw [upd_ne ne] at n
    funext b
    by_cases h1 : b = dx
    · subst h1; rw [upd_same, upd_same]
    · rw [upd_ne h1, upd_ne h1]
      by_cases h2 : b = a
      · subst h2; rw [del_same, hn]
      · rw [del_ne h2, upd_ne h2, upd_ne h1, upd_ne h2]
  have hl : (Value.ref a :: us).length = ps.length := by
    have e := r2.length
    rw [F1.len _ _ _ _ hq] at e
    exact e.symm
  have hb' := hb ⟨(hp.push (PySem.W.kdv_tup us)).push (PySem.HandSPX.excO C hp.objs.size), g, dr, tk, os⟩ (Value.ref a :: us) I2.kIn (by rw [List.append_nil]; exact hl)
  rw [List.append_nil] at hb'
  refine wpAny_call (PySem.HandSPX.call_own eb.F (fun _ => rfl) (I1.kIn _ _ hC) (PySem.W.looks_findIn I1.kIn iC) (fun self => PySem.W.bind_fn I1.kIn self tI) (by rw [hus, sizeLine_eq]; omega)
    (codeAny_mono (F1.run _ X.stack _ _ ⟨Value.ref a :: us, []⟩ (Value.ref a :: us) _ _ E0' (hr.make C us []) (I2.env0.make C us []) hb' r2 hq) fun r s' hq' => ?_))
  cases r with
  | error er => obtain ⟨_, _, _, _, _, _, _, _, _, _, _, _, z⟩ := hq'; exact z.elim
  | ok fl =>
    cases fl with
    | ret u =>
      obtain ⟨v, H2, os2, bare2, un2, hok2, rv, ev, d, ea, ed, hd1, eq⟩ := hq'
      subst ev
      obtain ⟨h2, g2, d2, t2, os'⟩ := s'
      exact ⟨rv, mk_end (raises_own T.exC T.tyC) I1 hsz kk un2 hok2 os2 bare2 ea ed hd1 (by rw [eq]; exact q1 d hd1)⟩
    | next => exact False.elim hq'
    | brk => exact False.elim hq'
    | cont => exact False.elim hq'
end
/-! ### raise -/
/-- the class named c: made with its fields f -/
structure KnownX (P : Program) (w : World) (K : PySem.W.Frag) (mg : Str → Option Value) (base : Heap) (k : Nat) (c f : Str) : Prop where
  ex : ∃ (B newId initId : String) (tl : List Value) (C fI : Addr) (fd : FuncData) (ps : List Str), XC K mg c C ∧ EB B newId initId tl ∧ OexB K C newId tl ∧ PySem.W.findIn K (.ref C) f = some none ∧ PySem.W.findIn K (.ref C) "__init__" = some (some (.ref fI)) ∧
    PySem.W.typeIn K (.ref fI) = some (.type "function") ∧ FnOk P w K mg base (L2.CX P w) k fI fd ps (spX1 K newId tl f) ∧ Binds K fd ps []
theorem ds_raise1 {X : Cx} {k : Nat} {c f : Str} {e : Expr} {t : DA} {p cpos pos : Pos} (hc : X.calm = true) (hx : KnownX X.prog X.w X.K X.mg X.base k c f) (hr : Room (k + 1) X.A) (ha : PAd X [e] t) (hg : Gl X c := by rfl)
    (hdb : (c == ("__debug__" : Str)) = false := by decide) (he : starEach [e] X.env = (false, eval e X.env) :: starEach [] X.env := by rfl) (hpl : (backTo cpos (starEach [] X.env)).any (·.1) = false := by rfl) :
    PSd X (.Raise (some (.Call (.Name c p) [e] [] cpos)) none pos) (dRaise c [f] t) := by
  obtain ⟨B, newId, initId, tl, C, fI, fd, ps, hm, eb, T, no, iC, tI, F1, hb⟩ := hx.ex
  refine psI (ps_raise hc (takes_Wx X) (pmk_x1 eb T no iC tI F1 hr hb hg hm.at_ ha hdb he hpl)) fun D σ H ⟨ρ, M, De, S, R, q, k⟩ => ⟨ρ, M, _, _, S, R, q, k.xok S, fun vs ds M1 H1 e1 R1 r1 ⟨hl, q1⟩ => ?_⟩
  match ds, hl, r1, q1 with
  | [d], _, r1, q1 =>
    obtain ⟨y, ey, ry⟩ := r1.one'
    exact ⟨y, ey, fun dd n => k.ex c [(f, d)] C (some dd) σ _ ρ M1 (e1.trans (.new n)) (S.ev (e1.trans (.new n))) (R1.new n) hm (.inr ⟨dd, [(f, y)], rfl, upd_same, R1.mem n, y, [], rfl, ry.ev (Ev.new n), rfl⟩) q1⟩

/-! ### try -/
/-- the ends of an except suite -/
def sufN (D : Ends) : Option Nat → Ends
  | none => D
  | some i => { nx := fun σ' H' => D.nx (σ'.set i none) H', rt := D.rt, bk := fun σ' H' => D.bk (σ'.set i none) H', ct := fun σ' H' => D.ct (σ'.set i none) H' }
def sufS (σ : L2.St) (a : Addr) : Option Nat → L2.St
  | none => σ
  | some i => σ.set i (some (.ref a))
abbrev HdL : Type := List (Value × Option Nat × (Addr → Value → Option Addr → TS))
/-- what the clauses wish of what the body raises -/
def wGen (K : PySem.W.Frag) (out : WX) (D : Ends) : HdL → WX
  | [] => out
  | (c, i, ts) :: r => fun cls d σ H => ∃ b, PySem.W.exmOne K cls c = some b ∧ (b = true → ∀ a, H a = none → ts a cls d (sufN D i) (sufS σ a i) H) ∧ (b = false → wGen K out D r cls d σ H)
/-- how a clause names what it caught -/
def NmOk (X : Cx) (n : Option Str) (i : Option Nat) : Prop := (n = none ∧ i = none) ∨ ∃ x j, n = some x ∧ i = some j ∧ X.N[j]? = some x ∧ X.env.kindOf x = some .local
inductive HdsG (X : Cx) : List ExceptHandler → HdL → Prop
  | nil : HdsG X [] []
  | cons {x : Str} {c : Value} {n : Option Str} {i : Option Nat} {ts : Addr → Value → Option Addr → TS} {b₀ : Stmt} {suite : List Stmt} {np pos' : Pos} {hds : List ExceptHandler} {l : HdL} (hc : Names X x c) (hn : NmOk X n i)
      (hsu : ∀ (a : Addr) (oe : Obj) (cls : Value) (d : Option Addr) (pn : List (Addr × Obj)), Zc cls d oe → (∃ vs, oe.data = .fields vs) → PSs (X.suite a ((a, oe) :: pn)) (b₀ :: suite) (ts a cls d)) (r : HdsG X hds l) :
      HdsG X (.ExceptHandler (some (.Name x np)) n (b₀ :: suite) pos' :: hds) ((c, i, ts) :: l)
section
variable {X : Cx} {body : List Stmt} {h₀ : ExceptHandler} {hds : List ExceptHandler} {l : HdL} {pos : Pos} {tb : WX → TS} {out : WX}
/-- a caught exception at a: one clause behind another -/
theorem clauses {pins : List (Addr × Obj)} {σ' : L2.St} {H' : Hp} {sI s' : Shared} {h3 B : Heap} {cls : Value} {d : Option Addr} {a : Addr} {D : Ends} (hN : X.N.Nodup) (hs : X.stack = X.env :: X.outer) (hf : X.env.frame = some X.env.locals) (tk : Takes X out) (ok : X.Ok)
    (J : Inv X pins σ' H' sI) (nb : ∀ b o, sI.heap.get? b = some o → b ∉ frs X.stack → B.get? b = some o) (up : sI.heap.UpToSlots h3) (os : s'.os = sI.os) (ag : PyProof.Rows.AllBare s'.gens) (na : H' a = none) (fl : HandSPX.FlyingZ B (X.env :: X.outer) a (Zc cls d) h3) :
    ∀ {hds : List ExceptHandler} {l : HdL}, HdsG X hds l → wGen X.K out D l cls d σ' H' → wpAny (model X.prog X.w) X.A (handleBy (.ref a) X.env hds) (SP X pins D) X.xe { s' with heap := h3 } := by
  have land : ∀ {h : Heap}, HandSPX.FlyingZ B (X.env :: X.outer) a (Zc cls d) h → sI.heap.UpToSlots h → ∃ oe, h.get? a = some oe ∧ Zc cls d oe ∧ (∃ vs, oe.data = .fields vs) ∧ Inv (X.suite a ((a, oe) :: (X.pn ++ pins))) [] σ' H' { s' with heap := h } := fun {h} fl u => by
    have J3 : Inv X pins σ' H' { s' with heap := h } := J.landed nb fl.1 u os ag
    obtain ⟨oe, vs, he, hz, hd⟩ := fl.there
    have nfr : a ∉ frs (X.env :: X.outer) := fun hm => by
      obtain ⟨_, o', e', hnf⟩ := fl.2.2.1.mem hm
      rw [he] at e'; cases e'; exact hnf _ hd
    refine ⟨oe, he, hz, ⟨vs, hd⟩, J3.suite he hd na (fun z => nfr (List.mem_filterMap.mpr ⟨X.env, List.mem_cons_self, by rw [hf, z]⟩)) fun hm => ?_⟩
    obtain ⟨e, he', q⟩ := List.mem_filterMap.mp hm
    exact nfr (List.mem_filterMap.mpr ⟨e, List.mem_cons_of_mem _ he', q⟩)
  obtain ⟨oe3, he3, hz3, ⟨vs3, hd3⟩, S3⟩ := land fl up
  have J3 : Inv X pins σ' H' { s' with heap := h3 } := J.landed nb fl.1 up os ag
  intro hds l hk
  induction hk with
  | nil =>
    intro w
    refine wpAny_handleBy_nil ?_
    obtain ⟨_, _, _, oe, vs, T, oT, ts', he, hz, hd, h1, hr⟩ := id fl
    unfold PySem.passOn
    refine wpAny_bind (wpAny_field he hd h1 ?_)
    rw [if_neg (show ¬ ((Value.ref T == Value.none) = true) from by simp)]
    have fin : wpAny (model X.prog X.w) X.A (setFlight (.ref a) X.env.frame) (fun _ s4 => wpAny (model X.prog X.w) X.A (throw (.ref a) : Sem Flow) (SP X pins D) X.xe s4) X.xe { s' with heap := h3 } := by
      rw [hf]
      exact HandSPX.setFlight_upZ fl fun h4 hh4 up4 => wpAny_throw (tk _ _ ⟨a, B, sI, pins, σ', H', cls, d, rfl, J, nb, up.trans up4, .inr (.inr (by rw [hs]; exact hh4)), na, os, ag, w⟩)
    first
      | exact wpAny_bind (wpAny_pure (wpAny_bind fin))
      | exact wpAny_bind fin
  | @cons x c n i ts b₀ suite np pos' hds2 l2 hc hn hsu r ih =>
    intro ⟨b, hb1, yes, no⟩
    refine wpAny_handleBy_cons (codeAny_handlers_test ?_) (by intro q; cases q)
    have ty : PySem.W.Looks (model X.prog X.w) h3 (typeOf (.ref a)) cls := fun A Q E s k q => wpAny_typeOf_ref (k _ _ he3) (by rw [hz3.1]; exact q)
    have fit := PySem.W.exm_one (M := model X.prog X.w) J3.kIn ty hb1
    have test : ∀ {Q : Value → Shared → Prop} {E : Value → Shared → Prop}, Q c { s' with heap := h3 } → wpAny (model X.prog X.w) (X.A.mark (some (.ref a))) (eval (.Name x np) X.env) Q E { s' with heap := h3 } := fun {Q E} q => by
      rcases hc with ⟨hg, hdbg, hm | ⟨hm, hv, hnn⟩⟩
      · exact ld_glob (X := X.suite a ((a, oe3) :: (X.pn ++ pins))) S3 hg hm q hdbg
      · exact ld_blt (X := X.suite a ((a, oe3) :: (X.pn ++ pins))) S3 hg hm hv q hnn hdbg
    refine test (fit.here ?_)
    cases b with
    | false => exact ih (no rfl)
    | true =>
      have y := yes rfl a na
      rcases hn with ⟨e1, e2⟩ | ⟨y1, j, e1, e2, hi, hln⟩
      · subst e1; subst e2
        refine codeAny_handlers_suite (HandSPX.lands_againZ fl fun h4 fl4 up4 => ?_)
        obtain ⟨oe4, he4, hz4, hd4, S4⟩ := land fl4 (up.trans up4)
        refine wpAny_mono ((hsu a oe4 cls d (X.pn ++ pins) hz4 hd4).run [] _ _ H' _ S4 y) (fun f s6 hsp => ?_) (fun _ _ z => False.elim z)
        cases f with
        | ret u => obtain ⟨v6, σ6, H6, S6, r6, q6⟩ := hsp; exact ⟨_, _, _, S6.unsuite ok, r6, q6⟩
        | next => obtain ⟨σ6, H6, S6, q6⟩ := hsp; exact ⟨_, _, S6.unsuite ok, q6⟩
        | brk => obtain ⟨σ6, H6, S6, q6⟩ := hsp; exact ⟨_, _, S6.unsuite ok, q6⟩
        | cont => obtain ⟨σ6, H6, S6, q6⟩ := hsp; exact ⟨_, _, S6.unsuite ok, q6⟩
      · subst e1; subst e2
        refine codeAny_handlers_suite_as (HandSPX.lands_againZ fl fun h4 fl4 up4 => ?_)
        obtain ⟨oe4, he4, hz4, hd4, S4⟩ := land fl4 (up.trans up4)
        refine store_ok (X := X.suite a ((a, oe4) :: (X.pn ++ pins))) (v := .ref a) S4 hN hi (.inl hln) rfl (fun s5 S5 => ?_) (.inr hln)
        refine wpAny_mono ((hsu a oe4 cls d (X.pn ++ pins) hz4 hd4).run [] s5 _ H' _ S5 y) (fun f s6 hsp => ?_) (fun _ _ z => False.elim z)
        have away : ∀ {σ6 : L2.St} {H6 : Hp} {Q : Shared → Prop}, Inv (X.suite a ((a, oe4) :: (X.pn ++ pins))) [] σ6 H6 s6 → (∀ s7, Inv X pins (σ6.set j none) H6 s7 → Q s7) →
            wpAny (model X.prog X.w) X.A (do bindName X.env y1 .none; unbindBehindTheSuite X.env y1 pos') (fun _ s7 => Q s7) X.xe s6 := fun {σ6 H6 Q} S6 hq => gone_ok (S6.unsuite ok) hN hi hln hq
        cases f with
        | ret u => obtain ⟨v6, σ6, H6, S6, r6, q6⟩ := hsp; exact away S6 fun s7 J7 => ⟨_, _, _, J7, r6, q6⟩
        | next => obtain ⟨σ6, H6, S6, q6⟩ := hsp; exact away S6 fun s7 J7 => ⟨_, _, J7, q6⟩
        | brk => obtain ⟨σ6, H6, S6, q6⟩ := hsp; exact away S6 fun s7 J7 => ⟨_, _, J7, q6⟩
        | cont => obtain ⟨σ6, H6, S6, q6⟩ := hsp; exact away S6 fun s7 J7 => ⟨_, _, J7, q6⟩
theorem ps_try_gen (hs : X.stack = X.env :: X.outer) (hf : X.env.frame = some X.env.locals) (hN : X.N.Nodup) (tk : Takes X out)
    (hb : ∀ (W : WX) (pn : List (Addr × Obj)) (xe : Value → Shared → Prop), Takes (X.tr pn xe) W → PassesOwn (model X.prog X.w) X.A X.env xe → PSs (X.tr pn xe) body (tb W))
    (hh : HdsG X (h₀ :: hds) l) : PS X (.Try body (h₀ :: hds) [] [] pos) (fun D σ H => tb (wGen X.K out D l) D σ H) := by
  refine ⟨fun pins s σ H D I h => ?_⟩
  have ok := I.ok
  have hfr : X.A.frames = some (X.env :: X.outer) := by rw [ok.frames, hs]
  refine wpAny_Try_except (wpAny_mono ((hb (wGen X.K out D l) (X.pn ++ pins) (fun e s₁ => wpAny (model X.prog X.w) X.A (noteFrame e X.env) (fun _ s₂ => wpAny (model X.prog X.w) X.A (setFlight e none) (fun _ s₃ =>
    wpAny (model X.prog X.w) X.A (handleBy e X.env (h₀ :: hds)) (SP X pins D) X.xe s₃) X.xe s₂) X.xe s₁) (fun u s' xx => ?_) PassesOwn.looking).run [] s σ H D (I.toTry _) h) (fun f s1 hsp => ?_) (fun e s1 he => he))
  · obtain ⟨a, B, sI, pins', σ', H', cls, d, rfl, J', nb, up, sky, na, os, ag, w⟩ := xx
    show wpAny (model X.prog X.w) X.A (noteFrame (.ref a) X.env) _ _ _
    exact Sky.land Zc.steady hfr hf (by rw [← hs]; exact sky) fun h3 fl3 up3 => clauses hN hs hf tk ok (J'.ofTry ok) nb (up.trans up3) os ag na fl3 hh w
  · cases f with
    | ret u => obtain ⟨v, σ', H', J', r, q⟩ := hsp; exact ⟨v, σ', H', J'.ofTry ok, r, q⟩
    | next => obtain ⟨σ', H', J', q⟩ := hsp; exact wpAny_execs_nil ⟨σ', H', J'.ofTry ok, q⟩
    | brk => obtain ⟨σ', H', J', q⟩ := hsp; exact ⟨σ', H', J'.ofTry ok, q⟩
    | cont => obtain ⟨σ', H', J', q⟩ := hsp; exact ⟨σ', H', J'.ofTry ok, q⟩
end
/-! ### except suites over data -/
theorem XRep.ev {K : PySem.W.Frag} {M M' : MB} {H H' : Hp} {fs : Fs} {d : Option Addr} (h : XRep K M H fs d) (e : Ev M H M' H') : XRep K M' H' fs d := by
  rcases h with h | ⟨dd, gs, h1, h2, h3, h4⟩
  · exact .inl h
  · exact .inr ⟨dd, gs, h1, e.frame dd _ h2 h3, (fun z => by have w := e.dom dd z h3; rw [h2] at w; cases w), h4.ev e⟩
structure EndsN (K : PySem.W.Frag) (mg : Str → Option Value) (M : MB) (H : Hp) (De : DEnds) (D : Ends) : Prop where
  nx : ∀ σ' H' ρ' M', Ev M H M' H' → Slots K M' H' ρ' σ' → MR K mg M' H' → De.nx ρ' M'.m → D.nx σ' H'
  rt : ∀ v d M' H', Ev M H M' H' → MR K mg M' H' → Rep K M' H' d v → De.rt d M'.m → D.rt v H'
  bk : ∀ σ' H' ρ' M', Ev M H M' H' → Slots K M' H' ρ' σ' → MR K mg M' H' → De.bk ρ' M'.m → D.bk σ' H'
  ct : ∀ σ' H' ρ' M', Ev M H M' H' → Slots K M' H' ρ' σ' → MR K mg M' H' → De.ct ρ' M'.m → D.ct σ' H'
theorem EndsN.later {K : PySem.W.Frag} {mg : Str → Option Value} {M M1 : MB} {H H1 : Hp} {De : DEnds} {D : Ends} (h : EndsN K mg M H De D) (e : Ev M H M1 H1) : EndsN K mg M1 H1 De D :=
  ⟨fun σ H ρ M f => h.nx σ H ρ M (e.trans f), fun v d M H f => h.rt v d M H (e.trans f), fun σ H ρ M f => h.bk σ H ρ M (e.trans f), fun σ H ρ M f => h.ct σ H ρ M (e.trans f)⟩
/-- nothing is raised from here -/
def noE (E : DEnds) : DEnds := { E with ex := fun _ _ _ _ => False }
theorem EndsN.ok {X : Cx} {M : MB} {H : Hp} {De : DEnds} {D : Ends} (h : EndsN X.K X.mg M H De D) : EndsOk X M H (noE De) D := ⟨h.nx, h.rt, h.bk, h.ct, fun _ _ _ _ _ _ _ _ _ _ _ _ _ q => q.elim⟩
/-- what was caught: the object, its slot, its fields, its dict -/
structure Cau where
  a : Addr
  i : Option Nat
  fs : Fs
  d : Option Addr
def Cau.Ok (K : PySem.W.Frag) (c : Cau) (M : MB) (H : Hp) (σ : L2.St) : Prop := XRep K M H c.fs c.d ∧ ∀ j, c.i = some j → j < σ.length → σ[j]? = some (some (V.ref c.a))
theorem Cau.Ok.ev {K : PySem.W.Frag} {c : Cau} {M M' : MB} {H H' : Hp} {σ : L2.St} (h : c.Ok K M H σ) (e : Ev M H M' H') : c.Ok K M' H' σ := ⟨h.1.ev e, h.2⟩
/-- in a suite: an exception with the dict d, the fields fs was caught -/
def LSX (K : PySem.W.Frag) (mg : Str → Option Value) (c : Cau) (t : DS) : TS := fun D σ H => ∃ ρ M De, Slots K M H ρ σ ∧ MR K mg M H ∧ c.Ok K M H σ ∧ t (noE De) ρ M.m ∧ EndsN K mg M H De D
def LEX (K : PySem.W.Frag) (mg : Str → Option Value) (c : Cau) (t : DE) : TE := fun σ H Q => ∃ ρ M Qd, Slots K M H ρ σ ∧ MR K mg M H ∧ c.Ok K M H σ ∧ t ρ M.m noX Qd ∧ ∀ v d M' H', Ev M H M' H' → MR K mg M' H' → Rep K M' H' d v → Qd d M'.m → Q v H'
def LAX (K : PySem.W.Frag) (mg : Str → Option Value) (c : Cau) (t : DA) : TA := fun σ H Q => ∃ ρ M Qd, Slots K M H ρ σ ∧ MR K mg M H ∧ c.Ok K M H σ ∧ t ρ M.m noX Qd ∧ ∀ vs ds M' H', Ev M H M' H' → MR K mg M' H' → Reps K M' H' ds vs → Qd ds M'.m → Q vs H'
section
variable {X : Cx} {e : Expr} {es : List Expr} {st : Stmt} {b : List Stmt} {c : Cau} {te : DE} {ta : DA} {t u : DS} {pos : Pos}
abbrev PEx (X : Cx) (c : Cau) (e : Expr) (t : DE) : Prop := PE X e (LEX X.K X.mg c t)
abbrev PAx (X : Cx) (c : Cau) (e : List Expr) (t : DA) : Prop := PA X e (LAX X.K X.mg c t)
abbrev PSx (X : Cx) (c : Cau) (e : Stmt) (t : DS) : Prop := PS X e (LSX X.K X.mg c t)
abbrev PSsx (X : Cx) (c : Cau) (e : List Stmt) (t : DS) : Prop := PSs X e (LSX X.K X.mg c t)
theorem xe_of (h : PEd X e te) : PEx X c e te := peI h fun σ H Q ⟨ρ, M, Qd, S, R, _, q, k⟩ => ⟨ρ, M, noX, Qd, S, R, q, .no, k⟩
theorem xs_of (h : PSd X st t) : PSx X c st t := psI h fun D σ H ⟨ρ, M, De, S, R, _, q, k⟩ => ⟨ρ, M, _, S, R, q, k.ok⟩
theorem xa_nil : PAx X c [] dNil := paI pa_nil fun σ H Q ⟨ρ, M, Qd, S, R, _, q, k⟩ => k [] [] M H .refl R .nil q
theorem xa_cons (ha : PEx X c e te) (hr : PAx X c es ta) (hs : starEach (e :: es) X.env = (false, eval e X.env) :: starEach es X.env := by rfl) : PAx X c (e :: es) (dCons te ta) :=
  paI (pa_cons ha hr hs) fun σ H Q ⟨ρ, M, Qd, S, R, z, q, k⟩ => ⟨ρ, M, _, S, R, z, q, fun v d M1 H1 e1 R1 r1 q1 =>
    ⟨ρ, M1, _, S.ev e1, R1, z.ev e1, q1, fun vs ds M2 H2 e2 R2 r2 q2 => k _ _ M2 H2 (e1.trans e2) R2 (.cons (r1.ev e2) r2) q2⟩⟩
theorem xe_tup {x1} (h : PAx X c es ta) : PEx X c (.Tuple es x1 pos) (dTup ta) := peI (pe_tup h) fun σ H Q ⟨ρ, M, Qd, S, R, z, q, k⟩ =>
  ⟨ρ, M, _, S, R, z, q, fun vs ds M1 H1 e1 R1 r1 ⟨hz, q1⟩ => ⟨by rw [← r1.len]; exact hz, fun p n =>
    k (.ref p) (.tup ds) M1 (upd H1 p (.tup vs)) (e1.trans (.new n)) (R1.new n) ⟨p, vs, rfl, sq_new, r1.ev (Ev.new (M := M1) n)⟩ q1⟩⟩
theorem xs_ret (he : PEx X c e te) : PSx X c (.Return (some e) pos) (dRet te) := psI (ps_ret he) fun D σ H ⟨ρ, M, De, S, R, z, q, k⟩ =>
  ⟨ρ, M, _, S, R, z, q, fun v d M1 H1 e1 R1 r1 q1 => k.rt v d M1 H1 e1 R1 r1 q1⟩
theorem xs_set {i : Nat} {x : Str} {pos' : Pos} (hN : X.N.Nodup) (he : PEx X c e te) (hi : X.N[i]? = some x := by rfl) (hx : Loc X.env.scope x := by first | exact Or.inl rfl | exact Or.inr rfl) (hs : swapsWith e (some (.Name x pos')) pos.line X.env = pure false := by rfl) (hf : X.fn x = true ∨ X.env.scope.names.lookup x = some .local := by first | exact .inl rfl | exact .inr rfl | assumption) :
    PSx X c (.Assign [.Name x pos'] e pos) (dAsg te (.nm i)) := psI (ps_set hN hi hx he hs hf) fun D σ H ⟨ρ, M, De, S, R, z, q, k⟩ =>
  ⟨ρ, M, _, S, R, z, q, fun v d M1 H1 e1 R1 r1 q1 => k.nx _ H1 _ M1 e1 ((S.ev e1).set r1) R1 (by simpa only [Tg.store, noE] using q1)⟩
theorem xs_one (h : PSx X c st t) : PSsx X c [st] t := pss_one h
/-- e.f of what was caught -/
theorem lookF_rep {K : PySem.W.Frag} {M : MB} {H : Hp} {f : Str} : ∀ {fs : Fs} {gs : List (Str × V)} {d : D}, RepF K M H fs gs → lookF fs f = some d → ∃ v, gs.lookup f = some v ∧ Rep K M H d v
  | [], _, _, _, e => by simp [lookF] at e
  | (g, x) :: r, _, d, ⟨v, ws, e, h1, h2⟩, q => by
    subst e
    by_cases h : f = g
    · subst h
      simp [lookF] at q
      subst q
      exact ⟨v, by simp, h1⟩
    · have hb : (f == g) = false := by simpa using h
      unfold lookF at q
      rw [List.lookup, hb] at q
      obtain ⟨w, e1, r1⟩ := lookF_rep h2 q
      exact ⟨w, by rw [List.lookup, hb]; exact e1, r1⟩
theorem xe_fld {C : Addr} {oe : Obj} {pn : List (Addr × Obj)} {i : Nat} {x f : Str} {p : Pos} (T : XfC X.K C) (no : PySem.W.findIn X.K (.ref C) f = some none) (hz : Zc (.ref C) c.d oe) (hf : ∃ vs, oe.data = .fields vs) (hi : c.i = some i)
    (hN : (X.suite c.a ((c.a, oe) :: pn)).N[i]? = some x := by rfl) (hv : Vis (X.suite c.a ((c.a, oe) :: pn)).env.scope x := by first | exact Or.inl rfl | exact Or.inr (Or.inl rfl) | exact Or.inr (Or.inr rfl))
    (hd : (x == ("__debug__" : Str)) = false := by decide) (hcd : (x == ("__classdict__" : Str)) = false := by decide)
    (hb : attributeBase (.Name x p) f (X.suite c.a ((c.a, oe) :: pn)).env (eval (.Name x p) (X.suite c.a ((c.a, oe) :: pn)).env) = eval (.Name x p) (X.suite c.a ((c.a, oe) :: pn)).env := by rfl) : PEx (X.suite c.a ((c.a, oe) :: pn)) c (.Attribute (.Name x p) f pos) (dXf c.fs f) :=
  ⟨fun pins s σ H Q I ⟨ρ, M, Qd, S, R, z, ⟨y, hy, q⟩, k⟩ => (pe_xf T no hz hf (pe_var (i := i) hN hv hd hcd) hb).run pins s σ H Q I <| by
    refine ⟨.ref c.a, z.2 i hi (by rw [I.len]; exact lt_of_get hN), rfl, rfl, ?_⟩
    rcases z.1 with ⟨e1, e2⟩ | ⟨dd, gs, e1, e2, e3, e4⟩
    · rw [e1] at hy; simp [lookF] at hy
    · obtain ⟨v, g1, g2⟩ := lookF_rep e4 hy
      exact ⟨dd, gs, v, e1, e2, g1, k v y M H .refl R g2 q⟩⟩
end
/-! ### try over data -/
theorem Slots.none {K : PySem.W.Frag} {M : MB} {H : Hp} {ρ : DSt} {σ : L2.St} (S : Slots K M H ρ σ) (j : Nat) (v : Option V) : Slots K M H (ρ.set j none) (σ.set j v) := by
  refine ⟨by simp [S.1], fun i d e => ?_⟩
  by_cases h : j = i
  · subst h
    by_cases hl : j < ρ.length
    · rw [List.getElem?_set_self hl] at e; cases e
    · rw [List.getElem?_eq_none (by simp; omega)] at e; cases e
  · rw [List.getElem?_set_ne h] at e
    obtain ⟨w, e1, r⟩ := S.2 i d e
    exact ⟨w, by rw [List.getElem?_set_ne h]; exact e1, r⟩
/-- the clauses of a try: the class, the slot of its name, the suite's reading by the fields -/
abbrev HsL : Type := List (Str × Option Nat × (Fs → DS))
inductive HdsD (X : Cx) : List ExceptHandler → HsL → Prop
  | nil : HdsD X [] []
  | cons {x : Str} {C : Addr} {n : Option Str} {i : Option Nat} {u : Fs → DS} {b₀ : Stmt} {suite : List Stmt} {np pos' : Pos} {hds : List ExceptHandler} {l : HsL} (hm : X.mg x = some (.ref C)) (hg : Gl X x) (hdb : (x == ("__debug__" : Str)) = false) (hx : x ∈ xcs) (hn : NmOk X n i)
      (hsu : ∀ (c : Cau) (oe : Obj) (pn : List (Addr × Obj)), c.i = i → Zc (.ref C) c.d oe → (∃ vs, oe.data = .fields vs) → PSsx (X.suite c.a ((c.a, oe) :: pn)) c (b₀ :: suite) (u c.fs)) (r : HdsD X hds l) :
      HdsD X (.ExceptHandler (some (.Name x np)) n (b₀ :: suite) pos' :: hds) ((x, i, u) :: l)
/-- .. below -/
def loHd (K : PySem.W.Frag) (mg : Str → Option Value) : HsL → HdL
  | [] => []
  | (x, i, u) :: l => (((mg x).getD .none), i, fun a cls d D σ H => ∃ fs, cls = (mg x).getD .none ∧ LSX K mg ⟨a, i, fs, d⟩ (u fs) D σ H) :: loHd K mg l
theorem HdsD.lo {X : Cx} : ∀ {hds : List ExceptHandler} {l : HsL}, HdsD X hds l → HdsG X hds (loHd X.K X.mg l)
  | _, _, .nil => .nil
  | _, _, .cons (C := C) hm hg hdb hx hn hsu r => by
    refine .cons (c := (X.mg _).getD .none) ⟨hg, hdb, .inl (by rw [hm]; rfl)⟩ hn (fun a oe cls d pn hz hf => ⟨fun pins s σ H D I ⟨fs, e, q⟩ => ?_⟩) (HdsD.lo r)
    rw [hm] at e
    cases (show cls = .ref C from e)
    exact (hsu ⟨a, _, fs, d⟩ oe pn rfl hz hf).run pins s σ H D I q
/-- the body's readings, its exceptions by a wish -/
def LSW (X : Cx) (W : WX) (t : DS) : TS := fun D σ H => ∃ ρ M De, Slots X.K M H ρ σ ∧ MR X.K X.mg M H ∧ t De ρ M.m ∧ EndsN X.K X.mg M H De D ∧
  ∀ c fs C d σ' H' ρ' M', Ev M H M' H' → Slots X.K M' H' ρ' σ' → MR X.K X.mg M' H' → XC X.K X.mg c C → XRep X.K M' H' fs d → De.ex c fs ρ' M'.m → W (.ref C) d σ' H'
theorem ds_try {X : Cx} {body : List Stmt} {h₀ : ExceptHandler} {hds : List ExceptHandler} {l : HsL} {pos : Pos} {t : DS} (hs : X.stack = X.env :: X.outer) (hf : X.env.frame = some X.env.locals) (hN : X.N.Nodup)
    (hb : ∀ (W : WX) (pn : List (Addr × Obj)) (xe : Value → Shared → Prop), PassesOwn (model X.prog X.w) X.A X.env xe → PSsd (X.tr pn xe) body t) (hh : HdsD X (h₀ :: hds) l) : PSd X (.Try body (h₀ :: hds) [] [] pos) (dTry t l) := by
  refine psI (ps_try_gen (tb := fun W => LSW X W t) hs hf hN (takes_Wx X) (fun W pn xe tk hp => pssI (hb W pn xe hp) fun D σ H ⟨ρ, M, De, S, R, q, k, kx⟩ => ⟨ρ, M, De, S, R, q, k.nx, k.rt, k.bk, k.ct, fun c fs C d σ' H' ρ' M' e S' R' hc r q' => wx_of tk (kx c fs C d σ' H' ρ' M' e S' R' hc r q')⟩) hh.lo) fun D σ H ⟨ρ, M, De, S, R, q, k⟩ => ?_
  refine ⟨ρ, M, _, S, R, q, ⟨k.nx, k.rt, k.bk, k.ct⟩, fun c fs C d σ' H' ρ' M' e S' R' hc r q' => ?_⟩
  have go : ∀ {hds : List ExceptHandler} {l : HsL}, HdsD X hds l → (match l.lookup c with | some u => u.2 fs (sufE De u.1) (setN ρ' u.1) M'.m | none => De.ex c fs ρ' M'.m) → wGen X.K (Wx X) D (loHd X.K X.mg l) (.ref C) d σ' H' := by
    intro hds l hh
    induction hh with
    | nil => intro q; exact k.ex c fs C d σ' H' ρ' M' e S' R' hc r q
    | @cons x C2 n i u b₀ suite np pos' hds l hm hg hdb hx hn hsu r2 ih =>
      intro q
      refine ⟨decide (c = x), by rw [hm]; exact hc.own x hx C2 hm, fun y a na => ?_, fun y => ih ?_⟩
      · have y : c = x := of_decide_eq_true y
        subst y
        rw [List.lookup_cons_self] at q
        have eC : C2 = C := by have := hm.symm.trans hc.at_; cases this; rfl
        subst eC
        refine ⟨fs, by rw [hm]; rfl, setN ρ' i, M', sufE De i, ?_, R', ⟨r, fun j ej => ?_⟩, q, ?_⟩
        · cases i with
          | none => exact S'
          | some j => exact S'.none j _
        · cases (show i = some j from ej)
          rcases hn with ⟨_, z⟩ | ⟨x1, j1, _, z, hi, _⟩
          · cases z
          · cases z
            exact fun hl => List.getElem?_set_self (by simpa [sufS] using hl)
        · have E := k.later e
          cases i with
          | none => exact ⟨E.nx, E.rt, E.bk, E.ct⟩
          | some j => exact ⟨fun σ5 H5 ρ5 M5 e5 S5 R5 q5 => E.nx _ _ _ _ e5 (S5.none j none) R5 q5, E.rt, fun σ5 H5 ρ5 M5 e5 S5 R5 q5 => E.bk _ _ _ _ e5 (S5.none j none) R5 q5, fun σ5 H5 ρ5 M5 e5 S5 R5 q5 => E.ct _ _ _ _ e5 (S5.none j none) R5 q5⟩
      · have y : ¬ c = x := of_decide_eq_false y
        rw [List.lookup_cons, show (c == x) = false from by simpa using y] at q
        exact q
  exact go hh q'
end DM

/-! DM: what a head reads more: the own classes of errors. -/
namespace DM
open PySem PySem.Spec L2
open PyProof.Rows (envOfC)
/-! ### a Hook with more facts -/
abbrev ObM : Type := He.AlD × Bool
abbrev FbL : Type := List (PySem.W.Frag → Bool)
/-- what an object names, of what a head reads -/
def refsM (o : Obj) : List Addr := match o.data with
  | .cls cd => [cd.ns]
  | _ => He.refsD o
/-- what the module's names reach in n steps: some of them more than once (no look for doubles: it is the dearest part of a run) -/
def layM (g : Addr → Option Obj) : Nat → List Addr → List Addr
  | 0, as => as
  | n + 1, as => as ++ layM g n (as.flatMap fun a => match g a with
    | some o => refsM o
    | none => [])
def fragM (n : Nat) (g : Addr → Option Obj) : PySem.W.Frag := He.frG g (layM g n [mainGlobals])
def obsM (n : Nat) (fa : List He.Fa) (fn : List He.DefD) (fb : FbL) (g : Addr → Option Obj) : ObM := (He.obsD fa fn (fragM n g), fb.all fun t => t (fragM n g))
def hookM (n : Nat) (fa : List He.Fa) (fn : List He.DefD) (fb : FbL) : PySem.W.Hook :=
  { α := ObM, obs := fun s => obsM n fa fn fb s.heap.get?, val := fun _ => (He.valD fn, true), says := fun _ h => ∃ K : PySem.W.Frag, K.In h ∧ (He.SaysD fa fn K ∧ fb.all (fun t => t K) = true),
    of := fun w s e => ⟨fragM n s.heap.get?, He.frG_in, congrArg (fun z : ObM => z.1) e, congrArg (fun z : ObM => z.2) e⟩,
    keeps := fun w h h' q k => by obtain ⟨K, i, c⟩ := q; exact ⟨K, PySem.W.Frag.In.keeps i k, c⟩ }
theorem obsM_eq {n : Nat} {fa : List He.Fa} {fn : List He.DefD} {fb : FbL} {g : Addr → Option Obj} {s : Shared} (h : ∀ a, g a = s.heap.get? a) : obsM n fa fn fb g = (hookM n fa fn fb).obs s := by
  rw [show g = s.heap.get? from funext h] <;> rfl
theorem fb_at {fb : FbL} {K : PySem.W.Frag} (h : fb.all (fun t => t K) = true) (i : Nat) {t : PySem.W.Frag → Bool} (e : fb[i]? = some t := by rfl) : t K = true := List.all_eq_true.mp h t (List.mem_of_getElem? e)
/-- what a class statement holds -/
def clsOf : Stmt → List Stmt
  | .ClassDef _ _ _ b _ _ _ _ _ _ _ => b
  | _ => []
/-! ### own classes of errors -/
def fldsX : List Str := ["place", "position", "number", "source", "limit"]
/-- the class at C over the base tl -/
def oexB (newId : String) (tl : List Value) (c : Str) (K : PySem.W.Frag) : Bool := (match K.lookup (He.ga K c) with
    | some ⟨.type "type", _, .cls cd, sl⟩ => (match cd.mro, sl.toList with
      | .ref C' :: bm, [_, _, _, _, some (.builtin n), _] => C' == He.ga K c && (n == newId && (!cd.hasDel && (cd.hasDict && bm == tl)))
      | _, _ => false)
    | _ => false) && (decide (PySem.W.findIn K (.ref (He.ga K c)) "__setattr__" = some (some (.builtin "object.__setattr__"))) && (decide (PySem.W.subIn K (.ref (He.ga K c)) (.type "BaseException") = some true) &&
    (decide (PySem.W.typeIn K (.ref (He.ga K c)) = some (.type "type")) && PySem.W.keepIn K (.ref (He.ga K c)))))
theorem oexB_ok {newId : String} {tl : List Value} {c : Str} {K : PySem.W.Frag} (h : oexB newId tl c K = true) : OexB K (He.ga K c) newId tl := by
  obtain ⟨q, h⟩ := He.ba h
  obtain ⟨h1, h⟩ := He.ba h
  obtain ⟨h2, h⟩ := He.ba h
  obtain ⟨h3, h4⟩ := He.ba h
  refine ⟨?_, of_decide_eq_true h1, of_decide_eq_true h2, of_decide_eq_true h3, h4⟩
  split at q
  · rename_i dd cd sl ho
    split at q
    · rename_i C' bm k0 k1 k2 k3 n k5 hm hs
      simp only [Bool.and_eq_true, beq_iff_eq, Bool.not_eq_true'] at q
      obtain ⟨e1, e2, hdel, hdc, e3⟩ := q
      obtain ⟨nm, bs, mro, ns, qn, hd, sn, sub, ab, col, del⟩ := cd
      dsimp only at hm hdel hdc
      subst hm hdel hdc e2 e3
      have hsl : sl = #[k0, k1, k2, k3, some (.builtin n), k5] := by
        obtain ⟨l⟩ := sl
        simp only at hs
        rw [hs]
      subst hsl
      rw [e1] at ho
      exact ⟨nm, qn, ns, bs, sn, sub, ab, col, dd, k0, k1, k2, k3, k5, ho⟩
    · cases q
  · cases q
/-- it is caught by its own name alone -/
def xcB (c : Str) (K : PySem.W.Frag) : Bool := xcs.all fun y => match PySem.W.nsIn K mainGlobals y with
  | some none => true
  | some (some (.ref Y)) => decide (PySem.W.exmOne K (.ref (He.ga K c)) (.ref Y) = some (decide (c = y)))
  | _ => false
theorem xcB_ok {c : Str} {K : PySem.W.Frag} {h : Heap} {mg : Str → Option Value} (X : K.In h) (G : h.Ns mainGlobals mg) (e : xcB c K = true) (hm : mg c = some (.ref (He.ga K c))) : XC K mg c (He.ga K c) := by
  refine ⟨hm, fun y hy Y hY => ?_⟩
  have q := List.all_eq_true.mp e y hy
  cases e2 : PySem.W.nsIn K mainGlobals y with
  | none => rw [e2] at q; cases q
  | some o =>
    rw [e2] at q
    cases o with
    | none =>
      have := PySem.W.mg_none_of X G e2
      rw [hY] at this; cases this
    | some v =>
      have := PySem.W.mg_of X G e2
      rw [hY] at this; cases this
      exact of_decide_eq_true q
/-- what a clause reads of it -/
structure CaughtX (K : PySem.W.Frag) (mg : Str → Option Value) (c : Str) : Prop where
  at_ : mg c = some (.ref (He.ga K c))
  xf : XfC K (He.ga K c)
  all : (fldsX.all fun f => decide (PySem.W.findIn K (.ref (He.ga K c)) f = some none)) = true
theorem CaughtX.no {K : PySem.W.Frag} {mg : Str → Option Value} {c : Str} (h : CaughtX K mg c) (f : Str) (hf : f ∈ fldsX) : PySem.W.findIn K (.ref (He.ga K c)) f = some none := of_decide_eq_true (List.all_eq_true.mp h.all f hf)
def caB (c : Str) (K : PySem.W.Frag) : Bool := xfB K (He.ga K c) && fldsX.all fun f => decide (PySem.W.findIn K (.ref (He.ga K c)) f = some none)
theorem caB_ok {c : Str} {K : PySem.W.Frag} {mg : Str → Option Value} (e : caB c K = true) (hm : mg c = some (.ref (He.ga K c))) : CaughtX K mg c := ⟨hm, xfB_ok (He.ba e).1, (He.ba e).2⟩
/-- its __init__: found, a function -/
def inB (c : Str) (K : PySem.W.Frag) : Bool := decide (PySem.W.findIn K (.ref (He.ga K c)) "__init__" = some (some (.ref (He.ma K (He.ga K c) "__init__")))) && decide (PySem.W.typeIn K (.ref (He.ma K (He.ga K c) "__init__")) = some (.type "function"))
/-- all of it -/
def exB (newId : String) (tl : List Value) (c : Str) (K : PySem.W.Frag) : Bool := oexB newId tl c K && (xcB c K && (caB c K && inB c K))
section
variable {P : Program} {w : World} {K : PySem.W.Frag} {mg : Str → Option Value} {base h : Heap} {c f : Str} {B newId initId : String} {tl : List Value} {k : Nat} {fd : FuncData} {ps : List Str}
theorem exB_caught (e : exB newId tl c K = true) (hm : mg c = some (.ref (He.ga K c))) : CaughtX K mg c := caB_ok (He.ba (He.ba (He.ba e).2).2).1 hm
theorem exB_known1 (X : K.In h) (G : h.Ns mainGlobals mg) (eb : EB B newId initId tl) (e : exB newId tl c K = true) (hm : mg c = some (.ref (He.ga K c))) (hf : f ∈ fldsX)
    (F : FnOk P w K mg base (L2.CX P w) k (He.ma K (He.ga K c) "__init__") fd ps (spX1 K newId tl f)) (hb : Binds K fd ps []) : KnownX P w K mg base k c f := by
  obtain ⟨e1, e2⟩ := He.ba e
  obtain ⟨e2, e3⟩ := He.ba e2
  obtain ⟨e3, e4⟩ := He.ba e3
  obtain ⟨e5, e6⟩ := He.ba e4
  exact ⟨B, newId, initId, tl, _, _, fd, ps, xcB_ok X G e2 hm, eb, oexB_ok e1, (caB_ok (mg := mg) e3 hm).no f hf, of_decide_eq_true e5, of_decide_eq_true e6, F, hb⟩
end
/-- the reading of such an __init__ keeps its promise -/
theorem init1_says {K : PySem.W.Frag} {newId : String} {tl : List Value} {f x : Str} {vs : List V} {H : Hp} {Q : VK} {E : XK} (h : spX1 K newId tl f vs H Q E) :
    tSeq (tDrop (tBi K newId tl (tCons (tVar 0) (tCons (tC (.str x)) tNil)))) (tOst1 K newId tl f (tVar 0) (tVar 1)) { nx := fun _ H' => Q .non H', rt := Q } (L2.start ["self", f] vs) H := by
  obtain ⟨a, C, y, rfl, T, no, e, k⟩ := h
  refine ⟨_, rfl, a, C, [.str x], rfl, (show 1 ≤ 1000 by decide), T, e, ?_⟩
  exact ⟨_, rfl, _, rfl, a, C, rfl, T, no, e, fun dx n ne => k dx n ne⟩
theorem init0_says {K : PySem.W.Frag} {newId : String} {tl : List Value} {x : Str} {vs : List V} {H : Hp} {Q : VK} {E : XK} (h : spX0 K newId tl vs H Q E) :
    tDrop (tBi K newId tl (tCons (tVar 0) (tCons (tC (.str x)) tNil))) { nx := fun _ H' => Q .non H', rt := Q } (L2.start ["self"] vs) H := by
  obtain ⟨a, C, rfl, T, e, k⟩ := h
  exact ⟨_, rfl, a, C, [.str x], rfl, (show 1 ≤ 1000 by decide), T, e, k⟩
section
variable {P : Program} {w : World} {K : PySem.W.Frag} {mg : Str → Option Value} {base : Heap} {B newId initId : String} {tl : List Value} {qual f x : Str} {params : Arguments} {scope : Scope} {fI : Addr} {fd : FuncData} {p1 p2 p3 p4 p5 p6 p7 p8 p9 p10 : Pos} {xB : Str} {j : Option Str}
theorem init1_ok {body : List Stmt} (F : FunD K "__init__" qual params body scope [] [] fI fd) (S : FnScope ["self", f] ["self", f] scope)
    (hbody : ∀ (cdv : Value) (A : Around) (outer : List Env) (s : Shared) (H : Hp) (E : XK), PSs (cxOf (L2.CX P w) P w K mg base ["self", f] qual scope fI cdv A outer s H E) body (tSeq (tDrop (tBi K newId tl (tCons (tVar 0) (tCons (tC (.str x)) tNil)))) (tOst1 K newId tl f (tVar 0) (tVar 1)))) :
    FnOk P w K mg base (L2.CX P w) 1 fI fd ["self", f] (spX1 K newId tl f) :=
  F.ok S (fun vs H Q E ⟨_, _, _, e, _⟩ => by rw [e]; rfl) fun cdv A outer s H vs Q E hr h => ⟨_, hbody cdv A outer s H E, init1_says h⟩
theorem init0_ok {body : List Stmt} (F : FunD K "__init__" qual params body scope [] [] fI fd) (S : FnScope ["self"] ["self"] scope)
    (hbody : ∀ (cdv : Value) (A : Around) (outer : List Env) (s : Shared) (H : Hp) (E : XK), PSs (cxOf (L2.CX P w) P w K mg base ["self"] qual scope fI cdv A outer s H E) body (tDrop (tBi K newId tl (tCons (tVar 0) (tCons (tC (.str x)) tNil))))) :
    FnOk P w K mg base (L2.CX P w) 1 fI fd ["self"] (spX0 K newId tl) :=
  F.ok S (fun vs H Q E ⟨_, _, e, _⟩ => by rw [e]; rfl) fun cdv A outer s H vs Q E hr h => ⟨_, hbody cdv A outer s H E, init0_says h⟩
end
end DM

set_option maxHeartbeats 1000000
/-! DM: own exceptions without a field. -/
namespace DM
open PySem PySem.Spec L2 PyProof.Rows
section
variable {X : Cx}
/-- a made exception without a dict is let fly: the layer's heap is as before -/
theorem mk_bare {pins : List (Addr × Obj)} {σ : L2.St} {H : Hp} {Q : XK} {old mid new : Heap} {g0 g : Array GenState} {r0 r : Drawn} {n0 n : Nat} {w0 : OsState} {x C : Addr} (T : Raises X (.ref C)) (J : Inv X pins σ H ⟨old, g0, r0, n0, w0⟩) (young : old.objs.size ≤ x)
    (kept : ∀ b o, old.get? b = some o → mid.get? b = some o) (un : Un (frs X.stack) [] (upd H x (exo x C none)) (upd H x (exo x C none)) mid new) (ok : HOk X.prog X.w (upd H x (exo x C none)) new) (bare : AllBare g) (q : Q (.ref C) none H) :
    MkP X pins σ Q (.ref x) ⟨new, g, r, n, w0⟩ := by
  have free : H x = none := J.hok.fresh young
  obtain ⟨t0, made⟩ := exo_at ok (upd_same (H := H) (a := x))
  obtain ⟨G, inG, outG⟩ := restrict new fun b => decide (b ≠ x)
  have same : ∀ b, b ≠ x → G.get? b = new.get? b := fun b hb => inG b (decide_eq_true hb)
  have gone : G.get? x = none := outG x (by simp)
  have apart : ∀ {b : Addr} {o : Obj}, old.get? b = some o → b ≠ x := fun {b o} z => Nat.ne_of_lt (Nat.lt_of_lt_of_le (Heap.lt_size z) young)
  have owned : ∀ {b : Addr} {o : HO}, H b = some o → b ≠ x := fun {b o} z e => by subst e; rw [free] at z; cases z
  have lift : ∀ {b : Addr}, b ≠ x → upd H x (exo x C none) b = H b := fun hb => upd_ne hb
  have U : Un (frs X.stack) [] H H old G := by
    constructor
    · intro b o z m hf hx
      rw [same b (apart z)]
      exact un.keep b o (kept b o z) ((lift (apart z)).trans m) hf hx
    · intro b o z m hf hx
      rw [same b (apart z)]
      exact un.slot b o (kept b o z) ((lift (apart z)).trans m) hf hx
    · exact fun _ _ _ m _ => m
    · intro b o z hx
      rw [same b (apart z)]
      exact un.there b o (kept b o z) hx
    · exact fun _ _ z => z
    · exact fun _ _ _ z => z
    · exact fun b ps z => ⟨#[], by rw [z]; simp⟩
  have K : HOk X.prog X.w H G := fun b o z => by
    have hb := owned z
    refine (ok b o ((lift hb).trans z)).stay (fun c v hc y => ?_) (fun c hc => ?_) fun c xs hc => ?_
    · have hcx : c ≠ x := by
        rcases hc with hc | hc
        · exact hc ▸ hb
        · intro e
          rw [e, upd_same] at hc
          cases hc
      exact (same c hcx).trans y
    · by_cases hcx : c = x
      · rw [hcx, upd_same] at hc; cases hc
      · exact (lift hcx).symm.trans hc
    · by_cases hcx : c = x
      · rw [hcx, upd_same] at hc; cases hc
      · exact (lift hcx).symm.trans hc
  have J2 : Inv X pins σ H ⟨G, g, r, n, w0⟩ := J.call' (ch := []) rfl U K bare fun _ z => nomatch z
  refine ⟨x, _, _, ⟨G, g, r, n, w0⟩, H, .ref C, none, rfl, J2, fun b o z => ?_, gone, made, ⟨rfl, rfl⟩, rfl, rfl, free, rfl, bare, T, q⟩
  by_cases hb : b = x
  · rw [hb, gone] at z; cases z
  · exact (same b hb).symm.trans z
variable {B newId initId : String} {tl : List Value} {x : Str} {C fI : Addr} {k : Nat} {fd : FuncData} {ps : List Str} {p pos : Pos}
/-- C() -/
theorem pmk_x0 (eb : EB B newId initId tl) (T : OexB X.K C newId tl) (iC : PySem.W.findIn X.K (.ref C) "__init__" = some (some (.ref fI))) (tI : PySem.W.typeIn X.K (.ref fI) = some (.type "function"))
    (F1 : FnOk X.prog X.w X.K X.mg X.base (L2.CX X.prog X.w) k fI fd ps (spX0 X.K newId tl)) (hr : Room (k + 1) X.A) (hb : Binds X.K fd ps []) (hg : Gl X x) (hm : X.mg x = some (.ref C))
    (hdb : (x == ("__debug__" : Str)) = false := by decide) :
    PMk X (.Call (.Name x p) [] [] pos) (fun σ H Q => Q (.ref C) none H) := by
  intro pins s σ H Q I h
  obtain ⟨_, _, _, _, _, _, _, _, _, _, _, _, _, _, look⟩ := T.cls
  refine wpAny_Call_Name_kw (ld_glob I hg hm (PySem.W.callWith_K0 I.kIn T.kC ?_) hdb)
  obtain ⟨old, g0, r0, n0, w0⟩ := s
  have young : old.objs.size ≤ old.objs.size + 1 := Nat.le_succ _
  have kept : ∀ b o, old.get? b = some o → ((old.push (PySem.W.kdv_tup [])).push (PySem.HandSPX.excO C old.objs.size)).get? b = some o := fun b o e => Heap.get?_push_of_some _ (Heap.get?_push_of_some _ e)
  have there : ((old.push (PySem.W.kdv_tup [])).push (PySem.HandSPX.excO C old.objs.size)).get? (old.objs.size + 1) = some (PySem.HandSPX.excO C old.objs.size) := by heap_get
  have J : Inv X pins σ (upd H (old.objs.size + 1) (exo (old.objs.size + 1) C none)) ⟨(old.push (PySem.W.kdv_tup [])).push (PySem.HandSPX.excO C old.objs.size), g0, r0, n0, w0⟩ :=
    I.laid (a := old.objs.size + 1) (o := exo (old.objs.size + 1) C none) kept young (exo_ok there)
  have vals : Vals [V.ref (old.objs.size + 1)] [Value.ref (old.objs.size + 1)] := .cons rfl .nil
  have wish : spX0 X.K newId tl [V.ref (old.objs.size + 1)] (upd H (old.objs.size + 1) (exo (old.objs.size + 1) C none)) (fun v H2 => v = .non ∧ H2 = upd H (old.objs.size + 1) (exo (old.objs.size + 1) C none)) (fun _ _ _ => False) := ⟨_, C, rfl, T, upd_same, rfl, rfl⟩
  have len : [Value.ref (old.objs.size + 1)].length = ps.length := (vals.length.symm.trans (F1.len _ _ _ _ wish))
  have bind := hb ⟨(old.push (PySem.W.kdv_tup [])).push (PySem.HandSPX.excO C old.objs.size), g0, r0, n0, w0⟩ [Value.ref (old.objs.size + 1)] J.kIn (by rw [List.append_nil]; exact len)
  rw [List.append_nil] at bind
  have run := F1.run _ X.stack _ _ ⟨[Value.ref (old.objs.size + 1)], []⟩ [Value.ref (old.objs.size + 1)] _ _ (fun _ _ _ => False) (hr.make C [] []) (J.env0.make C [] []) bind vals wish
  refine wpAny_call (PySem.HandSPX.call_own eb.F (fun _ => rfl) (I.kIn _ _ look) (PySem.W.looks_findIn I.kIn iC) (fun self => PySem.W.bind_fn I.kIn self tI) (by simp [sizeLine_eq]) (codeAny_mono run fun res s2 got => ?_))
  rcases res with er | fl
  · obtain ⟨_, _, _, _, _, _, _, _, _, _, _, _, z⟩ := got
    exact z.elim
  · cases fl with
    | ret u =>
      obtain ⟨v, H2, os, bare, un, ok, rv, ev, eH⟩ := got
      subst ev
      subst eH
      obtain ⟨new, g, r, n, w⟩ := s2
      have ew : w = w0 := os
      subst ew
      exact ⟨rv, mk_bare (raises_own T.exC T.tyC) I young kept un ok bare h⟩
    | next => exact got.elim
    | brk => exact got.elim
    | cont => exact got.elim
end
/-- the class named c: made without fields -/
structure KnownX0 (P : Program) (w : World) (K : PySem.W.Frag) (mg : Str → Option Value) (base : Heap) (k : Nat) (c : Str) : Prop where
  ex : ∃ (B newId initId : String) (tl : List Value) (C fI : Addr) (fd : FuncData) (ps : List Str), XC K mg c C ∧ EB B newId initId tl ∧ OexB K C newId tl ∧ PySem.W.findIn K (.ref C) "__init__" = some (some (.ref fI)) ∧
    PySem.W.typeIn K (.ref fI) = some (.type "function") ∧ FnOk P w K mg base (L2.CX P w) k fI fd ps (spX0 K newId tl) ∧ Binds K fd ps []
theorem ds_raise0 {X : Cx} {k : Nat} {c : Str} {p cpos pos : Pos} (hc : X.calm = true) (hx : KnownX0 X.prog X.w X.K X.mg X.base k c) (hr : Room (k + 1) X.A) (hg : Gl X c := by rfl) (hdb : (c == ("__debug__" : Str)) = false := by decide) :
    PSd X (.Raise (some (.Call (.Name c p) [] [] cpos)) none pos) (dRaise c [] dNil) := by
  obtain ⟨B, newId, initId, tl, C, fI, fd, ps, hm, eb, T, iC, tI, F1, hb⟩ := hx.ex
  refine psI (ps_raise hc (takes_Wx X) (pmk_x0 eb T iC tI F1 hr hb hg hm.at_ hdb)) fun D σ H ⟨ρ, M, De, S, R, q, k⟩ => ?_
  exact k.ex c [] C none σ _ ρ M .refl S R hm (.inl ⟨rfl, rfl⟩) q.2
theorem exB_known0 {P : Program} {w : World} {K : PySem.W.Frag} {mg : Str → Option Value} {base h : Heap} {c : Str} {B newId initId : String} {tl : List Value} {k : Nat} {fd : FuncData} {ps : List Str} (X : K.In h) (G : h.Ns mainGlobals mg) (eb : EB B newId initId tl) (e : exB newId tl c K = true) (hm : mg c = some (.ref (He.ga K c)))
    (F : FnOk P w K mg base (L2.CX P w) k (He.ma K (He.ga K c) "__init__") fd ps (spX0 K newId tl)) (hb : Binds K fd ps []) : KnownX0 P w K mg base k c := by
  obtain ⟨e1, e2⟩ := He.ba e
  obtain ⟨e2, e3⟩ := He.ba e2
  obtain ⟨e3, e4⟩ := He.ba e3
  obtain ⟨e5, e6⟩ := He.ba e4
  exact ⟨B, newId, initId, tl, _, _, fd, ps, xcB_ok X G e2 hm, eb, oexB_ok e1, of_decide_eq_true e5, of_decide_eq_true e6, F, hb⟩
end DM

/-! DM: instances of the text's own classes. -/
namespace DM
open PySem PySem.Spec L2
open PyProof.Rows (envOfC)
/-- the classes cs have no class attribute of the names fl -/
def FldX (K : PySem.W.Frag) (mg : Str → Option Value) (cs : List Str) (f : Str) : Prop := ∀ c ∈ cs, ∃ C, mg c = some (.ref C) ∧ Cls K C ∧ NoAttr K C f
/-- the methods named m -/
def MethX (P : Program) (w : World) (K : PySem.W.Frag) (mg : Str → Option Value) (base : Heap) (k : Nat) (m : Str) (tbl : List (Str × SpD)) : Prop := ∀ c sp, tbl.lookup c = some sp → ∃ C f fd ps, mg c = some (.ref C) ∧ Cls K C ∧ Meth K C m f ∧ FnD P w K mg base k f fd ps sp ∧ Binds K fd ps []
/-- a class that is called -/
def NewX (P : Program) (w : World) (K : PySem.W.Frag) (mg : Str → Option Value) (base : Heap) (k : Nat) (c : Str) (sp : SpD) : Prop := ∃ C f fd ps, mg c = some (.ref C) ∧ Mk K C f ∧ FnD P w K mg base k f fd ps sp ∧ Binds K fd ps []
section
variable {K : PySem.W.Frag} {mg : Str → Option Value} {M : MB} {H : Hp} {c f : Str} {fs : Fs} {gs : List (Str × V)} {d : D} {v : V}
theorem ins_at (R : MR K mg M H) (r : Rep K M H d v) (e : insD M.m d = some (c, fs)) : ∃ k a C dx gs, d = .ref k ∧ M.i[k]? = some a ∧ v = .ref a ∧ M.m[k]? = some (some (.ins c fs)) ∧ mg c = some (.ref C) ∧ H a = some (.ins C dx gs) ∧ RepF K M H fs gs := by
  cases d with
  | ref k =>
    obtain ⟨a, ha, rfl⟩ := r
    cases hm : M.m[k]? with
    | none => simp [insD, hm] at e
    | some o =>
      cases o with
      | none => simp [insD, hm] at e
      | some u =>
        cases u with
        | ins c' fs' =>
          simp [insD, hm] at e
          obtain ⟨rfl, rfl⟩ := e
          obtain ⟨C, dx, gs, h0, h1, h2⟩ := R.at_ k a _ ha hm
          exact ⟨k, a, C, dx, gs, rfl, ha, rfl, hm, h0, h1, h2⟩
        | _ => simp [insD, hm] at e
  | _ => cases e
theorem lookF_no : ∀ {fs : Fs} {gs : List (Str × V)}, RepF K M H fs gs → lookF fs f = none → gs.lookup f = none
  | [], _, h, _ => by cases h; rfl
  | (g, x) :: r, _, ⟨v, ws, e, h1, h2⟩, q => by
    subst e
    unfold lookF at q
    rw [List.lookup_cons] at q
    rw [List.lookup_cons]
    cases h : f == g with
    | true => rw [h] at q; cases q
    | false => rw [h] at q; exact lookF_no h2 q
theorem RepF.ln : ∀ {fs : Fs} {gs : List (Str × V)}, RepF K M H fs gs → fs.length = gs.length
  | [], _, h => by cases h; rfl
  | (_, _) :: r, _, ⟨v, ws, e, h1, h2⟩ => by subst e; simp [RepF.ln h2]
theorem RepF.put (rd : Rep K M H d v) : ∀ {fs : Fs} {gs : List (Str × V)}, RepF K M H fs gs → RepF K M H (putA f d fs) (L2.putF f v gs)
  | [], _, h => by cases h; exact ⟨v, [], rfl, rd, rfl⟩
  | (g, x) :: r, _, ⟨u, ws, e, h1, h2⟩ => by
    subst e
    unfold putA L2.putF
    by_cases h : g = f
    · rw [if_pos h, if_pos h]; exact ⟨v, ws, rfl, rd, h2⟩
    · rw [if_neg h, if_neg h]; exact ⟨u, _, rfl, h1, RepF.put rd h2⟩
end
section
variable {X : Cx} {o e value : Expr} {es : List Expr} {cs : List Str} {f m c : Str} {to te : DE} {t : DA} {pos pos' tpos apos p : Pos} {k : Nat} {sp : SpD} {tbl : List (Str × SpD)}
/-- o.f -/
theorem de_fld (h : FldX X.K X.mg cs f) (he : PEd X e te) (hb : attributeBase e f X.env (eval e X.env) = eval e X.env := by rfl) : PEd X (.Attribute e f pos) (dUn (rAttr cs f) te) :=
  peI (pe_fld he hb) fun σ H Q ⟨ρ, M, E, Qd, S, R, q, xo, k⟩ => ⟨ρ, M, E, _, S, R, q, xo, fun v d M1 H1 e1 R1 r1 ⟨c, fs, y, hi, hc, hl, q1⟩ => by
    obtain ⟨j, a, C, dx, gs, ed, ha, ev, hm, hC, hH, hF⟩ := ins_at R1 r1 hi
    obtain ⟨C', hC', cl, no⟩ := h c hc
    rw [hC] at hC'; cases hC'
    obtain ⟨u, hu, ru⟩ := lookF_rep hF hl
    exact ⟨a, C, dx, gs, u, ev, hH, cl, no, hu, k u y M1 H1 e1 R1 ru q1⟩⟩
theorem set_end {Dn : Ends} {M M2 : MB} {H H2 : Hp} {De : DEnds} {ρ : DSt} {σ : L2.St} {j : Nat} {a C dx : Addr} {fs : Fs} {gs : List (Str × V)} {y : D} {w : V} (k : EndsOk X M H De Dn) (S : Slots X.K M H ρ σ) (e2 : Ev M H M2 H2) (R2 : MR X.K X.mg M2 H2) (ha : M2.i[j]? = some a) (hm : M2.m[j]? = some (some (.ins c fs)))
    (hC : X.mg c = some (.ref C)) (hH : H2 a = some (.ins C dx gs)) (hF : RepF X.K M2 H2 fs gs) (rw' : Rep X.K M2 H2 y w) (q : De.nx ρ (M2.m.set j (some (.ins c (putA f y fs))))) : Dn.nx σ (upd H2 a (.ins C dx (L2.putF f w gs))) := by
  have ev := Ev.put (M := M2) (H := H2) (k := j) (v := some (.ins c (putA f y fs))) (u := .ins C dx (L2.putF f w gs)) ha hH trivial
  exact k.nx σ _ ρ (M2.put j (some (.ins c (putA f y fs)))) (e2.trans ev) (S.ev (e2.trans ev)) (R2.put ha hH trivial ⟨C, dx, _, hC, upd_same, (hF.put rw').ev ev⟩) q
/-- o.f = e -/
theorem ds_setF (h : FldX X.K X.mg cs f) (ho : PEd X o to) (hv : PEd X value te) (hs : swapsWith value (some (.Attribute o f pos')) pos.line X.env = pure false := by rfl) : PSd X (.Assign [.Attribute o f pos'] value pos) (dSetF cs f te to) :=
  psI (ps_fld ho hv hs) fun D σ H ⟨ρ, M, De, S, R, q, k⟩ => ⟨ρ, M, _, _, S, R, q, k.xok S, fun w y M1 H1 e1 R1 r1 q1 => ⟨ρ, M1, _, _, S.ev e1, R1, q1, (k.xok S).later e1, fun v d M2 H2 e2 R2 r2 ⟨j, c, fs, ed, hm, hc, hl, q2⟩ => by
    subst ed
    obtain ⟨a, ha, ev⟩ := r2
    obtain ⟨C, dx, gs, hC, hH, hF⟩ := R2.at_ _ _ _ ha hm
    obtain ⟨C', hC', cl, no⟩ := h c hc
    rw [hC] at hC'; cases hC'
    exact ⟨a, C, dx, gs, ev, hH, cl, no, by rw [← hF.ln]; omega, set_end k S (e1.trans e2) R2 ha hm hC hH hF (r1.ev e2) q2⟩⟩⟩
/-- a method's table, read -/
theorem MethX.mono {P : Program} {w : World} {K : PySem.W.Frag} {mg : Str → Option Value} {base : Heap} {i j : Nat} (h : MethX P w K mg base i m tbl) (l : i ≤ j) : MethX P w K mg base j m tbl := fun c sp e => by
  obtain ⟨C, f, fd, ps, h1, h2, h3, h4, h5⟩ := h c sp e
  exact ⟨C, f, fd, ps, h1, h2, h3, h4.mono l, h5⟩
/-- o.m(e, ..) -/
theorem de_callM {pl : Sem Bool} (T : MethX X.prog X.w X.K X.mg X.base k m tbl) (hr : Room k X.A) (hgd : X.A.guards = some []) (ho : PEd X o to) (ha : PAd X (e :: es) t)
    (hst : starEach (e :: es) X.env = (false, eval e X.env) :: starEach es X.env := by rfl) (hpl : (backTo pos (starEach es X.env)).any (·.1) = false := by rfl)
    (ht : eval (.Call (.Attribute o m apos) (e :: es) [] pos) X.env = (do
      let ov ← eval o X.env
      standAt apos.atName
      let (f, first) ← holding [ov] (getMethod ov m pl)
      callWith pos f first (backTo pos (starEach (e :: es) X.env)) (backToKw pos (keywordEach [] X.env))) := by rfl) :
    PEd X (.Call (.Attribute o m apos) (e :: es) [] pos) (dCallM tbl m to t) := by
  refine ⟨fun pins s σ H Q I ⟨ρ, M, E, Qd, S, R, q, xo, kk⟩ => ?_⟩
  refine PySem.W.methodCall_KW (pl := pl) (thn (ho.run pins s σ H (fun x H1 => ∃ d M1, Ev M H M1 H1 ∧ MR X.K X.mg M1 H1 ∧ Rep X.K M1 H1 d x ∧ ∃ c fs sp, insD M1.m d = some (c, fs) ∧ tbl.lookup c = some sp ∧ lookF fs m = none ∧ t ρ M1.m E fun ds M2 => sp (d :: ds) M2 E Qd) I
    ⟨ρ, M, E, _, S, R, q, xo, fun v d M1 H1 e1 R1 r1 q1 => ⟨d, M1, e1, R1, r1, q1⟩⟩) fun u s1 ⟨x, H1, I1, rx, d, M1, e1, R1, r1, c, fs, sp, hi, hsp, hl, q1⟩ => ?_) ht
  obtain ⟨j, a, C, dx, gs, ed, hja, ev, hm, hC, hH, hF⟩ := ins_at R1 r1 hi
  obtain ⟨C', f, fd, ps, hC', cl, me, F, hb⟩ := T c sp hsp
  rw [hC] at hC'; cases hC'
  subst ev
  obtain rfl : u = Value.ref a := rx
  refine getmeth_ok I1 hH cl me (lookF_no hF hl) ?_
  refine PySem.W.callWith_K (first := [.ref a]) (h₀ := X.base) I1.ok.mod.kin me.kp (thn (ha.run pos pins s1 σ H1 (fun vs H2 => liftSp X.K X.mg sp (.ref a :: vs) H2 Q fun cls d H' => Wx X cls d σ H') I1
    ⟨ρ, M1, E, _, S.ev e1, R1, q1, xo.later e1, fun vs ds M2 H2 e2 R2 r2 q2 => ⟨d :: ds, M2, E, Qd, .cons (r1.ev e2) r2, R2, q2, (xo.later e1).later e2, fun v d' M' H' e' R' r' q' => kk v d' M' H' ((e1.trans e2).trans e') R' r' q'⟩⟩) fun us s2 ⟨vs, H2, I2, r, q2⟩ => ⟨I2.kIn, ?_⟩) hst hpl
  exact run_keeps (us := .ref a :: us) (vs := .ref a :: vs) F hb hr hgd I2 (.cons rfl r) q2
/-- o.m() -/
theorem de_callM0 {pl : Sem Bool} (T : MethX X.prog X.w X.K X.mg X.base k m tbl) (hr : Room k X.A) (hgd : X.A.guards = some []) (ho : PEd X o to)
    (ht : eval (.Call (.Attribute o m apos) [] [] pos) X.env = (do
      let ov ← eval o X.env
      standAt apos.atName
      let (f, first) ← holding [ov] (getMethod ov m pl)
      callWith pos f first (backTo pos (starEach [] X.env)) (backToKw pos (keywordEach [] X.env))) := by rfl) :
    PEd X (.Call (.Attribute o m apos) [] [] pos) (dCallM tbl m to dNil) := by
  refine ⟨fun pins s σ H Q I ⟨ρ, M, E, Qd, S, R, q, xo, kk⟩ => ?_⟩
  refine PySem.W.methodCall_KW (pl := pl) (thn (ho.run pins s σ H (fun x H1 => ∃ d M1, Ev M H M1 H1 ∧ MR X.K X.mg M1 H1 ∧ Rep X.K M1 H1 d x ∧ ∃ c fs sp, insD M1.m d = some (c, fs) ∧ tbl.lookup c = some sp ∧ lookF fs m = none ∧ sp [d] M1.m E Qd) I
    ⟨ρ, M, E, _, S, R, q, xo, fun v d M1 H1 e1 R1 r1 q1 => ⟨d, M1, e1, R1, r1, q1⟩⟩) fun u s1 ⟨x, H1, I1, rx, d, M1, e1, R1, r1, c, fs, sp, hi, hsp, hl, q1⟩ => ?_) ht
  obtain ⟨j, a, C, dx, gs, ed, hja, ev, hm, hC, hH, hF⟩ := ins_at R1 r1 hi
  obtain ⟨C', f, fd, ps, hC', cl, me, F, hb⟩ := T c sp hsp
  rw [hC] at hC'; cases hC'
  subst ev
  obtain rfl : u = Value.ref a := rx
  refine getmeth_ok I1 hH cl me (lookF_no hF hl) ?_
  exact PySem.W.callWith_K0 (first := [.ref a]) I1.kIn me.kp (run_keeps (us := [.ref a]) (vs := [.ref a]) F hb hr hgd I1 (.cons rfl .nil) ⟨[d], M1, E, Qd, .one r1, R1, q1, xo.later e1, fun v d' M' H' e' R' r' q' => kk v d' M' H' (e1.trans e') R' r' q'⟩)
theorem make_guards {A : Around} {C : Addr} {us : List Value} {kw : List (Str × Value)} (h : A.guards = some []) : (A.under (.builtin "type.__call__" ⟨.ref C :: us, kw⟩)).guards = some [] := by
  first | exact h | simpa [Around.under, Code.isGuard, guardIds] using h
/-- the class is called -/
theorem run_new {pins : List (Addr × Obj)} {σ : L2.St} {H : Hp} {s : Shared} {Q : VK} {us : List Value} {vs : List V} {C fI : Addr} {fd : FuncData} {ps : List Str} (Y : Mk X.K C fI) (F : FnD X.prog X.w X.K X.mg X.base k fI fd ps sp) (hr : Room (k + 1) X.A) (hgd : X.A.guards = some []) (hb : Binds X.K fd ps []) (I : Inv X pins σ H s) (r : Vals vs us)
    (h : ∀ x dx, H x = none → H dx = none → dx ≠ x → liftSp X.K X.mg sp (.ref x :: vs) (upd (upd H dx (.own x)) x (.ins C dx [])) (fun v H2 => v = .non ∧ Q (.ref x) H2) fun cls d H' => Wx X cls d σ H') :
    wpAny (model X.prog X.w) X.A (call (.ref C) us) (EP X pins σ Q) X.xe s := by
  have hq := h (s.heap.objs.size + 1) s.heap.objs.size (I.hok.fresh (Nat.le_succ _)) (I.hok.fresh (Nat.le_refl _)) (Nat.ne_of_lt (Nat.lt_succ_self _))
  have I2 := Inv.made (C := C) I
  have r2 : Vals (V.ref (s.heap.objs.size + 1) :: vs) (Value.ref (s.heap.objs.size + 1) :: us) := .cons rfl r
  have hl : (Value.ref (s.heap.objs.size + 1) :: us ++ []).length = ps.length := by
    obtain ⟨ds, M, Xd, Qd, rs, R, q, _⟩ := hq
    rw [← F.len _ _ _ _ q, rs.len, List.append_nil]
    exact r2.length.symm
  have b := hb _ (Value.ref (s.heap.objs.size + 1) :: us) I2.kIn hl
  rw [List.append_nil] at b
  refine wpAny_call (make_map (f := fI) I.kIn Y.makes Y.init (beq_iff_eq.mp Y.fn) (codeAny_mono (F.run _ X.stack _ _ ⟨Value.ref (s.heap.objs.size + 1) :: us, []⟩ (Value.ref (s.heap.objs.size + 1) :: us) _ _ _ (hr.make C us []) (make_guards hgd)
    (I2.env0.make C us []) b r2 hq) fun r s' hq' => ?_))
  cases r with
  | error e => exact takes_Wx X e s' (XE.of_call I2 (fun _ _ _ z => z) hq')
  | ok fl =>
    cases fl with
    | ret u =>
      obtain ⟨v, H', I3, rv, ev, q3⟩ := I2.after hq'
      subst ev
      exact ⟨rv, ⟨V.ref (s.heap.objs.size + 1), H', I3, rfl, q3⟩⟩
    | next => exact False.elim hq'
    | brk => exact False.elim hq'
    | cont => exact False.elim hq'
/-- C(e, ..) -/
theorem de_new (Y : NewX X.prog X.w X.K X.mg X.base k c sp) (hr : Room (k + 1) X.A) (hgd : X.A.guards = some []) (ha : PAd X (e :: es) t) (hg : Gl X c := by rfl)
    (hdb : (c == ("__debug__" : Str)) = false := by decide) (he : starEach (e :: es) X.env = (false, eval e X.env) :: starEach es X.env := by rfl) (hpl : (backTo pos (starEach es X.env)).any (·.1) = false := by rfl) :
    PEd X (.Call (.Name c p) (e :: es) [] pos) (dNew c sp t) := by
  obtain ⟨C, fI, fd, ps, hm, mk, F, hb⟩ := Y
  refine ⟨fun pins s σ H Q I ⟨ρ, M, E, Qd, S, R, q, xo, kk⟩ => ?_⟩
  refine wpAny_Call_Name_kw (ld_glob I hg hm ?_ hdb)
  refine PySem.W.callWith_K (h₀ := X.base) I.ok.mod.kin mk.kp (thn (ha.run pos pins s σ H (fun vs H1 => ∀ x dx, H1 x = none → H1 dx = none → dx ≠ x → liftSp X.K X.mg sp (.ref x :: vs) (upd (upd H1 dx (.own x)) x (.ins C dx [])) (fun v H2 => v = .non ∧ Q (.ref x) H2) fun cls d H' => Wx X cls d σ H') I
    ⟨ρ, M, E, _, S, R, q, xo, fun vs ds M1 H1 e1 R1 r1 q1 x dx nx nd ne => ?_⟩) fun us s1 ⟨vs, H1, I1, r, q2⟩ => ⟨I1.kIn, run_new mk F hr hgd hb I1 r q2⟩) he hpl
  have n2 : upd H1 dx (.own x) x = none := by rw [upd_ne (Ne.symm ne)]; exact nx
  have eA : Ev M1 H1 M1 (upd H1 dx (.own x)) := .new nd
  have RA := R1.new (o := .own x) nd
  have eB : Ev M1 (upd H1 dx (.own x)) (M1.add x (.ins c [])) (upd (upd H1 dx (.own x)) x (.ins C dx [])) := .made n2
  have RB : MR X.K X.mg (M1.add x (.ins c [])) (upd (upd H1 dx (.own x)) x (.ins C dx [])) := RA.made n2 ⟨C, dx, [], hm, upd_same, rfl⟩
  have eAB := eA.trans eB
  refine ⟨.ref M1.m.length :: ds, M1.add x (.ins c []), E, _, .cons (rep_last R1) (r1.ev eAB), RB, q1, (xo.later e1).later eAB, fun v d M' H' e' R' r' ⟨ed, q'⟩ => ?_⟩
  subst ed
  exact ⟨r', kk (.ref x) (.ref M1.m.length) M' H' ((e1.trans eAB).trans e') R' ((rep_last (u := .ins c []) R1).ev e') q'⟩
/-- o.f op= e of ints -/
theorem ds_augF {op : Operator} {g : Int → Int → Int} (hop : InOp X op fun x y H Q => ∃ i j, x = V.int i ∧ y = V.int j ∧ Q (.int (g i j)) H) (h : FldX X.K X.mg cs f) (ho : PEd X o to) (hv : PEd X value te) : PSd X (.AugAssign (.Attribute o f tpos) op value pos) (dAugF cs f (rI (fun _ _ => True) fun i j => .int (g i j)) to te) :=
  psI (ps_fldaug ho hv hop) fun D σ H ⟨ρ, M, De, S, R, q, k⟩ => ⟨ρ, M, _, _, S, R, q, k.xok S, fun v d M1 H1 e1 R1 r1 ⟨c, fs, y, hi, hc, hl, q1⟩ => by
    obtain ⟨j, a, C, dx, gs, ed, ha, ev, hm, hC, hH, hF⟩ := ins_at R1 r1 hi
    obtain ⟨C', hC', cl, no⟩ := h c hc
    rw [hC] at hC'; cases hC'
    obtain ⟨u, hu, ru⟩ := lookF_rep hF hl
    exact ⟨a, C, dx, gs, u, ev, hH, cl, no, hu, ρ, M1, _, _, S.ev e1, R1, q1, (k.xok S).later e1, fun w d2 M2 H2 e2 R2 r2 ⟨i, i2, ey, ey2, _, q2⟩ => by
      subst ey; subst ey2
      obtain ⟨j', fs', ed', hm', hl', q3⟩ := q2
      subst ed
      cases ed'
      obtain ⟨C2, dx2, gs2, hC2, hH2, hF2⟩ := R2.at_ _ _ _ (e2.pre _ _ ha) hm'
      rw [hC] at hC2; cases hC2
      exact ⟨i, i2, ru.ev e2, r2, dx2, gs2, hH2, by rw [← hF2.ln]; omega, set_end k S (e1.trans e2) R2 (e2.pre _ _ ha) hm' hC hH2 hF2 (y := .int (g i i2)) rfl q3⟩⟩⟩
theorem MethX.nil {P : Program} {w : World} {K : PySem.W.Frag} {mg : Str → Option Value} {base : Heap} : MethX P w K mg base k m [] := fun c sp e => nomatch e
theorem MethX.cons {P : Program} {w : World} {K : PySem.W.Frag} {mg : Str → Option Value} {base : Heap} {C fa : Addr} {fd : FuncData} {ps : List Str} (h1 : mg c = some (.ref C)) (h2 : Cls K C) (h3 : Meth K C m fa) (h4 : FnD P w K mg base k fa fd ps sp ∧ Binds K fd ps []) (r : MethX P w K mg base k m tbl) :
    MethX P w K mg base k m ((c, sp) :: tbl) := fun c' sp' e => by
  rw [List.lookup_cons] at e
  cases h : c' == c with
  | true =>
    rw [h] at e
    cases e
    rw [beq_iff_eq] at h
    subst h
    exact ⟨C, fa, fd, ps, h1, h2, h3, h4.1, h4.2⟩
  | false => rw [h] at e; exact r c' sp' e
theorem FldX.nil {K : PySem.W.Frag} {mg : Str → Option Value} : FldX K mg [] f := fun c h => nomatch h
theorem FldX.cons {K : PySem.W.Frag} {mg : Str → Option Value} {C : Addr} (h1 : mg c = some (.ref C)) (h2 : Cls K C) (h3 : NoAttr K C f) (r : FldX K mg cs f) : FldX K mg (c :: cs) f := fun c' h => by
  rcases List.mem_cons.mp h with e | h
  · subst e; exact ⟨C, h1, h2, h3⟩
  · exact r c' h
end
end DM

/-! DM: dicts, members, sums: readings and their evaluation. Plain Lean. -/
namespace DM
open PySem L2
def flatD : D → Bool
  | .non => true
  | .bl _ => true
  | .int _ => true
  | .str _ => true
  | _ => false
def eqD : D → D → Bool
  | .non, y => y.isN
  | .bl a, y => (match y with
    | .bl b => a == b
    | .int b => (if a then 1 else 0) == b
    | _ => false)
  | .int a, y => (match y with
    | .bl b => a == (if b then 1 else 0)
    | .int b => a == b
    | _ => false)
  | .str a, y => (match y with
    | .str b => a == b
    | _ => false)
  | _, _ => false
def memD (x : D) (l : List D) : Bool := l.any fun y => eqD y x
/-- x in y -/
def rIn : RD2 := fun x y M Q => (∃ l k, dicD M y = some l ∧ x.key = some k ∧ Q (.bl (lookD l k).isSome) M) ∨ ∃ l, seqD M y = some l ∧ flatD x = true ∧ l.all flatD = true ∧ Q (.bl (memD x l)) M
def rNotIn : RD2 := fun x y M Q => (∃ l k, dicD M y = some l ∧ x.key = some k ∧ Q (.bl (!(lookD l k).isSome)) M) ∨ ∃ l, seqD M y = some l ∧ flatD x = true ∧ l.all flatD = true ∧ Q (.bl (!memD x l)) M
/-- x.get(y, z) -/
def dGet2 (a b c : DE) : DE := fun ρ M E Q => a ρ M E fun x M1 => (∃ l, dicD M1 x = some l) ∧ b ρ M1 E fun y M2 => c ρ M2 E fun z M3 => ∃ l k, dicD M3 x = some l ∧ y.key = some k ∧ Q ((lookD l k).getD z) M3
def dGet1 (a b : DE) : DE := fun ρ M E Q => a ρ M E fun x M1 => (∃ l, dicD M1 x = some l) ∧ b ρ M1 E fun y M2 => ∃ l k, dicD M2 x = some l ∧ y.key = some k ∧ Q ((lookD l k).getD .non) M2
def dropD (l : List (Key × D)) (k : Key) : List (Key × D) := l.filter fun p => decide (p.1 ≠ k)
/-- x.pop(y), of what is there -/
def dPop1 (a b : DE) : DE := fun ρ M E Q => a ρ M E fun x M1 => (∃ l, dicD M1 x = some l) ∧ b ρ M1 E fun y M2 => ∃ p l k v, x = .ref p ∧ M2[p]? = some (some (.dic l)) ∧ y.key = some k ∧ lookD l k = some v ∧ Q v (M2.set p (some (.dic (dropD l k))))
/-- {} -/
def dDic0 (mk : MkR) : DE := fun _ M _ Q => mk M (.dic []) Q
def noTup (x : D) : Prop := ∀ l, x ≠ .tup l
/-- list(x) of a dict that is written to -/
def cListD (mk : MkR) : BD := fun ds M Q => as1 ds fun x => ∃ p l, x = .ref p ∧ M[p]? = some (some (.dic l)) ∧ mk M (.lst (l.map fun p => kD p.1)) Q
def cList2 (mk : MkR) : BD := fun ds M Q => cList mk ds M Q ∨ cListD mk ds M Q
/-- sorted(x) of a list of ints, of strings -/
def cSortI (mk : MkR) : BD := fun ds M Q => as1 ds fun x => ∃ ns : List Int, noTup x ∧ seqD M x = some (ns.map D.int) ∧ ns.length < 64 ∧ ∀ ns' : List Int, ns'.Perm ns → ns'.Pairwise (· ≤ ·) → mk M (.lst (ns'.map D.int)) Q
def cAll : BD := fun ds M Q => as1 ds fun x => ∃ bs : List Bool, noTup x ∧ seqD M x = some (bs.map D.bl) ∧ Q (.bl (bs.all id)) M
def cAny : BD := fun ds M Q => as1 ds fun x => ∃ bs : List Bool, noTup x ∧ seqD M x = some (bs.map D.bl) ∧ Q (.bl (bs.any id)) M
def cSum : BD := fun ds M Q => as1 ds fun x => ∃ ns : List Int, noTup x ∧ seqD M x = some (ns.map D.int) ∧ Q (.int ns.sum) M
def pairD (p : Key × D) : D := .tup [kD p.1, p.2]
def mergeD (l m : List (Key × D)) : List (Key × D) := m.foldl (fun acc p => putD acc p.1 p.2) l
/-- {k: v for ..}: the pairs as a comprehension gives them -/
def dPairE (tk tv : DE) : DE := fun ρ M E Q => tk ρ M E fun y M1 => tv ρ M1 E fun z M2 => ∃ k, y.key = some k ∧ Q (.tup [kD k, z]) M2
def dDC (mk : MkR) (w : DI) (g : Tg) (tt : DT) (tk tv : DE) (vs : List Nat) : DE := fun ρ M E Q => w ρ M E fun xs G M1 => xs.length < sizeLine ∧ compD G g tt (dPairE tk tv) (wipeD ρ vs) xs M1 fun acc M2 => ∃ kvs : List (Key × D), acc = kvs.map pairD ∧ mk M2 (.dic (mergeD [] kvs)) Q
/-- {k: v, ..} -/
def dPairs : List (DE × DE) → DSt → MH → XQ → (List (D × D) → MH → Prop) → Prop
  | [], _, M, _, Q => Q [] M
  | p :: r, ρ, M, E, Q => p.1 ρ M E fun x M1 => p.2 ρ M1 E fun y M2 => dPairs r ρ M2 E fun l M3 => Q ((x, y) :: l) M3
def dDisp (mk : MkR) (l : List (DE × DE)) : DE := fun ρ M E Q => dPairs l ρ M E fun ps M1 => ∃ kvs : List (Key × D), ps = kvs.map (fun p => (kD p.1, p.2)) ∧ kvs.length ≤ 15 ∧ mk M1 (.dic (mergeD [] kvs)) Q
/-! ### evaluation -/
section
variable {M : MH} {Q : DQ} {X : XQ} {ρ : DSt} {x y d : D} {l : List D} {n : Nat} {mk : MkR} {k : Key} {a b c : DE}
@[simp ↓] theorem dGet2_ : dGet2 a b c ρ M X Q ↔ a ρ M X (hold (fun x M1 => (∃ l, dicD M1 x = some l) ∧ b ρ M1 X (hold (fun y M2 => c ρ M2 X (hold (fun z M3 => ∃ l k, dicD M3 x = some l ∧ y.key = some k ∧ Q ((lookD l k).getD z) M3) ⟨⟩)) ⟨⟩)) ⟨⟩) := Iff.rfl
@[simp ↓] theorem dGet1_ : dGet1 a b ρ M X Q ↔ a ρ M X (hold (fun x M1 => (∃ l, dicD M1 x = some l) ∧ b ρ M1 X (hold (fun y M2 => ∃ l k, dicD M2 x = some l ∧ y.key = some k ∧ Q ((lookD l k).getD .non) M2) ⟨⟩)) ⟨⟩) := Iff.rfl
@[simp ↓] theorem dPop1_ : dPop1 a b ρ M X Q ↔ a ρ M X (hold (fun x M1 => (∃ l, dicD M1 x = some l) ∧ b ρ M1 X (hold (fun y M2 => ∃ p l k v, x = .ref p ∧ M2[p]? = some (some (.dic l)) ∧ y.key = some k ∧ lookD l k = some v ∧ Q v (M2.set p (some (.dic (dropD l k))))) ⟨⟩)) ⟨⟩) := Iff.rfl
@[simp ↓] theorem dDic0_ : dDic0 mk ρ M X Q ↔ mk M (.dic []) Q := Iff.rfl
@[simp] theorem key_int {i : Int} : D.key (.int i) = some (.inl i) := rfl
@[simp] theorem key_str {s : Str} : D.key (.str s) = some (.inr s) := rfl
@[simp] theorem dicD_dct {ks : List Key} : dicD M (.dct ks l) = some (ks.zip l) := rfl
@[simp] theorem dicD_cell {m : List (Key × D)} (h : M[n]? = some (some (.dic m))) : dicD M (.ref n) = some m := dicD_at h
@[simp] theorem dicD_lst {m : List D} (h : M[n]? = some (some (.lst m))) : dicD M (.ref n) = none := dicD_no h
@[simp] theorem seqD_dct {ks : List Key} : seqD M (.dct ks l) = none := rfl
@[simp] theorem seqD_lst {m : List D} (h : M[n]? = some (some (.lst m))) : seqD M (.ref n) = some m := seqD_at h
@[simp] theorem seqD_dic {m : List (Key × D)} (h : M[n]? = some (some (.dic m))) : seqD M (.ref n) = none := seqD_no h
@[simp] theorem rIn_tup : rIn x (.tup l) M Q ↔ flatD x = true ∧ l.all flatD = true ∧ Q (.bl (memD x l)) M := by simp [rIn]
@[simp] theorem rIn_lis : rIn x (.lis l) M Q ↔ flatD x = true ∧ l.all flatD = true ∧ Q (.bl (memD x l)) M := by simp [rIn]
@[simp] theorem rIn_dct {ks : List Key} : rIn x (.dct ks l) M Q ↔ ∃ k, x.key = some k ∧ Q (.bl (lookD (ks.zip l) k).isSome) M := by simp [rIn]
@[simp] theorem rIn_dic {m : List (Key × D)} (h : M[n]? = some (some (.dic m))) : rIn x (.ref n) M Q ↔ ∃ k, x.key = some k ∧ Q (.bl (lookD m k).isSome) M := by simp [rIn, h]
@[simp] theorem rIn_lst {m : List D} (h : M[n]? = some (some (.lst m))) : rIn x (.ref n) M Q ↔ flatD x = true ∧ m.all flatD = true ∧ Q (.bl (memD x m)) M := by simp [rIn, h]
@[simp] theorem rNotIn_tup : rNotIn x (.tup l) M Q ↔ flatD x = true ∧ l.all flatD = true ∧ Q (.bl (!memD x l)) M := by simp [rNotIn]
@[simp] theorem rNotIn_lis : rNotIn x (.lis l) M Q ↔ flatD x = true ∧ l.all flatD = true ∧ Q (.bl (!memD x l)) M := by simp [rNotIn]
@[simp] theorem rNotIn_dct {ks : List Key} : rNotIn x (.dct ks l) M Q ↔ ∃ k, x.key = some k ∧ Q (.bl (!(lookD (ks.zip l) k).isSome)) M := by simp [rNotIn]
@[simp] theorem rNotIn_dic {m : List (Key × D)} (h : M[n]? = some (some (.dic m))) : rNotIn x (.ref n) M Q ↔ ∃ k, x.key = some k ∧ Q (.bl (!(lookD m k).isSome)) M := by simp [rNotIn, h]
@[simp] theorem rNotIn_lst {m : List D} (h : M[n]? = some (some (.lst m))) : rNotIn x (.ref n) M Q ↔ flatD x = true ∧ m.all flatD = true ∧ Q (.bl (!memD x m)) M := by simp [rNotIn, h]
@[simp] theorem noTup_lis : noTup (.lis l) ↔ True := iff_true_intro fun _ e => nomatch e
@[simp] theorem noTup_ref : noTup (.ref n) ↔ True := iff_true_intro fun _ e => nomatch e
@[simp] theorem cSortI_ : cSortI mk [x] M Q ↔ ∃ ns : List Int, noTup x ∧ seqD M x = some (ns.map D.int) ∧ ns.length < 64 ∧ ∀ ns' : List Int, ns'.Perm ns → ns'.Pairwise (· ≤ ·) → mk M (.lst (ns'.map D.int)) Q := by simp [cSortI]
@[simp] theorem cList2_dic {m : List (Key × D)} (h : M[n]? = some (some (.dic m))) : cList2 mk [.ref n] M Q ↔ mk M (.lst (m.map fun p => kD p.1)) Q := by simp [cList2, cList, cListD, h]
@[simp] theorem cList2_lst {m : List D} (h : M[n]? = some (some (.lst m))) : cList2 mk [.ref n] M Q ↔ mk M (.lst m) Q := by simp [cList2, cList, cListD, h]
@[simp] theorem cList2_tup : cList2 mk [.tup l] M Q ↔ mk M (.lst l) Q := by simp [cList2, cList, cListD]
@[simp] theorem cList2_lis : cList2 mk [.lis l] M Q ↔ mk M (.lst l) Q := by simp [cList2, cList, cListD]
end
theorem bl_inj : ∀ {a b : List Bool}, a.map D.bl = b.map D.bl → a = b := fun h => (List.map_inj_right fun _ _ e => by cases e; rfl).mp h
theorem int_inj : ∀ {a b : List Int}, a.map D.int = b.map D.int → a = b := fun h => (List.map_inj_right fun _ _ e => by cases e; rfl).mp h
section
variable {M : MH} {Q : DQ} {bs : List Bool} {ns : List Int} {mk : MkR}
@[simp] theorem cAll_lis : cAll [.lis (bs.map D.bl)] M Q ↔ Q (.bl (bs.all id)) M := by
  simp only [cAll, as1_, noTup_lis, true_and, seqD_lis, Option.some.injEq]
  exact ⟨fun ⟨b, e, q⟩ => by rw [bl_inj e]; exact q, fun q => ⟨bs, rfl, q⟩⟩
@[simp] theorem cAny_lis : cAny [.lis (bs.map D.bl)] M Q ↔ Q (.bl (bs.any id)) M := by
  simp only [cAny, as1_, noTup_lis, true_and, seqD_lis, Option.some.injEq]
  exact ⟨fun ⟨b, e, q⟩ => by rw [bl_inj e]; exact q, fun q => ⟨bs, rfl, q⟩⟩
@[simp] theorem cSum_lis : cSum [.lis (ns.map D.int)] M Q ↔ Q (.int ns.sum) M := by
  simp only [cSum, as1_, noTup_lis, true_and, seqD_lis, Option.some.injEq]
  exact ⟨fun ⟨b, e, q⟩ => by rw [int_inj e]; exact q, fun q => ⟨ns, rfl, q⟩⟩
end
section
variable {M : MH} {Q : DQ} {α : Type} {l : List α} {p : α → Bool} {f : α → Int} {mk : MkR}
@[simp] theorem cAll_map : cAll [.lis (l.map fun x => D.bl (p x))] M Q ↔ Q (.bl (l.all p)) M := by
  have e : (l.map fun x => D.bl (p x)) = (l.map p).map D.bl := by simp
  rw [e, cAll_lis]; simp [List.all_map]
@[simp] theorem cAny_map : cAny [.lis (l.map fun x => D.bl (p x))] M Q ↔ Q (.bl (l.any p)) M := by
  have e : (l.map fun x => D.bl (p x)) = (l.map p).map D.bl := by simp
  rw [e, cAny_lis]; simp [List.any_map]
@[simp] theorem cSum_map : cSum [.lis (l.map fun x => D.int (f x))] M Q ↔ Q (.int (l.map f).sum) M := by
  have e : (l.map fun x => D.int (f x)) = (l.map f).map D.int := by simp
  rw [e, cSum_lis]
end
@[simp] theorem wipe_nil {ρ : DSt} : wipeD ρ [] = ρ := rfl
@[simp] theorem wipe_cons {ρ : DSt} {v : Nat} {vs : List Nat} : wipeD ρ (v :: vs) = (wipeD ρ vs).set v none := rfl
@[simp] theorem get_set1 {M : MH} {q : Nat} {x v : Option MO} (h : M[q]? = some x) : (M.set q v)[q]? = some v := List.getElem?_set_self (List.getElem?_eq_some_iff.mp h).1
@[simp] theorem get_set2 {M : MH} {q p : Nat} {v : Option MO} (h : q ≠ p) : (M.set q v)[p]? = M[p]? := List.getElem?_set_ne h
@[simp] theorem set_old {M l : MH} {q : Nat} {x v : Option MO} (h : M[q]? = some x) : (M ++ l).set q v = M.set q v ++ l := List.set_append_left q v (List.getElem?_eq_some_iff.mp h).1
theorem set_same {M : MH} {q : Nat} {x : Option MO} (h : M[q]? = some x) : M.set q x = M := by
  apply List.ext_getElem?
  intro i
  by_cases e : q = i
  · subst e; rw [List.getElem?_set_self (List.getElem?_eq_some_iff.mp h).1, h]
  · rw [List.getElem?_set_ne e]
/-! ### instances -/
def insQ (M : MH) (x : D) (R : Str → Fs → Prop) : Prop := ∃ c fs, insD M x = some (c, fs) ∧ R c fs
def tblQ (tbl : List (Str × SpD)) (c : Str) (R : SpD → Prop) : Prop := ∃ sp, tbl.lookup c = some sp ∧ R sp
def insO : Option (Option MO) → Option (Str × Fs)
  | some (some (.ins c fs)) => some (c, fs)
  | _ => none
@[simp] theorem ofS_inj {a b : String} : Str.ofString a = Str.ofString b ↔ a = b := by
  constructor
  · intro h
    rw [Str.ofString_eq_toList, Str.ofString_eq_toList] at h
    have h2 := congrArg (fun z : Str => z.cps.toList) h
    simp only at h2
    have h3 := (List.map_inj_right fun x y e => Char.ext (UInt32.toNat_inj.mp e)).mp h2
    exact String.toList_inj.mp h3
  · rintro rfl; rfl
section
variable {cs : List Str} {f c : Str} {e o : DE} {a : DA} {E : DEnds} {ρ : DSt} {M : MH} {Q : DQ} {X : XQ} {v : D} {k : Nat} {fs : Fs} {sp : SpD} {tbl : List (Str × SpD)} {m : Str} {r : RD2} {mk : MkR}
@[simp ↓] theorem dSetF_ : dSetF cs f e o E ρ M ↔ e ρ M (xAt E ρ) (hold (fun v M1 => o ρ M1 (xAt E ρ) (hold (fun x M2 => rSetF cs f x v M2 (hold (fun M3 => E.nx ρ M3) ⟨⟩)) ⟨⟩)) ⟨⟩) := Iff.rfl
@[simp ↓] theorem dAugF_ : dAugF cs f r o e E ρ M ↔ o ρ M (xAt E ρ) (hold (fun x M1 => ∃ c fs v, insD M1 x = some (c, fs) ∧ c ∈ cs ∧ lookF fs f = some v ∧ e ρ M1 (xAt E ρ) (hold (fun y M3 => r v y M3 (hold (fun z M4 => ∃ k fs', x = .ref k ∧ M4[k]? = some (some (.ins c fs')) ∧ fs'.length < 900 ∧ E.nx ρ (M4.set k (some (.ins c (putA f z fs'))))) ⟨⟩)) ⟨⟩)) ⟨⟩) := Iff.rfl
@[simp ↓] theorem dCallM_ : dCallM tbl m o a ρ M X Q ↔ o ρ M X (hold (fun x M1 => insQ M1 x (hold (fun c fs => lookF fs m = none ∧ tblQ tbl c (hold (fun sp => a ρ M1 X (hold (fun ds M2 => sp (x :: ds) M2 X Q) ⟨⟩)) ⟨⟩)) ⟨⟩)) ⟨⟩) := by
  have e : ∀ (x : D) (M1 : MH), (∃ c fs sp, insD M1 x = some (c, fs) ∧ tbl.lookup c = some sp ∧ lookF fs m = none ∧ a ρ M1 X fun ds M2 => sp (x :: ds) M2 X Q) ↔ insQ M1 x fun c fs => lookF fs m = none ∧ tblQ tbl c fun sp => a ρ M1 X fun ds M2 => sp (x :: ds) M2 X Q := fun x M1 =>
    ⟨fun ⟨c, fs, sp, h1, h2, h3, h4⟩ => ⟨c, fs, h1, h3, sp, h2, h4⟩, fun ⟨c, fs, h1, h3, sp, h2, h4⟩ => ⟨c, fs, sp, h1, h2, h3, h4⟩⟩
  show o ρ M X (fun x M1 => ∃ c fs sp, insD M1 x = some (c, fs) ∧ tbl.lookup c = some sp ∧ lookF fs m = none ∧ a ρ M1 X fun ds M2 => sp (x :: ds) M2 X Q) ↔ _
  simp only [e]
  exact Iff.rfl
@[simp ↓] theorem dNew_ : dNew c sp a ρ M X Q ↔ a ρ M X (hold (fun ds M1 => sp (.ref M1.length :: ds) (M1 ++ [some (.ins c [])]) X (hold (fun d M2 => d = .non ∧ Q (.ref M1.length) M2) ⟨⟩)) ⟨⟩) := Iff.rfl
@[simp ↓] theorem dDC_ {w : DI} {g : Tg} {tt : DT} {tk tv : DE} {vs : List Nat} : dDC mk w g tt tk tv vs ρ M X Q ↔ w ρ M X (hold (fun xs G M1 => xs.length < sizeLine ∧ compD G g tt (dPairE tk tv) (wipeD ρ vs) xs M1 (hold (fun acc M2 => ∃ kvs : List (Key × D), acc = kvs.map pairD ∧ mk M2 (.dic (mergeD [] kvs)) Q) ⟨⟩)) ⟨⟩) := Iff.rfl
@[simp ↓] theorem dPairE_ {tk tv : DE} : dPairE tk tv ρ M X Q ↔ tk ρ M X (hold (fun y M1 => tv ρ M1 X (hold (fun z M2 => ∃ k, y.key = some k ∧ Q (.tup [kD k, z]) M2) ⟨⟩)) ⟨⟩) := Iff.rfl
@[simp ↓] theorem dDisp_ {l : List (DE × DE)} : dDisp mk l ρ M X Q ↔ dPairs l ρ M X (hold (fun ps M1 => ∃ kvs : List (Key × D), ps = kvs.map (fun p => (kD p.1, p.2)) ∧ kvs.length ≤ 15 ∧ mk M1 (.dic (mergeD [] kvs)) Q) ⟨⟩) := Iff.rfl
@[simp ↓] theorem dPairs_nil {Z : List (D × D) → MH → Prop} : dPairs [] ρ M X Z ↔ Z [] M := Iff.rfl
@[simp ↓] theorem dPairs_cons {p : DE × DE} {l : List (DE × DE)} {Z : List (D × D) → MH → Prop} : dPairs (p :: l) ρ M X Z ↔ p.1 ρ M X (hold (fun x M1 => p.2 ρ M1 X (hold (fun y M2 => dPairs l ρ M2 X (hold (fun l M3 => Z ((x, y) :: l) M3) ⟨⟩)) ⟨⟩)) ⟨⟩) := Iff.rfl
@[simp] theorem insO_ins : insO (some (some (.ins c fs))) = some (c, fs) := rfl
@[simp] theorem insD_ref : insD M (.ref k) = insO M[k]? := by
  unfold insD insO
  rfl
@[simp] theorem insQ_at {p : Str × Fs} {R : Str → Fs → Prop} (h : insO M[k]? = some p) : insQ M (.ref k) R ↔ R p.1 p.2 := by
  unfold insQ
  rw [insD_ref, h]
  exact ⟨fun ⟨_, _, e, q⟩ => by cases e; exact q, fun q => ⟨p.1, p.2, rfl, q⟩⟩
@[simp] theorem tblQ_cons {R : SpD → Prop} {c' : Str} : tblQ ((c', sp) :: tbl) c R ↔ if c = c' then R sp else tblQ tbl c R := by
  unfold tblQ
  rw [List.lookup_cons]
  by_cases h : c = c'
  · subst h; simp
  · rw [show (c == c') = false from by simpa using h, if_neg h]
@[simp] theorem rAttr_at {p : Str × Fs} (h : insO M[k]? = some p) : rAttr cs f (.ref k) M Q ↔ p.1 ∈ cs ∧ ∃ d, lookF p.2 f = some d ∧ Q d M := by
  unfold rAttr
  rw [insD_ref, h]
  exact ⟨fun ⟨_, _, d, e, hc, hl, q⟩ => by cases e; exact ⟨hc, d, hl, q⟩, fun ⟨hc, d, hl, q⟩ => ⟨p.1, p.2, d, rfl, hc, hl, q⟩⟩
@[simp] theorem rSetF_at {P : MH → Prop} {p : Str × Fs} (h : insO M[k]? = some p) : rSetF cs f (.ref k) v M P ↔ p.1 ∈ cs ∧ p.2.length < 900 ∧ P (M.set k (some (.ins p.1 (putA f v p.2)))) := by
  unfold rSetF
  constructor
  · rintro ⟨_, _, _, e, hm, hc, hl, q⟩
    cases e
    rw [hm] at h
    cases h
    exact ⟨hc, hl, q⟩
  · rintro ⟨hc, hl, q⟩
    refine ⟨k, p.1, p.2, rfl, ?_, hc, hl, q⟩
    unfold insO at h
    split at h
    · rename_i e; cases h; exact e
    · cases h
@[simp] theorem lookF_nil : lookF [] f = none := rfl
@[simp] theorem lookF_cons {g : Str} : lookF ((g, v) :: fs) f = if f = g then some v else lookF fs f := by
  unfold lookF
  rw [List.lookup_cons]
  by_cases h : f = g
  · simp [h]
  · rw [show (f == g) = false from by simpa using h, if_neg h]
@[simp] theorem putA_nil : putA f v [] = [(f, v)] := rfl
@[simp] theorem putA_cons {p : Str × D} : putA f v (p :: fs) = if p.1 = f then (p.1, v) :: fs else p :: putA f v fs := rfl
end
end DM

/-! DM: dicts, members, sums: rules. -/
namespace DM
open PySem PySem.Spec L2
section
variable {X : Cx}
theorem op_inDic (hu : X.A.units + 1 < cLine) : OpR X (compareOp .In) (fun x y H Q => ∃ a o, y = V.ref a ∧ DGet H a x o ∧ Q (.bl o.isSome) H) := by
  intro pins s σ H x y v u Q I rx ry h
  obtain ⟨a, o, rfl, g, q⟩ := h
  obtain rfl : u = Value.ref a := ry
  exact d_in hu I g rx fun s3 I3 => ⟨.bl o.isSome, H, I3, rfl, q⟩
theorem op_notinDic (hu : X.A.units + 1 < cLine) : OpR X (compareOp .NotIn) (fun x y H Q => ∃ a o, y = V.ref a ∧ DGet H a x o ∧ Q (.bl (!o.isSome)) H) := by
  intro pins s σ H x y v u Q I rx ry h
  obtain ⟨a, o, rfl, g, q⟩ := h
  obtain rfl : u = Value.ref a := ry
  exact d_notIn hu I g rx fun s3 I3 => ⟨.bl (!o.isSome), H, I3, rfl, q⟩
theorem dget_of {K : PySem.W.Frag} {mg : Str → Option Value} {M : MB} {H : Hp} {x y : D} {v w : V} {l : List (Key × D)} {k : Key} (R : MR K mg M H) (rx : Rep K M H x v) (ry : Rep K M H y w) (h : dicD M.m x = some l) (e : y.key = some k) :
    ∃ a o, v = .ref a ∧ DGet H a w o ∧ o.isSome = (lookD l k).isSome ∧ ∀ z u, Rep K M H z u → Rep K M H ((lookD l k).getD z) (o.getD u) := by
  obtain ⟨a, ks, ev, hr, kv⟩ := dic_rd R rx h
  have ew := key_rep e ry
  refine ⟨a, valV ks k, ev, .inl ⟨ks, k, hr, ew, rfl⟩, ?_⟩
  cases hl : lookD l k with
  | none =>
    have := (RepKV.val (k := k) kv).2 hl
    rw [this]
    exact ⟨rfl, fun z u r => r⟩
  | some d =>
    obtain ⟨u, hu, ru⟩ := (RepKV.val (k := k) kv).1 d hl
    rw [hu]
    exact ⟨rfl, fun z u r => ru⟩
theorem flat_rep {K : PySem.W.Frag} {M : MB} {H : Hp} {x : D} {v : V} (r : Rep K M H x v) (f : flatD x = true) : flatV v = true ∧ ∀ y w, Rep K M H y w → flatD y = true → eqV w v = eqD y x := by
  cases x with
  | non => cases r; exact ⟨rfl, fun y w ry fy => by cases y <;> first | (cases ry; rfl) | cases fy⟩
  | bl b => cases r; exact ⟨rfl, fun y w ry fy => by cases y <;> first | (cases ry; rfl) | cases fy⟩
  | int i => cases r; exact ⟨rfl, fun y w ry fy => by cases y <;> first | (cases ry; rfl) | cases fy⟩
  | str s => cases r; exact ⟨rfl, fun y w ry fy => by cases y <;> first | (cases ry; rfl) | cases fy⟩
  | _ => cases f
theorem mem_rep {K : PySem.W.Frag} {M : MB} {H : Hp} {x : D} {v : V} (r : Rep K M H x v) (f : flatD x = true) : ∀ {l : List D} {vs : List V}, Reps K M H l vs → l.all flatD = true → vs.all flatV = true ∧ inV v vs = memD x l
  | [], _, h, _ => by cases h; exact ⟨rfl, rfl⟩
  | y :: l, _, ⟨w, ws, e, h1, h2⟩, a => by
    subst e
    rw [List.all_cons, Bool.and_eq_true] at a
    obtain ⟨i1, i2⟩ := mem_rep r f h2 a.2
    unfold inV memD at i2 ⊢
    rw [List.all_cons, List.any_cons, List.any_cons, (flat_rep h1 a.1).1, i1, i2, (flat_rep r f).2 y w h1 a.1]
    exact ⟨rfl, rfl⟩
theorem od_in (hu : X.A.units + 1 < cLine) : OpD X (compareOp .In) rIn := by
  refine OpD.or (r := fun x y M Q => ∃ l k, dicD M y = some l ∧ x.key = some k ∧ Q (.bl (lookD l k).isSome) M) ⟨_, op_inDic hu, ?_⟩ ⟨_, op_in_seq, ?_⟩
  · intro x y v w M H Qd Q R rx ry ⟨l, k, h, e, q⟩ kk
    obtain ⟨a, o, ev, g, es, _⟩ := dget_of R ry rx h e
    exact ⟨a, o, ev, g, kk _ (.bl (lookD l k).isSome) M H .refl R (by rw [es]; rfl) q⟩
  · intro x y v w M H Qd Q R rx ry ⟨l, h, f, a, q⟩ kk
    obtain ⟨p, vs, ev, rs, hs⟩ := sq_of R ry h
    obtain ⟨i1, i2⟩ := mem_rep rx f rs a
    exact ⟨p, vs, ev, hs.symm.imp (·.2.l) (·.2), (flat_rep rx f).1, i1, kk _ (.bl (memD x l)) M H .refl R (by rw [i2]; rfl) q⟩
theorem od_notin (hu : X.A.units + 1 < cLine) : OpD X (compareOp .NotIn) rNotIn := by
  refine OpD.or (r := fun x y M Q => ∃ l k, dicD M y = some l ∧ x.key = some k ∧ Q (.bl (!(lookD l k).isSome)) M) ⟨_, op_notinDic hu, ?_⟩ ⟨_, op_notIn_seq, ?_⟩
  · intro x y v w M H Qd Q R rx ry ⟨l, k, h, e, q⟩ kk
    obtain ⟨a, o, ev, g, es, _⟩ := dget_of R ry rx h e
    exact ⟨a, o, ev, g, kk _ (.bl (!(lookD l k).isSome)) M H .refl R (by rw [es]; rfl) q⟩
  · intro x y v w M H Qd Q R rx ry ⟨l, h, f, a, q⟩ kk
    obtain ⟨p, vs, ev, rs, hs⟩ := sq_of R ry h
    obtain ⟨i1, i2⟩ := mem_rep rx f rs a
    exact ⟨p, vs, ev, hs.symm.imp (·.2.l) (·.2), (flat_rep rx f).1, i1, kk _ (.bl (!memD x l)) M H .refl R (by rw [i2]; rfl) q⟩
end
section
variable {X : Cx} {o e f : Expr} {apos cpos pos : Pos} {to te tf : DE} {mk : MkR}
theorem isd_of {K : PySem.W.Frag} {mg : Str → Option Value} {M : MB} {H : Hp} {x : D} {v : V} (R : MR K mg M H) (rx : Rep K M H x v) (h : ∃ l, dicD M.m x = some l) : ∃ a, v = .ref a ∧ IsD H a := by
  obtain ⟨l, h⟩ := h
  obtain ⟨a, ks, ev, hr, kv⟩ := dic_rd R rx h
  exact ⟨a, ev, .inl ⟨ks, hr⟩⟩
theorem de_get2 (hu : X.A.units + 1 < cLine) (ho : PEd X o to) (he : PEd X e te) (hf : PEd X f tf) (m : M2 X o "get" apos e f cpos := by exact ⟨rfl, rfl, rfl, rfl⟩) : PEd X (.Call (.Attribute o "get" apos) [e, f] [] cpos) (dGet2 to te tf) :=
  peI (pe_dget2 hu ho he hf m) fun σ H Q ⟨ρ, M, E, Qd, S, R, q, xo, k⟩ => ⟨ρ, M, E, _, S, R, q, xo, fun v d M1 H1 e1 R1 r1 ⟨hd, q1⟩ => by
    obtain ⟨a, ev, isd⟩ := isd_of R1 r1 hd
    exact ⟨a, ev, isd, ρ, M1, E, _, S.ev e1, R1, q1, xo.later e1, fun w d2 M2 H2 e2 R2 r2 q2 => ⟨ρ, M2, E, _, S.ev (e1.trans e2), R2, q2, xo.later (e1.trans e2), fun z d3 M3 H3 e3 R3 r3 ⟨l, kk, hl, hk, q3⟩ => by
      obtain ⟨a', o, ev', g, es, fin⟩ := dget_of R3 ((r1.ev e2).ev e3) (r2.ev e3) hl hk
      rw [ev] at ev'; cases ev'
      exact ⟨o, g, k _ _ M3 H3 ((e1.trans e2).trans e3) R3 (fin d3 z r3) q3⟩⟩⟩⟩
theorem de_get1 (hu : X.A.units + 1 < cLine) (ho : PEd X o to) (he : PEd X e te) (m : M1 X o "get" apos e cpos := by exact ⟨rfl, rfl, rfl, rfl⟩) : PEd X (.Call (.Attribute o "get" apos) [e] [] cpos) (dGet1 to te) :=
  peI (pe_dget1 hu ho he m) fun σ H Q ⟨ρ, M, E, Qd, S, R, q, xo, k⟩ => ⟨ρ, M, E, _, S, R, q, xo, fun v d M1 H1 e1 R1 r1 ⟨hd, q1⟩ => by
    obtain ⟨a, ev, isd⟩ := isd_of R1 r1 hd
    exact ⟨a, ev, isd, ρ, M1, E, _, S.ev e1, R1, q1, xo.later e1, fun w d2 M2 H2 e2 R2 r2 ⟨l, kk, hl, hk, q2⟩ => by
      obtain ⟨a', o, ev', g, es, fin⟩ := dget_of R2 (r1.ev e2) r2 hl hk
      rw [ev] at ev'; cases ev'
      exact ⟨o, g, k _ _ M2 H2 (e1.trans e2) R2 (fin .non .non rfl) q2⟩⟩⟩
theorem RepKV.drop {K : PySem.W.Frag} {M : MB} {H : Hp} {k : Key} : ∀ {l : List (Key × D)} {ks : List (Key × V)}, RepKV K M H l ks → RepKV K M H (dropD l k) (dropK ks k)
  | [], _, h => by cases h; rfl
  | (j, d) :: l, _, ⟨v, r, e, h1, h2⟩ => by
    subst e
    have ih := RepKV.drop (k := k) h2
    unfold dropD dropK at ih ⊢
    by_cases hj : j = k
    · simp [hj] at ih ⊢; exact ih
    · simp [hj] at ih ⊢; exact ⟨v, _, rfl, h1, ih⟩
theorem de_pop1 (ho : PEd X o to) (he : PEd X e te) (m : M1 X o "pop" apos e cpos := by exact ⟨rfl, rfl, rfl, rfl⟩) : PEd X (.Call (.Attribute o "pop" apos) [e] [] cpos) (dPop1 to te) :=
  peI (pe_dpop1 ho he m) fun σ H Q ⟨ρ, M, E, Qd, S, R, q, xo, k⟩ => ⟨ρ, M, E, _, S, R, q, xo, fun v d M1 H1 e1 R1 r1 ⟨hd, q1⟩ => by
    obtain ⟨a, ev, isd⟩ := isd_of R1 r1 hd
    exact ⟨a, ev, isd, ρ, M1, E, _, S.ev e1, R1, q1, xo.later e1, fun w d2 M2 H2 e2 R2 r2 ⟨p, l, kk, y, ed, hm, hk, hl, q2⟩ => by
      subst ed
      obtain ⟨a', ha, ev'⟩ := r1.ev e2
      rw [ev] at ev'; cases ev'
      obtain ⟨ks, h1, h2⟩ := R2.at_ _ _ _ ha hm
      obtain ⟨u, hu, ru⟩ := (RepKV.val (k := kk) h2).1 y hl
      have E := Ev.put (M := M2) (H := H2) (k := p) (v := some (.dic (dropD l kk))) (u := .dK (dropK ks kk)) ha h1 trivial
      exact ⟨ks, kk, u, h1, key_rep hk r2, hu, k u y (M2.put p (some (.dic (dropD l kk)))) _ ((e1.trans e2).trans E) (R2.put ha h1 trivial ⟨_, upd_same, h2.drop.ev E⟩) (ru.ev E) q2⟩⟩⟩
theorem de_dic0 (hm : MkOk mk) : PEd X (.Dict [] [] pos) (dDic0 mk) := peI (pe_frz pe_dnewK) fun σ H Q ⟨ρ, M, E, Qd, S, R, q, xo, k⟩ => fun p n =>
  hm.new R n trivial (o := .dic []) ⟨[], upd_same, rfl⟩ q fun v d M' H' e' R' r' q' => k v d M' H' e' R' r' q'
theorem keys_rep {K : PySem.W.Frag} {M : MB} {H : Hp} : ∀ {l : List (Key × D)} {ks : List (Key × V)}, RepKV K M H l ks → Reps K M H (l.map fun p => kD p.1) (ks.map fun p => kV p.1)
  | [], _, h => by cases h; rfl
  | (j, d) :: l, _, ⟨v, r, e, h1, h2⟩ => by
    subst e
    refine ⟨kV j, _, rfl, ?_, keys_rep h2⟩
    cases j <;> rfl
theorem cd_listD (hc : X.calm = true) (hm : MkOk mk) : CallZ X (.type "list") (cListD mk) := ⟨_, call_list_dK hc, fun ds vs M H Qd Q R rs ⟨x, e, p, l, ex, hp, q⟩ k => by
  subst e; subst ex
  obtain ⟨v, ev, a, ha, ea⟩ := rs.one'
  subst ev; subst ea
  obtain ⟨ks, h1, h2⟩ := R.at_ _ _ _ ha hp
  exact ⟨a, ks, rfl, h1, fun b n => hm.new R n trivial (o := .lst (l.map fun p => kD p.1)) ⟨_, upd_same, (keys_rep h2).ev (Ev.new (M := M) n)⟩ q k⟩⟩
theorem CallZ.or {f : Value} {r1 r2 : BD} (h1 : CallZ X f r1) (h2 : CallZ X f r2) : CallZ X f (fun ds M Q => r1 ds M Q ∨ r2 ds M Q) := by
  obtain ⟨s1, a1, b1⟩ := h1
  obtain ⟨s2, a2, b2⟩ := h2
  refine ⟨fun vs H Q => s1 vs H Q ∨ s2 vs H Q, fun pins s σ H vs us Q I r h => ?_, fun ds vs M H Qd Q R rs q k => ?_⟩
  · rcases h with h | h
    · exact a1 pins s σ H vs us Q I r h
    · exact a2 pins s σ H vs us Q I r h
  · rcases q with q | q
    · exact .inl (b1 ds vs M H Qd Q R rs q k)
    · exact .inr (b2 ds vs M H Qd Q R rs q k)
theorem cd_list2 (hc : X.calm = true) (hm : MkOk mk) : CallZ X (.type "list") (cList2 mk) := CallZ.or (cd_list hm) (cd_listD hc hm)
theorem reps_int {K : PySem.W.Frag} {M : MB} {H : Hp} : ∀ {ns : List Int} {vs : List V}, Reps K M H (ns.map D.int) vs → vs = ns.map V.int
  | [], _, h => by cases h; rfl
  | n :: ns, _, ⟨v, r, e, h1, h2⟩ => by subst e; cases h1; rw [reps_int h2]; rfl
theorem reps_bl {K : PySem.W.Frag} {M : MB} {H : Hp} : ∀ {ns : List Bool} {vs : List V}, Reps K M H (ns.map D.bl) vs → vs = ns.map V.bl
  | [], _, h => by cases h; rfl
  | n :: ns, _, ⟨v, r, e, h1, h2⟩ => by subst e; cases h1; rw [reps_bl h2]; rfl
theorem reps_of_int {K : PySem.W.Frag} {M : MB} {H : Hp} : ∀ ns : List Int, Reps K M H (ns.map D.int) (ns.map V.int)
  | [] => rfl
  | n :: ns => ⟨_, _, rfl, rfl, reps_of_int ns⟩
theorem cd_sortI (hm : MkOk mk) : CallZ X (.builtin "sorted") (cSortI mk) := ⟨_, cr_sorted, fun ds vs M H Qd Q R rs ⟨x, e, ns, nt, h, h64, q⟩ k => by
  subst e
  obtain ⟨v, ev, rv⟩ := rs.one'
  subst ev
  obtain ⟨p, us, ep, ru, hs⟩ := sq_of R rv h
  subst ep
  have := reps_int ru
  subst this
  rcases hs with ⟨et, _⟩ | ⟨_, hs⟩
  · exact (nt _ et).elim
  · exact ⟨p, ns, rfl, hs.l, h64, fun ns' a pm pw n => hm.new R n trivial (o := .lst (ns'.map D.int)) ⟨_, upd_same, reps_of_int ns'⟩ (q ns' pm pw) k⟩⟩
theorem cd_all (hc : X.calm = true) : CallD X (.builtin "all") cAll := ⟨_, cr_all hc, fun ds vs M H Qd Q R rs ⟨x, e, bs, nt, h, q⟩ k => by
  subst e
  obtain ⟨v, ev, rv⟩ := rs.one'
  subst ev
  obtain ⟨p, us, ep, ru, hs⟩ := sq_of R rv h
  subst ep
  have := reps_bl ru
  subst this
  rcases hs with ⟨et, _⟩ | ⟨_, hs⟩
  · exact (nt _ et).elim
  · exact ⟨p, bs, rfl, hs.l, k _ (.bl (bs.all id)) M H .refl R rfl q⟩⟩
theorem cd_any (hc : X.calm = true) : CallD X (.builtin "any") cAny := ⟨_, cr_any hc, fun ds vs M H Qd Q R rs ⟨x, e, bs, nt, h, q⟩ k => by
  subst e
  obtain ⟨v, ev, rv⟩ := rs.one'
  subst ev
  obtain ⟨p, us, ep, ru, hs⟩ := sq_of R rv h
  subst ep
  have := reps_bl ru
  subst this
  rcases hs with ⟨et, _⟩ | ⟨_, hs⟩
  · exact (nt _ et).elim
  · exact ⟨p, bs, rfl, hs.l, k _ (.bl (bs.any id)) M H .refl R rfl q⟩⟩
theorem cd_sum (hc : X.calm = true) : CallD X (.builtin "sum") cSum := ⟨_, cr_sum hc, fun ds vs M H Qd Q R rs ⟨x, e, ns, nt, h, q⟩ k => by
  subst e
  obtain ⟨v, ev, rv⟩ := rs.one'
  subst ev
  obtain ⟨p, us, ep, ru, hs⟩ := sq_of R rv h
  subst ep
  have := reps_int ru
  subst this
  rcases hs with ⟨et, _⟩ | ⟨_, hs⟩
  · exact (nt _ et).elim
  · exact ⟨p, ns, rfl, hs.l, k _ (.int ns.sum) M H .refl R rfl q⟩⟩
theorem de_callZ {x : Str} {p pos : Pos} {e : Expr} {es : List Expr} {t : DA} {id : String} {r : BD} (hc : CallZ X (.builtin id) r) (hm : X.mg x = none) (ha : PAd X (e :: es) t) (hv : bootBuiltins x = some (.builtin id) := by decide +kernel) (hg : Gl X x := by rfl)
    (hn : x ≠ "__name__" := by decide) (hdb : (x == ("__debug__" : Str)) = false := by decide) (he : starEach (e :: es) X.env = (false, eval e X.env) :: starEach es X.env := by rfl) (hpl : (backTo pos (starEach es X.env)).any (·.1) = false := by rfl) :
    PEd X (.Call (.Name x p) (e :: es) [] pos) (dCallB r t) := by
  obtain ⟨r', h1, h2⟩ := hc
  exact peI (pe_frz (pe_callB h1 hg hm hv ha hn hdb he hpl)) fun σ H Q ⟨ρ, M, E, Qd, S, R, q, xo, k⟩ => ⟨ρ, M, E, _, S, R, q, xo, fun vs ds M1 H1 e1 R1 r1 q1 => h2 ds vs M1 H1 Qd Q R1 r1 q1 fun z d M' H' e' R' r' q' => k z d M' H' (e1.trans e') R' r' q'⟩
end
section
variable {K : PySem.W.Frag} {M M' : MB} {H H' : Hp}
theorem kv_vals : ∀ {l : List (Key × D)} {ks : List (Key × V)}, RepKV K M H l ks → Reps K M H (l.map (·.2)) (ks.map (·.2)) ∧ ks.map (·.1) = l.map (·.1)
  | [], _, h => by cases h; exact ⟨rfl, rfl⟩
  | (j, d) :: l, _, ⟨v, r, e, h1, h2⟩ => by
    subst e
    obtain ⟨a, b⟩ := kv_vals h2
    exact ⟨⟨v, _, rfl, h1, a⟩, by simp [b]⟩
theorem kv_of : ∀ {l : List (Key × D)} {ks : List (Key × V)}, Reps K M H (l.map (·.2)) (ks.map (·.2)) → ks.map (·.1) = l.map (·.1) → RepKV K M H l ks
  | [], ks, h, e => by cases ks with
    | nil => rfl
    | cons x r => cases e
  | (j, d) :: l, ks, h, e => by
    cases ks with
    | nil => cases e
    | cons x r =>
      obtain ⟨v, ws, e1, h1, h2⟩ := h
      simp at e1 e
      obtain ⟨e1, e2⟩ := e1
      exact ⟨v, r, by rw [← e1, ← e.1], h1, kv_of (by rw [e2]; exact h2) e.2⟩
theorem merge_app {l m : List (Key × D)} {p : Key × D} : mergeD l (m ++ [p]) = putD (mergeD l m) p.1 p.2 := by simp [mergeD]
theorem put_len {l : List (Key × D)} {k : Key} {d : D} : (putD l k d).length ≤ l.length + 1 := by
  unfold putD
  split <;> simp
theorem merge_len : ∀ {m l : List (Key × D)}, (mergeD l m).length ≤ l.length + m.length
  | [], l => by simp [mergeD]
  | p :: m, l => by
    have h1 := merge_len (m := m) (l := putD l p.1 p.2)
    have h2 := put_len (l := l) (k := p.1) (d := p.2)
    simp [mergeD] at h1 ⊢
    omega
end
theorem bels_put {n : Nat} {k : Key} {z : D} (hz : z.bel n = true) : ∀ {l : List (Key × D)}, D.bels n (l.map (·.2)) = true → D.bels n ((putD l k z).map (·.2)) = true := fun {l} h => by
  have h1 : ∀ {l : List (Key × D)}, D.bels n (l.map (·.2)) = true → D.bels n ((l.map fun p => if p.1 = k then (p.1, z) else p).map (·.2)) = true ∧ D.bels n ((l ++ [(k, z)]).map (·.2)) = true := by
    intro l
    induction l with
    | nil => intro _; exact ⟨rfl, by simp [D.bels, hz]⟩
    | cons x l ih =>
      intro h
      simp only [List.map_cons, D.bels, Bool.and_eq_true, List.cons_append] at h ⊢
      obtain ⟨i1, i2⟩ := ih h.2
      refine ⟨⟨?_, i1⟩, h.1, i2⟩
      by_cases e : x.1 = k
      · simp [e, hz]
      · simp [e, h.1]
  unfold putD
  split
  · exact (h1 h).1
  · exact (h1 h).2
theorem lift_dc {X : Cx} {mk : MkR} (hmk : MkOk mk) {wi : TI} {ti : DI} {g : Tg} {tt : DT} {tk tv : DE} {vs : List Nat} (hg : ∀ i ∈ g.slots, i ∈ vs)
    (h2 : ∀ (σ : L2.St) (H : Hp) (R : It → Hp → Prop) (ρ : DSt) (M : MB) (E : XQ) (Rd : List D → (MH → Prop) → MH → Prop), Slots X.K M H ρ σ → MR X.K X.mg M H → ti ρ M.m E Rd → XOk X M σ H E → (∀ J xs G M' H', Ev M H M' H' → MR X.K X.mg M' H' → Snd X.K X.mg M' H' J xs G → Rd xs G M'.m → R J H') → wi σ H R)
    (σ : L2.St) (H : Hp) (Q Q' : VK) (hQ : ∀ v H, frzQ Q v H → Q' v H) : LE X (dDC mk ti g tt tk tv vs) σ H Q → tDc wi (LG X.K g) (LT0 X.K X.mg tt) (LE0 X.K X.mg tk) (LE0 X.K X.mg tv) vs σ H Q' := fun ⟨ρ, M, E, Qd, S, R, q, xo, k⟩ => by
  refine h2 σ H _ ρ M E _ S R q xo fun J xs G M1 H1 e1 R1 sn ⟨hz, g1, Rl, it, il⟩ => fun D nD => ?_
  have mD : D ∉ M1.i := R1.mem nD
  let W : Nat → Nat → Hp → Prop := fun i m H' => ∃ (M' : MB) (ys : List (Option DM.D)) (kds : List (Key × DM.D)) (av : List (Key × V)), m = xs.length - i ∧ i ≤ xs.length ∧ ys.length = i ∧ Ev M1 H1 M' H' ∧ MR X.K X.mg M' H' ∧ D ∉ M'.i ∧ H' D = some (.dK av) ∧ ys.filterMap id = kds.map pairD ∧ RepKV X.K M' H' (mergeD [] kds) av ∧ M'.m = M1.m ∧ ∀ (k : Nat) x y, xs[k]? = some x → ys[k]? = some y → Rl k x y
  refine ⟨W, ⟨_, M1, [], [], [], rfl, Nat.zero_le _, rfl, .new nD, R1.new nD, mD, upd_same, rfl, rfl, rfl, fun k x y _ h => by simp at h⟩, ?_⟩
  rintro i m H2 ⟨M2, ys, kds, av, rfl, hi, hl, E12, R2, n2, hD, ek, ra, em, q2⟩
  have g2 : G M2.m := by rw [em]; exact g1
  by_cases hlt : i < xs.length
  · have ex : xs[i]? = some xs[i] := List.getElem?_eq_getElem hlt
    have q3 := it i _ ex
    rw [← em] at q3
    have add : ∀ y, Rl i xs[i] y → ∀ (k : Nat) x z, xs[k]? = some x → (ys ++ [y])[k]? = some z → Rl k x z := fun y hy k x z hx hz => by
      by_cases hk : k < i
      · rw [List.getElem?_append_left (by omega)] at hz; exact q2 k x z hx hz
      · have : k = i := by
          have := (List.getElem?_eq_some_iff.mp hz).1
          simp at this; omega
        subst this
        rw [List.getElem?_append_right (by omega), hl] at hz
        simp at hz; subst hz
        rw [ex] at hx; cases hx
        exact hy
    refine .inr ⟨sn.go i _ M2 H2 E12.sq R2 g2 ex, fun H' => W (i + 1) (xs.length - (i + 1)) H', fun H' w => ⟨_, by omega, w⟩, fun x H3 y => ?_⟩
    obtain ⟨e3, R3, r3⟩ := sn.yld i _ M2 H2 x H3 E12.sq R2 g2 ex y
    refine LG_wipe vs g hg r3 ((wipe_eq S vs).ev (e1.trans (E12.trans e3))) q3 fun ρ4 σ4 S4 w4 q4 => ⟨by rw [w4, wipe_wipe], ρ4, M2, _, S4, R3, q4, fun b M5 H5 e5 R5 q5 => ?_⟩
    have E35 := e3.trans e5
    have n5 : D ∉ M5.i := fun z => by have := E35.dom D z n2; rw [hD] at this; cases this
    have hD5 := E35.frame D _ hD n2
    have lenM : M2.m.length = M1.m.length := by rw [em]
    have bA : DM.D.bels M1.m.length ((mergeD [] kds).map (·.2)) = true := by rw [← lenM, R2.len]; exact ra.is_bel
    cases b with
    | false =>
      obtain ⟨bk, hr⟩ := q5
      have w : WkL M1.m.length (fun _ m => m = M1.m) ((mergeD [] kds).map (·.2)) M5.m := by
        rw [em] at bk
        rcases bk with bk | ⟨L, bk, hb⟩
        · exact .of bk
        · exact ⟨M1.m, ⟨by rw [bk]; exact lessP_of (by simp), .inr ⟨Nat.le_refl _, by rw [bk]; simp, hb⟩⟩, .inr bA, rfl⟩
      have ra5 := ra.ev E35
      obtain ⟨M6, e6, ra6, R6, q6, hM6⟩ := wkL_ok R1 (E12.trans E35) (kv_vals ra5).1 R5 w
      exact ⟨M6, ys ++ [none], kds, av, rfl, hlt, by simp [hl], e6, R6, fun z => n5 (hM6 D z), hD5, by simpa using ek, kv_of ra6 (kv_vals ra5).2, q6, add none hr⟩
    | true =>
      refine ⟨ρ4, M5, _, S4.ev e5, R5, q5, fun y dy M6 H6 e6 R6 r6 q6 => ⟨ρ4, M6, _, S4.ev (e5.trans e6), R6, q6, fun v d M7 H7 e7 R7 r7 ⟨kk, hkk, bk, hr⟩ => ?_⟩⟩
      have E37 := (E35.trans e6).trans e7
      have n7 : D ∉ M7.i := fun z => by have := E37.dom D z n2; rw [hD] at this; cases this
      have hD7 := E37.frame D _ hD n2
      have ra7 := (ra.ev E37).put (k := kk) r7
      rw [← merge_app (p := (kk, d))] at ra7
      have w : WkL M1.m.length (fun _ m => m = M1.m) ((mergeD [] (kds ++ [(kk, d)])).map (·.2)) M7.m := by
        rw [em] at bk
        rcases bk with bk | ⟨⟨L, bk, hb⟩, hd⟩
        · exact .of bk
        · refine ⟨M1.m, ⟨by rw [bk]; exact lessP_of (by simp), .inr ⟨Nat.le_refl _, by rw [bk]; simp, hb⟩⟩, .inr ?_, rfl⟩
          rw [merge_app]
          refine bels_put ?_ bA
          simp [DM.D.bel, DM.D.bels] at hd
          exact hd.2
      obtain ⟨M8, e8, ra8, R8, q8, hM8⟩ := wkL_ok R1 (E12.trans E37) (kv_vals ra7).1 R7 w
      have n8 : D ∉ M8.i := fun z => n7 (hM8 D z)
      have rb8 := kv_of ra8 (kv_vals ra7).2
      have lb : kds.length ≤ ys.length := by
        have h1 := congrArg List.length ek
        have h2 : (ys.filterMap id).length ≤ ys.length := List.length_filterMap_le _ _
        simp at h1; omega
      have lm := merge_len (m := kds) (l := [])
      have la : (mergeD [] kds).length = av.length := by
        have := congrArg List.length (kv_vals ra).2
        simp at this; exact this.symm
      rw [merge_app] at rb8
      refine ⟨av, kk, key_rep hkk (r6.ev e7), hD7, ?_, M8, ys ++ [some (.tup [kD kk, d])], kds ++ [(kk, d)], putK av kk v, rfl, hlt, by simp [hl], e8.hid nD, R8.hid hD7 trivial n8, n8, upd_same, by simp [ek, pairD], ?_, q8, add _ hr⟩
      · simp at lm; omega
      · rw [merge_app]
        exact rb8.mono (KeepT.lock hD7 trivial)
  · have e : i = xs.length := by omega
    subst e
    have q3 := il ys hl q2
    rw [← em, ek] at q3
    obtain ⟨kvs, ekv, q3⟩ := q3
    have inj : kds = kvs := (List.map_inj_right fun a b e => by
      obtain ⟨a1, a2⟩ := a
      obtain ⟨b1, b2⟩ := b
      simp [pairD] at e
      obtain ⟨e1, e2⟩ := e
      subst e2
      cases a1 <;> cases b1 <;> simp [kD] at e1 <;> simp [e1]).mp ekv
    subst inj
    exact .inl ⟨sn.stop M2 H2 E12.sq R2 g2, hQ _ _ (hmk.of (o := .dic (mergeD [] kds)) (M0 := M1) (H0 := H1) E12 nD mD n2 hD trivial R2 ⟨av, hD, ra⟩ q3 fun v d M' H' e' R' r' q' => k v d M' H' (e1.trans e') R' r' q')⟩
theorem de_dc {X : Cx} {mk : MkR} (hmk : MkOk mk) {tg iter kx vx : Expr} {pos : Pos} {ifs : List Expr} {scope : Scope} {own : List (Str × Nat)} {ti : DI} {g : Tg} {tt : DT} {tk tv : DE} (hc : X.calm = true) (hN : X.N.Nodup) (hi : PId X tg iter ti) (ok : blkC X.N X.env.scope scope own = true)
    (hg : ∀ s H C cl fp, PGd (blkE X scope s H C cl fp) tg g) (ht : ∀ s H C cl fp, PTsd (blkE X scope s H C cl fp) ifs tt) (hk : ∀ s H C cl fp, PEd (blkE X scope s H C cl fp) kx tk) (he : ∀ s H C cl fp, PEd (blkE X scope s H C cl fp) vx tv)
    (hv : ∀ i ∈ g.slots, i ∈ own.map (·.2) := by decide) (hs : ∀ x, foldedSetIterable iter X.env x = pure x := by intro _; rfl) :
    PEd X (.DictComp kx vx [⟨tg, iter, ifs, 0⟩] scope pos) (dDC mk ti g tt tk tv (own.map (·.2))) := by
  obtain ⟨wi, h1, h2⟩ := hi
  exact peI (pe_frz (pe_dc (tt := LT0 X.K X.mg tt) (tk := LE0 X.K X.mg tk) (tv := LE0 X.K X.mg tv) hc hN h1 (blkOk_by ok) (fun s H C cl fp => (hg s H C cl fp).of) (fun s H C cl fp => pts0 (ht s H C cl fp)) (fun s H C cl fp => pe0 (hk s H C cl fp)) (fun s H C cl fp => pe0 (he s H C cl fp)) hs))
    fun σ H Q => lift_dc hmk hv h2 σ H Q _ fun _ _ h => h
/-! ### displays -/
def RepPP (K : PySem.W.Frag) (M : MB) (H : Hp) : List (D × D) → List (V × V) → Prop
  | [], vs => vs = []
  | p :: l, vs => ∃ v w r, vs = (v, w) :: r ∧ Rep K M H p.1 v ∧ Rep K M H p.2 w ∧ RepPP K M H l r
theorem lift_pairs {X : Cx} : ∀ (l : List (DE × DE)) {σ : L2.St} {H : Hp} {Q : List (V × V) → Hp → Prop} {ρ : DSt} {M : MB} {E : XQ} {Qd : List (D × D) → MH → Prop}, Slots X.K M H ρ σ → MR X.K X.mg M H → dPairs l ρ M.m E Qd → XOk X M σ H E →
    (∀ ds vs M' H', Ev M H M' H' → MR X.K X.mg M' H' → RepPP X.K M' H' ds vs → Qd ds M'.m → Q vs H') → tPairs (l.map fun p => (LE X p.1, LE X p.2)) σ H Q
  | [], σ, H, Q, ρ, M, E, Qd, S, R, q, xo, k => k [] [] M H .refl R rfl q
  | p :: l, σ, H, Q, ρ, M, E, Qd, S, R, q, xo, k => ⟨ρ, M, E, _, S, R, q, xo, fun v d M1 H1 e1 R1 r1 q1 => ⟨ρ, M1, E, _, S.ev e1, R1, q1, xo.later e1, fun w d2 M2 H2 e2 R2 r2 q2 =>
      lift_pairs l (S.ev (e1.trans e2)) R2 q2 (xo.later (e1.trans e2)) fun ds vs M' H' e' R' r' q' => k ((d, d2) :: ds) ((v, w) :: vs) M' H' ((e1.trans e2).trans e') R' ⟨v, w, vs, rfl, (r1.ev e2).ev e', r2.ev e', r'⟩ q'⟩⟩
theorem pp_kv {K : PySem.W.Frag} {M : MB} {H : Hp} : ∀ {l : List (Key × D)} {vs : List (V × V)}, RepPP K M H (l.map fun p => (kD p.1, p.2)) vs → ∃ ks : List (Key × V), vs = ks.map (fun p => (kV p.1, p.2)) ∧ RepKV K M H l ks
  | [], _, h => by cases h; exact ⟨[], rfl, rfl⟩
  | (k, d) :: l, _, ⟨v, w, r, e, h1, h2, h3⟩ => by
    subst e
    obtain ⟨ks, e2, h4⟩ := pp_kv h3
    subst e2
    have : v = kV k := by cases k <;> exact h1
    subst this
    exact ⟨(k, w) :: ks, rfl, w, ks, rfl, h2, h4⟩
theorem RepKV.merge {K : PySem.W.Frag} {M : MB} {H : Hp} : ∀ {m : List (Key × D)} {n : List (Key × V)} {l : List (Key × D)} {ks : List (Key × V)}, RepKV K M H l ks → RepKV K M H m n → RepKV K M H (mergeD l m) (mergeK ks n)
  | [], _, _, _, h, h2 => by cases h2; exact h
  | (k, d) :: m, _, l, ks, h, ⟨v, r, e, h1, h2⟩ => by
    subst e
    exact (show RepKV K M H (mergeD (putD l k d) m) (mergeK (putK ks k v) r) from RepKV.merge (RepKV.put (k := k) h1 h) h2)
theorem kv_len {K : PySem.W.Frag} {M : MB} {H : Hp} {l : List (Key × D)} {ks : List (Key × V)} (h : RepKV K M H l ks) : ks.length = l.length := by
  have := congrArg List.length (kv_vals h).2
  simpa using this
structure PPd (X : Cx) (pos : Pos) (keys : List (Option Expr)) (values : List Expr) (l : List (DE × DE)) : Prop where
  of : PPs X pos keys values (l.map fun p => (LE X p.1, LE X p.2))
theorem dp_nil {X : Cx} {pos : Pos} : PPd X pos [] [] [] := ⟨pps_nil⟩
theorem dp_cons {X : Cx} {pos : Pos} {k v : Expr} {ks : List (Option Expr)} {vs : List Expr} {tk tv : DE} {l : List (DE × DE)} (hk : PEd X k tk) (hv : PEd X v tv) (hr : PPd X pos ks vs l) : PPd X pos (some k :: ks) (v :: vs) ((tk, tv) :: l) := ⟨pps_cons hk hv hr.of⟩
theorem de_disp {X : Cx} {mk : MkR} (hm : MkOk mk) {pos : Pos} {keys : List (Option Expr)} {values : List Expr} {l : List (DE × DE)} (h : PPd X pos keys values l) (hall : keys.all (·.isSome) = true := by rfl) (hl : keys.length = values.length := by rfl) (h0 : keys ≠ [] := by exact fun h => nomatch h)
    (h15 : keys.length ≤ 15 := by decide) : PEd X (.Dict keys values pos) (dDisp mk l) :=
  peI (pe_frz (pe_disp h.of hall hl h0 h15)) fun σ H Q ⟨ρ, M, E, Qd, S, R, q, xo, k⟩ => fun p n => by
    have e1 : Ev M H M (upd H p (.dK [])) := .new n
    refine lift_pairs l (S.ev e1) (R.new n) q (xo.later e1) fun ds vs M2 H2 e2 R2 r2 ⟨kvs, ek, h15, q2⟩ => ?_
    subst ek
    obtain ⟨ks, ev, kv⟩ := pp_kv r2
    have n1 : p ∉ M.i := R.mem n
    have hp : H2 p = some (.dK []) := e2.frame p _ upd_same n1
    have n2 : p ∉ M2.i := fun z => by have := e2.dom p z n1; rw [upd_same] at this; cases this
    refine ⟨hp, ks, ev, by rw [kv_len kv]; exact h15, ?_⟩
    have kt : KeepT X.K M2 H2 M2 (upd H2 p (.dK (mergeK [] ks))) := .lock hp trivial
    exact hm.of (o := .dic (mergeD [] kvs)) (M0 := M) (H0 := H) ((e1.trans e2).hid n) n n1 n2 upd_same trivial (R2.hid hp trivial n2) ⟨_, upd_same, (RepKV.merge (l := []) (ks := []) rfl kv).mono kt⟩ q2 fun v d M' H' e' R' r' q' => k v d M' H' e' R' r' q'
end DM

/-! DM: ranges as lists, stores at targets of any form: readings and their evaluation. Plain Lean. -/
namespace DM
open PySem L2
@[simp] theorem flat_int {i : Int} : flatD (.int i) = true := rfl
@[simp] theorem flat_str {i : Str} : flatD (.str i) = true := rfl
@[simp] theorem flat_bl {i : Bool} : flatD (.bl i) = true := rfl
@[simp] theorem flat_non : flatD .non = true := rfl
@[simp] theorem bels_ints {n : Nat} {l : List Int} : D.bels n (l.map D.int) = true := bels_map fun _ _ => rfl
@[simp] theorem bels_nats {n : Nat} {l : List Nat} : D.bels n (l.map fun i : Nat => D.int i) = true := bels_map fun _ _ => rfl
theorem rNe_ref {a : Nat} {l : List D} {y : D} {M : MH} {Q : DQ} (h : M[a]? = some (some (.lst l))) (hx : D.plains l = true) (hy : y.plain = true) (k : PyData.depthAll (D.pys l) ≤ 50) (q : Q (.bl (!PyData.eqv (D.lis l).py y.py)) M) : rNe (.ref a) y M Q :=
  ⟨_, _, .lst h (SeesL.pys M l hx), .py M y hy, plain_py (.lis l) hx, plain_py y hy, by show PyData.depth (.list (D.pys l)) ≤ 60; rw [PyData.depth]; omega, q⟩
theorem rEq_ref {a : Nat} {l : List D} {y : D} {M : MH} {Q : DQ} (h : M[a]? = some (some (.lst l))) (hx : D.plains l = true) (hy : y.plain = true) (k : PyData.depthAll (D.pys l) ≤ 50) (q : Q (.bl (PyData.eqv (D.lis l).py y.py)) M) : rEq (.ref a) y M Q :=
  ⟨_, _, .lst h (SeesL.pys M l hx), .py M y hy, plain_py (.lis l) hx, plain_py y hy, by show PyData.depth (.list (D.pys l)) ≤ 60; rw [PyData.depth]; omega, q⟩
@[simp] theorem eqv_nil {l : List D} : PyData.eqv (D.lis l).py (D.lis []).py = l.isEmpty := by cases l <;> simp [D.py, D.pys, PyData.eqv, PyData.eqvAll]
@[simp] theorem eqv_tnil {l : List D} : PyData.eqv (D.tup l).py (D.tup []).py = l.isEmpty := by cases l <;> simp [D.py, D.pys, PyData.eqv, PyData.eqvAll]
@[simp] theorem rRev_tup {l : List D} {mk : MkR} {M : MH} {Q : DQ} : rRev mk (.tup l) M Q ↔ Q (.tup l.reverse) M := by simp [rRev]
@[simp] theorem rRev_lis {l : List D} {mk : MkR} {M : MH} {Q : DQ} : rRev mk (.lis l) M Q ↔ mk M (.lst l.reverse) Q := by simp [rRev]
@[simp] theorem rRev_at {l : List D} {k : Nat} {mk : MkR} {M : MH} {Q : DQ} (h : M[k]? = some (some (.lst l))) : rRev mk (.ref k) M Q ↔ mk M (.lst l.reverse) Q := by simp [rRev, h]
@[simp] theorem rPlus_at {l m : List D} {k : Nat} {mk : MkR} {M : MH} {Q : DQ} (h : M[k]? = some (some (.lst l))) : rPlus mk (.ref k) (.lis m) M Q ↔ (l.length + m.length ≤ sizeLine ∧ mk M (.lst (l ++ m)) Q) := by
  show (∃ a b, _) ↔ _
  constructor
  · rintro ⟨a, b, _, _, e, e', h1⟩
    rw [seqD_at h] at e; cases e; cases e'; exact h1
  · intro h1; exact ⟨l, m, by simp, by simp, seqD_at h, rfl, h1⟩
@[simp] theorem ofS_beq {a b : String} : (Str.ofString a == Str.ofString b) = (a == b) := by
  by_cases h : a = b
  · subst h; simp
  · have h2 : Str.ofString a ≠ Str.ofString b := fun z => h (ofS_inj.mp z)
    rw [beq_eq_false_iff_ne.mpr h, beq_eq_false_iff_ne.mpr h2]
theorem plains_of : ∀ {l : List D}, (∀ x ∈ l, x.plain = true) → D.plains l = true
  | [], _ => rfl
  | x :: l, h => by rw [D.plains, h x (by simp), plains_of fun y hy => h y (by simp [hy])]; rfl
theorem deps_of {c : Nat} : ∀ {l : List D}, (∀ x ∈ l, x.py.depth ≤ c) → PyData.depthAll (D.pys l) ≤ c
  | [], _ => Nat.zero_le _
  | x :: l, h => by
    have h1 := h x (by simp)
    have h2 := deps_of (l := l) fun y hy => h y (by simp [hy])
    rw [D.pys, PyData.depthAll]; omega
theorem ne_lnil {l : List D} {M : MH} {Q : DQ} (hx : D.plains l = true) (k : PyData.depthAll (D.pys l) ≤ 50) (q : Q (.bl (!l.isEmpty)) M) : rNe (.lis l) (.lis []) M Q := by
  refine rNe_of hx rfl (by rw [D.py, PyData.depth]; omega) ?_
  rw [eqv_nil]; exact q
abbrev DRg := DSt → MH → XQ → (Int → Int → MH → Prop) → Prop
def dRg1 (a : DE) : DRg := fun ρ M E Q => a ρ M E fun x M1 => asI x fun j => Q 0 j M1
def dRg2 (a b : DE) : DRg := fun ρ M E Q => a ρ M E fun x M1 => b ρ M1 E fun y M2 => asI x fun i => asI y fun j => Q i j M2
def rgOk (i j : Int) : Prop := -(2 ^ 62) ≤ i ∧ i < 2 ^ 62 ∧ -(2 ^ 62) ≤ j ∧ j < 2 ^ 62 ∧ (j - i).toNat ≤ 2 ^ 24
/-- list(range(..)), tuple(range(..)) -/
def dLstRg (mk : MkR) (r : DRg) : DE := fun ρ M E Q => r ρ M E fun i j M1 => rgOk i j ∧ mk M1 (.lst (rangeD i (j - i).toNat)) Q
def dTupRg (r : DRg) : DE := fun ρ M E Q => r ρ M E fun i j M1 => rgOk i j ∧ Q (.tup (rangeD i (j - i).toNat)) M1
/-- targets of any form -/
abbrev GD := D → DSt → MH → XQ → (DSt → MH → Prop) → Prop
abbrev GDs := List D → DSt → MH → XQ → (DSt → MH → Prop) → Prop
def gdTg (g : Tg) : GD := fun d ρ M _ Q => g.store d ρ fun ρ' => Q ρ' M
def gdIx (o i : DE) : GD := fun v ρ M E Q => o ρ M E fun x M1 => i ρ M1 E fun k M2 => rSet x k v M2 fun M3 => Q ρ M3
def gdNil : GDs := fun ds ρ M _ Q => ds = [] ∧ Q ρ M
def gdCons (g : GD) (r : GDs) : GDs := fun ds ρ M E Q => ∃ d l, ds = d :: l ∧ g d ρ M E fun ρ1 M1 => r l ρ1 M1 E Q
def gdTup (n : Nat) (g : GDs) : GD := fun d ρ M E Q => ∃ l, d = .tup l ∧ l.length = n ∧ g l ρ M E Q
def dAsgG (e : DE) (g : GD) : DS := fun E ρ M => e ρ M (xAt E ρ) fun x M1 => g x ρ M1 noX fun ρ' M2 => E.nx ρ' M2
def as3 (ds : List D) (B : D → D → D → Prop) : Prop := ∃ x y z, ds = [x, y, z] ∧ B x y z
@[simp] theorem as3_ {x y z : D} {B : D → D → D → Prop} : as3 [x, y, z] B ↔ B x y z := ⟨fun ⟨_, _, _, e, h⟩ => by cases e; exact h, fun h => ⟨x, y, z, rfl, h⟩⟩
/-- a, b, c = e1, e2, e3 -/
def dPar3 (i j l : Nat) (a : DA) : DS := fun E ρ M => a ρ M (xAt E ρ) fun ds M1 => as3 ds fun x y z => E.nx (((ρ.set i (some x)).set j (some y)).set l (some z)) M1
/-! ### dicts whose keys are tuples -/
def keysD : List D → Option (List Key)
  | [] => some []
  | d :: l => match d.key, keysD l with
    | some k, some r => some (k :: r)
    | _, _ => none
def ditD (M : MH) : D → Option (List (List Key × D))
  | .ref k => match M[k]? with
    | some (some (.dit l)) => some l
    | _ => none
  | _ => none
def ditQ (M : MH) (x : D) (ds : List D) (R : List (List Key × D) → List Key → Prop) : Prop := ∃ l k, ditD M x = some l ∧ keysD ds = some k ∧ R l k
def dDicT : DE := fun _ M _ Q => newD M (.dit []) Q
def dItemT (a : DE) (A : DA) : DE := fun ρ M E Q => a ρ M E fun x M1 => A ρ M1 E fun ds M2 => ds.length ≤ sizeLine ∧ ditQ M2 x ds fun l k => ∃ d, lookD l k = some d ∧ Q d M2
def dInT (neg : Bool) (A : DA) (b : DE) : DE := fun ρ M E Q => A ρ M E fun ds M1 => ds.length ≤ sizeLine ∧ b ρ M1 E fun x M2 => ditQ M2 x ds fun l k => Q (.bl ((lookD l k).isSome != neg)) M2
def dGetT2 (a : DE) (A : DA) (c : DE) : DE := fun ρ M E Q => a ρ M E fun x M1 => (∃ l, ditD M1 x = some l) ∧ A ρ M1 E fun ds M2 => ds.length ≤ sizeLine ∧ c ρ M2 E fun z M3 => ditQ M3 x ds fun l k => Q ((lookD l k).getD z) M3
def dSetT (e a : DE) (A : DA) : DS := fun E ρ M => e ρ M (xAt E ρ) fun v M1 => a ρ M1 (xAt E ρ) fun x M2 => A ρ M2 (xAt E ρ) fun ds M3 => ds.length ≤ sizeLine ∧ ∃ p, x = .ref p ∧ ditQ M3 x ds fun l k => l.length < sizeLine ∧ E.nx ρ (M3.set p (some (.dit (putD l k v))))
/-! ### walks of dicts -/
inductive DW where
  | keys | vals | items
def walkD : DW → List (Key × D) → List D
  | .keys, l => l.map fun p => kD p.1
  | .vals, l => l.map fun p => p.2
  | .items, l => l.map pairD
/-- a dict that is not written to: a value, or one that is walked -/
def fzQ (M : MH) (x : D) (R : List (Key × D) → Prop) : Prop := (∃ ks vs, x = .dct ks vs ∧ R (ks.zip vs)) ∨ ∃ p l, x = .ref p ∧ M[p]? = some (some (.dfz l)) ∧ R l
def iDic (w : DW) (a : DE) : DI := fun ρ M E R => a ρ M E fun x M1 => fzQ M1 x fun l => R (walkD w l) (fun _ => True) M1
def lockE (E : DEnds) (p : Nat) (l : List (Key × D)) : DEnds :=
  { nx := fun ρ M => M[p]? = some (some (.dfz l)) ∧ E.nx ρ (M.set p (some (.dic l))), rt := fun d M => M[p]? = some (some (.dfz l)) ∧ E.rt d (M.set p (some (.dic l))), bk := fun ρ M => M[p]? = some (some (.dfz l)) ∧ E.bk ρ (M.set p (some (.dic l))), ct := fun ρ M => M[p]? = some (some (.dfz l)) ∧ E.ct ρ (M.set p (some (.dic l))), ex := fun c fs ρ M => E.ex c fs ρ (M.set p none) }
/-- a statement while a dict is walked -/
def dLock (t : DS) : DS := fun E ρ M => t E ρ M ∨ ∃ p l, M[p]? = some (some (.dic l)) ∧ t (lockE E p l) ρ (M.set p (some (.dfz l)))
/-- an expression while a dict is walked -/
def dLockE (e : DE) : DE := fun ρ M E Q => e ρ M E Q ∨ ∃ p l, M[p]? = some (some (.dic l)) ∧ e ρ (M.set p (some (.dfz l))) noX fun d M2 => M2[p]? = some (some (.dfz l)) ∧ Q d (M2.set p (some (.dic l)))
/-- xs.index(k) of a list of ints -/
def mIndex : D → BD := fun x ds M Q => ∃ (ns : List Int) (k : Int), seqD M x = some (ns.map D.int) ∧ (∀ l', x ≠ .tup l') ∧ ds = [.int k] ∧ k ∈ ns ∧ Q (.int ((ns.idxOf k : Nat) : Int)) M
def isLsq (M : MH) (x : D) : Prop := ∃ l, seqD M x = some l ∧ ∀ l', x ≠ .tup l'
theorem isLsq_lis {M : MH} {l : List D} : isLsq M (.lis l) := ⟨l, rfl, fun _ e => nomatch e⟩
theorem mIndex_lis {M : MH} {ns : List Int} {k : Int} {Q : DQ} (h : k ∈ ns) (q : Q (.int ((ns.idxOf k : Nat) : Int)) M) : mIndex (.lis (ns.map D.int)) [.int k] M Q := ⟨ns, k, rfl, fun _ e => (nomatch e), rfl, h, q⟩
/-! ### dicts as arguments -/
def cLenD : BD := fun ds M Q => as1 ds fun x => ∃ l, dicD M x = some l ∧ Q (.int l.length) M
/-- sorted(x) of a dict with ints as keys -/
def cSortD (mk : MkR) : BD := fun ds M Q => as1 ds fun x => ∃ l, ∃ ns : List Int, dicD M x = some l ∧ l.map (·.1) = ns.map Sum.inl ∧ ns.length < 64 ∧ ∀ ns' : List Int, ns'.Perm ns → ns'.Pairwise (· ≤ ·) → mk M (.lst (ns'.map D.int)) Q
/-- dict(x) of a dict -/
def cDictD (mk : MkR) : BD := fun ds M Q => as1 ds fun x => ∃ l, dicD M x = some l ∧ mk M (.dic l) Q
def eqK (l m : List (Key × D)) : Bool := l.length == m.length && l.all fun p => match lookD m p.1 with
  | some y => PyData.eqv p.2.py y.py
  | none => false
def okK (l : List (Key × D)) : Prop := ∀ p ∈ l, p.2.plain = true ∧ p.2.py.depth ≤ 50
def rEqK : RD2 := fun x y M Q => ∃ l m, dicD M x = some l ∧ dicD M y = some m ∧ okK l ∧ okK m ∧ Q (.bl (eqK l m)) M
def rNeK : RD2 := fun x y M Q => ∃ l m, dicD M x = some l ∧ dicD M y = some m ∧ okK l ∧ okK m ∧ Q (.bl (!eqK l m)) M
/-- x.clear() -/
def dClear (a : DE) : DE := fun ρ M E Q => a ρ M E fun x M1 => ∃ p l, x = .ref p ∧ M1[p]? = some (some (.dic l)) ∧ Q .non (M1.set p (some (.dic [])))
/-- list(x.items()) -/
def dItemsL (mk : MkR) (a : DE) : DE := fun ρ M E Q => a ρ M E fun x M1 => ∃ p l, x = .ref p ∧ M1[p]? = some (some (.dic l)) ∧ mk M1 (.lst (l.map pairD)) Q
section
variable {ρ : DSt} {M : MH} {X : XQ} {Q : DQ} {d : D} {a b e o i : DE} {E : DEnds} {g : GD} {gs : GDs} {l : List D} {n : Nat} {mk : MkR} {r : DRg} {R : DSt → MH → Prop} {t : Tg} {Z : Int → Int → MH → Prop}
@[simp ↓] theorem dRg1_ : dRg1 a ρ M X Z ↔ a ρ M X (hold (fun x M1 => asI x (hold (fun j => Z 0 j M1) ⟨⟩)) ⟨⟩) := Iff.rfl
@[simp ↓] theorem dRg2_ : dRg2 a b ρ M X Z ↔ a ρ M X (hold (fun x M1 => b ρ M1 X (hold (fun y M2 => asI x (hold (fun i => asI y (hold (fun j => Z i j M2) ⟨⟩)) ⟨⟩)) ⟨⟩)) ⟨⟩) := Iff.rfl
@[simp ↓] theorem dLstRg_ : dLstRg mk r ρ M X Q ↔ r ρ M X (hold (fun i j M1 => rgOk i j ∧ mk M1 (.lst (rangeD i (j - i).toNat)) Q) ⟨⟩) := Iff.rfl
@[simp ↓] theorem dTupRg_ : dTupRg r ρ M X Q ↔ r ρ M X (hold (fun i j M1 => rgOk i j ∧ Q (.tup (rangeD i (j - i).toNat)) M1) ⟨⟩) := Iff.rfl
@[simp ↓] theorem dPar3_ {i j l : Nat} {A : DA} : dPar3 i j l A E ρ M ↔ A ρ M (xAt E ρ) (hold (fun ds M1 => as3 ds (hold (fun x y z => E.nx (((ρ.set i (some x)).set j (some y)).set l (some z)) M1) ⟨⟩)) ⟨⟩) := Iff.rfl
@[simp ↓] theorem dDicT_ : dDicT ρ M X Q ↔ newD M (.dit []) Q := Iff.rfl
@[simp ↓] theorem dItemT_ {A : DA} : dItemT a A ρ M X Q ↔ a ρ M X (hold (fun x M1 => A ρ M1 X (hold (fun ds M2 => ds.length ≤ sizeLine ∧ ditQ M2 x ds fun l k => ∃ d, lookD l k = some d ∧ Q d M2) ⟨⟩)) ⟨⟩) := Iff.rfl
@[simp ↓] theorem dInT_ {A : DA} {neg : Bool} : dInT neg A b ρ M X Q ↔ A ρ M X (hold (fun ds M1 => ds.length ≤ sizeLine ∧ b ρ M1 X (hold (fun x M2 => ditQ M2 x ds fun l k => Q (.bl ((lookD l k).isSome != neg)) M2) ⟨⟩)) ⟨⟩) := Iff.rfl
@[simp ↓] theorem dGetT2_ {A : DA} : dGetT2 a A b ρ M X Q ↔ a ρ M X (hold (fun x M1 => (∃ l, ditD M1 x = some l) ∧ A ρ M1 X (hold (fun ds M2 => ds.length ≤ sizeLine ∧ b ρ M2 X (hold (fun z M3 => ditQ M3 x ds fun l k => Q ((lookD l k).getD z) M3) ⟨⟩)) ⟨⟩)) ⟨⟩) := Iff.rfl
@[simp ↓] theorem dSetT_ {A : DA} : dSetT e a A E ρ M ↔ e ρ M (xAt E ρ) (hold (fun v M1 => a ρ M1 (xAt E ρ) (hold (fun x M2 => A ρ M2 (xAt E ρ) (hold (fun ds M3 => ds.length ≤ sizeLine ∧ ∃ p, x = .ref p ∧ ditQ M3 x ds fun l k => l.length < sizeLine ∧ E.nx ρ (M3.set p (some (.dit (putD l k v))))) ⟨⟩)) ⟨⟩)) ⟨⟩) := Iff.rfl
@[simp] theorem ditD_at {k : Nat} {l : List (List Key × D)} (h : M[k]? = some (some (.dit l))) : ditD M (.ref k) = some l := by simp [ditD, h]
theorem ditQ_at {k : Nat} {l : List (List Key × D)} {ks : List Key} {ds : List D} {R : List (List Key × D) → List Key → Prop} (h : M[k]? = some (some (.dit l))) (hk : keysD ds = some ks) : ditQ M (.ref k) ds R ↔ R l ks :=
  ⟨fun ⟨l', k', e1, e2, q⟩ => by rw [ditD_at h] at e1; cases e1; rw [hk] at e2; cases e2; exact q, fun q => ⟨l, ks, ditD_at h, hk, q⟩⟩
@[simp ↓] theorem iDic_ {w : DW} {Z : List D → (MH → Prop) → MH → Prop} : iDic w a ρ M X Z ↔ a ρ M X (hold (fun x M1 => fzQ M1 x (hold (fun l => Z (walkD w l) (fun _ => True) M1) ⟨⟩)) ⟨⟩) := Iff.rfl
@[simp ↓] theorem fzQ_dct {ks : List Key} {vs : List D} {R : List (Key × D) → Prop} : fzQ M (.dct ks vs) R ↔ R (ks.zip vs) :=
  ⟨fun h => by
    rcases h with ⟨_, _, e, r⟩ | ⟨_, _, e, _⟩ <;> cases e
    exact r, fun r => .inl ⟨ks, vs, rfl, r⟩⟩
theorem fzQ_at {k : Nat} {l : List (Key × D)} {R : List (Key × D) → Prop} (h : M[k]? = some (some (.dfz l))) : fzQ M (.ref k) R ↔ R l := by simp [fzQ, h]
theorem dLock_of {t : DS} {k : Nat} {l : List (Key × D)} (h : M[k]? = some (some (.dic l))) (q : t (lockE E k l) ρ (M.set k (some (.dfz l)))) : dLock t E ρ M := .inr ⟨k, l, h, q⟩
theorem dLockE_of {k : Nat} {l : List (Key × D)} (h : M[k]? = some (some (.dic l))) (q : e ρ (M.set k (some (.dfz l))) noX fun d M2 => M2[k]? = some (some (.dfz l)) ∧ Q d (M2.set k (some (.dic l)))) : dLockE e ρ M X Q := .inr ⟨k, l, h, q⟩
@[simp ↓] theorem gdTg_ : gdTg t d ρ M X R ↔ t.store d ρ (hold (fun ρ' => R ρ' M) ⟨⟩) := Iff.rfl
@[simp ↓] theorem gdIx_ : gdIx o i d ρ M X R ↔ o ρ M X (hold (fun x M1 => i ρ M1 X (hold (fun k M2 => rSet x k d M2 (hold (fun M3 => R ρ M3) ⟨⟩)) ⟨⟩)) ⟨⟩) := Iff.rfl
@[simp ↓] theorem gdNil_ : gdNil [] ρ M X R ↔ R ρ M := ⟨fun h => h.2, fun h => ⟨rfl, h⟩⟩
@[simp ↓] theorem gdCons_ : gdCons g gs (d :: l) ρ M X R ↔ g d ρ M X (hold (fun ρ1 M1 => gs l ρ1 M1 X R) ⟨⟩) := ⟨fun ⟨_, _, e, h⟩ => by cases e; exact h, fun h => ⟨d, l, rfl, h⟩⟩
@[simp ↓] theorem gdTup_ : gdTup n gs (.tup l) ρ M X R ↔ l.length = n ∧ gs l ρ M X R := ⟨fun ⟨_, e, h⟩ => by cases e; exact h, fun h => ⟨l, rfl, h⟩⟩
@[simp ↓] theorem dAsgG_ : dAsgG e g E ρ M ↔ e ρ M (xAt E ρ) (hold (fun x M1 => g x ρ M1 noX (hold (fun ρ' M2 => E.nx ρ' M2) ⟨⟩)) ⟨⟩) := Iff.rfl
@[simp] theorem cLenD_ {x : D} {l : List (Key × D)} (h : dicD M x = some l) : cLenD [x] M Q ↔ Q (.int l.length) M := by simp [cLenD, h]
@[simp] theorem cDictD_ {x : D} {l : List (Key × D)} (h : dicD M x = some l) : cDictD mk [x] M Q ↔ mk M (.dic l) Q := by simp [cDictD, h]
@[simp] theorem cSortD_ {x : D} {l : List (Key × D)} (h : dicD M x = some l) : cSortD mk [x] M Q ↔ ∃ ns : List Int, l.map (·.1) = ns.map Sum.inl ∧ ns.length < 64 ∧ ∀ ns' : List Int, ns'.Perm ns → ns'.Pairwise (· ≤ ·) → mk M (.lst (ns'.map D.int)) Q := by simp [cSortD, h]
@[simp ↓] theorem dClear_ : dClear a ρ M X Q ↔ a ρ M X (hold (fun x M1 => ∃ p l, x = .ref p ∧ M1[p]? = some (some (.dic l)) ∧ Q .non (M1.set p (some (.dic [])))) ⟨⟩) := Iff.rfl
@[simp ↓] theorem dItemsL_ : dItemsL mk a ρ M X Q ↔ a ρ M X (hold (fun x M1 => ∃ p l, x = .ref p ∧ M1[p]? = some (some (.dic l)) ∧ mk M1 (.lst (l.map pairD)) Q) ⟨⟩) := Iff.rfl
@[simp] theorem dicD_dfz {k : Nat} {l : List (Key × D)} (h : M[k]? = some (some (.dfz l))) : dicD M (.ref k) = some l := by simp [dicD, h]
theorem eqK_nil {l : List (Key × D)} : eqK l [] = l.isEmpty := by cases l <;> simp [eqK]
/-- like keys with like values, in whatever order -/
theorem eqK_same {l m : List (Key × D)} (hl : l.length = m.length) (ok : okK l) (h : ∀ p ∈ l, lookD m p.1 = some p.2) : eqK l m = true := by
  simp only [eqK, hl, beq_self_eq_true, Bool.true_and, List.all_eq_true]
  intro p hp
  rw [h p hp]
  exact SeqAt.eqv_refl_plain _ (plain_py _ (ok p hp).1)
end
/-- sorted(set(t)) -/
def dSrtS (mk : MkR) (a : DE) : DE := fun ρ M E Q => a ρ M E fun x M1 => ∃ ns : List Int, x = .tup (ns.map D.int) ∧ ns.length < 64 ∧ ∀ ns' : List Int, ns'.Pairwise (· < ·) → (∀ k, k ∈ ns' ↔ k ∈ ns) → mk M1 (.lst (ns'.map D.int)) Q
@[simp ↓] theorem dSrtS_ {ρ : DSt} {M : MH} {X : XQ} {Q : DQ} {a : DE} {mk : MkR} : dSrtS mk a ρ M X Q ↔ a ρ M X (hold (fun x M1 => ∃ ns : List Int, x = .tup (ns.map D.int) ∧ ns.length < 64 ∧ ∀ ns' : List Int, ns'.Pairwise (· < ·) → (∀ k, k ∈ ns' ↔ k ∈ ns) → mk M1 (.lst (ns'.map D.int)) Q) ⟨⟩) := Iff.rfl
/-- x in l of plain data -/
def rInP : RD2 := fun x y M Q => ∃ p qs, Sees M x p ∧ (Sees M y (.list qs) ∨ Sees M y (.tuple qs)) ∧ p.plain = true ∧ PyData.plainAll qs = true ∧ p.depth ≤ 50 ∧ Q (.bl (qs.any fun q => PyData.eqv q p)) M
theorem rInP_lis {x : D} {l : List D} {M : MH} {Q : DQ} (hx : x.plain = true) (hl : D.plains l = true) (k : x.py.depth ≤ 50) (q : Q (.bl ((D.pys l).any fun q => PyData.eqv q x.py)) M) : rInP x (.lis l) M Q :=
  ⟨_, _, .py M x hx, .inl (.lis (.pys M l hl)), plain_py x hx, plains_py l hl, k, q⟩
theorem rInP_tup {x : D} {l : List D} {M : MH} {Q : DQ} (hx : x.plain = true) (hl : D.plains l = true) (k : x.py.depth ≤ 50) (q : Q (.bl ((D.pys l).any fun q => PyData.eqv q x.py)) M) : rInP x (.tup l) M Q :=
  ⟨_, _, .py M x hx, .inr (.tup (.pys M l hl)), plain_py x hx, plains_py l hl, k, q⟩
/-- sorted(set(l)) of a list -/
def dSrtL (mk : MkR) (a : DE) : DE := fun ρ M E Q => a ρ M E fun x M1 => ∃ ns U : List Int, noTup x ∧ seqD M1 x = some (ns.map D.int) ∧ (∀ k ∈ ns, k ∈ U) ∧ U.length < 64 ∧ ns.length ≤ 4000 ∧ ∀ ns' : List Int, ns'.Pairwise (· < ·) → (∀ k, k ∈ ns' ↔ k ∈ ns) → mk M1 (.lst (ns'.map D.int)) Q
@[simp ↓] theorem dSrtL_ {ρ : DSt} {M : MH} {X : XQ} {Q : DQ} {a : DE} {mk : MkR} : dSrtL mk a ρ M X Q ↔ a ρ M X (hold (fun x M1 => ∃ ns U : List Int, noTup x ∧ seqD M1 x = some (ns.map D.int) ∧ (∀ k ∈ ns, k ∈ U) ∧ U.length < 64 ∧ ns.length ≤ 4000 ∧ ∀ ns' : List Int, ns'.Pairwise (· < ·) → (∀ k, k ∈ ns' ↔ k ∈ ns) → mk M1 (.lst (ns'.map D.int)) Q) ⟨⟩) := Iff.rfl
/-- len(o) by its own __len__ -/
def cLenM (tbl : List (Str × SpD)) : BD := fun ds M Q => as1 ds fun x => ∃ c fs sp, insD M x = some (c, fs) ∧ tbl.lookup c = some sp ∧ sp [x] M noX fun d M2 => ∃ i : Int, d = .int i ∧ 0 ≤ i ∧ i < 2 ^ 62 ∧ Q (.int i) M2
@[simp] theorem cLenM_ {tbl : List (Str × SpD)} {M : MH} {Q : DQ} {n : Nat} {c : Str} {fs : Fs} {sp : SpD} (h : M[n]? = some (some (.ins c fs))) (ht : tbl.lookup c = some sp) : cLenM tbl [.ref n] M Q ↔ sp [.ref n] M noX fun d M2 => ∃ i : Int, d = .int i ∧ 0 ≤ i ∧ i < 2 ^ 62 ∧ Q (.int i) M2 := by
  simp [cLenM, insD, h, ht]
/-- dict([(k, v), ..]) -/
def cDictP (mk : MkR) : BD := fun ds M Q => as1 ds fun x => ∃ l : List (Key × D), (∀ l', x ≠ .tup l') ∧ seqD M x = some (l.map pairD) ∧ mk M (.dic (mergeD [] l)) Q
theorem cDictP_lis {mk : MkR} {M : MH} {Q : DQ} {l : List (Key × D)} (q : mk M (.dic (mergeD [] l)) Q) : cDictP mk [.lis (l.map pairD)] M Q := ⟨_, rfl, l, fun _ e => (nomatch e), rfl, q⟩
/-- tuple(xs) of a list: the tuple is a cell, known to have no dict -/
def cTupleP : BD := fun ds M Q => ∃ x l, ds = [x] ∧ (∀ l', x ≠ .tup l') ∧ seqD M x = some l ∧ newD M (.ptp l) Q
theorem cTupleP_lst {M : MH} {Q : DQ} {n : Nat} {l : List D} (h : M[n]? = some (some (.lst l))) (q : Q (.ref M.length) (M ++ [some (.ptp l)])) : cTupleP [.ref n] M Q := ⟨_, l, rfl, fun _ e => (nomatch e), by simp [seqD, h], q⟩
/-- dict(t) of such a tuple of pairs -/
def cDictT (mk : MkR) : BD := fun ds M Q => ∃ n l, ds = [.ref n] ∧ M[n]? = some (some (.ptp (l.map pairD))) ∧ mk M (.dic (mergeD [] l)) Q
theorem cDictT_at {mk : MkR} {M : MH} {Q : DQ} {n : Nat} {l : List (Key × D)} (h : M[n]? = some (some (.ptp (l.map pairD)))) (q : mk M (.dic (mergeD [] l)) Q) : cDictT mk [.ref n] M Q := ⟨n, l, rfl, h, q⟩
/-- sorted(l) of a list of tuples of d ints in [0, B), or of at most one of them -/
def cSrtT (mk : MkR) : BD := fun ds M Q => as1 ds fun x => ∃ (ls : List (List Int)) (d : Nat) (B : Int), noTup x ∧ seqD M x = some (ls.map fun ns => D.tup (ns.map D.int)) ∧ ls.length < 64 ∧ (1 ≤ d ∨ ls.length ≤ 1) ∧ (∀ ns ∈ ls, ns.length = d ∧ ∀ n ∈ ns, 0 ≤ n ∧ n < B) ∧
  ∀ ls' : List (List Int), ls'.Perm ls → mk M (.lst (ls'.map fun ns => D.tup (ns.map D.int))) Q
/-! ### like tuples in which dicts stand -/
def likeI (M : MH) (x y : D) : Prop := (∃ p q, Sees M x p ∧ Sees M y q ∧ p.plain = true ∧ q.plain = true ∧ p.depth ≤ 50 ∧ PyData.eqv p q = true) ∨ ∃ l m, dicD M x = some l ∧ dicD M y = some m ∧ okK l ∧ okK m ∧ eqK l m = true
def likeT (M : MH) : List D → List D → Prop
  | [], [] => True
  | x :: l, y :: m => likeI M x y ∧ likeT M l m
  | _, _ => False
def rEqU : RD2 := fun x y M Q => ∃ l m, x = .tup l ∧ y = .tup m ∧ likeT M l m ∧ Q (.bl true) M
def rNeU : RD2 := fun x y M Q => ∃ l m, x = .tup l ∧ y = .tup m ∧ likeT M l m ∧ Q (.bl false) M
theorem likeI_plain {M : MH} {x y : D} (h : x.plain = true) (k : x.py.depth ≤ 50) (e : x = y) : likeI M x y := by
  subst e
  exact .inl ⟨_, _, Sees.py M x h, Sees.py M x h, plain_py x h, plain_py x h, k, SeqAt.eqv_refl_plain _ (plain_py x h)⟩
theorem likeI_dic {M : MH} {x y : D} {l m : List (Key × D)} (h1 : dicD M x = some l) (h2 : dicD M y = some m) (o1 : okK l) (o2 : okK m) (e : eqK l m = true) : likeI M x y := .inr ⟨l, m, h1, h2, o1, o2, e⟩
/-! ### calls by parameter names -/
/-- where a parameter's value comes from: the written values, in their order; a default -/
inductive Pk where
  | at (i : Nat) | df (i : Int)
def pickD (is : List Pk) (xs : List D) : List D := is.map fun | .at i => xs.getD i .non | .df i => .int i
@[simp] theorem pickD_nil {xs : List D} : pickD [] xs = [] := rfl
@[simp] theorem pickD_at {xs : List D} {i : Nat} {is : List Pk} : pickD (.at i :: is) xs = xs.getD i .non :: pickD is xs := rfl
@[simp] theorem pickD_df {xs : List D} {i : Int} {is : List Pk} : pickD (.df i :: is) xs = .int i :: pickD is xs := rfl
/-- the written values, then the keywords' -/
def dCallP (n m : Nat) (sp : SpD) (is : List Pk) (a b : DA) : DE := fun ρ M E Q => a ρ M E fun xs M1 => b ρ M1 E fun ys M2 => xs.length = n ∧ ys.length = m ∧ sp (pickD is (xs ++ ys)) M2 E Q
@[simp ↓] theorem dCallP_ {n m : Nat} {sp : SpD} {is : List Pk} {a b : DA} {ρ : DSt} {M : MH} {X : XQ} {Q : DQ} : dCallP n m sp is a b ρ M X Q ↔ a ρ M X (hold (fun xs M1 => b ρ M1 X (hold (fun ys M2 => xs.length = n ∧ ys.length = m ∧ sp (pickD is (xs ++ ys)) M2 X Q) ⟨⟩)) ⟨⟩) := Iff.rfl
end DM

/-! DM: x[::-1] of lists and tuples. -/
namespace DM
open PySem PySem.Spec L2
section
open PyProof.Rows
variable {prog : Program} {w : World} {A : Around} {E : Value → Shared → Prop} {s : Shared}
theorem rv_applied {sl : Addr} {a b c : Value} {n : Nat} {Q : Int × Int × Nat → Shared → Prop} (hs : s.heap.IsSliceOf sl a b c) (pa : IsPart a none) (pb : IsPart b none) (pc : IsPart c (some (-1)))
    (h : Q ((n : Int) - 1, -1, n) s) : wpAny (model prog w) A (Builtin.Slice.sliceApplied (.ref sl) (pure (n : Int))) Q E s := by
  obtain ⟨o, h1, h2, h3⟩ := id hs
  unfold Builtin.Slice.sliceApplied Builtin.Slice.sliceFields
  refine wpAny_bind (wpAny_bind ?_)
  refine wpAny_field h1 h3 (x := a) rfl (wpAny_bind ?_)
  refine wpAny_field h1 h3 (x := b) rfl (wpAny_bind ?_)
  refine wpAny_field h1 h3 (x := c) rfl (wpAny_pure ?_)
  refine wpAny_bind ?_
  refine HT.slicePart_ pc ?_
  have z : ¬ (((some (-1 : Int)).getD 1 == 0) = true) := by decide
  show wpAny _ _ (if ((-1 : Int) == 0) = true then _ else _) _ _ s
  rw [if_neg (by decide)]
  refine wpAny_bind ?_
  refine HT.slicePart_ pa (wpAny_bind ?_)
  refine HT.slicePart_ pb (wpAny_bind (wpAny_pure ?_))
  have e1 : Builtin.Slice.sliceAdjust none none (-1) (n : Int) = ((n : Int) - 1, -1) := rfl
  have e2 : Builtin.Slice.slicePlaces ((n : Int) - 1) (-1) (-1) = n := by
    unfold Builtin.Slice.slicePlaces
    by_cases h0 : n = 0
    · subst h0; decide
    · have g : ((n : Int) - 1) > -1 := by omega
      rw [if_neg (show ¬ ((-1 : Int) > 0) by decide), if_pos g]
      have : ((n : Int) - 1 - -1 - 1) / (- -1) + 1 = n := by rw [show (- -1 : Int) = 1 from rfl, Int.ediv_one]; omega
      rw [this]; exact Int.toNat_natCast n
  show wpAny _ _ (match Builtin.Slice.sliceAdjust none none (-1) (n : Int) with | (lo, hi) => pure (lo, (-1 : Int), Builtin.Slice.slicePlaces lo hi (-1))) _ _ s
  rw [e1]
  show wpAny _ _ (pure (((n : Int) - 1), (-1 : Int), Builtin.Slice.slicePlaces ((n : Int) - 1) (-1) (-1))) _ _ s
  rw [e2]
  exact wpAny_pure h
theorem rv_fm {α : Type} {f g : Nat → Option α} : ∀ {l : List Nat}, (∀ m ∈ l, f m = g m) → l.filterMap f = l.filterMap g
  | [], _ => rfl
  | x :: l, h => by
    have ih := rv_fm (l := l) fun m hm => h m (List.mem_cons_of_mem _ hm)
    simp only [List.filterMap_cons, h x (List.mem_cons_self ..), ih]
theorem rv_pick (xs : Array Value) : ((List.range xs.size).filterMap fun (m : Nat) => xs[(((xs.size : Int) - 1) + (m : Int) * (-1)).toNat]?).toArray = xs.toList.reverse.toArray := by
  congr 1
  rw [← PySem.W.krv_all xs, ← List.filterMap_reverse, ← PySem.W.krv_range, List.filterMap_map]
  refine rv_fm fun m hm => ?_
  have := List.mem_range.mp hm
  show xs[(((xs.size : Int) - 1) + (m : Int) * (-1)).toNat]? = xs[xs.size - 1 - m]?
  congr 1
  omega
/-- t[::-1] -/
theorem rv_get {t sl : Addr} {xs : Array Value} {a b c : Value} {Q : Value → Shared → Prop} (ht : IsTup s.heap t xs) (hs : s.heap.IsSliceOf sl a b c) (pa : IsPart a none) (pb : IsPart b none) (pc : IsPart c (some (-1)))
    (h : Q (.ref s.heap.objs.size) { s with heap := s.heap.push { cls := .type "tuple", data := .seq xs.toList.reverse.toArray } }) (hz : xs.size ≤ sizeLine) : wpAny (model prog w) A (getItem (.ref t) (.ref sl)) Q E s := by
  have fits : sizeOk (.seq xs.toList.reverse.toArray) := by
    show xs.toList.reverse.toArray.size ≤ sizeLine
    simpa using hz
  obtain ⟨o, h1, h2, h3⟩ := id hs
  have ty : s.TypeIs (.ref sl) "slice" := ⟨o, h1, h2⟩
  unfold getItem
  try with_reducible refine wpAny_holding ?_
  first | refine wpAny_bind (wpAny_pure ?_) | skip
  refine wpAny_bind ?_
  refine wpAny_sequenceKey ht.typeIs (by decide) ?_
  refine wpAny_bind (wpAny_callSpecial?_slot (name := Str.ofString "__getitem__") ht.typeIs PyProof.Rows.slot_tuple_getitem ?_)
  refine wpAny_call_entry PyProof.Rows.slot_tuple_getitem ht.typeIs entry_tuple_getitem ?_ (args_tuple_getitem _ _)
  show wpAny _ _ (Builtin.Tuple.tupleItemsOf (.ref t) >>= _) _ _ s
  refine wpAny_bind ?_
  refine tupleItemsOf_ ht ?_
  refine wpAny_bind (wpAny_typeOf ty ?_)
  rw [if_pos (by decide)]
  refine wpAny_bind (rv_applied (n := xs.size) hs pa pb pc ?_)
  have no : ¬ ((((xs.size : Int) - 1) == 0 && (-1 : Int) == 1 && xs.size == xs.size) = true) := by simp
  show wpAny _ _ (if (((xs.size : Int) - 1) == 0 && (-1 : Int) == 1 && xs.size == xs.size) = true then _ else _) _ _ s
  rw [if_neg no, rv_pick]
  first
  | exact wpAny_bind (m := Builtin.Tuple.tupleExact _) (wpAny_newObj_type (wpAny_bind (wpAny_pure (wpAny_pure ⟨_, rfl, wpAny_pure h⟩))) fits)
  | exact wpAny_bind (m := Builtin.Tuple.tupleExact _) (wpAny_newObj_type (wpAny_pure ⟨_, rfl, wpAny_pure h⟩) fits)
  | exact wpAny_bind (wpAny_bind (m := Builtin.Tuple.tupleExact _) (wpAny_newObj_type (wpAny_pure ⟨_, rfl, wpAny_pure h⟩) fits))
  | exact wpAny_bind (wpAny_bind (m := Builtin.Tuple.tupleExact _) (wpAny_newObj_type (wpAny_pure (wpAny_pure ⟨_, rfl, wpAny_pure h⟩)) fits))
end
section
variable {X : Cx} {mk : MkR}
def tRevT (K : PySem.W.Frag) (te : TE) : TE := fun σ H Q => te σ H fun x H1 => ∃ a xs, x = .ref a ∧ ((SqL K H1 a xs ∧ ∀ p, H1 p = none → Q (.ref p) (upd H1 p (.lst xs.reverse))) ∨ (SqT K H1 a xs ∧ ∀ p, H1 p = none → Q (.ref p) (upd H1 p (.tup xs.reverse))))
theorem pe_revT {e : Expr} {te : TE} {k : Nat} {p1 p2 p3 pos : Pos} (he : PE X e te) : PE X (.Subscript e (.Slice none none (some (.UnaryOp .USub (.Constant (.int 1) k p1) p2)) p3) pos) (tRevT X.K te) := by
  refine ⟨fun pins s σ H Q I h => ?_⟩
  refine PyProof.Rows.Subscript_ (thn (he.run pins s σ H _ I h) fun v s1 ⟨x, H1, I1, r1, a, xs, ex, q⟩ => ?_)
  subst ex
  cases r1
  have part : PO X (some (.UnaryOp .USub (.Constant (.int 1) k p1) p2)) (tPart (L2.tUn (rU fun i => .int (-i)) (tC (.int 1)))) := po_some (pe_un un_neg pe_int)
  refine wpAny_Slice ?_
  refine thn (po_none.run pins s1 σ H1 (fun o H2 => o = none ∧ H2 = H1) I1 ⟨rfl, rfl⟩) fun va s2 ⟨o1, H2, I2, pa, z1, z2⟩ => ?_
  subst z1; subst z2
  refine thn (po_none.run pins s2 σ _ (fun o H3 => o = none ∧ H3 = _) I2 ⟨rfl, rfl⟩) fun vb s3 ⟨o2, H3, I3, pb, z3, z4⟩ => ?_
  subst z3; subst z4
  refine thn (part.run pins s3 σ _ (fun o H4 => o = some (-1) ∧ H4 = _) I3 ⟨1, rfl, -1, rfl, rfl, rfl⟩) fun vc s4 ⟨o3, H4, I4, pc, z5, z6⟩ => ?_
  subst z5; subst z6
  have I5 : Inv X pins σ _ { s4 with heap := s4.heap.push { cls := .type "slice", data := .fields #[va, vb, vc] } } := I4.kept (t' := s4.toks) fun b ob q => Heap.get?_push_of_some _ q
  show wpAny (model X.prog X.w) X.A (PyProof.Rows.subscriptTail e (.Slice none none (some (.UnaryOp .USub (.Constant (.int 1) k p1) p2)) p3) (.ref a) (.ref s4.heap.objs.size)) (EP X pins σ Q) X.xe { s4 with heap := s4.heap.push { cls := .type "slice", data := .fields #[va, vb, vc] } }
  rcases q with ⟨hx, q⟩ | ⟨hx, q⟩
  · obtain ⟨its, r, ht, hz⟩ := I5.list hx
    have hlen := r.length
    refine PyProof.Rows.tail_any (ops := [.ref a, .ref s4.heap.objs.size]) ht.isList.typeIs (PySem.slot_list_getitem.lookup) ?_ (by with_unfolding_all rfl)
    refine PySem.wpAny_getItem_list_slice ht.isList (Heap.IsSliceOf.new _ va vb vc) pa pb pc (by decide) ?_ (by rw [List.size_toArray]; omega)
    rw [PySem.W.krv_pick]
    refine ⟨.ref _, _, I5.laid (t' := s4.toks) (o := .lst xs.reverse) (fun b ob q => Heap.get?_push_of_some _ q) (Nat.le_refl _) ?_, rfl, q _ (I5.hok.fresh (Nat.le_refl _))⟩
    exact ⟨by rw [List.length_reverse]; exact hz, _, 0, r.reverse, Heap.get?_push_size _ rfl⟩
  · obtain ⟨its, r, ht, hz⟩ := I5.tuple hx
    have hlen := r.length
    refine PyProof.Rows.tail_any (ops := [.ref a, .ref s4.heap.objs.size]) ht.typeIs (PyProof.Rows.slot_tuple_getitem.lookup) ?_ (by with_unfolding_all rfl)
    refine rv_get ht (Heap.IsSliceOf.new _ va vb vc) pa pb pc ?_ (by rw [List.size_toArray]; omega)
    refine ⟨.ref _, _, I5.laid (t' := s4.toks) (o := .tup xs.reverse) (fun b ob q => Heap.get?_push_of_some _ q) (Nat.le_refl _) ?_, rfl, q _ (I5.hok.fresh (Nat.le_refl _))⟩
    exact ⟨by rw [List.length_reverse]; exact hz, _, r.reverse, PyProof.Rows.IsTup.new _ _⟩
theorem de_rev (hmk : MkOk mk) {e : Expr} {te : DE} {k : Nat} {p1 p2 p3 pos : Pos} (he : PEd X e te) : PEd X (.Subscript e (.Slice none none (some (.UnaryOp .USub (.Constant (.int 1) k p1) p2)) p3) pos) (dUn (rRev mk) te) :=
  peI (pe_frz (pe_revT he)) fun σ H Q ⟨ρ, M, E, Qd, S, R, q, xo, k⟩ => ⟨ρ, M, E, _, S, R, q, xo, fun v d M1 H1 e1 R1 r1 q0 => by
    rcases q0 with ⟨l, ed, q1⟩ | ⟨l, nt, hx, q1⟩
    · subst ed
      obtain ⟨a, vs, ev, ht, rs⟩ := r1
      subst ev
      exact ⟨a, vs, rfl, .inr ⟨ht, fun p n => .inl (k _ (.tup l.reverse) M1 _ (e1.trans (.new n)) (R1.new n) ⟨p, _, rfl, sq_new, (Reps.rev rs).ev (Ev.new (M := M1) n)⟩ q1)⟩⟩
    · obtain ⟨a, vs, ev, rs, hs⟩ := sq_of R1 r1 hx
      subst ev
      rcases hs with ⟨z, _⟩ | ⟨_, hs⟩
      · exact absurd z (nt _)
      exact ⟨a, vs, rfl, .inl ⟨hs.l, fun p n => hmk.new R1 n trivial (o := .lst l.reverse) ⟨_, upd_same, (Reps.rev rs).ev (Ev.new (M := M1) n)⟩ q1 fun v d M' H' e' R' r' q' => k v d M' H' (e1.trans e') R' r' q'⟩⟩⟩
end
end DM

/-! DM: rules for the readings of DMPlus. -/
namespace DM
open PySem PySem.Spec L2
section
variable {X : Cx} {e a b o i : Expr} {es : List Expr} {ta tb te to ti : DE} {pos : Pos} {mk : MkR}
def PRgd (X : Cx) (e : Expr) (t : DRg) : Prop := ∃ r, PRg X e r ∧ ∀ (σ : L2.St) (H : Hp) (Q : Int → Int → Hp → Prop) (ρ : DSt) (M : MB) (E : XQ) (Qd : Int → Int → MH → Prop), Slots X.K M H ρ σ → MR X.K X.mg M H → t ρ M.m E Qd → XOk X M σ H E →
  (∀ i j M' H', Ev M H M' H' → MR X.K X.mg M' H' → Qd i j M'.m → Q i j H') → r σ H Q
theorem prd_1 {p : Pos} (hm : X.mg "range" = none) (ha : PEd X a ta) (hg : Gl X "range" := by rfl) (na : starEach [a] X.env = (false, eval a X.env) :: starEach [] X.env := by rfl) : PRgd X (.Call (.Name "range" p) [a] [] pos) (dRg1 ta) :=
  ⟨_, prg_1 hg hm ha na, fun σ H Q ρ M E Qd S R q xo k => ⟨ρ, M, E, _, S, R, q, xo, fun v d M1 H1 e1 R1 r1 ⟨j, ej, q1⟩ => by
    subst ej
    cases r1
    exact ⟨j, rfl, k 0 j M1 H1 e1 R1 q1⟩⟩⟩
theorem prd_2 {p : Pos} (hm : X.mg "range" = none) (ha : PEd X a ta) (hb : PEd X b tb) (hg : Gl X "range" := by rfl) (na : starEach [a, b] X.env = (false, eval a X.env) :: starEach [b] X.env := by rfl)
    (nb : starEach [b] X.env = (false, eval b X.env) :: starEach [] X.env := by rfl) (hp : (backTo pos (starEach [b] X.env)).any (·.1) = false := by rfl) : PRgd X (.Call (.Name "range" p) [a, b] [] pos) (dRg2 ta tb) :=
  ⟨_, prg_2 hg hm ha hb na nb hp, fun σ H Q ρ M E Qd S R q xo k => ⟨ρ, M, E, _, S, R, q, xo, fun v d M1 H1 e1 R1 r1 q1 => ⟨ρ, M1, E, _, S.ev e1, R1, q1, xo.later e1, fun v2 d2 M2 H2 e2 R2 r2 ⟨x, ex, y, ey, q2⟩ => by
    subst ex; subst ey
    cases r1; cases r2
    exact ⟨x, y, rfl, rfl, k x y M2 H2 (e1.trans e2) R2 q2⟩⟩⟩⟩
theorem reps_rg {K : PySem.W.Frag} {M : MB} {H : Hp} (i j : Int) : Reps K M H (rangeD i (j - i).toNat) (rgV i j) := by
  rw [rangeD_map]
  unfold rgV
  have : ∀ l : List Nat, Reps K M H (l.map fun k : Nat => D.int (i + k)) (l.map fun k : Nat => V.int (i + k)) := fun l => by
    induction l with
    | nil => exact .nil
    | cons k l ih => exact .cons rfl ih
  exact this _
theorem de_lstRg {p : Pos} {t : DRg} (hk : MkOk mk) (hc : X.calm = true) (hm : X.mg "list" = none) (he : PRgd X e t) (hg : Gl X "list" := by rfl) (na : starEach [e] X.env = (false, eval e X.env) :: starEach [] X.env := by rfl) : PEd X (.Call (.Name "list" p) [e] [] pos) (dLstRg mk t) := by
  obtain ⟨r, h1, h2⟩ := he
  exact peI (pe_frz (pe_listRg hc hg hm h1 na)) fun σ H Q ⟨ρ, M, E, Qd, S, R, q, xo, k⟩ => h2 σ H _ ρ M E _ S R q xo fun x y M1 H1 e1 R1 ⟨ok, q1⟩ => ⟨ok, fun p n =>
    hk.new R1 n trivial (o := .lst (rangeD x (y - x).toNat)) ⟨_, upd_same, reps_rg x y⟩ q1 fun v d M' H' e' R' r' q' => k v d M' H' (e1.trans e') R' r' q'⟩
theorem de_tupRg {p : Pos} {t : DRg} (hc : X.calm = true) (hm : X.mg "tuple" = none) (he : PRgd X e t) (hg : Gl X "tuple" := by rfl) (na : starEach [e] X.env = (false, eval e X.env) :: starEach [] X.env := by rfl) : PEd X (.Call (.Name "tuple" p) [e] [] pos) (dTupRg t) := by
  obtain ⟨r, h1, h2⟩ := he
  exact peI (pe_tupRg hc hg hm h1 na) fun σ H Q ⟨ρ, M, E, Qd, S, R, q, xo, k⟩ => h2 σ H _ ρ M E _ S R q xo fun x y M1 H1 e1 R1 ⟨ok, q1⟩ => ⟨ok, fun p n =>
    k (.ref p) (.tup (rangeD x (y - x).toNat)) M1 _ (e1.trans (.new n)) (R1.new n) ⟨p, _, rfl, sq_new, reps_rg x y⟩ q1⟩
/-! ### stores at targets of any form -/
def PGG (X : Cx) (tg : Expr) (g : GD) : Prop := ∃ r : TG, PG X tg r ∧ ∀ (ρ : DSt) (M : MB) (E : XQ) (σ : L2.St) (H : Hp) (d : DM.D) (v : V) (Qd : DSt → MH → Prop) (Q : L2.St → Hp → Prop), Slots X.K M H ρ σ → MR X.K X.mg M H → Rep X.K M H d v → (∀ σ', XOk X M σ' H E) → g d ρ M.m E Qd →
  (∀ ρ' σ' M' H', Ev M H M' H' → Slots X.K M' H' ρ' σ' → MR X.K X.mg M' H' → Qd ρ' M'.m → Q σ' H') → r v σ H Q
def PGGs (X : Cx) (tgs : List Expr) (g : GDs) : Prop := ∃ r : TGs, PGs X tgs r ∧ ∀ (ρ : DSt) (M : MB) (E : XQ) (σ : L2.St) (H : Hp) (ds : List DM.D) (vs : List V) (Qd : DSt → MH → Prop) (Q : L2.St → Hp → Prop), Slots X.K M H ρ σ → MR X.K X.mg M H → Reps X.K M H ds vs → (∀ σ', XOk X M σ' H E) → g ds ρ M.m E Qd →
  (∀ ρ' σ' M' H', Ev M H M' H' → Slots X.K M' H' ρ' σ' → MR X.K X.mg M' H' → Qd ρ' M'.m → Q σ' H') → r vs σ H Q
theorem gg_tg {tg : Expr} {g : Tg} (h : PGd X tg g) : PGG X tg (gdTg g) := ⟨_, h.of, fun ρ M E σ H d v Qd Q S R r xo q k => LG_ok g r S q fun ρ' σ' S' q' => k ρ' σ' M H .refl S' R q'⟩
theorem ggs_nil : PGGs X [] gdNil := ⟨_, pgs_nil, fun ρ M E σ H ds vs Qd Q S R r xo ⟨e, q⟩ k => by
  subst e; cases r
  exact ⟨rfl, k ρ σ M H .refl S R q⟩⟩
theorem ggs_cons {tg : Expr} {tgs : List Expr} {g : GD} {gs : GDs} (h1 : PGG X tg g) (h2 : PGGs X tgs gs) (hs : (assignEach (tg :: tgs) X.env).map (·.2) = assign tg X.env :: (assignEach tgs X.env).map (·.2) := by rfl) : PGGs X (tg :: tgs) (gdCons g gs) := by
  obtain ⟨r1, p1, k1⟩ := h1
  obtain ⟨r2, p2, k2⟩ := h2
  refine ⟨_, pgs_cons p1 p2 hs, fun ρ M E σ H ds vs Qd Q S R r xo ⟨d, l, e, q⟩ k => ?_⟩
  subst e
  obtain ⟨v, vr, ev, h3, h4⟩ := r
  subst ev
  exact ⟨v, vr, rfl, k1 ρ M E σ H d v _ _ S R h3 xo q fun ρ' σ' M' H' e' S' R' q' => k2 ρ' M' E σ' H' l vr Qd Q S' R' (h4.ev e') (fun σ'' => (xo σ'').later e') q' fun ρ2 σ2 M2 H2 e2 S2 R2 q2 => k ρ2 σ2 M2 H2 (e'.trans e2) S2 R2 q2⟩
theorem gg_tup {tgs : List Expr} {gs : GDs} {n k : Nat} (hc : X.calm = true) (h : PGGs X tgs gs) (hn : (assignEach tgs X.env).length = n := by rfl) (hst : (assignEach tgs X.env).findIdx? (·.1) = none := by rfl) : PGG X (.Tuple tgs k pos) (gdTup n gs) := by
  obtain ⟨r, p, kk⟩ := h
  refine ⟨_, pg_tup hc p hn hst, fun ρ M E σ H d v Qd Q S R r' xo ⟨l, e, hl, q⟩ k => ?_⟩
  subst e
  obtain ⟨a, vs, ev, ht, rs⟩ := r'
  subst ev
  exact ⟨a, vs, rfl, ht, by rw [← rs.len, hl], kk ρ M E σ H l vs Qd Q S R rs xo q k⟩
theorem kv_length {κ : Type} {K : PySem.W.Frag} {M : MB} {H : Hp} : ∀ {l : List (κ × DM.D)} {ks : List (κ × V)}, RepKV K M H l ks → l.length = ks.length
  | [], _, h => by cases h; rfl
  | (_, _) :: l, _, ⟨v, r, e, _, h⟩ => by subst e; simp [kv_length h]
/-- o[i] = v at the layer below -/
theorem set_both (hu : X.A.units + 1 < cLine) : PSet X (fun o i v H Q => L2.rSetL o i v H Q ∨ rSetD o i v H Q) := by
  intro pins s σ H o i v ov iv u Q I ro ri rv h
  rcases h with h | h
  · exact set_list pins s σ H o i v ov iv u Q I ro ri rv h
  · exact set_dict hu pins s σ H o i v ov iv u Q I ro ri rv h
theorem set_lift {M : MB} {H : Hp} {x k d : DM.D} {vx vk v : V} {P : MH → Prop} {Q : Hp → Prop} (R : MR X.K X.mg M H) (rx : Rep X.K M H x vx) (rk : Rep X.K M H k vk) (rd : Rep X.K M H d v) (q : rSet x k d M.m P)
    (kk : ∀ M' H', Ev M H M' H' → MR X.K X.mg M' H' → P M'.m → Q H') : L2.rSetL vx vk v H Q ∨ rSetD vx vk v H Q := by
  obtain ⟨c, ec, q3⟩ := q
  subst ec
  obtain ⟨a, hca, ew⟩ := rx
  subst ew
  rcases q3 with ⟨l, n, hm, en, j, hj, q3⟩ | ⟨l, n, hm, en, hz, q3⟩
  · subst en; cases rk
    obtain ⟨vs, g1, g2⟩ := R.at_ _ _ _ hca hm
    refine .inl ⟨a, vs, n, j, rfl, rfl, g1, by rw [← g2.len]; exact (ixN_D hj).1, ?_⟩
    have E := Ev.put (M := M) (H := H) (k := c) (v := some (.lst (l.set j d))) (u := .lst (vs.set j v)) hca g1 trivial
    exact kk (M.put c (some (.lst (l.set j d)))) _ E (R.put hca g1 trivial ⟨_, upd_same, (g2.set rd j).ev E⟩) q3
  · obtain ⟨vs, g1, g2⟩ := R.at_ _ _ _ hca hm
    have E := Ev.put (M := M) (H := H) (k := c) (v := some (.dic (putD l n d))) (u := .dK (putK vs n v)) hca g1 trivial
    exact .inr ⟨a, _, rfl, by rw [key_rep en rk]; exact .k g1 (by rw [← kv_length g2]; exact hz), kk (M.put c (some (.dic (putD l n d)))) _ E (R.put hca g1 trivial ⟨_, upd_same, (g2.put rd).ev E⟩) q3⟩
theorem gg_ix {tpos : Pos} (hu : X.A.units + 1 < cLine) (ho : PEd X o to) (hi : PEd X i ti)
    (ha : ∀ v, assign (.Subscript o i tpos) X.env v = (do
      let ov ← holding [v] (eval o X.env)
      let iv ← holding [v, ov] (eval i X.env)
      standAt tpos
      holding [v, ov, iv] (setItem ov iv v)
      release [v, ov, iv] []) := by intro _; rfl) : PGG X (.Subscript o i tpos) (gdIx to ti) := by
  refine ⟨_, pg_sub ho hi (set_both hu) ha, fun ρ M E σ H d v Qd Q S R r xo q k => ⟨ρ, M, E, _, S, R, q, xo σ, fun vx x M1 H1 e1 R1 r1 q1 => ⟨ρ, M1, E, _, S.ev e1, R1, q1, (xo σ).later e1, fun vk kx M2 H2 e2 R2 r2 q2 => ?_⟩⟩⟩
  exact set_lift R2 (r1.ev e2) r2 (r.ev (e1.trans e2)) q2 fun M' H' e' R' q' => k ρ σ M' H' ((e1.trans e2).trans e') (S.ev ((e1.trans e2).trans e')) R' q'
theorem ds_asgG {tg : Expr} {g : GD} (he : PEd X e te) (hg : PGG X tg g) (hs : swapsWithSole [tg] e pos.line X.env = pure false := by rfl) (hw : swappedStores [tg] e X.env = pure none := by rfl) (h1 : (assignEach [tg] X.env).map (·.2) = [assign tg X.env] := by rfl) :
    PSd X (.Assign [tg] e pos) (dAsgG te g) := by
  obtain ⟨r, p, kk⟩ := hg
  exact psI (ps_asg he p hs hw h1) fun D σ H ⟨ρ, M, De, S, R, q, k⟩ => ⟨ρ, M, _, _, S, R, q, k.xok S, fun v d M1 H1 e1 R1 r1 q1 => kk ρ M1 noX σ H1 d v _ _ (S.ev e1) R1 r1 (fun _ => .no) q1 fun ρ' σ' M' H' e' S' R' q' => k.nx σ' H' ρ' M' (e1.trans e') S' R' q'⟩
theorem ds_par3 {i j l : Nat} {x y z : Str} {a b c : Expr} {t : DA} {px py pz pt : Pos} {kt k2 pt2} (hc : X.calm = true) (hN : X.N.Nodup) (ha : PAd X [a, b, c] t) (hi : X.N[i]? = some x := by rfl) (hj : X.N[j]? = some y := by rfl) (hl : X.N[l]? = some z := by rfl) (hij : i ≠ j := by decide) (hil : i ≠ l := by decide) (hjl : j ≠ l := by decide)
    (hx : X.env.scope.names.lookup x = some .local := by rfl) (hy : X.env.scope.names.lookup y = some .local := by rfl) (hz : X.env.scope.names.lookup z = some .local := by rfl)
    (hw : swappedStores [.Tuple [.Name x px, .Name y py, .Name z pz] kt pt] (.Tuple [a, b, c] k2 pt2) X.env = pure (some [x, y, z]) := by rfl)
    (hs : swapsWithSole [.Tuple [.Name x px, .Name y py, .Name z pz] kt pt] (.Tuple [a, b, c] k2 pt2) pos.line X.env = pure false := by rfl) :
    PSd X (.Assign [.Tuple [.Name x px, .Name y py, .Name z pz] kt pt] (.Tuple [a, b, c] k2 pt2) pos) (dPar3 i j l t) := psI (ps_par3 hc hN hi hj hl hij hil hjl hx hy hz ha hw hs) fun D σ H ⟨ρ, M, De, S, R, q, k⟩ =>
  ⟨ρ, M, _, _, S, R, q, k.xok S, fun vs ds M1 H1 e1 R1 r1 ⟨x, y, z, ed, q1⟩ => by
    subst ed
    obtain ⟨u, r, eu, ru, r2⟩ := r1
    subst eu
    obtain ⟨v, w, ev, rv, rw'⟩ := r2.two'
    subst ev
    exact ⟨u, v, w, rfl, k.nx _ H1 _ M1 e1 ((((S.ev e1).set ru).set rv).set rw') R1 q1⟩⟩
/-! ### dicts whose keys are tuples -/
theorem keys_vals {K : PySem.W.Frag} {M : MB} {H : Hp} : ∀ {ds : List DM.D} {vs : List V} {ks : List Key}, Reps K M H ds vs → keysD ds = some ks → vs = ks.map kV
  | [], _, _, r, e => by cases r; cases e; rfl
  | d :: ds, _, ks, ⟨v, r, ev, h1, h2⟩, e => by
    subst ev
    unfold keysD at e
    cases e1 : d.key with
    | none => simp [e1] at e
    | some k =>
      cases e2 : keysD ds with
      | none => simp [e1, e2] at e
      | some ks' =>
        simp [e1, e2] at e
        subst e
        rw [List.map_cons, ← keys_vals h2 e2, key_rep e1 h1]
theorem dit_ref {M : MH} {x : DM.D} {l : List (List Key × DM.D)} (h : ditD M x = some l) : ∃ p, x = .ref p ∧ M[p]? = some (some (.dit l)) := by
  cases x with
  | ref k =>
    refine ⟨k, rfl, ?_⟩
    have h' : (match M[k]? with
      | some (some (.dit l)) => some l
      | _ => none) = some l := h
    split at h'
    · cases h'; assumption
    · cases h'
  | _ => cases h
theorem dit_at {M : MB} {H : Hp} {x : DM.D} {v : V} {l : List (List Key × DM.D)} (R : MR X.K X.mg M H) (r : Rep X.K M H x v) (h : ditD M.m x = some l) : ∃ p a ks, x = .ref p ∧ M.m[p]? = some (some (.dit l)) ∧ M.i[p]? = some a ∧ v = .ref a ∧ H a = some (.dT ks) ∧ RepKV X.K M H l ks := by
  obtain ⟨p, e, hm⟩ := dit_ref h
  subst e
  obtain ⟨a, ha, ev⟩ := r
  obtain ⟨ks, h1, h2⟩ := R.at_ _ _ _ ha hm
  exact ⟨p, a, ks, rfl, hm, ha, ev, h1, h2⟩
variable {tA : DA} {x1 : Nat} {p1 : Pos}
theorem de_dicT : PEd X (.Dict [] [] pos) dDicT := peI (pe_frz pe_dnewT) fun σ H Q ⟨ρ, M, E, Qd, S, R, q, xo, k⟩ => fun p n =>
  mkD.new R n trivial (o := .dit []) ⟨[], upd_same, rfl⟩ q k
theorem de_ixT (hu : X.A.units + 1 < cLine) (ho : PEd X o to) (ha : PAd X es tA) (hs : NoSl (.Tuple es x1 p1) := by exact fun _ _ => rfl) : PEd X (.Subscript o (.Tuple es x1 p1) pos) (dItemT to tA) :=
  peI (pe_dget hu ho (pe_tup ha) hs) fun σ H Q ⟨ρ, M, E, Qd, S, R, q, xo, k⟩ => ⟨ρ, M, E, _, S, R, q, xo, fun v d M1 H1 e1 R1 r1 q1 => ⟨ρ, M1, E, _, S.ev e1, R1, q1, xo.later e1, fun vs ds M2 H2 e2 R2 r2 ⟨z, l, ks, hl, hk, d', hd, q2⟩ => ⟨by rw [← r2.len]; exact z, fun p n => by
    obtain ⟨i, a, kv, ex, hm, hi, ev, hH, rk⟩ := dit_at R2 (r1.ev e2) hl
    subst ev
    obtain ⟨u, hu', ru⟩ := (RepKV.val (k := ks) rk).1 d' hd
    have ne : a ≠ p := fun z => by subst z; rw [hH] at n; cases n
    refine ⟨a, u, rfl, ?_, k u d' M2 _ ((e1.trans e2).trans (.new n)) (R2.new n) (ru.ev (Ev.new (M := M2) n)) q2⟩
    rw [← hu']
    exact .t (by rw [upd_ne ne]; exact hH) (by rw [upd_same, keys_vals r2 hk])⟩⟩⟩
/-- what is there, seen behind a later moment -/
theorem dget_T {M1 M2 : MB} {H1 H2 : Hp} {x : DM.D} {v : V} {p : Addr} {vs : List V} {ds : List DM.D} {l : List (List Key × DM.D)} {ks : List Key} (hp : H1 p = some (.tup vs)) (r2 : Reps X.K M1 H1 ds vs) (e : Ev M1 H1 M2 H2) (R : MR X.K X.mg M2 H2) (r : Rep X.K M2 H2 x v) (hl : ditD M2.m x = some l) (hk : keysD ds = some ks) :
    ∃ a o, v = .ref a ∧ DGet H2 a (.ref p) o ∧ o.isSome = (lookD l ks).isSome ∧ ∀ z u, Rep X.K M2 H2 z u → Rep X.K M2 H2 ((lookD l ks).getD z) (o.getD u) := by
  obtain ⟨i, a, kv, ex, hm, hi, ev, hH, rk⟩ := dit_at R r hl
  have hp2 := e.tup _ _ hp
  rw [keys_vals r2 hk] at hp2
  refine ⟨a, valV kv ks, ev, .t hH hp2, ?_⟩
  cases hd : lookD l ks with
  | none => rw [(RepKV.val (k := ks) rk).2 hd]; exact ⟨rfl, fun z u r => r⟩
  | some d =>
    obtain ⟨u, hu, ru⟩ := (RepKV.val (k := ks) rk).1 d hd
    rw [hu]; exact ⟨rfl, fun _ _ _ => ru⟩
theorem lift_inT (σ : L2.St) (H : Hp) (Q : VK) : LE X (dInT false tA to) σ H Q → tDIn (L2.tTup (LA X tA)) (LE X to) σ H Q := fun ⟨ρ, M, E, Qd, S, R, q, xo, k⟩ =>
  ⟨ρ, M, E, _, S, R, q, xo, fun vs ds M1 H1 e1 R1 r1 ⟨z, q1⟩ => ⟨by rw [← r1.len]; exact z, fun p n => ⟨ρ, M1, E, _, (S.ev e1).ev (Ev.new n), R1.new n, q1, (xo.later e1).later (Ev.new n), fun v d M2 H2 e2 R2 r2 ⟨l, ks, hl, hk, q2⟩ => by
    obtain ⟨a, o, ev, g, es, _⟩ := dget_T upd_same (r1.ev (Ev.new (M := M1) n)) e2 R2 r2 hl hk
    exact ⟨a, o, ev, g, k _ (.bl ((lookD l ks).isSome != false)) M2 H2 ((e1.trans (.new n)).trans e2) R2 (by rw [es]; simp [Rep]) q2⟩⟩⟩⟩
theorem lift_notinT (σ : L2.St) (H : Hp) (Q : VK) : LE X (dInT true tA to) σ H Q → tDNotIn (L2.tTup (LA X tA)) (LE X to) σ H Q := fun ⟨ρ, M, E, Qd, S, R, q, xo, k⟩ =>
  ⟨ρ, M, E, _, S, R, q, xo, fun vs ds M1 H1 e1 R1 r1 ⟨z, q1⟩ => ⟨by rw [← r1.len]; exact z, fun p n => ⟨ρ, M1, E, _, (S.ev e1).ev (Ev.new n), R1.new n, q1, (xo.later e1).later (Ev.new n), fun v d M2 H2 e2 R2 r2 ⟨l, ks, hl, hk, q2⟩ => by
    obtain ⟨a, o, ev, g, es, _⟩ := dget_T upd_same (r1.ev (Ev.new (M := M1) n)) e2 R2 r2 hl hk
    exact ⟨a, o, ev, g, k _ (.bl ((lookD l ks).isSome != true)) M2 H2 ((e1.trans (.new n)).trans e2) R2 (by rw [es]; simp [Rep]) q2⟩⟩⟩⟩
theorem de_inT (hu : X.A.units + 1 < cLine) (ha : PAd X es tA) (ho : PEd X o to) (hm : behindInMarks .In o = false := by first | exact nomark _ | rfl) : PEd X (.Compare (.Tuple es x1 p1) [.In] [o] pos) (dInT false tA to) := peI (pe_cmp (pc_din hu (pe_tup ha) ho) hm) lift_inT
theorem dt_inT (hu : X.A.units + 1 < cLine) (ha : PAd X es tA) (ho : PEd X o to) (hm : behindInMarks .In o = false := by first | exact nomark _ | rfl) : PTd X (.Compare (.Tuple es x1 p1) [.In] [o] pos) (dTest (dInT false tA to)) := ptI (pt_cmp (pc_din hu (pe_tup ha) ho) hm) (lift_test lift_inT)
theorem de_notinT (hu : X.A.units + 1 < cLine) (ha : PAd X es tA) (ho : PEd X o to) (hm : behindInMarks .NotIn o = false := by first | exact nomark _ | rfl) : PEd X (.Compare (.Tuple es x1 p1) [.NotIn] [o] pos) (dInT true tA to) := peI (pe_cmp (pc_dnotin hu (pe_tup ha) ho) hm) lift_notinT
theorem dt_notinT (hu : X.A.units + 1 < cLine) (ha : PAd X es tA) (ho : PEd X o to) (hm : behindInMarks .NotIn o = false := by first | exact nomark _ | rfl) : PTd X (.Compare (.Tuple es x1 p1) [.NotIn] [o] pos) (dTest (dInT true tA to)) := ptI (pt_cmp (pc_dnotin hu (pe_tup ha) ho) hm) (lift_test lift_notinT)
theorem de_getT2 {f : Expr} {tf : DE} {apos cpos : Pos} (hu : X.A.units + 1 < cLine) (ho : PEd X o to) (ha : PAd X es tA) (hf : PEd X f tf) (m : M2 X o "get" apos (.Tuple es x1 p1) f cpos := by exact ⟨rfl, rfl, rfl, rfl⟩) : PEd X (.Call (.Attribute o "get" apos) [.Tuple es x1 p1, f] [] cpos) (dGetT2 to tA tf) :=
  peI (pe_dget2 hu ho (pe_tup ha) hf m) fun σ H Q ⟨ρ, M, E, Qd, S, R, q, xo, k⟩ => ⟨ρ, M, E, _, S, R, q, xo, fun v d M1 H1 e1 R1 r1 ⟨⟨l0, hl0⟩, q1⟩ => by
    obtain ⟨i, a, kv, ex, hm, hi, ev, hH, rk⟩ := dit_at R1 r1 hl0
    refine ⟨a, ev, .inr ⟨kv, .inl hH⟩, ρ, M1, E, _, S.ev e1, R1, q1, xo.later e1, fun vs ds M2 H2 e2 R2 r2 ⟨z, q2⟩ => ⟨by rw [← r2.len]; exact z, fun p n => ⟨ρ, M2, E, _, (S.ev (e1.trans e2)).ev (Ev.new n), R2.new n, q2, (xo.later (e1.trans e2)).later (Ev.new n), fun w d3 M3 H3 e3 R3 r3 ⟨l, ks, hl, hk, q3⟩ => ?_⟩⟩⟩
    obtain ⟨a', o, ev', g, es, fin⟩ := dget_T upd_same (r2.ev (Ev.new (M := M2) n)) e3 R3 (((r1.ev e2).ev (Ev.new n)).ev e3) hl hk
    rw [ev] at ev'; cases ev'
    exact ⟨o, g, k _ _ M3 H3 (((e1.trans e2).trans (.new n)).trans e3) R3 (fin d3 w r3) q3⟩⟩
theorem ds_setT {tpos : Pos} (hu : X.A.units + 1 < cLine) (he : PEd X e te) (ho : PEd X o to) (ha : PAd X es tA)
    (has : ∀ v, assign (.Subscript o (.Tuple es x1 p1) tpos) X.env v = (do
      let ov ← holding [v] (eval o X.env)
      let iv ← holding [v, ov] (eval (.Tuple es x1 p1) X.env)
      standAt tpos
      holding [v, ov, iv] (setItem ov iv v)
      release [v, ov, iv] []) := by intro _; rfl)
    (hs : swapsWithSole [.Subscript o (.Tuple es x1 p1) tpos] e pos.line X.env = pure false := by rfl) (hw : swappedStores [.Subscript o (.Tuple es x1 p1) tpos] e X.env = pure none := by rfl) (h1 : (assignEach [.Subscript o (.Tuple es x1 p1) tpos] X.env).map (·.2) = [assign (.Subscript o (.Tuple es x1 p1) tpos) X.env] := by rfl) :
    PSd X (.Assign [.Subscript o (.Tuple es x1 p1) tpos] e pos) (dSetT te to tA) :=
  psI (ps_asg he (pg_sub ho (pe_tup ha) (set_dict hu) has) hs hw h1) fun D σ H ⟨ρ, M, De, S, R, q, k⟩ =>
  ⟨ρ, M, _, _, S, R, q, k.xok S, fun v d M1 H1 e1 R1 r1 q1 => ⟨ρ, M1, _, _, S.ev e1, R1, q1, (k.xok S).later e1, fun w d2 M2 H2 e2 R2 r2 q2 => ⟨ρ, M2, _, _, S.ev (e1.trans e2), R2, q2, (k.xok S).later (e1.trans e2), fun vs ds M3 H3 e3 R3 r3 ⟨z, pp, ex, l, ks, hl, hk, hz, q3⟩ => ⟨by rw [← r3.len]; exact z, fun p n => by
    obtain ⟨i, a, kv, ex', hm, hi, ev, hH, rk⟩ := dit_at R3 (r2.ev e3) hl
    rw [ex] at ex'; cases ex'
    have ne : a ≠ p := fun z => by subst z; rw [hH] at n; cases n
    have hH2 : upd H3 p (.tup vs) a = some (.dT kv) := by rw [upd_ne ne]; exact hH
    have E := Ev.put (M := M3) (H := upd H3 p (.tup vs)) (k := pp) (v := some (.dit (putD l ks d))) (u := .dT (putK kv ks v)) hi hH2 trivial
    have rd : Rep X.K M3 (upd H3 p (.tup vs)) d v := ((r1.ev e2).ev e3).ev (Ev.new (M := M3) n)
    have rk2 : RepKV X.K M3 (upd H3 p (.tup vs)) l kv := rk.ev (Ev.new (M := M3) n)
    refine ⟨a, _, ev, .t hH2 (by rw [upd_same, keys_vals r3 hk]) (by rw [← kv_length rk]; exact hz), ?_⟩
    have e4 := (((e1.trans e2).trans e3).trans (Ev.new (M := M3) n)).trans E
    exact k.nx _ _ ρ (M3.put pp (some (.dit (putD l ks d)))) e4 (S.ev e4) ((R3.new n).put hi hH2 trivial ⟨_, upd_same, (rk2.put rd).ev E⟩) q3⟩⟩⟩⟩
end
end DM

/-! DM: walks of dicts. -/
namespace DM
open PySem PySem.Spec L2
section
variable {X : Cx} {M M' : MB} {H H' : Hp} {a : Addr} {od : Obj} {ks : List (Key × V)} {l : List (Key × D)} {p : Nat}
/-- the moment in which the dict at a, cell p, is walked -/
def MB.lok (M : MB) (a : Addr) (p : Nat) (l : List (Key × D)) : MB := ⟨M.i, M.m.set p (some (.dfz l)), a :: M.lk⟩
def MB.ulk (M : MB) (lk : List Addr) (p : Nat) (o : Option MO) : MB := ⟨M.i, M.m.set p o, lk⟩
theorem lok_keep {K : PySem.W.Frag} (h : H a = some (.dK ks)) : KeepR K M H (M.lok a p l) (upd H a (.frz od (.dK ks))) where
  t := fun x xs q => by
    have ne : ∀ u, H x = some u → (∀ k, u ≠ .dK k) → x ≠ a := fun u e n z => by subst z; rw [h] at e; cases e; exact n _ rfl
    rcases q with (q | ⟨o, q⟩) | q
    · exact .inl (.inl (by rw [upd_ne (ne _ q fun _ z => nomatch z)]; exact q))
    · exact .inl (.inr ⟨o, by rw [upd_ne (ne _ q fun _ z => nomatch z)]; exact q⟩)
    · exact .inr q
  f := fun x xs q => by
    rcases q with ⟨o, q⟩ | q
    · refine .inl ⟨o, ?_⟩
      have : x ≠ a := fun z => by subst z; rw [h] at q; cases q
      rw [upd_ne this]; exact q
    · exact .inr q
  z := fun x o u q n => by
    have : x ≠ a := fun z => by subst z; rw [h] at q; cases q
    exact ⟨by rw [upd_ne this]; exact q, fun hx => by
      rcases List.mem_cons.mp hx with hx | hx
      · exact this hx
      · exact n hx⟩
  r := fun _ _ q => q
theorem ulk_keep {K : PySem.W.Frag} {lk : List Addr} {o : Option MO} (h : H a = some (.frz od (.dK ks))) (hl : M.lk = a :: lk) : KeepR K M H (M.ulk lk p o) (upd H a (.dK ks)) where
  t := fun x xs q => by
    rcases q with (q | ⟨o, q⟩) | q
    · have : x ≠ a := fun z => by subst z; rw [h] at q; cases q
      exact .inl (.inl (by rw [upd_ne this]; exact q))
    · have : x ≠ a := fun z => by subst z; rw [h] at q; cases q
      exact .inl (.inr ⟨o, by rw [upd_ne this]; exact q⟩)
    · exact .inr q
  f := fun x xs q => by
    rcases q with ⟨o, q⟩ | q
    · have : x ≠ a := fun z => by subst z; rw [h] at q; cases q
      exact .inl ⟨o, by rw [upd_ne this]; exact q⟩
    · exact .inr q
  z := fun x o u q n => by
    rw [hl] at n
    have ne : x ≠ a := fun z => n (by rw [z]; exact List.mem_cons_self ..)
    exact ⟨by rw [upd_ne ne]; exact q, fun hx => n (List.mem_cons_of_mem _ hx)⟩
  r := fun _ _ q => q
theorem Slots.monoR {K : PySem.W.Frag} {ρ : DSt} {σ : L2.St} (k : KeepR K M H M' H') (S : Slots K M H ρ σ) : Slots K M' H' ρ σ := ⟨S.1, fun i d q => by
  obtain ⟨v, h1, h2⟩ := S.2 i d q
  exact ⟨v, h1, h2.monoR k⟩⟩
theorem lok_MR {K : PySem.W.Frag} {mg : Str → Option Value} (R : MR K mg M H) (hi : M.i[p]? = some a) (h : H a = some (.dK ks)) (r : RepKV K M H l ks) : MR K mg (M.lok a p l) (upd H a (.frz od (.dK ks))) := by
  have kp : KeepR K M H (M.lok a p l) (upd H a (.frz od (.dK ks))) := lok_keep h
  refine ⟨by simp [MB.lok, R.len], R.nd, fun b hb => upd_some (R.tr b hb), fun j b x g g' => ?_, fun b hb => ?_⟩
  · have g : M.i[j]? = some b := g
    have g' : (M.m.set p (some (.dfz l)))[j]? = some (some x) := g'
    by_cases z : p = j
    · subst z
      rw [hi] at g; cases g
      rw [List.getElem?_set_self (by rw [R.len]; exact lt_of_get hi)] at g'; cases g'
      exact ⟨ks, od, ⟨upd_same, List.mem_cons_self ..⟩, r.monoR kp⟩
    · rw [List.getElem?_set_ne z] at g'
      exact (R.at_ j b x g g').keepR kp (fun w q => by rw [upd_ne (nd_ne R.nd g hi (Ne.symm z))]; exact q) fun q => List.mem_cons_of_mem _ q
  · rcases List.mem_cons.mp hb with hb | hb
    · subst hb; exact ⟨od, _, upd_same⟩
    · obtain ⟨o', u', e⟩ := R.lz b hb
      have : b ≠ a := fun z => by subst z; rw [h] at e; cases e
      exact ⟨o', u', by rw [upd_ne this]; exact e⟩
theorem ulk_MR {K : PySem.W.Frag} {mg : Str → Option Value} {lk : List Addr} (R : MR K mg M H) (hi : M.i[p]? = some a) (h : H a = some (.frz od (.dK ks))) (hl : M.lk = a :: lk) (na : a ∉ lk) (r : RepKV K M H l ks) : MR K mg (M.ulk lk p (some (.dic l))) (upd H a (.dK ks)) := by
  have kp : KeepR K M H (M.ulk lk p (some (.dic l))) (upd H a (.dK ks)) := ulk_keep h hl
  refine ⟨by simp [MB.ulk, R.len], R.nd, fun b hb => upd_some (R.tr b hb), fun j b x g g' => ?_, fun b hb => ?_⟩
  · have g : M.i[j]? = some b := g
    have g' : (M.m.set p (some (.dic l)))[j]? = some (some x) := g'
    by_cases z : p = j
    · subst z
      rw [hi] at g; cases g
      rw [List.getElem?_set_self (by rw [R.len]; exact lt_of_get hi)] at g'; cases g'
      exact ⟨ks, upd_same, r.monoR kp⟩
    · rw [List.getElem?_set_ne z] at g'
      have ne := nd_ne R.nd g hi (Ne.symm z)
      exact (R.at_ j b x g g').keepR kp (fun w q => by rw [upd_ne ne]; exact q) fun q => by
        rw [hl] at q
        rcases List.mem_cons.mp q with q | q
        · exact absurd q ne
        · exact q
  · obtain ⟨o', u', e⟩ := R.lz b (by rw [hl]; exact List.mem_cons_of_mem _ hb)
    have : b ≠ a := fun z => na (z ▸ hb)
    exact ⟨o', u', by rw [upd_ne this]; exact e⟩
/-- from ahead of the walk to behind it -/
theorem lok_Ev {M2 : MB} {H2 : Hp} {o : Option MO} (hi : M.i[p]? = some a) (h : H a = some (.dK ks)) (e : Ev (M.lok a p l) (upd H a (.frz od (.dK ks))) M2 H2) : Ev M H (M2.ulk M.lk p o) (upd H2 a (.dK ks)) := by
  have ne : ∀ x u, H x = some u → (∀ k, u ≠ .dK k) → x ≠ a := fun x u q0 n z => by subst z; rw [h] at q0; cases q0; exact n _ rfl
  refine ⟨fun x xs q => ?_, fun x o u q => ?_, fun x u q n => ?_, e.pre, fun x q n => ?_, rfl⟩
  · have := ne x _ q fun _ z => nomatch z
    rw [upd_ne this]; exact e.tup x xs (by rw [upd_ne this]; exact q)
  · have := ne x _ q fun _ z => nomatch z
    rw [upd_ne this]; exact e.frz x o u (by rw [upd_ne this]; exact q)
  · have : x ≠ a := fun z => n (by rw [z]; exact List.mem_of_getElem? hi)
    rw [upd_ne this]; exact e.frame x u (by rw [upd_ne this]; exact q) n
  · have h1 := e.dom x q n
    have : x ≠ a := fun z => n (by rw [z]; exact List.mem_of_getElem? hi)
    rw [upd_ne this] at h1; exact h1
/-- .. while it goes on (what is raised) -/
theorem lok_EvX {M2 : MB} {H2 : Hp} (hi : M.i[p]? = some a) (h : H a = some (.dK ks)) (e : Ev (M.lok a p l) (upd H a (.frz od (.dK ks))) M2 H2) : Ev M H (M2.ulk M.lk p none) H2 := by
  have ne : ∀ x u, H x = some u → (∀ k, u ≠ .dK k) → x ≠ a := fun x u q0 n z => by subst z; rw [h] at q0; cases q0; exact n _ rfl
  refine ⟨fun x xs q => ?_, fun x o u q => ?_, fun x u q n => ?_, e.pre, fun x q n => ?_, rfl⟩
  · have := ne x _ q fun _ z => nomatch z
    exact e.tup x xs (by rw [upd_ne this]; exact q)
  · have := ne x _ q fun _ z => nomatch z
    exact e.frz x o u (by rw [upd_ne this]; exact q)
  · have : x ≠ a := fun z => n (by rw [z]; exact List.mem_of_getElem? hi)
    exact e.frame x u (by rw [upd_ne this]; exact q) n
  · have h1 := e.dom x q n
    have : x ≠ a := fun z => n (by rw [z]; exact List.mem_of_getElem? hi)
    rw [upd_ne this] at h1; exact h1
theorem ulkX_keep {K : PySem.W.Frag} {lk : List Addr} (hl : M.lk = a :: lk) : KeepR K M H (M.ulk lk p none) H :=
  ⟨fun _ _ q => q, fun _ _ q => q, fun x o u q n => ⟨q, fun hx => n (by rw [hl]; exact List.mem_cons_of_mem _ hx)⟩, fun _ _ q => q⟩
theorem ulkX_MR {K : PySem.W.Frag} {mg : Str → Option Value} {lk : List Addr} (R : MR K mg M H) (hi : M.i[p]? = some a) (hl : M.lk = a :: lk) : MR K mg (M.ulk lk p none) H := by
  refine ⟨by simp [MB.ulk, R.len], R.nd, R.tr, fun j b x g g' => ?_, fun b hb => R.lz b (by rw [hl]; exact List.mem_cons_of_mem _ hb)⟩
  have g : M.i[j]? = some b := g
  have g' : (M.m.set p none)[j]? = some (some x) := g'
  by_cases z : p = j
  · subst z
    rw [List.getElem?_set_self (by rw [R.len]; exact lt_of_get hi)] at g'; cases g'
  · rw [List.getElem?_set_ne z] at g'
    have ne := nd_ne R.nd g hi (Ne.symm z)
    exact (R.at_ j b x g g').keepR (ulkX_keep hl) (fun _ q => q) fun q => by
      rw [hl] at q
      rcases List.mem_cons.mp q with q | q
      · exact absurd q ne
      · exact q
theorem XRep.monoR {K : PySem.W.Frag} {fs : Fs} {d : Option Addr} {lk : List Addr} {o : Option MO} (k : KeepR K M H (M.ulk lk p o) H) (h : XRep K M H fs d) : XRep K (M.ulk lk p o) H fs d := by
  rcases h with h | ⟨dd, gs, e, h1, n, r⟩
  · exact .inl h
  · exact .inr ⟨dd, gs, e, h1, n, r.monoR k⟩
/-- a statement that runs while a dict is walked -/
theorem ds_lock {st : Stmt} {t : DS} (h : PSd X st t) : PSd X st (dLock t) := ⟨fun pins s σ H D I hw => by
  obtain ⟨ρ, M, De, S, R, q, ok⟩ := hw
  rcases q with q | ⟨p, l, hp, q⟩
  · exact h.run pins s σ H D I ⟨ρ, M, De, S, R, q, ok⟩
  have hp' := List.getElem?_eq_some_iff.mp hp
  obtain ⟨a, hi⟩ : ∃ a, M.i[p]? = some a := ⟨_, List.getElem?_eq_getElem (by rw [← R.len]; exact hp'.1)⟩
  obtain ⟨ks, ha, r⟩ := R.at_ p a _ hi hp
  have na : a ∉ M.lk := fun z => by obtain ⟨_, _, e⟩ := R.lz a z; rw [ha] at e; cases e
  refine (ps_lock h).run pins s σ H D I ⟨a, _, ha, trivial, fun od => ⟨ρ, M.lok a p l, lockE De p l, S.monoR (lok_keep ha), lok_MR R hi ha r, q, ?_⟩⟩
  have at2 : ∀ M' H', Ev (M.lok a p l) (upd H a (.frz od (.dK ks))) M' H' → MR X.K X.mg M' H' → M'.m[p]? = some (some (.dfz l)) → M'.i[p]? = some a ∧ H' a = some (.frz od (.dK ks)) ∧ M'.lk = a :: M.lk ∧ RepKV X.K M' H' l ks := fun M' H' e R' g => by
    have h1 := e.pre p a hi
    have h2 := e.frz a od _ upd_same
    obtain ⟨ks', o', ⟨h3, _⟩, r'⟩ := R'.at_ p a _ h1 g
    rw [h2] at h3; cases h3
    exact ⟨h1, h2, e.l, r'⟩
  refine ⟨fun σ' H' ρ' M' e S' R' ⟨g, q⟩ => ?_, fun v d M' H' e R' r' ⟨g, q⟩ => ?_, fun σ' H' ρ' M' e S' R' ⟨g, q⟩ => ?_, fun σ' H' ρ' M' e S' R' ⟨g, q⟩ => ?_, fun c fs C d σ' H' ρ' M' e S' R' hc rx q => ?_⟩
  · obtain ⟨h1, h2, hl, r2⟩ := at2 M' H' e R' g
    exact ⟨h2, ok.nx σ' _ ρ' (M'.ulk M.lk p (some (.dic l))) (lok_Ev hi ha e) (S'.monoR (ulk_keep h2 hl)) (ulk_MR R' h1 h2 hl na r2) q⟩
  · obtain ⟨h1, h2, hl, r2⟩ := at2 M' H' e R' g
    exact ⟨h2, ok.rt v d (M'.ulk M.lk p (some (.dic l))) _ (lok_Ev hi ha e) (ulk_MR R' h1 h2 hl na r2) (r'.monoR (ulk_keep h2 hl)) q⟩
  · obtain ⟨h1, h2, hl, r2⟩ := at2 M' H' e R' g
    exact ⟨h2, ok.bk σ' _ ρ' (M'.ulk M.lk p (some (.dic l))) (lok_Ev hi ha e) (S'.monoR (ulk_keep h2 hl)) (ulk_MR R' h1 h2 hl na r2) q⟩
  · obtain ⟨h1, h2, hl, r2⟩ := at2 M' H' e R' g
    exact ⟨h2, ok.ct σ' _ ρ' (M'.ulk M.lk p (some (.dic l))) (lok_Ev hi ha e) (S'.monoR (ulk_keep h2 hl)) (ulk_MR R' h1 h2 hl na r2) q⟩
  · have hl : M'.lk = a :: M.lk := e.l
    exact ok.ex c fs C d σ' H' ρ' (M'.ulk M.lk p none) (lok_EvX hi ha e) (S'.monoR (ulkX_keep hl)) (ulkX_MR R' (e.pre p a hi) hl) hc (rx.monoR (ulkX_keep hl)) q⟩
theorem de_lockE {ex : Expr} {t : DE} (h : PEd X ex t) : PEd X ex (dLockE t) := ⟨fun pins s σ H Q I hw => by
  obtain ⟨ρ, M, E, Qd, S, R, q, xo, k⟩ := hw
  rcases q with q | ⟨p, l, hp, q⟩
  · exact h.run pins s σ H Q I ⟨ρ, M, E, Qd, S, R, q, xo, k⟩
  have hp' := List.getElem?_eq_some_iff.mp hp
  obtain ⟨a, hi⟩ : ∃ a, M.i[p]? = some a := ⟨_, List.getElem?_eq_getElem (by rw [← R.len]; exact hp'.1)⟩
  obtain ⟨ks, ha, r⟩ := R.at_ p a _ hi hp
  have na : a ∉ M.lk := fun z => by obtain ⟨_, _, e⟩ := R.lz a z; rw [ha] at e; cases e
  refine (pe_lock h).run pins s σ H Q I ⟨a, _, ha, trivial, fun od => ⟨ρ, M.lok a p l, noX, _, S.monoR (lok_keep ha), lok_MR R hi ha r, q, XOk.no, fun v d M' H' e R' r' ⟨g, q'⟩ => ?_⟩⟩
  have h1 := e.pre p a hi
  have h2 := e.frz a od _ upd_same
  obtain ⟨ks', o', ⟨h3, _⟩, r2⟩ := R'.at_ p a _ h1 g
  rw [h2] at h3; cases h3
  exact ⟨h2, k v d (M'.ulk M.lk p (some (.dic l))) _ (lok_Ev hi ha e) (ulk_MR R' h1 h2 e.l na r2) (r'.monoR (ulk_keep h2 e.l)) q'⟩⟩
/-! ### what the walk yields -/
theorem KeepT.fz {K : PySem.W.Frag} {a : Addr} {o : Obj} {u : HO} (k : KeepT K M H M' H') (h : H a = some (.frz o u)) : H' a = some (.frz o u) := by
  by_cases n : a ∈ M.lk
  · exact (k.w a o u n h).1
  · exact (k.z a o u h n).1
theorem RepKV.at_ {κ : Type} {K : PySem.W.Frag} : ∀ {l : List (κ × D)} {ks : List (κ × V)}, RepKV K M H l ks → l.length = ks.length ∧ ∀ (i : Nat) (k : κ) (d : D), l[i]? = some (k, d) → ∃ v, ks[i]? = some (k, v) ∧ Rep K M H d v
  | [], _, h => by cases h; exact ⟨rfl, fun i k d e => by simp at e⟩
  | (k0, d0) :: l, _, ⟨v, r, e, h1, h2⟩ => by
    subst e
    obtain ⟨a, b⟩ := RepKV.at_ h2
    refine ⟨by simp [a], fun i k d e => ?_⟩
    cases i with
    | zero => simp at e; obtain ⟨e1, e2⟩ := e; subst e1; subst e2; exact ⟨v, rfl, h1⟩
    | succ i => simpa using b i k d (by simpa using e)
theorem kd_rep {K : PySem.W.Frag} {k : Key} : Rep K M H (kD k) (kV k) := by cases k <;> rfl
theorem Snd.dk {K : PySem.W.Frag} {mg : Str → Option Value} {o : Obj} (h : H a = some (.frz o (.dK ks))) (r : RepKV K M H l ks) : Snd K mg M H (Itk a o ks) (walkD .keys l) (fun _ => True) where
  go := fun i x M' H' k R g e => ⟨k.fz h, by have := (List.getElem?_eq_some_iff.mp e).1; simp [walkD] at this; rw [← r.at_.1]; exact this⟩
  yld := fun i x M' H' v H'' k R g e y => by
    obtain ⟨e0, kk, u, h1, h2⟩ := y
    subst e0; subst h2
    simp only [walkD, List.getElem?_map, Option.map_eq_some_iff] at e
    obtain ⟨⟨k1, d1⟩, e, rfl⟩ := e
    obtain ⟨u', h3, _⟩ := r.at_.2 i k1 d1 e
    rw [h1] at h3; cases h3
    exact ⟨.refl, R, kd_rep⟩
  stop := fun M' H' k R g => ⟨k.fz h, by simp [walkD, r.at_.1]⟩
theorem Snd.dv {K : PySem.W.Frag} {mg : Str → Option Value} {o : Obj} (h : H a = some (.frz o (.dK ks))) (r : RepKV K M H l ks) : Snd K mg M H (Itd a o ks) (walkD .vals l) (fun _ => True) where
  go := fun i x M' H' k R g e => ⟨k.fz h, by have := (List.getElem?_eq_some_iff.mp e).1; simp [walkD] at this; rw [← r.at_.1]; exact this⟩
  yld := fun i x M' H' v H'' k R g e y => by
    obtain ⟨e0, kk, h1⟩ := y
    subst e0
    simp only [walkD, List.getElem?_map, Option.map_eq_some_iff] at e
    obtain ⟨⟨k1, d1⟩, e, rfl⟩ := e
    obtain ⟨u', h3, r3⟩ := r.at_.2 i k1 d1 e
    rw [h1] at h3; cases h3
    exact ⟨.refl, R, r3.mono k⟩
  stop := fun M' H' k R g => ⟨k.fz h, by simp [walkD, r.at_.1]⟩
theorem Snd.di {K : PySem.W.Frag} {mg : Str → Option Value} {o : Obj} (h : H a = some (.frz o (.dK ks))) (r : RepKV K M H l ks) : Snd K mg M H (Iti a o ks) (walkD .items l) (fun _ => True) where
  go := fun i x M' H' k R g e => ⟨k.fz h, by have := (List.getElem?_eq_some_iff.mp e).1; simp [walkD] at this; rw [← r.at_.1]; exact this⟩
  yld := fun i x M' H' v H'' k R g e y => by
    obtain ⟨T, kk, u, h1, h2, n, h4⟩ := y
    subst h2; subst h4
    simp only [walkD, List.getElem?_map, Option.map_eq_some_iff] at e
    obtain ⟨⟨k1, d1⟩, e, rfl⟩ := e
    obtain ⟨u', h3, r3⟩ := r.at_.2 i k1 d1 e
    rw [h1] at h3; cases h3
    exact pair_made n R kd_rep (r3.mono k)
  stop := fun M' H' k R g => ⟨k.fz h, by simp [walkD, r.at_.1]⟩
theorem zip_rep {K : PySem.W.Frag} : ∀ {js : List Key} {ds : List D} {vs : List V}, js.length = ds.length → Reps K M H ds vs → RepKV K M H (js.zip ds) (js.zip vs)
  | [], [], _, _, h => by cases h; rfl
  | j :: js, d :: ds, _, e, ⟨v, r, e2, h1, h2⟩ => by
    subst e2
    exact ⟨v, _, rfl, h1, zip_rep (by simpa using e) h2⟩
theorem fzQ_ok {K : PySem.W.Frag} {mg : Str → Option Value} {x : D} {v : V} {Z : List (Key × D) → Prop} (R : MR K mg M H) (r : Rep K M H x v) (q : fzQ M.m x Z) : ∃ a o ks l, v = .ref a ∧ H a = some (.frz o (.dK ks)) ∧ RepKV K M H l ks ∧ Z l := by
  rcases q with ⟨js, ds, rfl, q⟩ | ⟨p, l, rfl, hp, q⟩
  · obtain ⟨a, vs, o, ev, ⟨h1, _⟩, hl, rs⟩ := r
    exact ⟨a, o, _, _, ev, h1, zip_rep hl rs, q⟩
  · obtain ⟨a, ha, ev⟩ := r
    obtain ⟨ks, o, ⟨h1, _⟩, h2⟩ := R.at_ _ _ _ ha hp
    exact ⟨a, o, ks, l, ev, h1, h2, q⟩
theorem di_keys {tg e : Expr} {te : DE} (he : PEd X e te) : PId X tg e (iDic .keys te) := ⟨_, pi_keys he, fun σ H R ρ M E Rd S Rm q xo k => ⟨ρ, M, E, _, S, Rm, q, xo, fun v d M1 H1 e1 R1 r1 q1 => by
  obtain ⟨a, o, ks, l, ev, h1, h2, qd⟩ := fzQ_ok R1 r1 q1
  exact ⟨a, o, ev, .inl ⟨ks, h1, k _ _ _ M1 H1 e1 R1 (.dk h1 h2) qd⟩⟩⟩⟩
theorem di_vals {tg e : Expr} {te : DE} {apos cpos : Pos} (he : PEd X e te) (hbase : attributeBase e "values" X.env (eval e X.env) = eval e X.env := by rfl) (hline : (apos.endLine == cpos.line) = true := by rfl) : PId X tg (.Call (.Attribute e "values" apos) [] [] cpos) (iDic .vals te) := ⟨_, pi_values he hbase hline, fun σ H R ρ M E Rd S Rm q xo k => ⟨ρ, M, E, _, S, Rm, q, xo, fun v d M1 H1 e1 R1 r1 q1 => by
  obtain ⟨a, o, ks, l, ev, h1, h2, qd⟩ := fzQ_ok R1 r1 q1
  exact ⟨a, o, ks, ev, h1, k _ _ _ M1 H1 e1 R1 (.dv h1 h2) qd⟩⟩⟩
theorem di_items {elts : List Expr} {kk : Nat} {tpos : Pos} {e : Expr} {te : DE} {apos cpos : Pos} (he : PEd X e te) (hbase : attributeBase e "items" X.env (eval e X.env) = eval e X.env := by rfl) (hline : (apos.endLine == cpos.line) = true := by rfl) : PId X (.Tuple elts kk tpos) (.Call (.Attribute e "items" apos) [] [] cpos) (iDic .items te) := ⟨_, pi_items he hbase hline, fun σ H R ρ M E Rd S Rm q xo k => ⟨ρ, M, E, _, S, Rm, q, xo, fun v d M1 H1 e1 R1 r1 q1 => by
  obtain ⟨a, o, ks, l, ev, h1, h2, qd⟩ := fzQ_ok R1 r1 q1
  exact ⟨a, o, ks, ev, h1, k _ _ _ M1 H1 e1 R1 (.di h1 h2) qd⟩⟩⟩
end
end DM

set_option maxHeartbeats 1000000
/-! DM: dicts as arguments, dicts compared. -/
namespace DM
open PySem PySem.Spec L2
def lookP (l : List (Key × PyData)) (k : Key) : Option PyData := (l.find? fun p => decide (p.1 = k)).map (·.2)
def eqP (ps qs : List (Key × PyData)) : Bool := ps.all fun p => match lookP qs p.1 with
  | some y => PyData.eqv p.2 y
  | none => false
def DpKV (K : PySem.W.Frag) (H : Hp) : List (Key × V) → List (Key × PyData) → Prop := Paired fun p q => p.1 = q.1 ∧ Dp K H p.2 q.2
section
variable {X : Cx} {pins : List (Addr × Obj)} {σ : L2.St} {H : Hp} {s : Shared}
theorem DpKV.look {K : PySem.W.Frag} {ls : List (Key × V)} {qs : List (Key × PyData)} (h : DpKV K H ls qs) (k : Key) : (valV ls k = none ∧ lookP qs k = none) ∨ ∃ v y, valV ls k = some v ∧ lookP qs k = some y ∧ Dp K H v y ∧ (k, y) ∈ qs := by
  induction h with
  | nil => exact .inl ⟨rfl, rfl⟩
  | @cons p q ps qs h t ih =>
    by_cases e : p.1 = k
    · have e2 : q.1 = k := h.1 ▸ e
      refine .inr ⟨p.2, q.2, by simp [valV, e], by simp [lookP, e2], h.2, ?_⟩
      rw [show (k, q.2) = q from by rw [← e2]]
      exact List.mem_cons_self ..
    · have e2 : ¬ q.1 = k := h.1 ▸ e
      rcases ih with ⟨a, b⟩ | ⟨v, y, a, b, c, d⟩
      · exact .inl ⟨by simpa [valV, e] using a, by simpa [lookP, e2] using b⟩
      · exact .inr ⟨v, y, by simpa [valV, e] using a, by simpa [lookP, e2] using b, c, List.mem_cons_of_mem _ d⟩
theorem hits_dp (I : Inv X pins σ H s) {A : Around} (hu : A.units + 50 < cLine) {ls : List (Key × V)} {kb : List (Key × Value)} {qs : List (Key × PyData)} (rl : KV ls kb) (dl : DpKV X.K H ls qs) (hq : ∀ q ∈ qs, q.2.plain = true) :
    ∀ {ks : List (Key × V)} {ka : List (Key × Value)} {ps : List (Key × PyData)}, KV ks ka → DpKV X.K H ks ps → (∀ p ∈ ps, p.2.plain = true ∧ p.2.depth ≤ 50) → PySem.W.KeqHits A s kb ka (eqP ps qs)
  | _, _, _, .nil, .nil, _ => .nil
  | _, _, _, @Paired.cons _ _ _ p u ks ka h t, @Paired.cons _ _ _ _ q _ ps g r, hp => by
    obtain ⟨k, v⟩ := p
    obtain ⟨k1, u⟩ := u
    obtain ⟨k2, d⟩ := q
    obtain ⟨e1, ru⟩ := h
    obtain ⟨e2, rd⟩ := g
    have e1 : k = k1 := e1
    have e2 : k = k2 := e2
    subst e1; subst e2
    have kv := rl.val k
    rcases dl.look k with ⟨a, b⟩ | ⟨w, y, a, b, c, m⟩
    · rw [a] at kv
      have e : eqP ((k, d) :: ps) qs = false := by simp [eqP, b]
      rw [e]
      exact .miss kv.none_of
    · rw [a] at kv
      obtain ⟨z, ez, rz⟩ := kv.some_of
      have e : eqP ((k, d) :: ps) qs = (PyData.eqv d y && eqP ps qs) := by simp [eqP, b]
      rw [e]
      obtain ⟨as, r1⟩ := Dp.reads I d v u rd ru
      obtain ⟨bs, r2⟩ := Dp.reads I y w z c rz
      have hd := hp _ (List.mem_cons_self ..)
      refine .hit ez (SeqAt.eqAt_plain d y A s u z as bs r1 r2 hd.1 (hq _ m) ?_) (hits_dp I hu rl dl hq t r fun p h => hp p (List.mem_cons_of_mem _ h))
      have := hd.2
      have : min d.depth y.depth ≤ 50 := Nat.le_trans (Nat.min_le_left _ _) this
      omega
/-- x == y, x != y of dicts -/
def rEqP (neg : Bool) (K : PySem.W.Frag) : R2 := fun x y H Q => ∃ a b ks ls ps qs, x = .ref a ∧ y = .ref b ∧ Rd H a (.dK ks) ∧ Rd H b (.dK ls) ∧ DpKV K H ks ps ∧ DpKV K H ls qs ∧ (∀ p ∈ ps, p.2.plain = true ∧ p.2.depth ≤ 50) ∧ (∀ q ∈ qs, q.2.plain = true) ∧ Q (.bl ((ks.length == ls.length && eqP ps qs) != neg)) H
theorem op_eqP (hu : X.A.units + 64 < cLine) : OpR X (compareOp .Eq) (rEqP false X.K) := by
  intro pins s σ H x y v u Q I rx ry h
  obtain ⟨a, b, ks, ls, ps, qs, rfl, rfl, ea, eb, da, db, hp, hq, q⟩ := h
  obtain rfl : v = Value.ref a := rx
  obtain rfl : u = Value.ref b := ry
  obtain ⟨_, ya, va, ra, fa⟩ := dk_rd I.hok ea
  obtain ⟨_, yb, vb, rb, fb⟩ := dk_rd I.hok eb
  refine PySem.W.keq_eq (knd := mixKind X.prog X.w) ya yb fa fb (by omega) (fun _ => hits_dp I (A := X.A.in1) (by show X.A.units + 1 + 50 < cLine; omega) rb db hq ra da hp) ?_
  rw [← ra.length, ← rb.length]
  exact ⟨.bl _, H, I, rfl, by simpa using q⟩
theorem op_neP (hu : X.A.units + 64 < cLine) : OpR X (compareOp .NotEq) (rEqP true X.K) := by
  intro pins s σ H x y v u Q I rx ry h
  obtain ⟨a, b, ks, ls, ps, qs, rfl, rfl, ea, eb, da, db, hp, hq, q⟩ := h
  obtain rfl : v = Value.ref a := rx
  obtain rfl : u = Value.ref b := ry
  obtain ⟨_, ya, va, ra, fa⟩ := dk_rd I.hok ea
  obtain ⟨_, yb, vb, rb, fb⟩ := dk_rd I.hok eb
  refine PySem.W.keq_ne (knd := mixKind X.prog X.w) ya yb fa fb (by omega) (fun _ => hits_dp I (A := X.A.in1) (by show X.A.units + 1 + 50 < cLine; omega) rb db hq ra da hp) ?_
  rw [← ra.length, ← rb.length]
  exact ⟨.bl _, H, I, rfl, by simpa using q⟩
theorem dpkv_of {K : PySem.W.Frag} {mg : Str → Option Value} {M : MB} (R : MR K mg M H) : ∀ {l : List (Key × D)} {ks : List (Key × V)}, okK l → RepKV K M H l ks → DpKV K H ks (l.map fun p => (p.1, p.2.py))
  | [], _, _, h => by cases h; exact .nil
  | (k, d) :: l, _, o, ⟨v, r, e, h1, h2⟩ => by
    subst e
    exact .cons ⟨rfl, (Sees.py M.m d (o _ (List.mem_cons_self ..)).1).dp R h1⟩ (dpkv_of R (fun p h => o p (List.mem_cons_of_mem _ h)) h2)
theorem lookP_map (m : List (Key × D)) (k : Key) : lookP (m.map fun p => (p.1, p.2.py)) k = (lookD m k).map D.py := by
  induction m with
  | nil => rfl
  | cons p m ih =>
    by_cases e : p.1 = k
    · simp [lookP, lookD, e]
    · simpa [lookP, lookD, e] using ih
theorem eqP_eqK (l m : List (Key × D)) : (l.length == m.length && eqP (l.map fun p => (p.1, p.2.py)) (m.map fun p => (p.1, p.2.py))) = eqK l m := by
  unfold eqK eqP
  congr 1
  rw [List.all_map]
  congr 1
  funext p
  simp only [Function.comp, lookP_map]
  cases lookD m p.1 <;> rfl
theorem rep_len {K : PySem.W.Frag} {M : MB} {l : List (Key × D)} {ks : List (Key × V)} (h : RepKV K M H l ks) : ks.length = l.length := h.at_.1.symm
theorem ok_map {l : List (Key × D)} (o : okK l) : ∀ p ∈ l.map (fun p => (p.1, p.2.py)), p.2.plain = true ∧ p.2.depth ≤ 50 := fun p hp => by
  obtain ⟨q, hq, rfl⟩ := List.mem_map.mp hp
  exact ⟨plain_py _ (o q hq).1, (o q hq).2⟩
theorem od_eqK (hu : X.A.units + 64 < cLine) : OpD X (compareOp .Eq) rEqK := ⟨_, op_eqP hu, fun x y v w M H Qd Q R rx ry ⟨l, m, hl, hm, ol, om, q⟩ k => by
  obtain ⟨a, ks, ea, h1, h2⟩ := dic_rd R rx hl
  obtain ⟨b, ls, eb, h3, h4⟩ := dic_rd R ry hm
  refine ⟨a, b, ks, ls, _, _, ea, eb, h1, h3, dpkv_of R ol h2, dpkv_of R om h4, ok_map ol, fun q hq => (ok_map om q hq).1, k _ (.bl (eqK l m)) M H .refl R ?_ q⟩
  rw [rep_len h2, rep_len h4, eqP_eqK]
  show _ = V.bl (eqK l m)
  simp⟩
theorem od_neK (hu : X.A.units + 64 < cLine) : OpD X (compareOp .NotEq) rNeK := ⟨_, op_neP hu, fun x y v w M H Qd Q R rx ry ⟨l, m, hl, hm, ol, om, q⟩ k => by
  obtain ⟨a, ks, ea, h1, h2⟩ := dic_rd R rx hl
  obtain ⟨b, ls, eb, h3, h4⟩ := dic_rd R ry hm
  refine ⟨a, b, ks, ls, _, _, ea, eb, h1, h3, dpkv_of R ol h2, dpkv_of R om h4, ok_map ol, fun q hq => (ok_map om q hq).1, k _ (.bl (!eqK l m)) M H .refl R ?_ q⟩
  rw [rep_len h2, rep_len h4, eqP_eqK]
  show _ = V.bl (!eqK l m)
  simp⟩
/-! ### len, sorted, dict -/
theorem call_lenR : CallR X (.builtin "len") (fun xs H Q => ∃ a kvs, xs = [V.ref a] ∧ Rd H a (.dK kvs) ∧ Q (.int kvs.length) H) := by
  intro pins s σ H xs us Q I r h
  obtain ⟨a, kvs, rfl, ha, q⟩ := h
  obtain ⟨u, rfl, ru⟩ := vals1 r
  cases ru
  exact d_len I ha fun t s' I' => ⟨.int kvs.length, H, I', ⟨t, rfl⟩, q⟩
theorem cd_lenD : CallD X (.builtin "len") cLenD := ⟨_, call_lenR, fun ds vs M H Qd Q R rs ⟨x, e, l, h, q⟩ k => by
  subst e
  obtain ⟨v, ev, rv⟩ := rs.one'
  subst ev
  obtain ⟨a, ks, ea, h1, h2⟩ := dic_rd R rv h
  subst ea
  exact ⟨a, ks, rfl, h1, k _ (.int l.length) M H .refl R (by rw [rep_len h2]; rfl) q⟩⟩
variable {mk : MkR}
theorem rep_keys {K : PySem.W.Frag} {M : MB} : ∀ {l : List (Key × D)} {ks : List (Key × V)}, RepKV K M H l ks → ks.map (·.1) = l.map (·.1)
  | [], _, h => by cases h; rfl
  | (k, d) :: l, _, ⟨v, r, e, h1, h2⟩ => by subst e; simp [rep_keys h2]
theorem cd_sortD (hc : X.calm = true) (hm : MkOk mk) : CallZ X (.builtin "sorted") (cSortD mk) := ⟨_, call_sortedDI hc, fun ds vs M H Qd Q R rs ⟨x, e, l, ns, h, hk, h64, q⟩ k => by
  subst e
  obtain ⟨v, ev, rv⟩ := rs.one'
  subst ev
  obtain ⟨a, ks, ea, h1, h2⟩ := dic_rd R rv h
  subst ea
  exact ⟨a, ks, ns, rfl, h1, by rw [rep_keys h2, hk], h64, fun ns' p pm pw n => hm.new R n trivial (o := .lst (ns'.map D.int)) ⟨_, upd_same, reps_of_int ns'⟩ (q ns' pm pw) k⟩⟩
theorem cd_dictD (hm : MkOk mk) : CallZ X (.type "dict") (cDictD mk) := ⟨_, call_dictD, fun ds vs M H Qd Q R rs ⟨x, e, l, h, q⟩ k => by
  subst e
  obtain ⟨v, ev, rv⟩ := rs.one'
  subst ev
  obtain ⟨a, ks, ea, h1, h2⟩ := dic_rd R rv h
  subst ea
  exact ⟨a, ks, rfl, h1, fun p n => hm.new R n trivial (o := .dic l) ⟨ks, upd_same, h2.ev (Ev.new (M := M) n)⟩ q k⟩⟩
end
end DM

/-! DM: isinstance(e, T) in a suite; clear, list(x.items()). -/
namespace DM
open PySem PySem.Spec L2
/-- what isinstance needs of the class c -/
structure IsxC (K : PySem.W.Frag) (C : Addr) : Prop where
  hcl : (PySem.W.clsIn K C).isSome = true
  ha : PySem.W.findIn K (.ref C) "__class__" = some (some (.builtin "object.__class__"))
  hn : PySem.W.specialIn K (.builtin "object.__class__") "__get__" = some (some (.builtin "getset_descriptor.__get__"))
  ht : PySem.W.takesIn K (.builtin "object.__class__") = some true
  hm : PySem.W.mroIn K C (.type "object") = some true
def isxB (c : Str) (K : PySem.W.Frag) : Bool := (PySem.W.clsIn K (He.ga K c)).isSome && (decide (PySem.W.findIn K (.ref (He.ga K c)) "__class__" = some (some (.builtin "object.__class__"))) &&
  (decide (PySem.W.specialIn K (.builtin "object.__class__") "__get__" = some (some (.builtin "getset_descriptor.__get__"))) && (decide (PySem.W.takesIn K (.builtin "object.__class__") = some true) && decide (PySem.W.mroIn K (He.ga K c) (.type "object") = some true))))
theorem isxB_ok {c : Str} {K : PySem.W.Frag} (h : isxB c K = true) : IsxC K (He.ga K c) := by
  obtain ⟨h1, h⟩ := He.ba h
  obtain ⟨h2, h⟩ := He.ba h
  obtain ⟨h3, h⟩ := He.ba h
  obtain ⟨h4, h5⟩ := He.ba h
  exact ⟨h1, of_decide_eq_true h2, of_decide_eq_true h3, of_decide_eq_true h4, of_decide_eq_true h5⟩
/-- isinstance(e, T) answers b, e an error of the class c -/
structure IsX (K : PySem.W.Frag) (c : Str) (T : String) (b : Bool) : Prop where
  xf : XfC K (He.ga K c)
  is : IsxC K (He.ga K c)
  ans : PySem.W.kitOne K (.ref (He.ga K c)) (.type T) = some b
def isxT (c : Str) (T : String) (b : Bool) (K : PySem.W.Frag) : Bool := xfB K (He.ga K c) && (isxB c K && decide (PySem.W.kitOne K (.ref (He.ga K c)) (.type T) = some b))
theorem isxT_ok {c : Str} {T : String} {b : Bool} {K : PySem.W.Frag} (h : isxT c T b K = true) : IsX K c T b := by
  obtain ⟨h1, h⟩ := He.ba h
  obtain ⟨h2, h3⟩ := He.ba h
  exact ⟨xfB_ok h1, isxB_ok h2, of_decide_eq_true h3⟩
section
variable {X : Cx} {a C : Addr} {oe : Obj} {pn : List (Addr × Obj)} {cd : Option Addr}
/-- the caught error has its dict -/
def DOk (cd : Option Addr) (H : Hp) : Prop := cd = none ∨ ∃ dd gs, cd = some dd ∧ H dd = some (.xd gs)
def rIsX (K : PySem.W.Frag) (C a : Addr) (cd : Option Addr) : List V → Hp → VK → Prop := fun xs H Q => ∃ T b, xs = [.ref a, .ty T] ∧ DOk cd H ∧ PySem.W.kitOne K (.ref C) (.type T) = some b ∧ Q (.bl b) H
theorem call_isX (F : XfC X.K C) (G : IsxC X.K C) (hz : Zc (.ref C) cd oe) (hf : ∃ vs, oe.data = .fields vs) : CallR (X.suite a ((a, oe) :: pn)) (.builtin "isinstance") (rIsX X.K C a cd) := by
  intro pins s σ H xs us Q I r h
  obtain ⟨T, b, rfl, hd, e, q⟩ := h
  obtain ⟨u, us', rfl, ru, rr⟩ : ∃ u us', us = u :: us' ∧ RelV (.ref a) u ∧ Vals [.ty T] us' := by cases r with | cons x y => exact ⟨_, _, rfl, x, y⟩
  obtain ⟨t, rfl, rt⟩ := vals1 rr
  cases ru
  obtain rfl : t = Value.type T := rt
  obtain ⟨hget, _⟩ := I.pin (a, oe) (List.mem_append_left _ List.mem_cons_self)
  obtain ⟨vs, hv⟩ := hf
  have nc : PySem.W.notCls oe = true := by unfold PySem.W.notCls; rw [hv] <;> rfl
  have J : ∃ od, PySem.W.InstAt s.heap a oe C od := by
    rcases hd with hd | ⟨dd, gs, hd, hx⟩
    · subst hd
      exact ⟨none, hget, hz.1, nc, by rw [hz.2]; trivial⟩
    · subst hd
      obtain ⟨mA, hns, _⟩ := (show ObjOk X.prog X.w H s.heap dd (.xd gs) from I.hok dd _ hx)
      obtain ⟨od, ho, _⟩ := lookIn_ns hns
      exact ⟨some od, hget, hz.1, nc, by rw [hz.2]; exact ho⟩
  obtain ⟨od, J⟩ := J
  exact PySem.W.kia_one (PySem.W.kitx_exc G.hcl F.ga F.gg F.exC G.ha G.hn G.ht G.hm) I.kIn J e (fun z => nomatch z) fun tk => ⟨.bl b, H, I.kept (t' := tk) fun _ _ z => z, rfl, q⟩
/-- a test in a suite that asks for the error's class alone -/
def Cau.Kn (c : Cau) (σ : L2.St) (H : Hp) : Prop := DOk c.d H ∧ ∀ j, c.i = some j → j < σ.length → σ[j]? = some (some (V.ref c.a))
def KnT (Y : Cx) (c : Cau) (e : Expr) (b : Bool) : Prop := ∃ tt, PT Y e tt ∧ ∀ σ H Q, Y.N.length = σ.length → c.Kn σ H → Q b H → tt σ H Q
end
section
variable {X : Cx} {oe : Obj} {pn : List (Addr × Obj)} {c : Cau}
theorem kn_is {n : Str} {T : String} {b : Bool} {i : Nat} {x y f : Str} {p1 p2 p3 pos : Pos} (F : IsX X.K n T b) (hz : Zc (.ref (He.ga X.K n)) c.d oe) (hf : ∃ vs, oe.data = .fields vs) (hi : c.i = some i) (hI : X.mg "isinstance" = none) (hT : X.mg y = none)
    (hfn : f = "isinstance" := by rfl) (hN : (X.suite c.a ((c.a, oe) :: pn)).N[i]? = some x := by rfl) (hv : Vis (X.suite c.a ((c.a, oe) :: pn)).env.scope x := by first | exact Or.inl rfl | exact Or.inr (Or.inl rfl) | exact Or.inr (Or.inr rfl))
    (hd : (x == ("__debug__" : Str)) = false := by decide) (hcd : (x == ("__classdict__" : Str)) = false := by decide) (hB : bootBuiltins y = some (.type T) := by decide +kernel)
    (hg : Gl (X.suite c.a ((c.a, oe) :: pn)) f := by rfl) (hg' : Gl (X.suite c.a ((c.a, oe) :: pn)) y := by rfl) (hn : y ≠ "__name__" := by decide) (hdy : (y == ("__debug__" : Str)) = false := by decide)
    (h1 : starEach [.Name x p2, .Name y p3] (X.suite c.a ((c.a, oe) :: pn)).env = (false, eval (.Name x p2) (X.suite c.a ((c.a, oe) :: pn)).env) :: starEach [.Name y p3] (X.suite c.a ((c.a, oe) :: pn)).env := by rfl)
    (h2 : starEach [.Name y p3] (X.suite c.a ((c.a, oe) :: pn)).env = (false, eval (.Name y p3) (X.suite c.a ((c.a, oe) :: pn)).env) :: starEach [] (X.suite c.a ((c.a, oe) :: pn)).env := by rfl)
    (hpl : (backTo pos (starEach [.Name y p3] (X.suite c.a ((c.a, oe) :: pn)).env)).any (·.1) = false := by rfl)
    (he : ∀ whole, isTrue (.Call (.Name f p1) [.Name x p2, .Name y p3] [] pos) (X.suite c.a ((c.a, oe) :: pn)).env whole = (do let v ← whole; standAt (Expr.Call (.Name f p1) [.Name x p2, .Name y p3] [] pos).pos; holding [v] (truthy v)) := by intro _; rfl) :
    KnT (X.suite c.a ((c.a, oe) :: pn)) c (.Call (.Name f p1) [.Name x p2, .Name y p3] [] pos) b := by
  subst hfn
  refine ⟨_, pt_val (pe_callB (call_isX F.xf F.is hz hf) hg hI (by decide +kernel) (pa_cons (pe_var (i := i) hN hv hd hcd) (pa_cons (pe_bltn (v := .ty T) hg' hT hB rfl hn hdy) pa_nil h2) h1) (by decide) (by decide) h1 hpl) he, fun σ H Q hl kn q => ?_⟩
  refine ⟨.ref c.a, kn.2 i hi (by rw [← hl]; exact lt_of_get hN), T, b, rfl, kn.1, F.ans, b, rfl, q⟩
variable {Y : Cx} {e e2 : Expr} {b b2 : Bool} {pos pos' : Pos} {x y : Expr} {tx ty : DE}
theorem kn_not (h : KnT Y c e b) : KnT Y c (.UnaryOp .Not e pos) (!b) := by
  obtain ⟨tt, h1, h2⟩ := h
  exact ⟨_, pt_not h1, fun σ H Q hl kn q => h2 σ H _ hl kn q⟩
theorem kn_and (h : KnT Y c e b) (h' : KnT Y c e2 b2) : KnT Y c (.BoolOp .And [e, e2] pos) (b && b2) := by
  obtain ⟨tt, h1, h2⟩ := h
  obtain ⟨tt', h3, h4⟩ := h'
  refine ⟨_, PW.pt (pw_and h1 (pw_and1 h3)), fun σ H Q hl kn q => h2 σ H _ hl kn ?_⟩
  cases b with
  | false => exact q
  | true => exact h4 σ H Q hl kn q
theorem Cau.Ok.kn {K : PySem.W.Frag} {M : MB} {H : Hp} {σ : L2.St} (h : c.Ok K M H σ) : c.Kn σ H := by
  refine ⟨?_, h.2⟩
  rcases h.1 with ⟨_, e⟩ | ⟨dd, gs, e1, e2, _⟩
  · exact .inl e
  · exact .inr ⟨dd, gs, e1, e2⟩
/-- x if t else y: t known -/
theorem xe_ifK (h : KnT Y c e b) (hx : PEx Y c x tx) (hy : PEx Y c y ty) : PEx Y c (.IfExp e x y pos) (if b then tx else ty) := by
  obtain ⟨tt, h1, h2⟩ := h
  refine ⟨fun pins s σ H Q I q => (pe_ifExp h1 hx hy).run pins s σ H Q I ?_⟩
  have q0 := q
  obtain ⟨ρ, M, Qd, S, R, z, q, k⟩ := q
  refine h2 σ H _ I.len.symm z.kn ?_
  cases b with
  | true => exact q0
  | false => exact q0
theorem xe_ifT (h : KnT Y c e true) (hx : PEx Y c x tx) (hy : PEx Y c y ty) : PEx Y c (.IfExp e x y pos) tx := xe_ifK h hx hy
theorem xe_ifF (h : KnT Y c e false) (hx : PEx Y c x tx) (hy : PEx Y c y ty) : PEx Y c (.IfExp e x y pos) ty := xe_ifK h hx hy
end
/-! ### clear, list(x.items()) -/
section
variable {X : Cx} {o e : Expr} {to te : DE} {apos cpos pos p : Pos} {mk : MkR}
theorem de_clear (ho : PEd X o to) (hbase : attributeBase o "clear" X.env (eval o X.env) = eval o X.env := by rfl) (hline : (apos.endLine == cpos.line) = true := by rfl) : PEd X (.Call (.Attribute o "clear" apos) [] [] cpos) (dClear to) :=
  peI (pe_dclear ho hbase hline) fun σ H Q ⟨ρ, M, E, Qd, S, R, q, xo, k⟩ => ⟨ρ, M, E, _, S, R, q, xo, fun v d M1 H1 e1 R1 r1 ⟨j, l, ed, hm, q1⟩ => by
    subst ed
    obtain ⟨a, ha, ev⟩ := r1
    subst ev
    obtain ⟨ks, h1, h2⟩ := R1.at_ _ _ _ ha hm
    have E' := Ev.put (M := M1) (H := H1) (k := j) (v := some (.dic [])) (u := .dK []) ha h1 trivial
    exact ⟨.inr (.inr (.inl ⟨rfl, .inl ⟨ks, h1⟩⟩)), a, ks, rfl, rfl, h1, k _ .non (M1.put j (some (.dic []))) _ (e1.trans E') (R1.put ha h1 trivial ⟨[], upd_same, rfl⟩) rfl q1⟩⟩
/-- more stands in the heap -/
theorem KeepR.more {K : PySem.W.Frag} {M : MB} {H H' : Hp} (kp : ∀ b u, H b = some u → H' b = some u) : KeepR K M H M H' where
  t := fun a xs q => by
    rcases q with (q | ⟨u, q⟩) | q
    · exact .inl (.inl (kp _ _ q))
    · exact .inl (.inr ⟨u, kp _ _ q⟩)
    · exact .inr q
  f := fun a xs q => by
    rcases q with ⟨u, q⟩ | q
    · exact .inl ⟨u, kp _ _ q⟩
    · exact .inr q
  z := fun a u v q n => ⟨kp _ _ q, n⟩
  r := fun _ _ q => q
theorem MR.more {K : PySem.W.Frag} {mg : Str → Option Value} {M : MB} {H H' : Hp} (R : MR K mg M H) (kp : ∀ b u, H b = some u → H' b = some u) : MR K mg M H' :=
  ⟨R.len, R.nd, fun b hb => by
    cases h : H b with
    | none => exact (R.tr b hb h).elim
    | some u => rw [kp b u h]; simp, fun j b x g g' => (R.at_ j b x g g').keepR (.more kp) (fun w q => kp _ _ q) fun q => q, fun b hb => by
    obtain ⟨u, v, e⟩ := R.lz b hb
    exact ⟨u, v, kp _ _ e⟩⟩
theorem Ev.more {M : MB} {H H' : Hp} (kp : ∀ b u, H b = some u → H' b = some u) : Ev M H M H' := ⟨fun _ _ q => kp _ _ q, fun _ _ _ q => kp _ _ q, fun _ _ q _ => kp _ _ q, fun _ _ q => q, fun _ q n => (n q).elim, rfl⟩
theorem pairs_rep {K : PySem.W.Frag} {M : MB} {H H' : Hp} (kp : ∀ b u, H b = some u → H' b = some u) : ∀ {l : List (Key × D)} {ks : List (Key × V)} {ts : List Addr}, RepKV K M H l ks → Paired (fun (t : Addr) (q : Key × V) => H' t = some (.tup [kV q.1, q.2])) ts ks → Reps K M H' (l.map pairD) (ts.map V.ref)
  | [], _, _, h, p => by cases h; cases p; rfl
  | (k, d) :: l, _, _, ⟨v, r, e, h1, h2⟩, p => by
    subst e
    cases p with
    | @cons t q ts qs h t' => exact ⟨.ref t, _, rfl, ⟨t, _, rfl, .inl (.inl h), ⟨_, _, rfl, kd_rep, v, _, rfl, h1.monoR (.more kp), rfl⟩⟩, pairs_rep kp h2 t'⟩
theorem de_itemsL (hm : MkOk mk) (hc : X.calm = true) (hl : X.mg "list" = none) (he : PEd X e te) (hg : Gl X "list" := by rfl) (hv : bootBuiltins "list" = some (.type "list") := by decide +kernel) (hbase : attributeBase e "items" X.env (eval e X.env) = eval e X.env := by rfl) (hline : (apos.endLine == cpos.line) = true := by rfl)
    (hs : starEach [.Call (.Attribute e "items" apos) [] [] cpos] X.env = (false, eval (.Call (.Attribute e "items" apos) [] [] cpos) X.env) :: starEach [] X.env := by rfl) :
    PEd X (.Call (.Name "list" p) [.Call (.Attribute e "items" apos) [] [] cpos] [] pos) (dItemsL mk te) :=
  peI (pe_frz (LiI.pe_listItems hc he hg hl hv hbase hline hs)) fun σ H Q ⟨ρ, M, E, Qd, S, R, q, xo, k⟩ => ⟨ρ, M, E, _, S, R, q, xo, fun v d M1 H1 e1 R1 r1 ⟨j, l, ed, hj, q1⟩ => by
    subst ed
    obtain ⟨a, ha, ev⟩ := r1
    subst ev
    obtain ⟨ks, h1, h2⟩ := R1.at_ _ _ _ ha hj
    refine ⟨a, ks, rfl, h1, fun H' b ts kp nb nt nbt hb pr => ?_⟩
    have np : b ∉ M1.i := R1.mem nb
    have E1 : Ev M1 H1 M1 H' := .more kp
    exact hm.of E1 nb np np hb trivial (R1.more kp) (o := .lst (l.map pairD)) ⟨_, hb, pairs_rep kp h2 pr⟩ q1 fun v d M' H' e' R' r' q' => k v d M' H' (e1.trans e') R' r' q'⟩
end
end DM

set_option maxHeartbeats 1000000
/-! DM: x = {k: v for ..}. -/
namespace DM
open PySem PySem.Spec L2
section
variable {X : Cx}
theorem ps_intoDc {j : Nat} {n : Str} {np : Pos} {kx vx tg iter : Expr} {ifs : List Expr} {sc : Scope} {mine : List (Str × Nat)} {pos sp : Pos} {wi : TI} {g : TG} {tt : TT} {tk tv : TE} (calm : X.calm = true) (nodup : X.N.Nodup) (slot : X.N[j]? = some n) (isl : X.env.scope.names.lookup n = some .local)
    (fused : swapsWith (.DictComp kx vx [⟨tg, iter, ifs, 0⟩] sc pos) (some (.Name n np)) sp.line X.env = pure true) (walk : PI X tg iter wi) (blk : BlkOk X.N X.env.scope sc mine)
    (pg : ∀ (s : Shared) (H : Hp) (C : Addr) (cl : List (Str × Addr)) (fp : List Addr), PG (X.blk s H sc (compEnvC sc cl C X.env) fp) tg g) (pt : ∀ (s : Shared) (H : Hp) (C : Addr) (cl : List (Str × Addr)) (fp : List Addr), PTs (X.blk s H sc (compEnvC sc cl C X.env) fp) ifs tt)
    (pk : ∀ (s : Shared) (H : Hp) (C : Addr) (cl : List (Str × Addr)) (fp : List Addr), PE (X.blk s H sc (compEnvC sc cl C X.env) fp) kx tk) (pv : ∀ (s : Shared) (H : Hp) (C : Addr) (cl : List (Str × Addr)) (fp : List Addr), PE (X.blk s H sc (compEnvC sc cl C X.env) fp) vx tv)
    (fs : ∀ x, foldedSetIterable iter X.env x = pure x) : PS X (.Assign [.Name n np] (.DictComp kx vx [⟨tg, iter, ifs, 0⟩] sc pos) sp) (tAsg (tDc wi g tt tk tv (mine.map (·.2))) (gName j)) := by
  constructor
  intro pins s σ H D I wish
  have start := exec_Assign_Name_used _ _ _ _ fused
  rw [start]
  apply wpAny_bind
  apply wpAny_standAt
  apply wpAny_bind
  have wish' : tDc wi g tt tk tv (mine.map (·.2)) σ H (fun x H1 => gName j x σ H1 D.nx) := wish
  show wpAny _ X.A (do let _ ← comprehension (.DictComp kx vx [⟨tg, iter, ifs, 0⟩] sc pos) sc X.env (firstIterPos [⟨tg, iter, ifs, 0⟩] pos) newDict false (eval iter X.env) (some (assign (.Name n np) X.env))) _ _ s
  apply wpAny_bind
  refine thn (dc_core (Qf := fun _ t => SP X pins D .next t) calm nodup I walk blk pg pt pk pv fs wish' fun new cel t m G J done ns fp => ?_) fun _ _ done => wpAny_pure (wpAny_pure done)
  show wpAny _ _ (assign (.Name n np) X.env (.ref new)) _ _ _
  obtain ⟨p0, p1, p2, p3, p4, p5⟩ := fp
  refine wpAny_assign_Name (store_ok2 (v := V.ref new) J nodup slot (.inl isl) rfl (fun t2 J2 ⟨w, same, at_w⟩ => ?_) (.inr isl))
  have apart : cel ≠ w := by
    rcases at_w with at_w | at_w
    · exact at_w ▸ p1
    · exact (p4 n w at_w).symm
  exact ⟨m, ns.sameBut same apart, fun h3 same3 => ⟨_, G, J2.turned (t' := t2.toks) (fun b o hb e => (same3.2 b hb).trans e) p0 p1 p3 p4 p5, done⟩⟩
theorem swD_true {kx vx : Expr} {gs : List Comprehension} {sc : Scope} {pos np : Pos} {n : Str} {l : Nat} {env : Env} (hf : env.scope.kind = .function) (hn : env.scope.names.lookup n = some .local) (hl : (np.line == pos.line) = true)
    (out : (sc.names.any fun (m, k) => m == n && (k == .local || k == .cell)) = false) : swapsWith (.DictComp kx vx gs sc pos) (some (.Name n np)) l env = pure true := by
  have kind : env.kindOf n = some .local := hn
  have block : env.blockKind = .function := by unfold Env.blockKind; rw [hf]; rfl
  unfold swapsWith
  simp only [block, kind, out, Expr.pos, hl]
  rfl
theorem ds_setDc {mk : MkR} (hmk : MkOk mk) {i : Nat} {y : Str} {py spos : Pos} {tg iter kx vx : Expr} {pos : Pos} {ifs : List Expr} {scope : Scope} {own : List (Str × Nat)} {ti : DI} {g : Tg} {tt : DT} {tk tv : DE} (hc : X.calm = true) (hN : X.N.Nodup)
    (hsw : swapsWith (.DictComp kx vx [⟨tg, iter, ifs, 0⟩] scope pos) (some (.Name y py)) spos.line X.env = pure true) (hi : PId X tg iter ti) (ok : blkC X.N X.env.scope scope own = true)
    (hg : ∀ s H C cl fp, PGd (blkE X scope s H C cl fp) tg g) (ht : ∀ s H C cl fp, PTsd (blkE X scope s H C cl fp) ifs tt) (hk : ∀ s H C cl fp, PEd (blkE X scope s H C cl fp) kx tk) (he : ∀ s H C cl fp, PEd (blkE X scope s H C cl fp) vx tv)
    (hy : X.N[i]? = some y := by rfl) (hyl : X.env.scope.names.lookup y = some .local := by rfl) (hv : ∀ i ∈ g.slots, i ∈ own.map (·.2) := by decide) (hs : ∀ x, foldedSetIterable iter X.env x = pure x := by intro _; rfl) :
    PSd X (.Assign [.Name y py] (.DictComp kx vx [⟨tg, iter, ifs, 0⟩] scope pos) spos) (dAsg (dDC mk ti g tt tk tv (own.map (·.2))) (.nm i)) := by
  obtain ⟨wi, h1, h2⟩ := hi
  refine psI (ps_frz (ps_intoDc (g := LG X.K g) (tt := LT0 X.K X.mg tt) (tk := LE0 X.K X.mg tk) (tv := LE0 X.K X.mg tv) hc hN hy hyl hsw h1 (blkOk_by ok) (fun s H C cl fp => (hg s H C cl fp).of) (fun s H C cl fp => pts0 (ht s H C cl fp)) (fun s H C cl fp => pe0 (hk s H C cl fp)) (fun s H C cl fp => pe0 (he s H C cl fp)) hs)) fun D σ H ⟨ρ, M, De, S, R, q, k⟩ => ?_
  refine lift_dc hmk hv h2 σ H (fun v H1 => D.nx (σ.set i (some v)) H1) _ (fun v H1 h => ?_) ⟨ρ, M, _, _, S, R, q, k.xok S, fun v d M1 H1 e1 R1 r1 q1 => k.nx _ H1 _ M1 e1 ((S.ev e1).set r1) R1 (by simpa only [Tg.store] using q1)⟩
  show (frzN D).nx (σ.set i (some v)) H1
  rcases h with h | ⟨a, u, _, ea, mu, q⟩
  · exact .inl h
  · exact .inr ⟨a, u, ea, mu, q⟩
end
end DM

set_option maxHeartbeats 1000000
/-! DM: sorted(set(t)) of a tuple of ints. -/
namespace DM
open PySem PySem.Spec L2 PyProof.Rows
def tSrtS (K : PySem.W.Frag) (ta : TE) : TE := fun σ H Q => ta σ H fun x H1 => ∃ (l : Addr) (ns : List Int), x = V.ref l ∧ SqT K H1 l (ns.map V.int) ∧ ns.length < 64 ∧
  ∀ (ns' : List Int) (p : Addr), ns'.Pairwise (· < ·) → (∀ k, k ∈ ns' ↔ k ∈ ns) → H1 p = none → Q (.ref p) (upd H1 p (.lst (ns'.map V.int)))
section
variable {X : Cx}
theorem pe_srtS {a : Expr} {ta : TE} {p p2 q pos : Pos} (hc : X.calm = true) (ha : PE X a ta) (hm : X.mg "sorted" = none) (hm2 : X.mg "set" = none) (hg : Gl X "sorted" := by rfl) (hg2 : Gl X "set" := by rfl) (hv : bootBuiltins "sorted" = some (.builtin "sorted") := by decide +kernel)
    (na : starEach [a] X.env = (false, eval a X.env) :: starEach [] X.env := by rfl) : PE X (.Call (.Name "sorted" p) [.Call (.Name "set" p2) [a] [] q] [] pos) (tSrtS X.K ta) := by
  constructor
  intro pins s σ H Q I h
  refine Call_ (ld_blt I hg hm hv (PyProof.Rows.callWith_builtin1 (PyProof.Rows.args_cons ?_ rfl) rfl rfl))
  refine Call_ (ld_blt I hg2 hm2 PyProof.Rows.boot_set (PyProof.Rows.callWith_type1 (PyProof.Rows.args_cons (thn (ha.run pins s σ H _ I h) fun v s1 w => PyProof.Rows.args_nil ?_) na) na rfl))
  obtain ⟨x, H1, J, rv, l, ns, ex, tup, few, done⟩ := w
  subst ex
  cases rv
  obtain ⟨its, vals, isT, _⟩ := J.tuple tup
  have calm := J.ok.hd hc
  refine call_set_tupI (s := s1) ns calm isT (ints_of_vals vals) (by unfold scanBound; omega) fun h2 tk2 c made cle kept => PyProof.Rows.args_nil ?_
  have J2 : Inv X pins σ H1 { s1 with heap := h2, toks := tk2 } := J.kept kept
  refine sorted_set (s := { s1 with heap := h2, toks := tk2 }) made calm (Nat.lt_of_le_of_lt cle few) fun s3 r out c3 ks kp3 gens3 os3 fresh lst inn inc mem len => ?_
  have new : H1 r = none := J2.hok.fresh fresh
  have line : (ks.map V.int).length ≤ sizeLine := by rw [List.length_map, len, sizeLine_eq]; omega
  obtain ⟨hp3, g3, dr3, tk3, o3⟩ := s3
  have eo : o3 = s1.os := os3
  subst eo
  have J3 := J2.call (H' := upd H1 r (.lst (ks.map V.int))) (h' := hp3) (g' := g3) (t' := tk3) (d' := dr3) (ch := []) (Un.laid kp3 fresh new) (J2.hok.laid kp3 fresh ⟨line, out.toList, c3, vals_of_ints inn, lst⟩) (by rw [show g3 = s1.gens from gens3]; exact J2.bare) (fun _ z => nomatch z)
  exact ⟨.ref r, _, J3, rfl, done ks r inc (fun k => by rw [mem k, decide_eq_true_eq]) new⟩
end
section
variable {X : Cx}
theorem de_srtS {mk : MkR} {a : Expr} {ta : DE} {p p2 q pos : Pos} (hm0 : MkOk mk) (hc : X.calm = true) (ha : PEd X a ta) (hm : X.mg "sorted" = none) (hm2 : X.mg "set" = none) (hg : Gl X "sorted" := by rfl) (hg2 : Gl X "set" := by rfl) (hv : bootBuiltins "sorted" = some (.builtin "sorted") := by decide +kernel)
    (na : starEach [a] X.env = (false, eval a X.env) :: starEach [] X.env := by rfl) : PEd X (.Call (.Name "sorted" p) [.Call (.Name "set" p2) [a] [] q] [] pos) (dSrtS mk ta) :=
  peI (pe_frz (pe_srtS hc ha hm hm2 hg hg2 hv na)) fun σ H Q ⟨ρ, M, E, Qd, S, R, q, xo, k⟩ => ⟨ρ, M, E, _, S, R, q, xo, fun v d M1 H1 e1 R1 r1 ⟨ns, ed, few, q1⟩ => by
    subst ed
    obtain ⟨t, us, ev, sq, ru⟩ := r1
    subst ev
    have := reps_int ru
    subst this
    exact ⟨t, ns, rfl, sq, few, fun ns' p inc mem n => hm0.new R1 n trivial (o := .lst (ns'.map D.int)) ⟨_, upd_same, reps_of_int ns'⟩ (q1 ns' inc mem) fun v d M' H' e' R' r' q' => k v d M' H' (e1.trans e') R' r' q'⟩⟩
end
end DM

set_option maxHeartbeats 1000000
/-! DM: len(o) by the own __len__; dict([(k, v), ..]). -/
namespace DM
open PySem PySem.Spec L2 PyProof.Rows
section
variable {X : Cx}
def rLenM (X : Cx) (k : Nat) : List V → Hp → VK → Prop := fun vs H Q => ∃ (a C dx : Addr) (gs : List (Str × V)) (f : Addr) (fd : FuncData) (ps : List Str) (sp : SpD), vs = [V.ref a] ∧ H a = some (.ins C dx gs) ∧ PySem.W.findIn X.K (.ref C) "__len__" = some (some (.ref f)) ∧ PySem.W.isFn X.K (.ref f) = true ∧
  FnD X.prog X.w X.K X.mg X.base k f fd ps sp ∧ Binds X.K fd ps [] ∧ liftSp X.K X.mg sp [V.ref a] H (fun v H' => ∃ i : Int, v = .int i ∧ 0 ≤ i ∧ i < 2 ^ 62 ∧ Q (.int i) H') fun _ _ _ => False
theorem cr_lenM {k : Nat} (hr : Room (k + 1) X.A) (hgd : X.A.guards = some []) : CallR X (.builtin "len") (rLenM X k) := by
  intro pins s σ H xs us Q I r h
  obtain ⟨a, C, dx, gs, f, fd, ps, sp, rfl, ha, at_, fn, F, hb, wish⟩ := h
  obtain ⟨u, rfl, ru⟩ := vals1 r
  obtain rfl : u = Value.ref a := ru
  obtain ⟨mA, J, _⟩ := ins_get I.hok ha
  obtain ⟨od, J, _⟩ := J.look
  obtain ⟨m, fr⟩ := I.fr
  refine PySem.W.len_K fr I.ok.mod.kin J at_ fn ?_
  have here : Env0 X.prog X.w X.K X.mg X.base X.A.in1 X.stack s H := by
    have e := I.env0
    exact ⟨e.frames, e.mod, e.bs, e.bsz, e.funs, e.frf, e.hok, e.bare⟩
  have one : [Value.ref a].length = ps.length := by
    obtain ⟨ds, M, Xd, Qd, rs, R, q, _⟩ := wish
    rw [← F.len _ _ _ _ q, rs.len]; rfl
  have bind := hb s [Value.ref a] I.kIn (by rw [List.append_nil]; exact one)
  rw [List.append_nil] at bind
  refine wpAny_call (codeAny_mono (F.run X.A.in1 X.stack s H ⟨[Value.ref a], []⟩ [Value.ref a] _ _ _ hr.in1 hgd here bind r wish) fun res s2 got => ?_)
  rcases res with er | fl
  · obtain ⟨_, _, _, _, _, _, _, _, _, _, _, _, z⟩ := got
    exact z.elim
  · cases fl with
    | ret w =>
      obtain ⟨z, H2, J2, rz, i, ez, h0, h1, q⟩ := I.after got
      subst ez
      obtain ⟨t, rfl⟩ := rz
      exact ⟨⟨h0, Int.lt_trans h1 (by decide)⟩, .int i, H2, J2.tok _, ⟨_, rfl⟩, q⟩
    | next => exact got.elim
    | brk => exact got.elim
    | cont => exact got.elim
theorem cd_lenM {k : Nat} {tbl : List (Str × SpD)} (T : MethX X.prog X.w X.K X.mg X.base k "__len__" tbl) (hr : Room (k + 1) X.A) (hgd : X.A.guards = some []) : CallD X (.builtin "len") (cLenM tbl) := ⟨_, cr_lenM hr hgd, fun ds vs M H Qd Q R rs ⟨x, e, c, fs, sp, hi, hsp, q⟩ k => by
  subst e
  obtain ⟨v, ev, rv⟩ := rs.one'
  subst ev
  obtain ⟨j, a, C, dx, gs, ed, hja, ev, hm, hC, hH, hF⟩ := ins_at R rv hi
  obtain ⟨C', f, fd, ps, hC', cl, me, F, hb⟩ := T c sp hsp
  rw [hC] at hC'; cases hC'
  subst ev
  refine ⟨a, C, dx, gs, f, fd, ps, sp, rfl, hH, me.at_, me.fn, F, hb, [x], M, noX, _, rs, R, q, fun _ _ _ _ _ _ _ _ _ _ z => z.elim, fun v d M' H' e' R' r' ⟨i, ed, h0, h1, q'⟩ => ?_⟩
  subst ed
  exact ⟨i, r', h0, h1, k (.int i) (.int i) M' H' e' R' rfl q'⟩⟩
/-! ### dict([(k, v), ..]) -/
theorem pairs_of {K : PySem.W.Frag} {M : MB} {H : Hp} : ∀ {l : List (Key × D)} {vs : List V}, Reps K M H (l.map pairD) vs → ∃ (ps : List Addr) (ks : List (Key × V)), vs = ps.map V.ref ∧ Paired (fun p kv => SqT K H p [kV kv.1, kv.2]) ps ks ∧ RepKV K M H l ks
  | [], _, h => by cases h; exact ⟨[], [], rfl, .nil, rfl⟩
  | (k, d) :: l, _, ⟨v, r, e, h1, h2⟩ => by
    subst e
    obtain ⟨ps, ks, e2, p2, r2⟩ := pairs_of h2
    subst e2
    obtain ⟨t, us, ev, sq, ru⟩ := h1
    subst ev
    obtain ⟨v1, r1, e1, g1, g2⟩ := ru
    subst e1
    obtain ⟨v2, r3, e3, g3, g4⟩ := g2
    subst e3
    cases g4
    have ek : v1 = kV k := by cases k <;> exact g1
    subst ek
    exact ⟨t :: ps, (k, v2) :: ks, rfl, .cons sq p2, v2, ks, rfl, g3, r2⟩
theorem cd_dictP {mk : MkR} (hc : X.calm = true) (hm : MkOk mk) : CallZ X (.type "dict") (cDictP mk) := ⟨_, call_dictP hc, fun ds vs M H Qd Q R rs ⟨x, e, l, nt, h, q⟩ k => by
  subst e
  obtain ⟨v, ev, rv⟩ := rs.one'
  subst ev
  obtain ⟨p, us, ep, ru, hs⟩ := sq_of R rv h
  subst ep
  obtain ⟨ps, ks, e2, p2, r2⟩ := pairs_of ru
  subst e2
  rcases hs with ⟨et, _⟩ | ⟨_, hs⟩
  · exact (nt _ et).elim
  · exact ⟨p, ps, ks, rfl, hs.l, p2, fun a n => hm.new R n trivial (o := .dic (mergeD [] l)) ⟨_, upd_same, (RepKV.merge (l := []) rfl r2).ev (Ev.new (M := M) n)⟩ q k⟩⟩
end
end DM

set_option maxHeartbeats 1000000
/-! DM: == and != of like tuples in which dicts stand. -/
namespace DMT
open PySem PySem.SeqAt
open AutoSeq1 (wpAny_loadPart')
open MeetsSeq MeetsSeq2 MeetsSeq3 SeqRoads2
section
variable {prog : Program} {w : World} {A : Around} {E : Value → Shared → Prop} {s : Shared}
/-- two like tuples are not unlike -/
theorem ne_like {p q : Addr} {xs ys : Array Value} {Q : Value → Shared → Prop} (len : xs.size = ys.size) (room : A.units < cLine) (tp : s.heap.IsTuple p xs) (tq : s.heap.IsTuple q ys)
    (like : ∀ i (a : i < xs.size) (b : i < ys.size), EqP prog w A.in1 s xs[i] ys[i] true) (done : Q (.bool false) s) : wpAny (model prog w) A (richCompare .NotEq (.ref p) (.ref q)) Q E s := by
  obtain ⟨⟨c1, d1, t1, s1⟩, g1, k1, n1, e1⟩ := id tp
  obtain ⟨⟨c2, d2, t2, s2⟩, g2, k2, n2, e2⟩ := id tq
  simp only at k1 e1 k2 e2
  subst k1; subst e1; subst k2; subst e2
  refine wpAny_richCompare_same_room (op := .NotEq) ⟨_, g1, rfl⟩ ⟨_, g2, rfl⟩ F.slot_tuple_ne (GQ.call_here F.slot_tuple_ne ⟨_, g1, rfl⟩ F.entry_tuple_ne (F.args_tuple_ne_2 _ _) ?_) room
  have sub := AutoSeq1.sub_tuple_tuple
  have zl : (xs.toList.zip ys.toList).length = xs.size := by simp [len]
  obtain ⟨hp, g, d, tk, os⟩ := s
  wp_walk using wpAny_loadPart' g1, wpAny_loadPart' g2, wpAny_forIn_list _ (fun left acc now => acc.1 = none ∧ now = ⟨hp, g, d, tk, os⟩ ∧ ∃ i, left = (xs.toList.zip ys.toList).drop i ∧ i ≤ xs.size) _
  case turn =>
    rintro ⟨u, v⟩ left acc now ⟨none0, same, i, el, le⟩
    have lt : i < (xs.toList.zip ys.toList).length := Nat.lt_of_not_le fun h => by rw [List.drop_of_length_le h] at el; cases el
    have a : i < xs.size := zl ▸ lt
    have b : i < ys.size := len ▸ a
    rw [List.drop_eq_getElem_cons lt] at el
    injection el with pair tail
    have eu : u = xs[i] := by simpa using congrArg Prod.fst pair
    have ev : v = ys[i] := by simpa using congrArg Prod.snd pair
    subst eu; subst ev; subst same
    refine wpAny_bind (like i a b _ _ ?_)
    wp_walk
    exact ⟨rfl, rfl, i + 1, tail, a⟩
  case fin =>
    rintro ⟨r1, r2⟩ now ⟨none0, same, i, el, le⟩
    simp only at none0
    subst none0; subst same
    wp_walk
    have no : Builtin.Tuple.tupleCompareSizes .NotEq xs.size ys.size = .bool false := by simp [Builtin.Tuple.tupleCompareSizes, len]
    rw [no]
    exact ⟨(fun x => nomatch x), done⟩
  case h => exact ⟨rfl, rfl, 0, rfl, Nat.zero_le _⟩
end
end DMT
namespace DM
open PySem PySem.Spec L2
section
variable {X : Cx} {pins : List (Addr × Obj)} {σ : L2.St} {H : Hp} {s : Shared}
/-- the two are equal: plain data, or dicts of plain data -/
def LikeV (K : PySem.W.Frag) (H : Hp) (x y : V) : Prop := (∃ d e, Dp K H x d ∧ Dp K H y e ∧ d.plain = true ∧ e.plain = true ∧ d.depth ≤ 50 ∧ PyData.eqv d e = true) ∨
  ∃ a b ks ls ps qs, x = .ref a ∧ y = .ref b ∧ Rd H a (.dK ks) ∧ Rd H b (.dK ls) ∧ DpKV K H ks ps ∧ DpKV K H ls qs ∧ (∀ p ∈ ps, p.2.plain = true ∧ p.2.depth ≤ 50) ∧ (∀ q ∈ qs, q.2.plain = true) ∧ (ks.length == ls.length && eqP ps qs) = true
theorem like_run (I : Inv X pins σ H s) {A : Around} (room : A.units + 60 < cLine) {x y : V} {u v : Value} (h : LikeV X.K H x y) (rx : RelV x u) (ry : RelV y v) : SeqAt.EqP X.prog X.w A s u v true := by
  rcases h with ⟨d, e, hd, he, pd, pe, dep, eq⟩ | ⟨a, b, ks, ls, ps, qs, rfl, rfl, ea, eb, da, db, hp, hq, eq⟩
  · obtain ⟨as, r1⟩ := Dp.reads I d x u hd rx
    obtain ⟨bs, r2⟩ := Dp.reads I e y v he ry
    have := SeqAt.eqAt_plain d e A s u v as bs r1 r2 pd pe (by
      have : min d.depth e.depth ≤ 50 := Nat.le_trans (Nat.min_le_left _ _) dep
      omega)
    rw [eq] at this
    exact this.eqP
  · obtain rfl : u = Value.ref a := rx
    obtain rfl : v = Value.ref b := ry
    by_cases same : a = b
    · subst same
      exact (SeqAt.EqAt.same _).eqP
    · obtain ⟨_, ya, va, ra, fa⟩ := dk_rd I.hok ea
      obtain ⟨_, yb, vb, rb, fb⟩ := dk_rd I.hok eb
      refine SeqAt.eqP_refs same fun E Q hq' => ?_
      refine PySem.W.keq_eq (knd := mixKind X.prog X.w) ya yb fa fb (by omega) (fun _ => hits_dp I (A := A.in1) (by show A.units + 1 + 50 < cLine; omega) rb db hq ra da hp) ?_
      rw [← ra.length, ← rb.length, eq]
      exact hq'
def rLikeT (neg : Bool) (K : PySem.W.Frag) : R2 := fun x y H Q => ∃ a b xs ys, x = .ref a ∧ y = .ref b ∧ SqT K H a xs ∧ SqT K H b ys ∧ Paired (LikeV K H) xs ys ∧ Q (.bl (!neg)) H
theorem like_each (I : Inv X pins σ H s) {A : Around} (room : A.units + 60 < cLine) : ∀ {xs ys : List V} {us vs : List Value}, Paired (LikeV X.K H) xs ys → Vals xs us → Vals ys vs → ∀ i (h1 : i < us.length) (h2 : i < vs.length), SeqAt.EqP X.prog X.w A s us[i] vs[i] true
  | _, _, _, _, .nil, r, _, i, h1, _ => by cases r; exact absurd h1 (Nat.not_lt_zero _)
  | _, _, _, _, .cons h t, r, q, i, h1, h2 => by
    cases r with
    | cons r rr =>
      cases q with
      | cons q qq =>
        cases i with
        | zero => exact like_run I room h r q
        | succ i => exact like_each I room t rr qq i (Nat.lt_of_succ_lt_succ h1) (Nat.lt_of_succ_lt_succ h2)
theorem op_likeT (room : X.A.units + 64 < cLine) : OpR X (compareOp .Eq) (rLikeT false X.K) := by
  intro pins s σ H x y v u Q I rx ry h
  obtain ⟨a, b, xs, ys, rfl, rfl, ta, tb, pr, q⟩ := h
  obtain rfl : v = Value.ref a := rx
  obtain rfl : u = Value.ref b := ry
  obtain ⟨us, ru, iu, _⟩ := I.tuple ta
  obtain ⟨vs, rv, iv, _⟩ := I.tuple tb
  have len : us.toArray.size = vs.toArray.size := by rw [List.size_toArray, List.size_toArray, ← ru.length, ← rv.length, pr.length]
  show wpAny (model X.prog X.w) X.A (richCompare .Eq (.ref a) (.ref b)) (EP X pins σ Q) X.xe s
  refine GQ.rc_tupG len (by omega) (fun _ t => t = s) iu iv (fun i h1 h2 t et => ?_) (fun t et => ?_) rfl
  · subst et
    have := like_each I (A := X.A.in1) (by show X.A.units + 1 + 60 < cLine; omega) pr ru rv i (by simpa using h1) (by simpa using h2)
    exact this _ _ ⟨rfl, rfl⟩
  · subst et
    exact ⟨.bl true, H, I, rfl, q⟩
theorem op_unlikeT (room : X.A.units + 64 < cLine) : OpR X (compareOp .NotEq) (rLikeT true X.K) := by
  intro pins s σ H x y v u Q I rx ry h
  obtain ⟨a, b, xs, ys, rfl, rfl, ta, tb, pr, q⟩ := h
  obtain rfl : v = Value.ref a := rx
  obtain rfl : u = Value.ref b := ry
  obtain ⟨us, ru, iu, _⟩ := I.tuple ta
  obtain ⟨vs, rv, iv, _⟩ := I.tuple tb
  have len : us.toArray.size = vs.toArray.size := by rw [List.size_toArray, List.size_toArray, ← ru.length, ← rv.length, pr.length]
  show wpAny (model X.prog X.w) X.A (richCompare .NotEq (.ref a) (.ref b)) (EP X pins σ Q) X.xe s
  refine DMT.ne_like len (by omega) iu iv (fun i h1 h2 => ?_) ⟨.bl false, H, I, rfl, q⟩
  exact like_each I (A := X.A.in1) (by show X.A.units + 1 + 60 < cLine; omega) pr ru rv i (by simpa using h1) (by simpa using h2)
theorem like_of {mg : Str → Option Value} {M : MB} (R : MR X.K mg M H) : ∀ {l m : List D} {xs ys : List V}, likeT M.m l m → Reps X.K M H l xs → Reps X.K M H m ys → Paired (LikeV X.K H) xs ys
  | [], [], _, _, _, h1, h2 => by cases h1; cases h2; exact .nil
  | x :: l, y :: m, _, _, ⟨h, t⟩, ⟨v, r, e, a1, a2⟩, ⟨u, q, e2, b1, b2⟩ => by
    subst e; subst e2
    refine .cons ?_ (like_of R t a2 b2)
    rcases h with ⟨p, p2, s1, s2, c1, c2, c3, c4⟩ | ⟨d, d2, h1, h2, o1, o2, eq⟩
    · exact .inl ⟨p, p2, s1.dp R a1, s2.dp R b1, c1, c2, c3, c4⟩
    · obtain ⟨a, ks, ea, g1, g2⟩ := dic_rd R a1 h1
      obtain ⟨b, ls, eb, g3, g4⟩ := dic_rd R b1 h2
      refine .inr ⟨a, b, ks, ls, _, _, ea, eb, g1, g3, dpkv_of R o1 g2, dpkv_of R o2 g4, ok_map o1, fun q hq => (ok_map o2 q hq).1, ?_⟩
      rw [rep_len g2, rep_len g4, eqP_eqK]
      exact eq
  | [], _ :: _, _, _, h, _, _ => h.elim
  | _ :: _, [], _, _, h, _, _ => h.elim
theorem od_eqU (room : X.A.units + 64 < cLine) : OpD X (compareOp .Eq) rEqU := ⟨_, op_likeT room, fun x y v w M H Qd Q R rx ry ⟨l, m, e1, e2, h, q⟩ k => by
  subst e1; subst e2
  obtain ⟨a, xs, ea, sa, ra⟩ := rx
  obtain ⟨b, ys, eb, sb, rb⟩ := ry
  exact ⟨a, b, xs, ys, ea, eb, sa, sb, like_of R h ra rb, k _ (.bl true) M H .refl R rfl q⟩⟩
theorem od_neU (room : X.A.units + 64 < cLine) : OpD X (compareOp .NotEq) rNeU := ⟨_, op_unlikeT room, fun x y v w M H Qd Q R rx ry ⟨l, m, e1, e2, h, q⟩ k => by
  subst e1; subst e2
  obtain ⟨a, xs, ea, sa, ra⟩ := rx
  obtain ⟨b, ys, eb, sb, rb⟩ := ry
  exact ⟨a, b, xs, ys, ea, eb, sa, sb, like_of R h ra rb, k _ (.bl false) M H .refl R rfl q⟩⟩
end
end DM

set_option maxHeartbeats 1000000
/-! DM: xs.index(k) of a list of ints. -/
namespace DM
open PySem PySem.Spec L2 PyProof.Rows
section
variable {X : Cx} {pins : List (Addr × Obj)} {σ : L2.St} {H : Hp} {s : Shared}
theorem vals_ints : ∀ {ns : List Int} {vs : List Value}, Vals (ns.map V.int) vs → IntsAre vs ns
  | [], _, h => by cases h; exact .nil
  | n :: ns, _, h => by
    cases h with
    | cons r rr =>
      obtain ⟨t, rfl⟩ := r
      exact .cons n t (vals_ints rr)
theorem mt_index : MtM X "list.index" (fun x vs H Q => ∃ p, ∃ (ns : List Int) (k : Int), x = .ref p ∧ vs = [.int k] ∧ SqE X.K H p (ns.map V.int) ∧ k ∈ ns ∧ Q (.int ((ns.idxOf k : Nat) : Int)) H) := by
  intro pins s σ H x vs v us Q I rx rv ⟨p, ns, k, ex, evs, hB, hk, q⟩
  subst ex; subst evs
  cases rx
  obtain ⟨u, rfl, ru⟩ := rv.one
  obtain ⟨t, rfl⟩ := ru
  obtain ⟨its, n, r, z, e⟩ := hB.at I
  refine SeqAt.list_index_ints ⟨_, e, rfl, n, rfl⟩ (vals_ints r) (by simpa using z) hk ?_
  exact ⟨.int ((ns.idxOf k : Nat) : Int), H, I.kept fun _ _ z => z, ⟨_, rfl⟩, q⟩
theorem reps_intsV {K : PySem.W.Frag} {M : MB} {H : Hp} : ∀ {ns : List Int} {vs : List V}, Reps K M H (ns.map D.int) vs → vs = ns.map V.int
  | [], _, h => h
  | n :: ns, _, ⟨v, r, e, h1, h2⟩ => by
    obtain rfl : v = V.int n := h1
    rw [e, reps_intsV h2]
    rfl
theorem md_index : MtD X "list.index" mIndex := ⟨_, mt_index, fun x ds v vs M H Qd Q R rx rs ⟨ns, k, hs, nt, ed, hk, q⟩ kk => by
  subst ed
  obtain ⟨w, ew, rw'⟩ := rs.one'
  subst ew
  obtain rfl : w = V.int k := rw'
  obtain ⟨b, ws, eb, g2, g1⟩ := sq_of R rx hs
  subst eb
  rcases g1 with ⟨z, _⟩ | ⟨_, g1⟩
  · exact absurd z (nt _)
  rw [reps_intsV g2] at g1
  exact ⟨b, ns, k, rfl, rfl, g1, hk, kk _ (.int ((ns.idxOf k : Nat) : Int)) M H .refl R rfl q⟩⟩
theorem ty_lsq : TyD X "list" isLsq := fun x v M H R r ⟨l, hs, nt⟩ => by
  obtain ⟨b, ws, eb, g2, g1⟩ := sq_of R r hs
  subst eb
  rcases g1 with ⟨z, _⟩ | ⟨_, g1⟩
  · exact absurd z (nt _)
  exact .inl ⟨rfl, _, g1.l⟩
end
end DM

/-! DM: calls by parameter names, keyword-only defaults. -/
namespace DM
open PySem PySem.Spec L2
open PyProof.Rows (envOfC)
def pickV (is : List Pk) (xs : List V) : List V := is.map fun | .at i => xs.getD i .non | .df i => .int i
def pickU (is : List Pk) (u : Value) (xs : List Value) : List Value := is.map fun | .at i => xs.getD i .none | .df i => u
/-- the values are written, the default is u's -/
def Pk.fits (m : Nat) (u : Value) : Pk → Prop
  | .at i => i < m
  | .df i => RelV (.int i) u
theorem fits_nil {m : Nat} {u : Value} : ∀ p ∈ ([] : List Pk), p.fits m u := fun _ h => nomatch h
theorem fits_at {m i : Nat} {u : Value} {is : List Pk} (h : decide (i < m) = true) (r : ∀ p ∈ is, p.fits m u) : ∀ p ∈ Pk.at i :: is, p.fits m u := fun p hp => by
  rcases List.mem_cons.mp hp with e | hp
  · rw [e]; exact (of_decide_eq_true h : i < m)
  · exact r p hp
theorem fits_df {m : Nat} {i : Int} {u : Value} {is : List Pk} (h : RelV (.int i) u) (r : ∀ p ∈ is, p.fits m u) : ∀ p ∈ Pk.df i :: is, p.fits m u := fun p hp => by
  rcases List.mem_cons.mp hp with e | hp
  · rw [e]; exact h
  · exact r p hp
theorem reps_getD {K : PySem.W.Frag} {M : MB} {H : Hp} {ds : List D} {vs : List V} (r : Reps K M H ds vs) {i : Nat} (h : i < ds.length) : Rep K M H (ds.getD i .non) (vs.getD i .non) := by
  obtain ⟨v, h1, h2⟩ := r.get (List.getElem?_eq_getElem h)
  rw [List.getD_eq_getElem?_getD, List.getD_eq_getElem?_getD, h1, List.getElem?_eq_getElem h]
  exact h2
theorem reps_pick {K : PySem.W.Frag} {M : MB} {H : Hp} {ds : List D} {vs : List V} (r : Reps K M H ds vs) {u : Value} : ∀ {is : List Pk}, (∀ p ∈ is, p.fits ds.length u) → Reps K M H (pickD is ds) (pickV is vs)
  | [], _ => Reps.nil
  | .at i :: is, h => .cons (reps_getD r (h _ (List.mem_cons_self ..))) (reps_pick r fun p hp => h p (List.mem_cons_of_mem _ hp))
  | .df i :: is, h => .cons rfl (reps_pick r fun p hp => h p (List.mem_cons_of_mem _ hp))
theorem vals_getD : ∀ {vs : List V} {us : List Value} (i : Nat), Vals vs us → RelV (vs.getD i .non) (us.getD i .none)
  | _, _, i, .nil => rfl
  | _, _, 0, .cons h _ => h
  | _, _, i + 1, .cons _ r => vals_getD i r
theorem vals_pick {vs : List V} {us : List Value} (r : Vals vs us) {m : Nat} {u : Value} : ∀ {is : List Pk}, (∀ p ∈ is, p.fits m u) → Vals (pickV is vs) (pickU is u us)
  | [], _ => .nil
  | .at i :: is, h => .cons (vals_getD i r) (vals_pick r fun p hp => h p (List.mem_cons_of_mem _ hp))
  | .df i :: is, h => .cons (h _ (List.mem_cons_self ..)) (vals_pick r fun p hp => h p (List.mem_cons_of_mem _ hp))
/-- how n written values and keywords named ks are bound -/
structure KwB (K : PySem.W.Frag) (fd : FuncData) (ps : List Str) (n : Nat) (ks : List Str) (is : List Pk) : Prop where
  ex : ∃ u : Value, (∀ p ∈ is, p.fits (n + ks.length) u) ∧ ∀ (s : Shared) (us ws : List Value), K.In s.heap → us.length = n → ws.length = ks.length → BindsTo s fd ⟨us, ks.zip ws⟩ (ps.zip (pickU is u (us ++ ws)))
/-- a def of the module that is called so -/
structure KnownK (P : Program) (w : World) (K : PySem.W.Frag) (mg : Str → Option Value) (base : Heap) (k : Nat) (x : Str) (sp : SpD) (n : Nat) (ks : List Str) (is : List Pk) : Prop where
  ex : ∃ f fd ps, mg x = some (.ref f) ∧ PySem.W.keepIn K (.ref f) = true ∧ FnD P w K mg base k f fd ps sp ∧ KwB K fd ps n ks is
theorem KnownK.mono {P : Program} {w : World} {K : PySem.W.Frag} {mg : Str → Option Value} {base : Heap} {j k : Nat} {x : Str} {sp : SpD} {n : Nat} {ks : List Str} {is : List Pk} (h : KnownK P w K mg base j x sp n ks is) (l : j ≤ k) : KnownK P w K mg base k x sp n ks is := by
  obtain ⟨f, fd, ps, h1, h2, h3, h4⟩ := h.ex
  exact ⟨f, fd, ps, h1, h2, h3.mono l, h4⟩
section
variable {K : PySem.W.Frag} {x qual : Str} {params : Arguments} {body : List Stmt} {scope : Scope} {kws : List (Str × V)} {f : Addr} {fd : FuncData} {ps : List Str}
/-- every parameter is written -/
theorem kw_all (F : FunD K x qual params body scope [] kws f fd) (n : Nat) (ks : List Str) (is : List Pk) (hi : ∀ p ∈ is, p.fits (n + ks.length) .none)
    (h : ∀ (kV doc pm : Value) (an : Option Addr) (cdv ct : Value) (us ws : List Value), us.length = n → ws.length = ks.length → bindArgs (PySem.W.fnOf x qual params body scope .none kV doc pm an cdv ct) ⟨us, ks.zip ws⟩ = pure (ps.zip (pickU is .none (us ++ ws)))) : KwB K fd ps n ks is := by
  obtain ⟨oc, od, dV, kV, doc, pm, an, cdv, ct, osl, rfl, lk, hcd, hD, hK⟩ := F.ex
  rcases hD with ⟨_, rfl⟩ | ⟨e, _⟩
  · exact ⟨.none, hi, fun s us ws X h1 h2 => BindsTo.of_eq (h kV doc pm an cdv ct us ws h1 h2)⟩
  · exact absurd rfl e
/-- one keyword-only parameter is not written -/
theorem kw_def {a : Str} {i : Int} (F : FunD K x qual params body scope [] [(a, .int i)] f fd) (n : Nat) (ks : List Str) (is : List Pk) (hi : ∀ u : Value, RelV (.int i) u → ∀ p ∈ is, p.fits (n + ks.length) u)
    (h : ∀ (D : Addr) (doc pm : Value) (an : Option Addr) (cdv ct : Value) (us : List Value) (u : Value) (ws : List Value), us.length = n → ws.length = ks.length → KwChain D [(a, u)] (bindArgs (PySem.W.fnOf x qual params body scope .none (.ref D) doc pm an cdv ct) ⟨us, ks.zip ws⟩) (ps.zip (pickU is u (us ++ ws)))) : KwB K fd ps n ks is := by
  obtain ⟨oc, od, dV, kV, doc, pm, an, cdv, ct, osl, rfl, lk, hcd, hD, hK⟩ := F.ex
  rcases hD with ⟨_, rfl⟩ | ⟨e, _⟩
  · rcases hK with e | ⟨D, rfl, hq⟩
    · cases e
    · obtain ⟨u, e1, e2⟩ := hq (a, .int i) (List.mem_cons_self ..)
      exact ⟨u, hi u e2, fun s us ws X h1 h2 => BindsTo.of_looks fun M => KwChain.looks X (fun q hq' => by cases List.mem_singleton.mp hq'; exact e1) (h D doc pm an cdv ct us u ws h1 h2)⟩
  · exact absurd rfl e
end
section
variable {X : Cx} {k n m : Nat} {f : Addr} {fd : FuncData} {ps ks : List Str} {is : List Pk} {sp : SpD} {x : Str} {p pos kpos : Pos} {e : Expr} {es : List Expr} {kws : List Keyword} {nm : Option Str} {t tk : DA}
abbrev PKd (X : Cx) (kws : List Keyword) (t : DA) : Prop := PK X kws (LA X t)
theorem dk_nil : PKd X [] dNil := ⟨fun _ _ _ _ H Q I ⟨ρ, M, E, Qd, S, R, q, xo, k⟩ => wpAny_evalAll_nil ⟨[], H, I, .nil, k [] [] M H .refl R .nil q⟩⟩
theorem dk_cons {ta : DE} {t : DA} (ha : PEd X e ta) (hr : PKd X kws t) : PKd X (⟨nm, e, kpos⟩ :: kws) (dCons ta t) :=
  ⟨fun pos pins s σ H Q I ⟨ρ, M, E, Qd, S, R, q, xo, k⟩ => (pk_cons (nm := nm) (kpos := kpos) ha hr).run pos pins s σ H Q I ⟨ρ, M, E, _, S, R, q, xo, fun v d M1 H1 e1 R1 r1 q1 =>
    ⟨ρ, M1, E, _, S.ev e1, R1, q1, xo.later e1, fun vs ds M2 H2 e2 R2 r2 q2 => k _ _ M2 H2 (e1.trans e2) R2 (.cons (r1.ev e2) r2) q2⟩⟩⟩
/-- what is known when all values are there -/
theorem run_kw {pins : List (Addr × Obj)} {σ : L2.St} {H : Hp} {s : Shared} {Q : VK} {us ws : List Value} {vs zs : List V} (F : FnD X.prog X.w X.K X.mg X.base k f fd ps sp) (hb : KwB X.K fd ps n ks is) (hr : Room k X.A) (hg : X.A.guards = some []) (I : Inv X pins σ H s) (r : Vals vs us) (rz : Vals zs ws) (l1 : vs.length = n) (l2 : zs.length = ks.length)
    (h : liftSp X.K X.mg sp (pickV is (vs ++ zs)) H Q fun cls d H' => Wx X cls d σ H') : wpAny (model X.prog X.w) X.A (call (.ref f) us (ks.zip ws)) (EP X pins σ Q) X.xe s := by
  obtain ⟨u, hf, hb⟩ := hb.ex
  exact run_keepsB F hr hg I (hb s us ws I.kIn (r.length.symm.trans l1) (rz.length.symm.trans l2)) (vals_pick (r.append rz) hf) h
theorem lift_kw (hb : ∃ u : Value, ∀ p ∈ is, p.fits (n + ks.length) u) (σ : L2.St) (H : Hp) (Q : VK) : LE X (dCallP n ks.length sp is t tk) σ H Q →
    LA X t σ H (fun vs H1 => LA X tk σ H1 fun zs H2 => vs.length = n ∧ zs.length = ks.length ∧ liftSp X.K X.mg sp (pickV is (vs ++ zs)) H2 Q fun cls d H' => Wx X cls d σ H') := fun ⟨ρ, M, E, Qd, S, R, q, xo, k⟩ =>
  ⟨ρ, M, E, _, S, R, q, xo, fun vs ds M1 H1 e1 R1 r1 q1 => ⟨ρ, M1, E, _, S.ev e1, R1, q1, xo.later e1, fun zs es M2 H2 e2 R2 r2 ⟨l1, l2, q2⟩ => by
    obtain ⟨u, hb⟩ := hb
    refine ⟨by rw [← r1.len]; exact l1, by rw [← r2.len]; exact l2, pickD is (ds ++ es), M2, E, Qd, ?_, R2, q2, (xo.later e1).later e2, fun v d M' H' e' R' r' q' => k v d M' H' ((e1.trans e2).trans e') R' r' q'⟩
    exact reps_pick ((r1.ev e2).app r2) (u := u) (by rw [List.length_append, l1, l2]; exact hb)⟩⟩
/-- f(e, .., k = v, ..) -/
theorem de_callK (F : KnownK X.prog X.w X.K X.mg X.base k x sp n ks is) (hr : Room k X.A) (hgd : X.A.guards = some []) (ha : PAd X (e :: es) t) (hkw : PKd X kws tk) (hg : Gl X x := by rfl)
    (hall : (backToKw pos (keywordEach kws X.env)).all (·.1.isSome) = true := by rfl) (hks : (backToKw pos (keywordEach kws X.env)).filterMap (·.1) = ks := by rfl)
    (hdb : (x == ("__debug__" : Str)) = false := by decide) (he : starEach (e :: es) X.env = (false, eval e X.env) :: starEach es X.env := by rfl)
    (hpl : ((backTo pos (starEach (e :: es) X.env)).any (·.1) || (backToKw pos (keywordEach kws X.env)).any (·.1.isNone)) = false := by rfl) (hn : ks.length = m := by rfl) :
    PEd X (.Call (.Name x p) (e :: es) kws pos) (dCallP n m sp is t tk) := by
  subst hn
  obtain ⟨f, fd, ps, hm, hk, F, hb⟩ := F.ex
  refine ⟨fun pins s σ H Q I h => ?_⟩
  refine wpAny_Call_Name_kw (ld_glob I hg hm ?_ hdb)
  refine PySem.W.callWith_KW (h₀ := X.base) I.ok.mod.kin hk hall (thn (ha.run pos pins s σ H _ I (lift_kw (by obtain ⟨u, h, _⟩ := hb.ex; exact ⟨u, h⟩) σ H Q h)) fun us s1 ⟨vs, H1, I1, r, q⟩ => ?_) hpl he
  refine thn (hkw.run pos pins s1 σ H1 _ I1 q) fun ws s2 ⟨zs, H2, I2, rz, l1, l2, q2⟩ => ⟨I2.kIn, ?_⟩
  rw [hks]
  exact run_kw F hb hr hgd I2 r rz l1 l2 q2
/-- f(k = v, ..) -/
theorem de_callK0 (F : KnownK X.prog X.w X.K X.mg X.base k x sp 0 ks is) (hr : Room k X.A) (hgd : X.A.guards = some []) (hkw : PKd X kws tk) (hg : Gl X x := by rfl)
    (hall : (backToKw pos (keywordEach kws X.env)).all (·.1.isSome) = true := by rfl) (hks : (backToKw pos (keywordEach kws X.env)).filterMap (·.1) = ks := by rfl)
    (hdb : (x == ("__debug__" : Str)) = false := by decide)
    (hpl : ((backTo pos (starEach [] X.env)).any (·.1) || (backToKw pos (keywordEach kws X.env)).any (·.1.isNone)) = false := by rfl) (hn : ks.length = m := by rfl) :
    PEd X (.Call (.Name x p) [] kws pos) (dCallP 0 m sp is dNil tk) := by
  subst hn
  obtain ⟨f, fd, ps, hm, hk, F, hb⟩ := F.ex
  refine ⟨fun pins s σ H Q I ⟨ρ, M, E, Qd, S, R, q, xo, kk⟩ => ?_⟩
  refine wpAny_Call_Name_kw (ld_glob I hg hm ?_ hdb)
  refine PySem.W.callWith_KW0 (h₀ := X.base) I.ok.mod.kin hk hall ?_ hpl
  obtain ⟨u0, hf0, _⟩ := hb.ex
  refine thn (hkw.run pos pins s σ H (fun zs H2 => zs.length = ks.length ∧ liftSp X.K X.mg sp (pickV is ([] ++ zs)) H2 Q fun cls d H' => Wx X cls d σ H') I ⟨ρ, M, E, _, S, R, q, xo, fun zs es M2 H2 e2 R2 r2 ⟨l1, l2, q2⟩ =>
    ⟨by rw [← r2.len]; exact l2, pickD is es, M2, E, Qd, reps_pick r2 (u := u0) (by rw [l2]; simpa using hf0), R2, q2, xo.later e2, fun v d M' H' e' R' r' q' => kk v d M' H' (e2.trans e') R' r' q'⟩⟩) fun ws s2 ⟨zs, H2, I2, rz, l2, q2⟩ => ⟨I2.kIn, ?_⟩
  rw [hks]
  exact run_kw (us := []) (vs := []) F hb hr hgd I2 .nil rz rfl l2 q2
end
end DM

/-! DM, further readings: slices with ends of any sign, zip of lists, max and min of a list. Plain Lean. -/
namespace DM
open PySem L2
/-- x[lo:hi] with ends of any sign -/
def cutA {α : Type} (l : List α) (lo hi : Option Int) : List α := (l.drop (HT.sIx l.length 0 lo)).take (HT.sIx l.length l.length hi - HT.sIx l.length 0 lo)
def rSlN (mk : MkR) (x : D) (lo hi : Option Int) (M : MH) (Q : DQ) : Prop := (∃ l, x = .tup l ∧ Q (.tup (cutA l lo hi)) M) ∨ ∃ l, (∀ l', x ≠ .tup l') ∧ seqD M x = some l ∧ mk M (.lst (cutA l lo hi)) Q
def dSlN (mk : MkR) (a : DE) (lo hi : DO) : DE := fun ρ M E Q => a ρ M E fun x M1 => lo ρ M1 E fun i M2 => hi ρ M2 E fun j M3 => rSlN mk x i j M3 Q
def cMaxL : BD := fun ds M Q => as1 ds fun x => ∃ ns : List Int, noTup x ∧ seqD M x = some (ns.map D.int) ∧ 0 < ns.length ∧ ∀ m, m ∈ ns → (∀ y ∈ ns, y ≤ m) → Q (.int m) M
def cMinL : BD := fun ds M Q => as1 ds fun x => ∃ ns : List Int, noTup x ∧ seqD M x = some (ns.map D.int) ∧ 0 < ns.length ∧ ∀ m, m ∈ ns → (∀ y ∈ ns, m ≤ y) → Q (.int m) M
/-- zip of two tuples, of two lists that nobody writes to -/
def zipA (x y : D) (M : MH) (R : List D → (MH → Prop) → MH → Prop) : Prop := ∃ l m, ((x = .tup l ∧ y = .tup m) ∨ (x = .lis l ∧ y = .lis m)) ∧ R (zipD l m) (fun _ => True) M
def iZipA (a : DA) : DI := fun ρ M E R => a ρ M E fun ds M1 => as2 ds fun x y => zipA x y M1 R
section
variable {ρ : DSt} {M : MH} {X : XQ} {Q : DQ} {d : D} {a b e o i : DE} {E : DEnds} {l m : List D} {n : Nat} {mk : MkR} {A : DA}
@[simp ↓] theorem dSlN_ {lo hi : DO} : dSlN mk a lo hi ρ M X Q ↔ a ρ M X (hold (fun x M1 => lo ρ M1 X (hold (fun i M2 => hi ρ M2 X (hold (fun j M3 => rSlN mk x i j M3 Q) ⟨⟩)) ⟨⟩)) ⟨⟩) := Iff.rfl
@[simp] theorem rSlN_tup {lo hi : Option Int} : rSlN mk (.tup l) lo hi M Q ↔ Q (.tup (cutA l lo hi)) M := by simp [rSlN]
@[simp] theorem rSlN_lis {lo hi : Option Int} : rSlN mk (.lis l) lo hi M Q ↔ mk M (.lst (cutA l lo hi)) Q := by simp [rSlN]
@[simp] theorem rSlN_at {lo hi : Option Int} (h : M[n]? = some (some (.lst l))) : rSlN mk (.ref n) lo hi M Q ↔ mk M (.lst (cutA l lo hi)) Q := by simp [rSlN, seqD_at h]
theorem cutA_init {α : Type} {l : List α} {x : α} : cutA (l ++ [x]) none (some (-1)) = l := by
  unfold cutA HT.sIx
  simp
  rw [show (-1 + ((l.length : Int) + 1)).toNat = l.length by omega]
  simp
theorem cutA_dropLast {α : Type} {l : List α} : cutA l none (some (-1)) = l.dropLast := by
  rcases List.eq_nil_or_concat l with rfl | ⟨l0, x, e⟩
  · rfl
  · rw [List.concat_eq_append] at e
    subst e
    rw [cutA_init]; simp
@[simp ↓] theorem iZipA_ {Z : List D → (MH → Prop) → MH → Prop} : iZipA A ρ M X Z ↔ A ρ M X (hold (fun ds M1 => as2 ds (hold (fun x y => zipA x y M1 Z) ⟨⟩)) ⟨⟩) := Iff.rfl
@[simp ↓] theorem zipA_t {R : List D → (MH → Prop) → MH → Prop} : zipA (.tup l) (.tup m) M R ↔ R (zipD l m) (fun _ => True) M := ⟨fun ⟨_, _, h, r⟩ => by rcases h with ⟨e, f⟩ | ⟨e, f⟩ <;> cases e <;> cases f <;> exact r, fun r => ⟨_, _, .inl ⟨rfl, rfl⟩, r⟩⟩
@[simp ↓] theorem zipA_l {R : List D → (MH → Prop) → MH → Prop} : zipA (.lis l) (.lis m) M R ↔ R (zipD l m) (fun _ => True) M := ⟨fun ⟨_, _, h, r⟩ => by rcases h with ⟨e, f⟩ | ⟨e, f⟩ <;> cases e <;> cases f <;> exact r, fun r => ⟨_, _, .inr ⟨rfl, rfl⟩, r⟩⟩
end
end DM

set_option maxHeartbeats 1000000
/-! DM: rules of DMPl2. -/
namespace DM
open PySem PySem.Spec L2 PyProof.Rows
section
variable {X : Cx}
theorem Reps.cutA {K : PySem.W.Frag} {M : MB} {H : Hp} {l : List D} {vs : List V} (r : Reps K M H l vs) (lo hi : Option Int) : Reps K M H (cutA l lo hi) (cutV vs lo hi) := by
  unfold DM.cutA cutV
  rw [r.len]
  exact (r.drop _).take _
theorem de_sliceN {mk : MkR} (hm : MkOk mk) {e : Expr} {lo hi : Option Expr} {te : DE} {tl th : DO} {p2 pos : Pos} (he : PEd X e te) (hl : PO X lo (LO X tl)) (hh : PO X hi (LO X th)) :
    PEd X (.Subscript e (.Slice lo hi none p2) pos) (dSlN mk te tl th) :=
  peI (pe_frz (pe_slice (sl_tupA.or sl_list) he hl hh)) fun σ H Q ⟨ρ, M, E, Qd, S, R, q, xo, k⟩ => ⟨ρ, M, E, _, S, R, q, xo, fun v d M1 H1 e1 R1 r1 q1 => ⟨ρ, M1, E, _, S.ev e1, R1, q1, xo.later e1, fun i M2 H2 e2 R2 q2 =>
    ⟨ρ, M2, E, _, S.ev (e1.trans e2), R2, q2, xo.later (e1.trans e2), fun j M3 H3 e3 R3 q3 => by
      have r3 := r1.ev (e2.trans e3)
      rcases q3 with ⟨l, e, q3⟩ | ⟨l, hn, hx, q3⟩
      · subst e
        obtain ⟨a, vs, ea, ht, rs⟩ := r3
        subst ea
        refine .inl ⟨a, vs, rfl, ht, fun ⟨z1, z2⟩ => ?_, fun _ p n => ?_⟩
        · have hc := rs.cutA i j
          have : cutV vs i j = vs := by unfold cutV; rw [z1, z2]; simp
          rw [this] at hc
          exact .inl <| k _ (.tup (DM.cutA l i j)) M3 H3 ((e1.trans e2).trans e3) R3 ⟨a, vs, rfl, ht, hc⟩ q3
        · exact .inl <| k _ (.tup (DM.cutA l i j)) M3 (upd H3 p (.tup (cutV vs i j))) (((e1.trans e2).trans e3).trans (.new n)) (R3.new n) ⟨p, _, rfl, sq_new, (rs.cutA i j).ev (Ev.new (M := M3) n)⟩ q3
      · obtain ⟨a, vs, ea, rs, hl⟩ := sq_of R3 r3 hx
        subst ea
        rcases hl with ⟨e, _⟩ | ⟨_, hl⟩
        · exact absurd e (hn l)
        · exact .inr ⟨a, vs, rfl, hl.l, fun p n => hm.new R3 n trivial (o := .lst (DM.cutA l i j)) ⟨_, upd_same, (rs.cutA i j).ev (Ev.new (M := M3) n)⟩ q3 fun v d M' H' e' R' r' q' => k v d M' H' (((e1.trans e2).trans e3).trans e') R' r' q'⟩⟩⟩⟩
theorem cd_maxL (hc : X.calm = true) : CallD X (.builtin "max") cMaxL := ⟨_, cr_max hc, fun ds vs M H Qd Q R rs ⟨x, e, ns, nt, h, hl, q⟩ k => by
  subst e
  obtain ⟨v, ev, rv⟩ := rs.one'
  subst ev
  obtain ⟨p, us, ep, ru, hs⟩ := sq_of R rv h
  subst ep
  have := reps_int ru
  subst this
  rcases hs with ⟨et, _⟩ | ⟨_, hs⟩
  · exact (nt _ et).elim
  · exact ⟨p, ns, rfl, hs.l, hl, fun m h1 h2 => k _ (.int m) M H .refl R rfl (q m h1 h2)⟩⟩
theorem cd_minL (hc : X.calm = true) : CallD X (.builtin "min") cMinL := ⟨_, cr_min hc, fun ds vs M H Qd Q R rs ⟨x, e, ns, nt, h, hl, q⟩ k => by
  subst e
  obtain ⟨v, ev, rv⟩ := rs.one'
  subst ev
  obtain ⟨p, us, ep, ru, hs⟩ := sq_of R rv h
  subst ep
  have := reps_int ru
  subst this
  rcases hs with ⟨et, _⟩ | ⟨_, hs⟩
  · exact (nt _ et).elim
  · exact ⟨p, ns, rfl, hs.l, hl, fun m h1 h2 => k _ (.int m) M H .refl R rfl (q m h1 h2)⟩⟩
theorem Snd.zl {K : PySem.W.Frag} {mg : Str → Option Value} {M : MB} {H : Hp} {a b : Addr} {vs us : List V} {l m : List D} (h : SqF K H a vs) (h' : SqF K H b us) (r : Reps K M H l vs) (r' : Reps K M H m us) : Snd K mg M H (Itz K a b) (zipD l m) (fun _ => True) where
  go := fun i z M H' k R g e => by
    obtain ⟨x, y, ex, ey, rfl⟩ := zipD_inv e
    obtain ⟨v, e1, _⟩ := r.get ex
    obtain ⟨u, e2, _⟩ := r'.get ey
    exact ⟨vs, us, v, u, (k.f _ _ h).l, (k.f _ _ h').l, e1, e2⟩
  yld := fun i z M H' v H'' k R g e q => by
    obtain ⟨x, y, ex, ey, rfl⟩ := zipD_inv e
    obtain ⟨T, v1, u1, rfl, n, rfl, q1, q2⟩ := q
    obtain ⟨v2, e1, r1⟩ := r.get ex
    obtain ⟨u2, e2, r2⟩ := r'.get ey
    have t1 := q1 vs (k.f _ _ h).l
    have t2 := q2 us (k.f _ _ h').l
    rw [e1] at t1; cases t1
    rw [e2] at t2; cases t2
    exact pair_made n R (r1.mono k) (r2.mono k)
  stop := fun M H' k R g => ⟨vs, us, (k.f _ _ h).l, (k.f _ _ h').l, by
    have l1 := r.len
    have l2 := r'.len
    rw [zipD_len]; omega⟩
theorem di_zipA {e e2 : Expr} {ta : DA} {p tpos pos : Pos} {elts : List Expr} {kk : Nat} (hm : X.mg "zip" = none) (ha : PAd X [e, e2] ta) (hg : Gl X "zip" := by rfl) (hs : starEach [e, e2] X.env = (false, eval e X.env) :: starEach [e2] X.env := by rfl)
    (hpl : (backTo pos (starEach [e2] X.env)).any (·.1) = false := by rfl) : PId X (.Tuple elts kk tpos) (.Call (.Name "zip" p) [e, e2] [] pos) (iZipA ta) :=
  ⟨_, RZ.pi_zipA hg hm ha hs hpl, fun σ H R ρ M E Rd S Rm q xo k => ⟨ρ, M, E, _, S, Rm, q, xo, fun vs ds M1 H1 e1 R1 r1 q1 => by
    obtain ⟨x, y, ed, l, m, hxy, q1⟩ := q1
    subst ed
    obtain ⟨v, w, ev, rv, rw'⟩ := r1.two'
    subst ev
    rcases hxy with ⟨ex, ey⟩ | ⟨ex, ey⟩
    · subst ex; subst ey
      obtain ⟨a, xs, ev, t1, s1⟩ := rv
      obtain ⟨b, ys, ew, t2, s2⟩ := rw'
      subst ev; subst ew
      exact ⟨a, b, xs, ys, rfl, .inr ⟨t1, t2, k _ _ _ M1 H1 e1 R1 (.zt t1 t2 s1 s2) q1⟩⟩
    · subst ex; subst ey
      obtain ⟨a, xs, ev, t1, s1⟩ := rv
      obtain ⟨b, ys, ew, t2, s2⟩ := rw'
      subst ev; subst ew
      exact ⟨a, b, xs, ys, rfl, .inl ⟨t1.l, t2.l, k _ _ _ M1 H1 e1 R1 (.zl t1 t2 s1 s2) q1⟩⟩⟩⟩
/-- a comprehension within a comprehension -/
theorem rel_look {env : Env} {A : Bool} : ∀ (names : List (Str × NameKind)) (x : Str), (names.map fun (p : Str × NameKind) => match p with | (n, k) => if (k == NameKind.free && A && env.kindOf n == some .cell) then (n, NameKind.cell) else (n, k)).lookup x =
    (names.lookup x).map fun k => if (k == NameKind.free && A && env.kindOf x == some .cell) then NameKind.cell else k
  | [], x => rfl
  | (n, k) :: r, x => by
    have ih := rel_look (env := env) (A := A) r x
    rw [List.map_cons]
    have e0 : (match (n, k) with | (n, k) => if (k == NameKind.free && A && env.kindOf n == some NameKind.cell) = true then (n, NameKind.cell) else (n, k)) = (n, if (k == NameKind.free && A && env.kindOf n == some NameKind.cell) = true then NameKind.cell else k) := by
      by_cases hc : (k == NameKind.free && A && env.kindOf n == some NameKind.cell) = true
      · show (if _ then _ else _) = _
        rw [if_pos hc, if_pos hc]
      · show (if _ then _ else _) = _
        rw [if_neg hc, if_neg hc]
    rw [e0, List.lookup_cons, List.lookup_cons]
    by_cases h : x = n
    · subst h; simp only [beq_self_eq_true]; rfl
    · have hb : (x == n) = false := by simpa using h
      simp only [hb]
      exact ih
theorem blkC_nest {scope0 scope : Scope} {s : Shared} {H : Hp} {C : Addr} {cl : List (Str × Addr)} {fp : List Addr} {N' : List Str} {own : List (Str × Nat)} (h1 : X.N = N') (h : blkC N' scope0 scope own = true) : blkC (blkE X scope0 s H C cl fp).N (blkE X scope0 s H C cl fp).env.scope scope own = true := by
  subst h1
  show blkC X.N (relabel scope0 X.env) scope own = true
  unfold blkC at h ⊢
  rw [Bool.and_eq_true] at h ⊢
  refine ⟨h.1, ?_⟩
  rw [List.all_eq_true]
  intro y hy
  have h2 := List.all_eq_true.mp h.2 y hy
  obtain ⟨n, k⟩ := y
  cases k with
  | free =>
    simp only at h2 ⊢
    have e : (relabel scope0 X.env).names.lookup n = (scope0.names.lookup n).map fun k => if (k == NameKind.free && (X.env.scope.kind == .function) && X.env.kindOf n == some .cell) then NameKind.cell else k := rel_look scope0.names n
    rw [e]
    cases hl : scope0.names.lookup n with
    | none => rw [hl] at h2; cases h2
    | some k =>
      rw [hl] at h2
      cases k with
      | cell => rfl
      | free =>
        simp only [Option.map_some]
        by_cases hc : (NameKind.free == NameKind.free && (X.env.scope.kind == .function) && X.env.kindOf n == some .cell) = true
        · rw [if_pos hc]
        · rw [if_neg hc]
      | _ => cases h2
  | _ => exact h2
end
end DM

/-! DM, further readings: a live list times an int. Plain Lean. -/
namespace DM
open PySem L2
/-- a live list times a small int -/
def rRepL (mk : MkR) : RD2 := fun x y M Q => ∃ (n : Nat) (l : List D) (k : Int), x = .ref n ∧ y = .int k ∧ M[n]? = some (some (.lst l)) ∧ 0 ≤ k ∧ k ≤ 1000 ∧ l.length ≤ 1000 ∧ mk M (.lst (List.replicate k.toNat l).flatten) Q
section
variable {M : MH} {Q : DQ} {l : List D} {n : Nat} {k : Int} {mk : MkR}
@[simp] theorem rRepL_at (h : M[n]? = some (some (.lst l))) : rRepL mk (.ref n) (.int k) M Q ↔ 0 ≤ k ∧ k ≤ 1000 ∧ l.length ≤ 1000 ∧ mk M (.lst (List.replicate k.toNat l).flatten) Q :=
  ⟨fun ⟨_, _, _, e1, e2, h1, q⟩ => by cases e1; cases e2; rw [h] at h1; cases h1; exact q, fun q => ⟨n, l, k, rfl, rfl, h, q⟩⟩
end
end DM

set_option maxHeartbeats 1000000
/-! DM: rules of DMPl3. -/
namespace DM
open PySem PySem.Spec L2 PyProof.Rows
section
variable {X : Cx}
theorem od_repL {mk : MkR} (hm : MkOk mk) : OpZ X (binaryOp .Mult) (rRepL mk) := ⟨_, op_rep (X := X), fun x y v w M H Qd Q R rx ry ⟨n, l, k0, ex, ey, hn, h0, h1, hl, q⟩ k => by
  subst ex; subst ey
  obtain ⟨a, hc, ev⟩ := rx
  subst ev; cases ry
  obtain ⟨us, h2, h3⟩ := R.at_ _ _ _ hc hn
  refine ⟨a, k0, us, rfl, rfl, h2, by omega, by omega, ?_, fun p np => hm.new R np trivial (o := .lst (List.replicate k0.toNat l).flatten) ⟨_, upd_same, (h3.rep _).ev (Ev.new (M := M) np)⟩ q k⟩
  rw [← h3.len, sizeLine_eq]
  have : l.length * k0.toNat ≤ 1000 * 1000 := Nat.mul_le_mul hl (by omega)
  omega⟩
end
end DM

/-! DM, further readings: comprehensions with two clauses, xs.pop(). Plain Lean. -/
namespace DM
open PySem L2
/-- [.. for .. in .. if .. for .. in .. if ..]: each outer item gives a list, told by R; the cells stay; B bounds the inner walks -/
def comp2D (G : MH → Prop) (g : Tg) (tt : DT) (w1 : DI) (g1 : Tg) (tt1 : DT) (te : DE) (vs1 : List Nat) (ρ : DSt) (xs : List D) (M : MH) (Q : List D → MH → Prop) : Prop :=
  G M ∧ ∃ (B : Nat) (R : Nat → D → List D → Prop), xs.length * B ≤ sizeLine ∧
    (∀ i x, xs[i]? = some x → g.store x ρ fun ρ1 => tt ρ1 M noX fun b M2 => M2 = M ∧ br b (w1 ρ1 M2 noX fun xs1 G1 M3 => M3 = M ∧ xs1.length ≤ B ∧ compD G1 g1 tt1 te (wipeD ρ1 vs1) xs1 M3 fun ys M4 => M4 = M ∧ R i x ys) (R i x [])) ∧
    ∀ yss : List (List D), yss.length = xs.length → (∀ (i : Nat) x ys, xs[i]? = some x → yss[i]? = some ys → R i x ys) → Q yss.flatten M
def dLC2 (mk : MkR) (w : DI) (g : Tg) (tt : DT) (w1 : DI) (g1 : Tg) (tt1 : DT) (te : DE) (vs vs1 : List Nat) : DE := fun ρ M E Q => w ρ M E fun xs G M1 => comp2D G g tt w1 g1 tt1 te vs1 (wipeD ρ vs) xs M1 fun acc M2 => mk M2 (.lst acc) Q
/-- xs.pop() -/
def mPop : D → BD := fun x ds M Q => ∃ a l y, x = .ref a ∧ ds = [] ∧ M[a]? = some (some (.lst l)) ∧ l.getLast? = some y ∧ Q y (M.set a (some (.lst l.dropLast)))
def dMeth0 (ty : MH → D → Prop) (r : D → BD) (o : DE) : DE := fun ρ M E Q => o ρ M E fun x M1 => ty M1 x ∧ r x [] M1 Q
section
variable {ρ : DSt} {M : MH} {X : XQ} {Q : DQ} {d : D} {a b e o i : DE} {E : DEnds} {l m : List D} {n : Nat} {mk : MkR} {A : DA}
@[simp ↓] theorem dLC2_ {w w1 : DI} {g g1 : Tg} {tt tt1 : DT} {te : DE} {vs vs1 : List Nat} : dLC2 mk w g tt w1 g1 tt1 te vs vs1 ρ M X Q ↔ w ρ M X (hold (fun xs G M1 => comp2D G g tt w1 g1 tt1 te vs1 (wipeD ρ vs) xs M1 (hold (fun acc M2 => mk M2 (.lst acc) Q) ⟨⟩)) ⟨⟩) := Iff.rfl
@[simp ↓] theorem dMeth0_ {ty} {w} : dMeth0 ty w a ρ M X Q ↔ a ρ M X (hold (fun x M1 => ty M1 x ∧ w x [] M1 Q) ⟨⟩) := Iff.rfl
@[simp] theorem mPop_at {y : D} (h : M[n]? = some (some (.lst (l ++ [y])))) : mPop (.ref n) [] M Q ↔ Q y (M.set n (some (.lst l))) := by
  constructor
  · rintro ⟨a, m, z, e, _, h1, h2, q⟩
    cases e
    rw [h] at h1; cases h1
    simp at h2 q; subst h2; exact q
  · intro q; exact ⟨n, _, y, rfl, rfl, h, by simp, by simpa using q⟩
end
section
variable {α : Type} {l : List α} {e : α → D} {xs : List D} {G : MH → Prop} {g g1 : Tg} {tt tt1 : DT} {w1 : DI} {te : DE} {vs1 : List Nat} {ρ : DSt} {M : MH} {Q : List D → MH → Prop}
/-- each outer item gives a list, by a function -/
theorem comp2_fn (hx : xs = l.map e) (f : α → List D) (B : Nat) (hB : l.length * B ≤ sizeLine) (gl : G M)
    (turn : ∀ (i : Nat) x, l[i]? = some x → g.store (e x) ρ fun ρ1 => tt ρ1 M noX fun b M2 => M2 = M ∧ br b (w1 ρ1 M2 noX fun xs1 G1 M3 => M3 = M ∧ xs1.length ≤ B ∧ compD G1 g1 tt1 te (wipeD ρ1 vs1) xs1 M3 fun ys M4 => M4 = M ∧ ∃ a, l[i]? = some a ∧ f a = ys) (∃ a, l[i]? = some a ∧ f a = []))
    (last : Q (l.flatMap f) M) : comp2D G g tt w1 g1 tt1 te vs1 ρ xs M Q := by
  subst hx
  refine ⟨gl, B, fun i x y => ∃ a, l[i]? = some a ∧ f a = y, by simpa using hB, fun i x h => ?_, fun ys hl h => ?_⟩
  · rw [List.getElem?_map] at h
    cases el : l[i]? with
    | none => rw [el] at h; cases h
    | some a =>
      rw [el] at h; cases h
      exact turn i a el
  · have : ys = l.map f := by
      apply List.ext_getElem?
      intro i
      by_cases hi : i < l.length
      · have hy : i < ys.length := by rw [hl]; simpa using hi
        obtain ⟨a, ea, ef⟩ := h i (e l[i]) ys[i] (by simp [hi]) (List.getElem?_eq_getElem hy)
        rw [List.getElem?_eq_getElem hi] at ea; cases ea
        rw [List.getElem?_map, List.getElem?_eq_getElem hi, List.getElem?_eq_getElem hy, ← ef]; rfl
      · rw [List.getElem?_eq_none (by rw [hl]; simp; omega), List.getElem?_eq_none (by simp; omega)]
    subst this
    rw [← List.flatMap_def]
    exact last
end
end DM

set_option maxHeartbeats 1000000
/-! DM: rules of DMPl4. -/
namespace DM
open PySem PySem.Spec L2 PyProof.Rows
section
variable {X : Cx}
/-- what is walked, by what it gives -/
def LI0 (K : PySem.W.Frag) (mg : Str → Option Value) (ti : DI) : TI := fun σ H R => ∃ (ρ : DSt) (M : MB) (Rd : List D → (MH → Prop) → MH → Prop), Slots K M H ρ σ ∧ MR K mg M H ∧ ti ρ M.m noX Rd ∧
  ∀ J xs G M' H', Ev M H M' H' → MR K mg M' H' → Snd K mg M' H' J xs G → Rd xs G M'.m → R J H'
theorem pi0 {X : Cx} {tg iter : Expr} {ti : DI} (h : PId X tg iter ti) : PI X tg iter (LI0 X.K X.mg ti) := by
  obtain ⟨wi, h1, h2⟩ := h
  exact ⟨fun pins s σ H R I ⟨ρ, M, Rd, S, Rm, q, k⟩ => h1.run pins s σ H R I (h2 σ H R ρ M noX Rd S Rm q .no k)⟩
theorem Slots.mono {K : PySem.W.Frag} {M M' : MB} {H H' : Hp} {ρ : DSt} {σ : L2.St} (h : Slots K M H ρ σ) (k : KeepT K M H M' H') : Slots K M' H' ρ σ := ⟨h.1, fun i d q => by
  obtain ⟨v, h1, h2⟩ := h.2 i d q
  exact ⟨v, h1, h2.mono k⟩⟩
theorem lift_lc2 {mk : MkR} (hmk : MkOk mk) {wi : TI} {ti ti1 : DI} {g g1 : Tg} {tt tt1 : DT} {te : DE} {vs vs1 : List Nat} (hg : ∀ i ∈ g.slots, i ∈ vs) (hg1 : ∀ i ∈ g1.slots, i ∈ vs1)
    (h2 : ∀ (σ : L2.St) (H : Hp) (R : It → Hp → Prop) (ρ : DSt) (M : MB) (E : XQ) (Rd : List D → (MH → Prop) → MH → Prop), Slots X.K M H ρ σ → MR X.K X.mg M H → ti ρ M.m E Rd → XOk X M σ H E → (∀ J xs G M' H', Ev M H M' H' → MR X.K X.mg M' H' → Snd X.K X.mg M' H' J xs G → Rd xs G M'.m → R J H') → wi σ H R)
    (σ : L2.St) (H : Hp) (Q Q' : VK) (hQ : ∀ v H, frzQ Q v H → Q' v H) : LE X (dLC2 mk ti g tt ti1 g1 tt1 te vs vs1) σ H Q → tLc2 wi (LG X.K g) (LT0 X.K X.mg tt) (LI0 X.K X.mg ti1) (LG X.K g1) (LT0 X.K X.mg tt1) (LE0 X.K X.mg te) vs vs1 σ H Q' := fun ⟨ρ, M, E, Qd, S, R, q, xo, k⟩ => by
  refine h2 σ H _ ρ M E _ S R q xo fun J xs G M1 H1 e1 R1 sn ⟨g0, B, Rl, hz, it, il⟩ => fun D nD => ?_
  have mD : D ∉ M1.i := R1.mem nD
  -- what stands in the list
  let St : List DM.D → MB → Hp → Prop := fun l M' H' => ∃ av : List V, Ev M1 H1 M' H' ∧ MR X.K X.mg M' H' ∧ D ∉ M'.i ∧ H' D = some (.lst av) ∧ Reps X.K M' H' l av ∧ M'.m = M1.m
  let W : Nat → Nat → Hp → Prop := fun i m H' => ∃ (M' : MB) (ys : List (List DM.D)), m = xs.length - i ∧ i ≤ xs.length ∧ ys.length = i ∧ St ys.flatten M' H' ∧ (∀ y ∈ ys, y.length ≤ B) ∧ ∀ (k : Nat) x y, xs[k]? = some x → ys[k]? = some y → Rl k x y
  refine ⟨W, ⟨_, M1, [], rfl, Nat.zero_le _, rfl, ⟨[], .new nD, R1.new nD, mD, upd_same, .nil, rfl⟩, fun _ h => by simp at h, fun k x y _ h => by simp at h⟩, ?_⟩
  rintro i m H2 ⟨M2, ys, rfl, hi, hl, ⟨av, E12, R2, n2, hD, ra, em⟩, hb, q2⟩
  have g2 : G M2.m := by rw [em]; exact g0
  have flat : ∀ {n : Nat} {l : List (List DM.D)}, (∀ y ∈ l, y.length ≤ B) → l.length = n → l.flatten.length ≤ n * B := fun {n l} h e => by
    subst e
    induction l with
    | nil => simp
    | cons x l ih =>
      have h1 := h x (by simp)
      have h2 := ih fun y hy => h y (by simp [hy])
      rw [List.flatten_cons, List.length_append, List.length_cons, Nat.succ_mul]
      omega
  by_cases hlt : i < xs.length
  · have ex : xs[i]? = some xs[i] := List.getElem?_eq_getElem hlt
    have q3 := it i _ ex
    have q3 : g.store xs[i] (wipeD ρ vs) fun ρ1 => tt ρ1 M2.m noX fun b M2' => M2' = M1.m ∧ br b (ti1 ρ1 M2' noX fun xs1 G1 M3 => M3 = M1.m ∧ xs1.length ≤ B ∧ compD G1 g1 tt1 te (wipeD ρ1 vs1) xs1 M3 fun ys M4 => M4 = M1.m ∧ Rl i xs[i] ys) (Rl i xs[i] []) := by rw [em]; exact q3
    have add : ∀ y, Rl i xs[i] y → ∀ (k : Nat) x z, xs[k]? = some x → (ys ++ [y])[k]? = some z → Rl k x z := fun y hy k x z hx hz => by
      by_cases hk : k < i
      · rw [List.getElem?_append_left (by omega)] at hz; exact q2 k x z hx hz
      · have : k = i := by
          have := (List.getElem?_eq_some_iff.mp hz).1
          simp at this; omega
        subst this
        rw [List.getElem?_append_right (by omega), hl] at hz
        simp at hz; subst hz
        rw [ex] at hx; cases hx
        exact hy
    have addB : ∀ y : List DM.D, y.length ≤ B → ∀ z ∈ ys ++ [y], z.length ≤ B := fun y hy z hz => by
      rcases List.mem_append.mp hz with h | h
      · exact hb z h
      · simp at h; subst h; exact hy
    refine .inr ⟨sn.go i _ M2 H2 E12.sq R2 g2 ex, fun H' => W (i + 1) (xs.length - (i + 1)) H', fun H' w => ⟨_, by omega, w⟩, fun x H3 y => ?_⟩
    obtain ⟨e3, R3, r3⟩ := sn.yld i _ M2 H2 x H3 E12.sq R2 g2 ex y
    refine LG_wipe vs g hg r3 ((wipe_eq S vs).ev (e1.trans (E12.trans e3))) q3 fun ρ4 σ4 S4 w4 q4 => ⟨by rw [w4, wipe_wipe], ρ4, M2, _, S4, R3, q4, fun b M5 H5 e5 R5 ⟨em5, q5⟩ => ?_⟩
    have E35 := e3.trans e5
    have n5 : D ∉ M5.i := fun z => by have := E35.dom D z n2; rw [hD] at this; cases this
    have hD5 := E35.frame D _ hD n2
    cases b with
    | false =>
      exact ⟨M5, ys ++ [[]], rfl, hlt, by simp [hl], ⟨av, E12.trans E35, R5, n5, hD5, by simpa using ra.ev E35, em5⟩, addB [] (Nat.zero_le _), add [] q5⟩
    | true =>
      refine ⟨ρ4, M5, _, S4.ev e5, R5, q5, fun J1 xs1 G1 M6 H6 e6 R6 sn1 ⟨em6, hB1, gg1, Rl1, it1, il1⟩ => ?_⟩
      have E36 := E35.trans e6
      have n6 : D ∉ M6.i := fun z => by have := e6.dom D z n5; rw [hD5] at this; cases this
      have hD6 := e6.frame D _ hD5 n5
      let W1 : Nat → Nat → Hp → Prop := fun j m H' => ∃ (M' : MB) (zs : List (Option DM.D)), m = xs1.length - j ∧ j ≤ xs1.length ∧ zs.length = j ∧ KeepT X.K M6 H6 M' H' ∧ St (ys.flatten ++ zs.filterMap id) M' H' ∧ ∀ (k : Nat) x y, xs1[k]? = some x → zs[k]? = some y → Rl1 k x y
      refine ⟨W1, ⟨_, M6, [], rfl, Nat.zero_le _, rfl, .refl, ⟨av, E12.trans E36, R6, n6, hD6, by simpa using ra.ev E36, em6⟩, fun k x y _ h => by simp at h⟩, ?_⟩
      rintro j m1 H7 ⟨M7, zs, rfl, hj, hzl, k7, ⟨aw, E17, R7, n7, hD7, ra7, em7⟩, q7⟩
      have g7 : G1 M7.m := by rw [em7, ← em6]; exact gg1
      by_cases hjt : j < xs1.length
      · have ex1 : xs1[j]? = some xs1[j] := List.getElem?_eq_getElem hjt
        have q8 := it1 j _ ex1
        rw [em6, ← em7] at q8
        have add1 : ∀ y, Rl1 j xs1[j] y → ∀ (k : Nat) x z, xs1[k]? = some x → (zs ++ [y])[k]? = some z → Rl1 k x z := fun y hy k x z hx hz => by
          by_cases hk : k < j
          · rw [List.getElem?_append_left (by omega)] at hz; exact q7 k x z hx hz
          · have : k = j := by
              have := (List.getElem?_eq_some_iff.mp hz).1
              simp at this; omega
            subst this
            rw [List.getElem?_append_right (by omega), hzl] at hz
            simp at hz; subst hz
            rw [ex1] at hx; cases hx
            exact hy
        refine .inr ⟨sn1.go j _ M7 H7 k7 R7 g7 ex1, fun H' => W1 (j + 1) (xs1.length - (j + 1)) H', fun H' w => ⟨_, by omega, w⟩, fun x1 H8 y1 => ?_⟩
        obtain ⟨e8, R8, r8⟩ := sn1.yld j _ M7 H7 x1 H8 k7 R7 g7 ex1 y1
        refine LG_wipe vs1 g1 hg1 r8 ((wipe_eq (S4.ev (e5.trans e6)) vs1).mono (k7.trans e8.sq)) q8 fun ρ9 σ9 S9 w9 q9 => ⟨by rw [w9, wipe_wipe], ρ9, M7, _, S9, R8, q9, fun b1 M10 H10 e10 R10 q10 => ?_⟩
        have E8 := e8.trans e10
        have n10 : D ∉ M10.i := fun z => by have := E8.dom D z n7; rw [hD7] at this; cases this
        have hD10 := E8.frame D _ hD7 n7
        have lenM : M7.m.length = M1.m.length := by rw [em7]
        have bA : DM.D.bels M1.m.length (ys.flatten ++ zs.filterMap id) = true := by rw [← lenM, R7.len]; exact ra7.is_bel
        have kl : ∀ (M' : MB) (m : MH), M6.i.length ≤ m.length → KeepT X.K M6 H6 M' H10 → KeepT X.K M6 H6 (M'.less m) H10 := fun M' m hm kk => ⟨kk.t, kk.f, kk.z, fun n a h => take_pre (kk.r n a h) (Nat.lt_of_lt_of_le (List.getElem?_eq_some_iff.mp h).1 hm), kk.w⟩
        have l6 : M6.i.length = M1.m.length := by rw [← R6.len, em6]
        cases b1 with
        | false =>
          obtain ⟨bk, hr⟩ := q10
          have w : LessM M1.m.length M1.m M10.m := by
            rw [em7] at bk
            rcases bk with bk | ⟨L, bk, hb⟩
            · rw [bk]; exact .rfl
            · exact ⟨by rw [bk]; exact lessP_of (by simp), .inr ⟨Nat.le_refl _, by rw [bk]; simp, hb⟩⟩
          have hz2 : M10.m.length = M1.m.length ∨ DM.D.bels M1.m.length (ys.flatten ++ zs.filterMap id) = true := .inr bA
          refine ⟨M10.less M1.m, zs ++ [none], rfl, hjt, by simp [hzl], kl _ _ (by rw [l6]; exact Nat.le_refl _) (k7.trans E8.sq), ⟨aw, (E17.trans E8).less (by rw [← R1.len]; exact Nat.le_refl _), R10.less w, fun z => n10 (List.mem_of_mem_take z), hD10, ?_, rfl⟩, add1 none hr⟩
          have := (ra7.ev E8).less R10 (m := M1.m) (.inr bA)
          simpa using this
        | true =>
          refine ⟨ρ9, M10, _, S9.ev e10, R10, q10, fun v d M11 H11 e11 R11 r11 ⟨bk, hr⟩ => ?_⟩
          have n11 : D ∉ M11.i := fun z => by have := e11.dom D z n10; rw [hD10] at this; cases this
          have hD11 := e11.frame D _ hD10 n10
          have E11 := E8.trans e11
          have ra11 := (ra7.ev E11).app (.one r11)
          have w : LessM M1.m.length M1.m M11.m ∧ DM.D.bels M1.m.length (ys.flatten ++ zs.filterMap id ++ [d]) = true ∨ M11.m = M1.m := by
            rw [em7] at bk
            rcases bk with bk | ⟨⟨L, bk, hb⟩, hd⟩
            · exact .inr bk
            · refine .inl ⟨⟨by rw [bk]; exact lessP_of (by simp), .inr ⟨Nat.le_refl _, by rw [bk]; simp, hb⟩⟩, ?_⟩
              have : ∀ {l : List DM.D}, DM.D.bels M1.m.length l = true → DM.D.bels M1.m.length (l ++ [d]) = true := fun {l} => by
                induction l with
                | nil => intro _; simp [DM.D.bels, hd]
                | cons x l ih => intro h; simp [DM.D.bels] at h ⊢; exact ⟨h.1, by simpa using ih h.2⟩
              exact this bA
          obtain ⟨M12, e12, ra12, R12, em12, n12, k12⟩ : ∃ M12, Ev M1 H1 M12 H11 ∧ Reps X.K M12 H11 (ys.flatten ++ zs.filterMap id ++ [d]) (aw ++ [v]) ∧ MR X.K X.mg M12 H11 ∧ M12.m = M1.m ∧ D ∉ M12.i ∧ KeepT X.K M6 H6 M12 H11 := by
            rcases w with ⟨w1, w2⟩ | w
            · refine ⟨M11.less M1.m, (E17.trans E11).less (by rw [← R1.len]; exact Nat.le_refl _), ra11.less R11 (m := M1.m) (.inr w2), R11.less w1, rfl, fun z => n11 (List.mem_of_mem_take z), ?_⟩
              have kk := k7.trans E11.sq
              exact ⟨kk.t, kk.f, kk.z, fun n a h => take_pre (kk.r n a h) (Nat.lt_of_lt_of_le (List.getElem?_eq_some_iff.mp h).1 (by rw [l6]; exact Nat.le_refl _)), kk.w⟩
            · exact ⟨M11, E17.trans E11, ra11, R11, w, n11, k7.trans E11.sq⟩
          refine ⟨aw, hD11, ?_, M12, zs ++ [some d], rfl, hjt, by simp [hzl], k12.trans (KeepT.lock hD11 trivial), ⟨aw ++ [v], e12.hid nD, R12.hid hD11 trivial n12, n12, upd_same, by simpa using ra12.mono (KeepT.lock hD11 trivial), em12⟩, add1 (some d) hr⟩
          have f1 := flat hb hl
          have f2 : (zs.filterMap id).length ≤ zs.length := List.length_filterMap_le _ _
          have f3 : (i + 1) * B ≤ xs.length * B := Nat.mul_le_mul_right _ hlt
          rw [Nat.succ_mul] at f3
          rw [← ra7.len, List.length_append]
          omega
      · have e : j = xs1.length := by omega
        subst e
        have q8 := il1 zs hzl q7
        have f2 : (zs.filterMap id).length ≤ zs.length := List.length_filterMap_le _ _
        exact .inl ⟨sn1.stop M7 H7 k7 R7 g7, M7, ys ++ [zs.filterMap id], rfl, hlt, by simp [hl], ⟨aw, E17, R7, n7, hD7, by simpa using ra7, em7⟩, addB _ (by omega), add _ q8.2⟩
  · have e : i = xs.length := by omega
    subst e
    have q3 := il ys hl q2
    rw [← em] at q3
    exact .inl ⟨sn.stop M2 H2 E12.sq R2 g2, hQ _ _ (hmk.of (o := .lst ys.flatten) (M0 := M1) (H0 := H1) E12 nD mD n2 hD trivial R2 ⟨av, hD, ra⟩ q3 fun v d M' H' e' R' r' q' => k v d M' H' (e1.trans e') R' r' q')⟩
theorem de_lc2 {mk : MkR} (hmk : MkOk mk) {elt tg tg1 iter iter1 : Expr} {ifs ifs1 : List Expr} {scope : Scope} {pos : Pos} {own : List (Str × Nat)} {vs1 : List Nat} {ti ti1 : DI} {g g1 : Tg} {tt tt1 : DT} {te : DE} (hc : X.calm = true) (hN : X.N.Nodup) (hi : PId X tg iter ti) (ok : blkC X.N X.env.scope scope own = true)
    (hg : ∀ s H C cl fp, PGd (blkE X scope s H C cl fp) tg g) (ht : ∀ s H C cl fp, PTsd (blkE X scope s H C cl fp) ifs tt) (hi1 : ∀ s H C cl fp, PId (blkE X scope s H C cl fp) tg1 iter1 ti1) (hg1 : ∀ s H C cl fp, PGd (blkE X scope s H C cl fp) tg1 g1) (ht1 : ∀ s H C cl fp, PTsd (blkE X scope s H C cl fp) ifs1 tt1) (he : ∀ s H C cl fp, PEd (blkE X scope s H C cl fp) elt te)
    (hv : ∀ i ∈ g.slots, i ∈ own.map (·.2) := by decide) (hv1 : ∀ i ∈ g1.slots, i ∈ vs1 := by decide) (hw : ∀ i ∈ vs1, i ∈ own.map (·.2) := by decide) (hs : ∀ x, foldedSetIterable iter X.env x = pure x := by intro _; rfl) (hs1 : ∀ env x, foldedSetIterable iter1 env x = pure x := by intro _ _; rfl) :
    PEd X (.ListComp elt [⟨tg, iter, ifs, 0⟩, ⟨tg1, iter1, ifs1, 0⟩] scope pos) (dLC2 mk ti g tt ti1 g1 tt1 te (own.map (·.2)) vs1) := by
  obtain ⟨wi, h1, h2⟩ := hi
  exact peI (pe_frz (pe_lc2 (g := LG X.K g) (g1 := LG X.K g1) (tt := LT0 X.K X.mg tt) (wi1 := LI0 X.K X.mg ti1) (tt1 := LT0 X.K X.mg tt1) (te := LE0 X.K X.mg te) hc hN h1 (blkOk_by ok) hw (fun s H C cl fp => (hg s H C cl fp).of) (fun s H C cl fp => pts0 (ht s H C cl fp)) (fun s H C cl fp => pi0 (hi1 s H C cl fp)) (fun s H C cl fp => (hg1 s H C cl fp).of) (fun s H C cl fp => pts0 (ht1 s H C cl fp)) (fun s H C cl fp => pe0 (he s H C cl fp)) hs hs1))
    fun σ H Q => lift_lc2 hmk hv hv1 h2 σ H Q (frzQ Q) fun _ _ h => h
theorem ds_setLc2 {mk : MkR} (hmk : MkOk mk) {i : Nat} {y : Str} {py spos pos : Pos} {elt tg tg1 iter iter1 : Expr} {ifs ifs1 : List Expr} {scope : Scope} {own : List (Str × Nat)} {vs1 : List Nat} {ti ti1 : DI} {g g1 : Tg} {tt tt1 : DT} {te : DE} (hc : X.calm = true) (hN : X.N.Nodup) (hsw : swapsWith (.ListComp elt [⟨tg, iter, ifs, 0⟩, ⟨tg1, iter1, ifs1, 0⟩] scope pos) (some (.Name y py)) spos.line X.env = pure true)
    (hi : PId X tg iter ti) (ok : blkC X.N X.env.scope scope own = true)
    (hg : ∀ s H C cl fp, PGd (blkE X scope s H C cl fp) tg g) (ht : ∀ s H C cl fp, PTsd (blkE X scope s H C cl fp) ifs tt) (hi1 : ∀ s H C cl fp, PId (blkE X scope s H C cl fp) tg1 iter1 ti1) (hg1 : ∀ s H C cl fp, PGd (blkE X scope s H C cl fp) tg1 g1) (ht1 : ∀ s H C cl fp, PTsd (blkE X scope s H C cl fp) ifs1 tt1) (he : ∀ s H C cl fp, PEd (blkE X scope s H C cl fp) elt te)
    (hy : X.N[i]? = some y := by rfl) (hyl : X.env.scope.names.lookup y = some .local := by rfl)
    (hv : ∀ i ∈ g.slots, i ∈ own.map (·.2) := by decide) (hv1 : ∀ i ∈ g1.slots, i ∈ vs1 := by decide) (hw : ∀ i ∈ vs1, i ∈ own.map (·.2) := by decide) (hs : ∀ x, foldedSetIterable iter X.env x = pure x := by intro _; rfl) (hs1 : ∀ env x, foldedSetIterable iter1 env x = pure x := by intro _ _; rfl) :
    PSd X (.Assign [.Name y py] (.ListComp elt [⟨tg, iter, ifs, 0⟩, ⟨tg1, iter1, ifs1, 0⟩] scope pos) spos) (dAsg (dLC2 mk ti g tt ti1 g1 tt1 te (own.map (·.2)) vs1) (.nm i)) := by
  obtain ⟨wi, h1, h2⟩ := hi
  refine psI (ps_frz (ps_setLc2 (g := LG X.K g) (g1 := LG X.K g1) (tt := LT0 X.K X.mg tt) (wi1 := LI0 X.K X.mg ti1) (tt1 := LT0 X.K X.mg tt1) (te := LE0 X.K X.mg te) hc hN hy hyl hsw h1 (blkOk_by ok) hw (fun s H C cl fp => (hg s H C cl fp).of) (fun s H C cl fp => pts0 (ht s H C cl fp)) (fun s H C cl fp => pi0 (hi1 s H C cl fp)) (fun s H C cl fp => (hg1 s H C cl fp).of) (fun s H C cl fp => pts0 (ht1 s H C cl fp)) (fun s H C cl fp => pe0 (he s H C cl fp)) hs hs1)) fun D σ H ⟨ρ, M, De, S, R, q, k⟩ => ?_
  refine lift_lc2 hmk hv hv1 h2 σ H (fun v H1 => D.nx (σ.set i (some v)) H1) _ (fun v H1 h => ?_) ⟨ρ, M, _, _, S, R, q, k.xok S, fun v d M1 H1 e1 R1 r1 q1 => k.nx _ H1 _ M1 e1 ((S.ev e1).set r1) R1 (by simpa only [Tg.store] using q1)⟩
  show (frzN D).nx (σ.set i (some v)) H1
  rcases h with h | ⟨a, u, _, ea, mu, q⟩
  · exact .inl h
  · exact .inr ⟨a, u, ea, mu, q⟩
/-! ### xs.pop() -/
theorem Reps.dropLast {K : PySem.W.Frag} {M : MB} {H : Hp} {l : List D} {vs : List V} (r : Reps K M H l vs) : Reps K M H l.dropLast vs.dropLast := by
  rw [List.dropLast_eq_take, List.dropLast_eq_take, r.len]
  exact r.take _
theorem de_meth0 {o : Expr} {to : DE} {name : Str} {apos cpos : Pos} {T id : String} {r : D → BD} {ty : MH → D → Prop} (pa : PlainAttrs T) (slot : Slot T name id) (hty : typeOf (.builtin id) = pure (.type "method_descriptor")) (hm : MtD X id r) (hT : TyD X T ty) (ho : PEd X o to)
    (hbase : attributeBase o name X.env (eval o X.env) = eval o X.env := by rfl) (hline : (apos.endLine == cpos.line) = true := by rfl) :
    PEd X (.Call (.Attribute o name apos) [] [] cpos) (dMeth0 ty r to) := by
  obtain ⟨r', h1, h2⟩ := hm
  exact peI (pe_bm0 pa slot hty h1 ho hbase hline) fun σ H Q ⟨ρ, M, E, Qd, S, R, q, xo, k⟩ => ⟨ρ, M, E, _, S, R, q, xo, fun v d M1 H1 e1 R1 r1 ⟨q0, q1⟩ => ⟨hT d v M1 H1 R1 r1 q0,
    h2 d [] v [] M1 H1 Qd Q R1 r1 .nil q1 fun z d M' H' e' R' r' q' => k z d M' H' (e1.trans e') R' r' q'⟩⟩
theorem md_pop : MtD X "list.pop" mPop := ⟨_, mt_pop, fun x ds v vs M H Qd Q R rx rs ⟨c, l, y, ex, ed, hm, hy, q⟩ k => by
  subst ex; subst ed
  obtain ⟨a, hc, ev⟩ := rx
  subst ev
  have evs : vs = [] := rs
  subst evs
  obtain ⟨us, h1, h2⟩ := R.at_ _ _ _ hc hm
  rw [List.getLast?_eq_getElem?] at hy
  obtain ⟨w, hw, rw'⟩ := h2.get hy
  have E := Ev.put (M := M) (H := H) (k := c) (v := some (.lst l.dropLast)) (u := .lst us.dropLast) hc h1 trivial
  exact ⟨a, us, w, rfl, rfl, h1, by rw [← h2.len]; exact hw, k w y (M.put c (some (.lst l.dropLast))) _ E (R.put hc h1 trivial ⟨_, upd_same, h2.dropLast.ev E⟩) (rw'.ev E) q⟩⟩
end
end DM

/-! DM, further readings: a list stored in names, methods by keywords, is of bools. Plain Lean. -/
namespace DM
open PySem L2
/-- (a, b, ..) = a list of that length -/
def gdLis (n : Nat) (g : GDs) : GD := fun d ρ M E Q => ∃ l, d = .lis l ∧ l.length = n ∧ g l ρ M E Q
/-- o.m(.., k = v, ..): by the class of o; the written values are counted behind o -/
def dCallMK (n m : Nat) (tbl : List (Str × SpD)) (nm : Str) (is : List Pk) (o : DE) (a b : DA) : DE := fun ρ M E Q => o ρ M E fun x M1 => ∃ c fs sp, insD M1 x = some (c, fs) ∧ tbl.lookup c = some sp ∧ lookF fs nm = none ∧ a ρ M1 E fun ds M2 => b ρ M2 E fun es M3 => ds.length = n ∧ es.length = m ∧ sp (pickD is (x :: (ds ++ es))) M3 E Q
/-- is, is not: of bools -/
def rIsB : RD2 := fun x y M Q => ∃ a b : Bool, x = .bl a ∧ y = .bl b ∧ Q (.bl (decide (a = b))) M
def rNotB : RD2 := fun x y M Q => ∃ a b : Bool, x = .bl a ∧ y = .bl b ∧ Q (.bl (!decide (a = b))) M
/-- < of tuples of ints -/
def rLtT : RD2 := fun x y M Q => ∃ ns ms : List Int, x = .tup (ns.map D.int) ∧ y = .tup (ms.map D.int) ∧ Q (.bl (HT.lexLt ns ms)) M
section
variable {ρ : DSt} {M : MH} {X : XQ} {Q : DQ} {d : D} {a b : DA} {o : DE} {l : List D} {n m : Nat} {gs : GDs} {R : DSt → MH → Prop} {tbl : List (Str × SpD)} {nm : Str} {is : List Pk}
@[simp ↓] theorem gdLis_ : gdLis n gs (.lis l) ρ M X R ↔ l.length = n ∧ gs l ρ M X R := ⟨fun ⟨_, e, h⟩ => by cases e; exact h, fun h => ⟨l, rfl, h⟩⟩
@[simp ↓] theorem dCallMK_ : dCallMK n m tbl nm is o a b ρ M X Q ↔ o ρ M X (hold (fun x M1 => insQ M1 x (hold (fun c fs => lookF fs nm = none ∧ tblQ tbl c (hold (fun sp => a ρ M1 X (hold (fun ds M2 => b ρ M2 X (hold (fun es M3 => ds.length = n ∧ es.length = m ∧ sp (pickD is (x :: (ds ++ es))) M3 X Q) ⟨⟩)) ⟨⟩)) ⟨⟩)) ⟨⟩)) ⟨⟩) := by
  have e : ∀ (x : D) (M1 : MH), (∃ c fs sp, insD M1 x = some (c, fs) ∧ tbl.lookup c = some sp ∧ lookF fs nm = none ∧ a ρ M1 X fun ds M2 => b ρ M2 X fun es M3 => ds.length = n ∧ es.length = m ∧ sp (pickD is (x :: (ds ++ es))) M3 X Q) ↔ insQ M1 x fun c fs => lookF fs nm = none ∧ tblQ tbl c fun sp => a ρ M1 X fun ds M2 => b ρ M2 X fun es M3 => ds.length = n ∧ es.length = m ∧ sp (pickD is (x :: (ds ++ es))) M3 X Q := fun x M1 =>
    ⟨fun ⟨c, fs, sp, h1, h2, h3, h4⟩ => ⟨c, fs, h1, h3, sp, h2, h4⟩, fun ⟨c, fs, h1, h3, sp, h2, h4⟩ => ⟨c, fs, sp, h1, h2, h3, h4⟩⟩
  show o ρ M X (fun x M1 => ∃ c fs sp, insD M1 x = some (c, fs) ∧ tbl.lookup c = some sp ∧ lookF fs nm = none ∧ a ρ M1 X fun ds M2 => b ρ M2 X fun es M3 => ds.length = n ∧ es.length = m ∧ sp (pickD is (x :: (ds ++ es))) M3 X Q) ↔ _
  simp only [e]
  exact Iff.rfl
@[simp] theorem rIsB_ {a b : Bool} : rIsB (.bl a) (.bl b) M Q ↔ Q (.bl (decide (a = b))) M := ⟨fun ⟨_, _, e, e', q⟩ => by cases e; cases e'; exact q, fun q => ⟨a, b, rfl, rfl, q⟩⟩
@[simp] theorem rNotB_ {a b : Bool} : rNotB (.bl a) (.bl b) M Q ↔ Q (.bl (!decide (a = b))) M := ⟨fun ⟨_, _, e, e', q⟩ => by cases e; cases e'; exact q, fun q => ⟨a, b, rfl, rfl, q⟩⟩
@[simp] theorem rLtT_2 {a b c d : Int} : rLtT (.tup [.int a, .int b]) (.tup [.int c, .int d]) M Q ↔ Q (.bl (HT.lexLt [a, b] [c, d])) M :=
  ⟨fun ⟨ns, ms, e, e', q⟩ => by
    have h1 : ns = [a, b] := int_inj (a := ns) (b := [a, b]) (by simpa using (D.tup.inj e).symm)
    have h2 : ms = [c, d] := int_inj (a := ms) (b := [c, d]) (by simpa using (D.tup.inj e').symm)
    rw [h1, h2] at q; exact q, fun q => ⟨[a, b], [c, d], rfl, rfl, q⟩⟩
end
end DM

set_option maxHeartbeats 1000000
/-! DM: rules of DMPl5. -/
namespace DM
open PySem PySem.Spec L2 PyProof.Rows
section
variable {X : Cx} {pos : Pos}
theorem gg_lis {tgs : List Expr} {gs : GDs} {n k : Nat} (hc : X.calm = true) (h : PGGs X tgs gs) (hn : (assignEach tgs X.env).length = n := by rfl) (hst : (assignEach tgs X.env).findIdx? (·.1) = none := by rfl) : PGG X (.Tuple tgs k pos) (gdLis n gs) := by
  obtain ⟨r, p, kk⟩ := h
  refine ⟨_, pg_unl hc p hn hst, fun ρ M E σ H d v Qd Q S R r' xo ⟨l, e, hl, q⟩ k => ?_⟩
  subst e
  obtain ⟨a, vs, ev, ht, rs⟩ := r'
  subst ev
  exact ⟨a, vs, rfl, ht.e.l, by rw [← rs.len, hl], kk ρ M E σ H l vs Qd Q S R rs xo q k⟩
theorem od_isB : OpD X (compareOp .Is) rIsB := ⟨_, op_isBl, fun x y v w M H Qd Q R rx ry ⟨a, b, ex, ey, q⟩ k => by
  subst ex; subst ey
  cases rx; cases ry
  exact ⟨a, b, rfl, rfl, k _ (.bl (decide (a = b))) M H .refl R rfl q⟩⟩
theorem od_notB : OpD X (compareOp .IsNot) rNotB := ⟨_, op_notBl, fun x y v w M H Qd Q R rx ry ⟨a, b, ex, ey, q⟩ k => by
  subst ex; subst ey
  cases rx; cases ry
  exact ⟨a, b, rfl, rfl, k _ (.bl (!decide (a = b))) M H .refl R rfl q⟩⟩
theorem od_ltT (hu : X.A.units < cLine) : OpD X (compareOp .Lt) rLtT := ⟨_, op_ltT hu, fun x y v w M H Qd Q R rx ry ⟨ns, ms, ex, ey, q⟩ k => by
  subst ex; subst ey
  obtain ⟨a, vs, ea, ha, ra⟩ := rx
  obtain ⟨b, us, eb, hb, rb⟩ := ry
  subst ea; subst eb
  rw [reps_intsV ra] at ha
  rw [reps_intsV rb] at hb
  exact ⟨a, b, ns, ms, rfl, rfl, ha, hb, k _ (.bl (HT.lexLt ns ms)) M H .refl R rfl q⟩⟩
end
/-! ### methods by keywords -/
/-- a method that may be called with n values and the keywords ks, by the class of what it is called of -/
def MethXK (P : Program) (w : World) (K : PySem.W.Frag) (mg : Str → Option Value) (base : Heap) (k : Nat) (m : Str) (tbl : List (Str × SpD)) (n : Nat) (ks : List Str) (is : List Pk) : Prop :=
  ∀ c sp, tbl.lookup c = some sp → ∃ C f fd ps, mg c = some (.ref C) ∧ Cls K C ∧ Meth K C m f ∧ FnD P w K mg base k f fd ps sp ∧ KwB K fd ps (n + 1) ks is
theorem MethXK.nil {P : Program} {w : World} {K : PySem.W.Frag} {mg : Str → Option Value} {base : Heap} {k n : Nat} {m : Str} {ks : List Str} {is : List Pk} : MethXK P w K mg base k m [] n ks is := fun _ _ e => nomatch e
theorem MethXK.cons {P : Program} {w : World} {K : PySem.W.Frag} {mg : Str → Option Value} {base : Heap} {k n : Nat} {m c : Str} {sp : SpD} {tbl : List (Str × SpD)} {ks : List Str} {is : List Pk} {C f : Addr} {fd : FuncData} {ps : List Str} (h1 : mg c = some (.ref C)) (h2 : Cls K C) (h3 : Meth K C m f) (h4 : FnD P w K mg base k f fd ps sp) (h5 : KwB K fd ps (n + 1) ks is) (r : MethXK P w K mg base k m tbl n ks is) : MethXK P w K mg base k m ((c, sp) :: tbl) n ks is := fun c' sp' e => by
  rw [List.lookup_cons] at e
  by_cases h : c' = c
  · subst h
    simp at e; subst e
    exact ⟨C, f, fd, ps, h1, h2, h3, h4, h5⟩
  · rw [show (c' == c) = false from by simpa using h] at e
    exact r c' sp' e
section
variable {X : Cx} {k n m : Nat} {tbl : List (Str × SpD)} {ks : List Str} {is : List Pk} {nm : Str} {apos pos : Pos} {o e : Expr} {es : List Expr} {kws : List Keyword} {to : DE} {t tk : DA}
/-- o.m(e, .., k = v, ..) -/
theorem de_callMK {pl : Sem Bool} (T : MethXK X.prog X.w X.K X.mg X.base k nm tbl n ks is) (hr : Room k X.A) (hgd : X.A.guards = some []) (ho : PEd X o to) (ha : PAd X (e :: es) t) (hkw : PKd X kws tk)
    (hall : (backToKw pos (keywordEach kws X.env)).all (·.1.isSome) = true := by rfl) (hks : (backToKw pos (keywordEach kws X.env)).filterMap (·.1) = ks := by rfl)
    (he : starEach (e :: es) X.env = (false, eval e X.env) :: starEach es X.env := by rfl)
    (hpl : ((backTo pos (starEach (e :: es) X.env)).any (·.1) || (backToKw pos (keywordEach kws X.env)).any (·.1.isNone)) = false := by rfl) (hn : ks.length = m := by rfl)
    (ht : eval (.Call (.Attribute o nm apos) (e :: es) kws pos) X.env = (do
      let ov ← eval o X.env
      standAt apos.atName
      let (f, first) ← holding [ov] (getMethod ov nm pl)
      callWith pos f first (backTo pos (starEach (e :: es) X.env)) (backToKw pos (keywordEach kws X.env))) := by rfl) :
    PEd X (.Call (.Attribute o nm apos) (e :: es) kws pos) (dCallMK n m tbl nm is to t tk) := by
  subst hn
  refine ⟨fun pins s σ H Q I ⟨ρ, M, E, Qd, S, R, q, xo, kk⟩ => ?_⟩
  refine PySem.W.methodCall_KW (pl := pl) (thn (ho.run pins s σ H (fun x H1 => ∃ d M1, Ev M H M1 H1 ∧ MR X.K X.mg M1 H1 ∧ Rep X.K M1 H1 d x ∧ ∃ c fs sp, insD M1.m d = some (c, fs) ∧ tbl.lookup c = some sp ∧ lookF fs nm = none ∧ t ρ M1.m E fun ds M2 => tk ρ M2 E fun es M3 => ds.length = n ∧ es.length = ks.length ∧ sp (pickD is (d :: (ds ++ es))) M3 E Qd) I
    ⟨ρ, M, E, _, S, R, q, xo, fun v d M1 H1 e1 R1 r1 q1 => ⟨d, M1, e1, R1, r1, q1⟩⟩) fun u s1 ⟨x, H1, I1, rx, d, M1, e1, R1, r1, c, fs, sp, hi, hsp, hl, q1⟩ => ?_) ht
  obtain ⟨j, a, C, dx, gs, ed, hja, ev, hm, hC, hH, hF⟩ := ins_at R1 r1 hi
  obtain ⟨C', f, fd, ps, hC', cl, me, F, hb⟩ := T c sp hsp
  rw [hC] at hC'; cases hC'
  subst ev
  obtain rfl : u = Value.ref a := rx
  refine getmeth_ok I1 hH cl me (lookF_no hF hl) ?_
  refine PySem.W.callWith_KW (first := [.ref a]) (h₀ := X.base) I1.ok.mod.kin me.kp hall (thn (ha.run pos pins s1 σ H1 (fun vs H2 => LA X tk σ H2 fun zs H3 => vs.length = n ∧ zs.length = ks.length ∧ liftSp X.K X.mg sp (pickV is (.ref a :: (vs ++ zs))) H3 Q fun cls d H' => Wx X cls d σ H') I1
    ⟨ρ, M1, E, _, S.ev e1, R1, q1, xo.later e1, fun vs ds M2 H2 e2 R2 r2 q2 => ⟨ρ, M2, E, _, S.ev (e1.trans e2), R2, q2, xo.later (e1.trans e2), fun zs es M3 H3 e3 R3 r3 ⟨l1, l2, q3⟩ => by
      obtain ⟨u0, hu, _⟩ := hb.ex
      refine ⟨by rw [← r2.len]; exact l1, by rw [← r3.len]; exact l2, pickD is (d :: (ds ++ es)), M3, E, Qd, ?_, R3, q3, xo.later ((e1.trans e2).trans e3), fun v d' M' H' e' R' r' q' => kk v d' M' H' (((e1.trans e2).trans e3).trans e') R' r' q'⟩
      exact reps_pick (.cons (r1.ev (e2.trans e3)) ((r2.ev e3).app r3)) (u := u0) (by rw [List.length_cons, List.length_append, l1, l2, show n + ks.length + 1 = n + 1 + ks.length by omega]; exact hu)⟩⟩) fun us s2 ⟨vs, H2, I2, r, q2⟩ => ?_) hpl he
  refine thn (hkw.run pos pins s2 σ H2 _ I2 q2) fun ws s3 ⟨zs, H3, I3, rz, l1, l2, q3⟩ => ⟨I3.kIn, ?_⟩
  rw [hks]
  exact run_kw (n := n + 1) (us := .ref a :: us) (vs := .ref a :: vs) F hb hr hgd I3 (.cons rfl r) rz (by rw [List.length_cons, l1]) l2 q3
/-- o.m(k = v, ..) -/
theorem de_callMK0 {pl : Sem Bool} (T : MethXK X.prog X.w X.K X.mg X.base k nm tbl 0 ks is) (hr : Room k X.A) (hgd : X.A.guards = some []) (ho : PEd X o to) (hkw : PKd X kws tk)
    (hall : (backToKw pos (keywordEach kws X.env)).all (·.1.isSome) = true := by rfl) (hks : (backToKw pos (keywordEach kws X.env)).filterMap (·.1) = ks := by rfl)
    (hpl : ((backTo pos (starEach [] X.env)).any (·.1) || (backToKw pos (keywordEach kws X.env)).any (·.1.isNone)) = false := by rfl) (hn : ks.length = m := by rfl)
    (ht : eval (.Call (.Attribute o nm apos) [] kws pos) X.env = (do
      let ov ← eval o X.env
      standAt apos.atName
      let (f, first) ← holding [ov] (getMethod ov nm pl)
      callWith pos f first (backTo pos (starEach [] X.env)) (backToKw pos (keywordEach kws X.env))) := by rfl) :
    PEd X (.Call (.Attribute o nm apos) [] kws pos) (dCallMK 0 m tbl nm is to dNil tk) := by
  subst hn
  refine ⟨fun pins s σ H Q I ⟨ρ, M, E, Qd, S, R, q, xo, kk⟩ => ?_⟩
  refine PySem.W.methodCall_KW (pl := pl) (thn (ho.run pins s σ H (fun x H1 => ∃ d M1, Ev M H M1 H1 ∧ MR X.K X.mg M1 H1 ∧ Rep X.K M1 H1 d x ∧ ∃ c fs sp, insD M1.m d = some (c, fs) ∧ tbl.lookup c = some sp ∧ lookF fs nm = none ∧ tk ρ M1.m E fun es M3 => [].length = 0 ∧ es.length = ks.length ∧ sp (pickD is (d :: ([] ++ es))) M3 E Qd) I
    ⟨ρ, M, E, _, S, R, q, xo, fun v d M1 H1 e1 R1 r1 q1 => ⟨d, M1, e1, R1, r1, q1⟩⟩) fun u s1 ⟨x, H1, I1, rx, d, M1, e1, R1, r1, c, fs, sp, hi, hsp, hl, q1⟩ => ?_) ht
  obtain ⟨j, a, C, dx, gs, ed, hja, ev, hm, hC, hH, hF⟩ := ins_at R1 r1 hi
  obtain ⟨C', f, fd, ps, hC', cl, me, F, hb⟩ := T c sp hsp
  rw [hC] at hC'; cases hC'
  subst ev
  obtain rfl : u = Value.ref a := rx
  refine getmeth_ok I1 hH cl me (lookF_no hF hl) ?_
  refine PySem.W.callWith_KW0 (first := [.ref a]) (h₀ := X.base) I1.ok.mod.kin me.kp hall ?_ hpl
  obtain ⟨u0, hu, _⟩ := hb.ex
  refine thn (hkw.run pos pins s1 σ H1 (fun zs H3 => zs.length = ks.length ∧ liftSp X.K X.mg sp (pickV is (.ref a :: zs)) H3 Q fun cls d H' => Wx X cls d σ H') I1
    ⟨ρ, M1, E, _, S.ev e1, R1, q1, xo.later e1, fun zs es M3 H3 e3 R3 r3 ⟨_, l2, q3⟩ => ⟨by rw [← r3.len]; exact l2, pickD is (d :: es), M3, E, Qd, reps_pick (.cons (r1.ev e3) r3) (u := u0) (by rw [List.length_cons, l2, show ks.length + 1 = 0 + 1 + ks.length by omega]; exact hu), R3, q3, xo.later (e1.trans e3), fun v d' M' H' e' R' r' q' => kk v d' M' H' ((e1.trans e3).trans e') R' r' q'⟩⟩) fun ws s3 ⟨zs, H3, I3, rz, l2, q3⟩ => ⟨I3.kIn, ?_⟩
  rw [hks]
  exact run_kw (n := 0 + 1) (us := [.ref a]) (vs := [.ref a]) F hb hr hgd I3 (.cons rfl .nil) rz rfl l2 q3
end
end DM

/-! DM, further readings: zip(a, b, strict=True). Plain Lean. -/
namespace DM
open PySem L2
/-- zip of a tuple and a list that nobody writes to, of one length -/
def zipS (x y : D) (M : MH) (R : List D → (MH → Prop) → MH → Prop) : Prop := ∃ l m, x = .tup l ∧ y = .lis m ∧ l.length = m.length ∧ R (zipD l m) (fun _ => True) M
def iZipS (a : DA) : DI := fun ρ M E R => a ρ M E fun ds M1 => as2 ds fun x y => zipS x y M1 R
section
variable {ρ : DSt} {M : MH} {X : XQ} {l m : List D} {A : DA}
@[simp ↓] theorem iZipS_ {Z : List D → (MH → Prop) → MH → Prop} : iZipS A ρ M X Z ↔ A ρ M X (hold (fun ds M1 => as2 ds (hold (fun x y => zipS x y M1 Z) ⟨⟩)) ⟨⟩) := Iff.rfl
@[simp ↓] theorem zipS_ {R : List D → (MH → Prop) → MH → Prop} : zipS (.tup l) (.lis m) M R ↔ l.length = m.length ∧ R (zipD l m) (fun _ => True) M := ⟨fun ⟨_, _, e, f, h, r⟩ => by cases e; cases f; exact ⟨h, r⟩, fun ⟨h, r⟩ => ⟨_, _, rfl, rfl, h, r⟩⟩
end
end DM

/-! DM, further readings: comprehensions whose items change the cells. Plain Lean. -/
namespace DM
open PySem L2
/-- a comprehension by a state: the cells and what was gathered -/
def compS (G : MH → Prop) (g : Tg) (tt : DT) (te : DE) (ρ : DSt) (xs : List D) (M : MH) (Q : List D → MH → Prop) : Prop :=
  ∃ J : Nat → MH → List D → Prop, J 0 M [] ∧ (∀ i x N acc, xs[i]? = some x → J i N acc → G N ∧ acc.length ≤ i ∧ g.store x ρ fun ρ1 => tt ρ1 N noX fun b M2 => br b (te ρ1 M2 noX (stop (fun y M3 => J (i + 1) M3 (acc ++ [y])) ⟨⟩)) (stop (J (i + 1) M2 acc) ⟨⟩)) ∧
    ∀ N acc, J xs.length N acc → G N ∧ Q acc N
def dLCs (mk : MkR) (w : DI) (g : Tg) (tt : DT) (te : DE) (vs : List Nat) : DE := fun ρ M E Q => w ρ M E fun xs G M1 => xs.length ≤ sizeLine ∧ compS G g tt te (wipeD ρ vs) xs M1 fun acc M2 => mk M2 (.lst acc) Q
section
variable {ρ : DSt} {M : MH} {X : XQ} {Q : DQ}
@[simp ↓] theorem dLCs_ {mk : MkR} {w : DI} {g : Tg} {T : DT} {a : DE} {vs : List Nat} : dLCs mk w g T a vs ρ M X Q ↔ w ρ M X (hold (fun xs G M1 => xs.length ≤ sizeLine ∧ compS G g T a (wipeD ρ vs) xs M1 (hold (fun acc M2 => mk M2 (.lst acc) Q) ⟨⟩)) ⟨⟩) := Iff.rfl
end
section
variable {α : Type} {l : List α} {e : α → D} {xs : List D} {G : MH → Prop} {g : Tg} {tt : DT} {te : DE} {ρ : DSt} {M : MH} {Q : List D → MH → Prop}
/-- each item gives one; by a typed state -/
theorem comp_st (hx : xs = l.map e) {T : Type} (m : T → MH) (r : T → List D) (J : Nat → T → Prop) (start : ∃ t, J 0 t ∧ m t = M ∧ r t = [])
    (turn : ∀ (i : Nat) x t, l[i]? = some x → l.take (i + 1) = l.take i ++ [x] → J i t → G (m t) ∧ (r t).length ≤ i ∧ g.store (e x) ρ fun ρ1 => tt ρ1 (m t) noX fun b M2 => br b (te ρ1 M2 noX (stop (fun y M3 => ∃ t', J (i + 1) t' ∧ m t' = M3 ∧ r t' = r t ++ [y]) ⟨⟩)) (stop (∃ t', J (i + 1) t' ∧ m t' = M2 ∧ r t' = r t) ⟨⟩))
    (last : ∀ t, J l.length t → G (m t) ∧ Q (r t) (m t)) : compS G g tt te ρ xs M Q := by
  subst hx
  refine ⟨fun i N acc => ∃ t, J i t ∧ m t = N ∧ r t = acc, start, fun i x N acc h => ?_, fun N acc => ?_⟩
  · rintro ⟨t, ht, rfl, rfl⟩
    rw [List.getElem?_map] at h
    cases el : l[i]? with
    | none => rw [el] at h; cases h
    | some a =>
      rw [el] at h; cases h
      exact turn i a t el (by rw [List.take_add_one, el]; rfl) ht
  · rintro ⟨t, ht, rfl, rfl⟩
    exact last t (by simpa using ht)
end
end DM

/-! DM, further readings: max and min of a tuple, zip of a tuple and a list of one length, upper(). Plain Lean. -/
namespace DM
open PySem L2
def cMaxT : BD := fun ds M Q => as1 ds fun x => ∃ ns : List Int, x = .tup (ns.map D.int) ∧ 0 < ns.length ∧ ∀ m, m ∈ ns → (∀ y ∈ ns, y ≤ m) → Q (.int m) M
def cMinT : BD := fun ds M Q => as1 ds fun x => ∃ ns : List Int, x = .tup (ns.map D.int) ∧ 0 < ns.length ∧ ∀ m, m ∈ ns → (∀ y ∈ ns, m ≤ y) → Q (.int m) M
/-- zip of a tuple and a list that nobody writes to, of one length -/
def zipM (x y : D) (M : MH) (R : List D → (MH → Prop) → MH → Prop) : Prop := ∃ l m, x = .tup l ∧ y = .lis m ∧ l.length = m.length ∧ R (zipD l m) (fun _ => True) M
def iZipM (a : DA) : DI := fun ρ M E R => a ρ M E fun ds M1 => as2 ds fun x y => zipM x y M1 R
def isStr (_ : MH) (x : D) : Prop := ∃ s, x = .str s
def mUpper : D → BD := fun x ds M Q => ∃ s, x = .str s ∧ ds = [] ∧ s.length ≤ 5592405 ∧ Q (.str (Txt.upper s)) M
section
variable {ρ : DSt} {M : MH} {X : XQ} {Q : DQ} {A : DA} {l m : List D}
@[simp ↓] theorem iZipM_ {Z : List D → (MH → Prop) → MH → Prop} : iZipM A ρ M X Z ↔ A ρ M X (hold (fun ds M1 => as2 ds (hold (fun x y => zipM x y M1 Z) ⟨⟩)) ⟨⟩) := Iff.rfl
@[simp ↓] theorem zipM_l {R : List D → (MH → Prop) → MH → Prop} : zipM (.tup l) (.lis m) M R ↔ l.length = m.length ∧ R (zipD l m) (fun _ => True) M := ⟨fun ⟨_, _, e, f, h, r⟩ => by cases e; cases f; exact ⟨h, r⟩, fun ⟨h, r⟩ => ⟨_, _, rfl, rfl, h, r⟩⟩
@[simp] theorem isStr_ {s : Str} : isStr M (.str s) := ⟨s, rfl⟩
@[simp] theorem mUpper_ {s : Str} : mUpper (.str s) [] M Q ↔ s.length ≤ 5592405 ∧ Q (.str (Txt.upper s)) M := ⟨fun ⟨_, e, _, h, q⟩ => by cases e; exact ⟨h, q⟩, fun ⟨h, q⟩ => ⟨_, rfl, rfl, h, q⟩⟩
end
end DM

/-! DM, further readings: x != [] of any list. Plain Lean. -/
namespace DM
open PySem L2
/-- a live list of anything compared to an empty list -/
def rNeE : RD2 := fun x y M Q => ∃ a l, x = .ref a ∧ M[a]? = some (some (.lst l)) ∧ y = .lis [] ∧ Q (.bl (!l.isEmpty)) M
@[simp] theorem rNeE_at {a : Nat} {l : List D} {M : MH} {Q : DQ} (h : M[a]? = some (some (.lst l))) : rNeE (.ref a) (.lis []) M Q ↔ Q (.bl (!l.isEmpty)) M := by simp [rNeE, h]
/-- x.update(y) of an empty dict -/
def dUpd (a b : DE) : DE := fun ρ M E Q => a ρ M E fun x M1 => (∃ l, dicD M1 x = some l) ∧ b ρ M1 E fun y M2 => ∃ p ks vs, x = .ref p ∧ M2[p]? = some (some (.dic [])) ∧ y = .dct ks vs ∧ Q .non (M2.set p (some (.dic (ks.zip vs))))
@[simp ↓] theorem dUpd_ {a b : DE} {ρ : DSt} {M : MH} {X : XQ} {Q : DQ} : dUpd a b ρ M X Q ↔ a ρ M X (hold (fun x M1 => (∃ l, dicD M1 x = some l) ∧ b ρ M1 X (hold (fun y M2 => ∃ p ks vs, x = .ref p ∧ M2[p]? = some (some (.dic [])) ∧ y = .dct ks vs ∧ Q .non (M2.set p (some (.dic (ks.zip vs))))) ⟨⟩)) ⟨⟩) := Iff.rfl
end DM

/-! DM, further readings: texts: str(n), a.join(list). Plain Lean. -/
namespace DM
open PySem L2
def cStrI : BD := fun ds M Q => as1 ds fun x => ∃ i : Int, x = .int i ∧ i.natAbs.log2 < 1920 ∧ Q (.str (toString i)) M
def mJoin : D → BD := fun x ds M Q => ∃ (a : Str) (ys : List Str), x = .str a ∧ ds = [.lis (ys.map D.str)] ∧ (ys.map (·.length)).sum + ys.length * a.length ≤ 16777216 ∧ Q (.str (Txt.join a ys)) M
section
variable {ρ : DSt} {M : MH} {X : XQ} {Q : DQ} {a b : Str}
@[simp] theorem cStrI_ {i : Int} : cStrI [.int i] M Q ↔ i.natAbs.log2 < 1920 ∧ Q (.str (toString i)) M := by simp [cStrI]
theorem mJoin_of {ys : List Str} {l : List D} (e : l = ys.map D.str) (h : (ys.map (·.length)).sum + ys.length * a.length ≤ 16777216) (q : Q (.str (Txt.join a ys)) M) : mJoin (.str a) [.lis l] M Q := ⟨a, ys, rfl, by rw [e], h, q⟩
end
end DM

/-! DM, further readings: zip of two live lists. Plain Lean. -/
namespace DM
open PySem L2
def zipL (x y : D) (M : MH) (R : List D → (MH → Prop) → MH → Prop) : Prop := ∃ p q l m, x = .ref p ∧ y = .ref q ∧ M[p]? = some (some (.lst l)) ∧ M[q]? = some (some (.lst m)) ∧ R (zipD l m) (fun M => M[p]? = some (some (.lst l)) ∧ M[q]? = some (some (.lst m))) M
def iZipL (a : DA) : DI := fun ρ M E R => a ρ M E fun ds M1 => as2 ds fun x y => zipL x y M1 R
@[simp ↓] theorem iZipL_ {A : DA} {ρ : DSt} {M : MH} {X : XQ} {Z : List D → (MH → Prop) → MH → Prop} : iZipL A ρ M X Z ↔ A ρ M X (hold (fun ds M1 => as2 ds (hold (fun x y => zipL x y M1 Z) ⟨⟩)) ⟨⟩) := Iff.rfl
theorem zipL_at {p q : Nat} {l m : List D} {M : MH} {R : List D → (MH → Prop) → MH → Prop} (h1 : M[p]? = some (some (.lst l))) (h2 : M[q]? = some (some (.lst m))) (r : R (zipD l m) (fun M => M[p]? = some (some (.lst l)) ∧ M[q]? = some (some (.lst m))) M) : zipL (.ref p) (.ref q) M R := ⟨p, q, l, m, rfl, rfl, h1, h2, r⟩
end DM

/-! DM: plain readings: enumerate over the items of a dict. -/
namespace DM
open PySem L2
/-- enumerate(d.items()) of a dict that is not written to -/
def iEnD (a : DE) : DI := fun ρ M E R => a ρ M E fun x M1 => fzQ M1 x fun l => R (enumD 0 (walkD .items l)) (fun _ => True) M1
@[simp ↓] theorem iEnD_ {a : DE} {ρ : DSt} {M : MH} {X : XQ} {Z : List D → (MH → Prop) → MH → Prop} : iEnD a ρ M X Z ↔ a ρ M X (hold (fun x M1 => fzQ M1 x (hold (fun l => Z (enumD 0 (walkD .items l)) (fun _ => True) M1) ⟨⟩)) ⟨⟩) := Iff.rfl
end DM

/-! DM, further readings: texts: slices, signs, in, times, len, int. Plain Lean. -/
namespace DM
open PySem L2
def rSlT (x : D) (lo hi : Option Int) (M : MH) (Q : DQ) : Prop := ∃ z, x = .str z ∧ z.length ≤ sizeLine ∧ Q (.str (cutS z lo hi)) M
def dSlT (a : DE) (lo hi : DO) : DE := fun ρ M E Q => a ρ M E fun x M1 => lo ρ M1 E fun i M2 => hi ρ M2 E fun j M3 => rSlT x i j M3 Q
def rInT : RD2 := fun x y M Q => ∃ (c : Nat) (z : Str), x = .str ⟨#[c]⟩ ∧ y = .str z ∧ Q (.bl (decide (c ∈ z.cps.toList))) M
def rNotInT : RD2 := fun x y M Q => ∃ (c : Nat) (z : Str), x = .str ⟨#[c]⟩ ∧ y = .str z ∧ Q (.bl (!decide (c ∈ z.cps.toList))) M
def rIxT : RD2 := fun x y M Q => ∃ (z : Str) (i : Int) (c : Nat), x = .str z ∧ y = .int i ∧ z.length ≤ sizeLine ∧ atI z.cps.toList i = some c ∧ Q (.str ⟨#[c]⟩) M
def rMulT : RD2 := fun x y M Q => ∃ (z : Str) (i : Int), x = .str z ∧ y = .int i ∧ z.length ≤ 16 ∧ 0 ≤ i ∧ i ≤ 1048576 ∧ Q (.str (Txt.mul z i)) M
def cLenT : BD := fun ds M Q => as1 ds fun x => ∃ z : Str, x = .str z ∧ z.length ≤ sizeLine ∧ Q (.int z.length) M
def cIntT : BD := fun ds M Q => as1 ds fun x => ∃ (a : Str) (n : Int), x = .str a ∧ PySem.intText? a = some n ∧ a.length ≤ 640 ∧ Q (.int n) M
def CMulWD (i j : Int) : Prop := i.natAbs < 2 ^ 600 ∧ j.natAbs < 2 ^ 600
def rMulW : RD2 := rI CMulWD fun i j => .int (i * j)
def mCount : D → BD := fun x ds M Q => ∃ a b : Str, x = .str a ∧ ds = [.str b] ∧ Q (.int (Txt.count a b)) M
section
variable {ρ : DSt} {M : MH} {X : XQ} {Q : DQ} {a b : Str} {e : DE} {lo hi : DO} {x y : Option Int} {c : Nat} {i : Int}
@[simp ↓] theorem dSlT_ : dSlT e lo hi ρ M X Q ↔ e ρ M X (hold (fun x M1 => lo ρ M1 X (hold (fun i M2 => hi ρ M2 X (hold (fun j M3 => rSlT x i j M3 Q) ⟨⟩)) ⟨⟩)) ⟨⟩) := Iff.rfl
@[simp] theorem rSlT_ : rSlT (.str a) x y M Q ↔ a.length ≤ sizeLine ∧ Q (.str (cutS a x y)) M := by simp [rSlT]
@[simp] theorem rInT_ : rInT (.str ⟨#[c]⟩) (.str a) M Q ↔ Q (.bl (decide (c ∈ a.cps.toList))) M := by simp [rInT]
@[simp] theorem rNotInT_ : rNotInT (.str ⟨#[c]⟩) (.str a) M Q ↔ Q (.bl (!decide (c ∈ a.cps.toList))) M := by simp [rNotInT]
@[simp] theorem rIxT_ : rIxT (.str a) (.int i) M Q ↔ a.length ≤ sizeLine ∧ ∃ c, atI a.cps.toList i = some c ∧ Q (.str ⟨#[c]⟩) M := by simp [rIxT]
@[simp] theorem rMulT_ : rMulT (.str a) (.int i) M Q ↔ a.length ≤ 16 ∧ 0 ≤ i ∧ i ≤ 1048576 ∧ Q (.str (Txt.mul a i)) M := by simp [rMulT]
@[simp] theorem cLenT_ : cLenT [.str a] M Q ↔ a.length ≤ sizeLine ∧ Q (.int a.length) M := by simp [cLenT]
@[simp] theorem cIntT_ : cIntT [.str a] M Q ↔ ∃ n, PySem.intText? a = some n ∧ a.length ≤ 640 ∧ Q (.int n) M := by simp [cIntT]
@[simp] theorem rMulW_ {j : Int} : rMulW (.int i) (.int j) M Q ↔ CMulWD i j ∧ Q (.int (i * j)) M := by simp [rMulW, rI]
@[simp] theorem mCount_ : mCount (.str a) [.str b] M Q ↔ Q (.int (Txt.count a b)) M := by simp [mCount]
end
end DM

/-! DM, further readings: == of like lists, == and != of values of mixed kinds. Plain Lean. -/
namespace DM
open PySem L2
def lstD (M : MH) : D → Option (List D)
  | .lis l => some l
  | .ref k => match M[k]? with
    | some (some (.lst l)) => some l
    | _ => none
  | _ => none
def rEqL : RD2 := fun x y M Q => ∃ l m, lstD M x = some l ∧ lstD M y = some m ∧ likeT M l m ∧ Q (.bl true) M
def rEqM : RD2 := fun x y M Q => rEq x y M Q ∨ rEqK x y M Q
def rNeM : RD2 := fun x y M Q => rNe x y M Q ∨ rNeK x y M Q
end DM

/-! DM, further readings: list(d.values()). Plain Lean. -/
namespace DM
open PySem L2
/-- list(d.values()) -/
def dValsL (mk : MkR) (a : DE) : DE := fun ρ M E Q => a ρ M E fun x M1 => ∃ p l, x = .ref p ∧ M1[p]? = some (some (.dic l)) ∧ mk M1 (.lst (l.map (·.2))) Q
@[simp ↓] theorem dValsL_ {mk : MkR} {a : DE} {ρ : DSt} {M : MH} {X : XQ} {Q : DQ} : dValsL mk a ρ M X Q ↔ a ρ M X (hold (fun x M1 => ∃ p l, x = .ref p ∧ M1[p]? = some (some (.dic l)) ∧ mk M1 (.lst (l.map (·.2))) Q) ⟨⟩) := Iff.rfl
end DM

/-! DM, further readings: a tuple times any small number. Plain Lean. -/
namespace DM
open PySem L2
/-- tuple * n, also of no items, and no times -/
def rMulN : RD2 := fun x y M Q => ∃ (l : List D) (k : Int), x = .tup l ∧ y = .int k ∧ 0 ≤ k ∧ k ≤ 1000 ∧ l.length ≤ 1000 ∧ Q (.tup (List.replicate k.toNat l).flatten) M
@[simp] theorem rMulN_ {l : List D} {k : Int} {M : MH} {Q : DQ} : rMulN (.tup l) (.int k) M Q ↔ 0 ≤ k ∧ k ≤ 1000 ∧ l.length ≤ 1000 ∧ Q (.tup (List.replicate k.toNat l).flatten) M := by simp [rMulN]
end DM

/-! DM, further readings: dict(enumerate(list)). Plain Lean. -/
namespace DM
open PySem L2
def enumF {α : Type} : Nat → List α → List (Key × α)
  | _, [] => []
  | i, x :: r => (.inl (i : Int), x) :: enumF (i + 1) r
/-- dict(enumerate(list)) -/
def dDen (mk : MkR) (a : DA) : DE := fun ρ M E Q => a ρ M E fun ds M1 => ∃ l, ds = [.lis l] ∧ l.length ≤ 1000 ∧ mk M1 (.dic (mergeD [] (enumF 0 l))) Q
@[simp ↓] theorem dDen_ {mk : MkR} {a : DA} {ρ : DSt} {M : MH} {X : XQ} {Q : DQ} : dDen mk a ρ M X Q ↔ a ρ M X (hold (fun ds M1 => ∃ l, ds = [.lis l] ∧ l.length ≤ 1000 ∧ mk M1 (.dic (mergeD [] (enumF 0 l))) Q) ⟨⟩) := Iff.rfl
/-- xs.count(w) of a list of texts -/
def mCntS : D → BD := fun x ds M Q => ∃ (ks : List Str) (k : Str), x = .lis (ks.map D.str) ∧ ds = [.str k] ∧ Q (.int ((ks.countP fun z => decide (z = k) : Nat) : Int)) M
theorem mCntS_ {ks : List Str} {k : Str} {M : MH} {Q : DQ} (q : Q (.int ((ks.countP fun z => decide (z = k) : Nat) : Int)) M) : mCntS (.lis (ks.map D.str)) [.str k] M Q := ⟨ks, k, rfl, rfl, q⟩
theorem enumF_len {α : Type} : ∀ {l : List α} {i : Nat}, (enumF i l).length = l.length
  | [], _ => rfl
  | _ :: r, i => by simp [enumF, enumF_len (l := r)]
theorem enumF_get {α : Type} : ∀ {l : List α} {i j : Nat} {x : α}, l[j]? = some x → (enumF i l)[j]? = some (.inl ((i + j : Nat) : Int), x)
  | [], _, _, _, h => by simp at h
  | y :: r, i, 0, x, h => by simp at h; subst h; rfl
  | y :: r, i, j + 1, x, h => by
    have := enumF_get (l := r) (i := i + 1) (j := j) (x := x) (by simpa using h)
    rw [show i + 1 + j = i + (j + 1) by omega] at this
    simpa [enumF] using this
theorem putD_new {l : List (Key × D)} {k : Key} {v : D} (h : k ∉ l.map (·.1)) : putD l k v = l ++ [(k, v)] := by
  unfold putD
  rw [if_neg]
  intro ha
  obtain ⟨p, hp, e⟩ := List.any_eq_true.mp ha
  exact h (List.mem_map.mpr ⟨p, hp, of_decide_eq_true e⟩)
theorem merge_enumF : ∀ {l : List D} {i : Nat} {acc : List (Key × D)}, (∀ p ∈ acc, ∃ j : Nat, p.1 = .inl (j : Int) ∧ j < i) → mergeD acc (enumF i l) = acc ++ enumF i l
  | [], _, acc, _ => by simp [mergeD, enumF]
  | x :: r, i, acc, h => by
    have e1 : putD acc (.inl (i : Int)) x = acc ++ [(.inl (i : Int), x)] := putD_new fun hm => by
      obtain ⟨p, hp, e⟩ := List.mem_map.mp hm
      obtain ⟨j, ej, lt⟩ := h p hp
      rw [ej] at e
      injection e with e
      omega
    have ih := merge_enumF (l := r) (i := i + 1) (acc := acc ++ [(.inl (i : Int), x)]) fun p hp => by
      rcases List.mem_append.mp hp with hp | hp
      · obtain ⟨j, ej, lt⟩ := h p hp
        exact ⟨j, ej, by omega⟩
      · rw [List.mem_singleton.mp hp]
        exact ⟨i, rfl, by omega⟩
    show mergeD (putD acc (.inl (i : Int)) x) (enumF (i + 1) r) = _
    rw [e1, ih]
    simp [enumF]
theorem merge_enum {l : List D} : mergeD [] (enumF 0 l) = enumF 0 l := by
  have := merge_enumF (l := l) (i := 0) (acc := []) fun p hp => (nomatch hp)
  simpa using this
end DM

/-! DM, further readings: zip of three lists. Plain Lean. -/
namespace DM
open PySem L2
def zipD3 (l m n : List D) : List D := (l.zip (m.zip n)).map fun p => .tup [p.1, p.2.1, p.2.2]
/-- zip(a, b, c) of three lists -/
def iZip3 (a : DA) : DI := fun ρ M E R => a ρ M E fun ds M1 => ∃ l m n, ds = [.lis l, .lis m, .lis n] ∧ R (zipD3 l m n) (fun _ => True) M1
@[simp ↓] theorem iZip3_ {A : DA} {ρ : DSt} {M : MH} {X : XQ} {Z : List D → (MH → Prop) → MH → Prop} : iZip3 A ρ M X Z ↔ A ρ M X (hold (fun ds M1 => ∃ l m n, ds = [.lis l, .lis m, .lis n] ∧ Z (zipD3 l m n) (fun _ => True) M1) ⟨⟩) := Iff.rfl
theorem zipD3_inv {l m n : List D} {i : Nat} {z : D} (h : (zipD3 l m n)[i]? = some z) : ∃ x y u, l[i]? = some x ∧ m[i]? = some y ∧ n[i]? = some u ∧ z = .tup [x, y, u] := by
  unfold zipD3 at h
  rw [List.getElem?_map] at h
  cases e : (l.zip (m.zip n))[i]? with
  | none => rw [e] at h; cases h
  | some q =>
    rw [e] at h
    rw [List.getElem?_zip_eq_some, List.getElem?_zip_eq_some] at e
    cases h
    exact ⟨q.1, q.2.1, q.2.2, e.1, e.2.1, e.2.2, rfl⟩
theorem zipD3_len {l m n : List D} : (zipD3 l m n).length = min l.length (min m.length n.length) := by simp [zipD3]
end DM

/-! DM, further readings: an instance == a text. Plain Lean. -/
namespace DM
open PySem L2
def rEqI (c : Str) : RD2 := fun x y M Q => ∃ a fs b, x = .ref a ∧ y = .str b ∧ M[a]? = some (some (.ins c fs)) ∧ Q (.bl false) M
/-- == of an instance of the class c or a plain value with a text -/
def rEqIM (c : Str) : RD2 := fun x y M Q => rEq x y M Q ∨ rEqI c x y M Q
theorem rEqIM_ins {c : Str} {a : Nat} {fs : List (Str × D)} {b : Str} {M : MH} {Q : DQ} (h : M[a]? = some (some (.ins c fs))) (q : Q (.bl false) M) : rEqIM c (.ref a) (.str b) M Q := .inr ⟨a, fs, b, rfl, rfl, h, q⟩
/-- isinstance of an instance of the class c (of no builtin type asked for) or a plain value -/
def rIsiI (c : Str) (T : Ty) : RD1 := fun x M Q => rIsi T x M Q ∨ ∃ a fs, x = .ref a ∧ M[a]? = some (some (.ins c fs)) ∧ Q (.bl false) M
end DM

/-! DM, further readings: text.split(sep). Plain Lean. -/
namespace DM
open PySem L2
/-- a.split(b) -/
def dSplit (mk : MkR) (o a : DE) : DE := fun ρ M E Q => o ρ M E fun x M1 => (∃ s, x = .str s) ∧ a ρ M1 E fun y M2 => ∃ s b : Str, x = .str s ∧ y = .str b ∧ (b.length == 0) = false ∧ s.length + 2 ≤ 16777216 ∧ mk M2 (.lst ((Txt.split s b).map D.str)) Q
section
variable {ρ : DSt} {M : MH} {X : XQ} {Q : DQ} {o a : DE} {mk : MkR}
@[simp ↓] theorem dSplit_ : dSplit mk o a ρ M X Q ↔ o ρ M X (hold (fun x M1 => (∃ s, x = .str s) ∧ a ρ M1 X (hold (fun y M2 => ∃ s b : Str, x = .str s ∧ y = .str b ∧ (b.length == 0) = false ∧ s.length + 2 ≤ 16777216 ∧ mk M2 (.lst ((Txt.split s b).map D.str)) Q) ⟨⟩)) ⟨⟩) := Iff.rfl
end
/-- a live list of anything == an empty list -/
def rEqE : RD2 := fun x y M Q => ∃ a l, x = .ref a ∧ M[a]? = some (some (.lst l)) ∧ y = .lis [] ∧ Q (.bl l.isEmpty) M
@[simp] theorem rEqE_at {a : Nat} {l : List D} {M : MH} {Q : DQ} (h : M[a]? = some (some (.lst l))) : rEqE (.ref a) (.lis []) M Q ↔ Q (.bl l.isEmpty) M := by simp [rEqE, h]
end DM

/-! DM, further readings: own errors as values. Plain Lean. -/
namespace DM
open PySem L2
/-- C(x), C(): the class named c, its field f -/
def dMkX1 (c f : Str) (a : DA) : DE := fun ρ M E Q => a ρ M E fun ds M1 => as1 ds fun d => Q (.ref (M1.length + 1)) (M1 ++ [some (.xdc [(f, d)]), some (.exv c (some M1.length))])
def dMkX0 (c : Str) : DE := fun _ M _ Q => Q (.ref M.length) (M ++ [some (.exv c none)])
def xcN : List Str := ["InvalidStatement", "InvalidClaim", "ParseError", "UnknownStatement", "UnknownMark", "UnknownRecord", "UnknownSource", "Unjoinable", "LimitExceeded"]
/-- e.f of an error -/
def xatQ (f : Str) (x : D) (M1 : MH) (Q : DQ) : Prop := ∃ (p : Nat) (c : Str) (k : Nat) (fs : Fs) (d : D), x = .ref p ∧ M1[p]? = some (some (.exv c (some k))) ∧ M1[k]? = some (some (.xdc fs)) ∧ c ∈ xcN ∧ fs.lookup f = some d ∧ Q d M1
def dXat (f : Str) (a : DE) : DE := fun ρ M E Q => a ρ M E fun x M1 => xatQ f x M1 Q
/-- the own classes' bases, and what is above these -/
def upX (c : Str) : List Str :=
  if c ∈ (["InvalidStatement", "InvalidClaim", "ParseError"] : List Str) then ["ValueError", "Exception", "BaseException", "object"]
  else if c ∈ (["UnknownStatement", "UnknownMark", "UnknownRecord", "UnknownSource"] : List Str) then ["LookupError", "Exception", "BaseException", "object"]
  else if c = "Unjoinable" then ["RuntimeError", "Exception", "BaseException", "object"]
  else ["OverflowError", "ArithmeticError", "Exception", "BaseException", "object"]
/-- isinstance(x, T), x an error -/
def rIsiE (T : Str) : RD1 := fun x M Q => ∃ (p : Nat) (c : Str) (k : Option Nat), x = .ref p ∧ M[p]? = some (some (.exv c k)) ∧ c ∈ xcN ∧ (∀ j, k = some j → ∃ fs, M[j]? = some (some (.xdc fs))) ∧ Q (.bl (c == T || (upX c).contains T)) M
section
variable {ρ : DSt} {M : MH} {X : XQ} {Q : DQ} {a : DA} {e : DE} {c f T : Str} {p : Nat} {k : Option Nat}
@[simp ↓] theorem dMkX1_ : dMkX1 c f a ρ M X Q ↔ a ρ M X (hold (fun ds M1 => as1 ds fun d => Q (.ref (M1.length + 1)) (M1 ++ [some (.xdc [(f, d)]), some (.exv c (some M1.length))])) ⟨⟩) := Iff.rfl
@[simp ↓] theorem dMkX0_ : dMkX0 c ρ M X Q ↔ Q (.ref M.length) (M ++ [some (.exv c none)]) := Iff.rfl
@[simp ↓] theorem dXat_ : dXat f e ρ M X Q ↔ e ρ M X (hold (fun x M1 => xatQ f x M1 Q) ⟨⟩) := Iff.rfl
theorem xatQ_at {k : Nat} {fs : Fs} {d : D} (h : M[p]? = some (some (.exv c (some k)))) (hk : M[k]? = some (some (.xdc fs))) (hc : c ∈ xcN) (hl : fs.lookup f = some d) (q : Q d M) : xatQ f (.ref p) M Q := ⟨p, c, k, fs, d, rfl, h, hk, hc, hl, q⟩
theorem rIsiE_at (h : M[p]? = some (some (.exv c k))) (hc : c ∈ xcN) (hk : ∀ j, k = some j → ∃ fs, M[j]? = some (some (.xdc fs))) (q : Q (.bl (c == T || (upX c).contains T)) M) : rIsiE T (.ref p) M Q := ⟨p, c, k, rfl, h, hc, hk, q⟩
end
end DM

set_option maxHeartbeats 1000000
/-! DM: own errors as values: made by position or by name, their fields, isinstance of them. -/
namespace PySem
namespace HandSPX
open Builtin Builtin.ObjectAttr
section
variable {M : Model} {A : Around} {E : Value → Shared → Prop} {h : Heap} {g : Array GenState} {d : Drawn} {t : Nat} {os : OsState} {prog : Program} {w : World} {R : Result → Shared → Prop}
variable {nm q : Str} {C N : Addr} {bs bm bmB : List Value} {hdct : Bool} {sn : List Str} {sub : List Value} {ab : Bool} {col : Option Bool} {dd : Option Addr} {k0 k1 k2 k3 k5 : Option Value} {B newId initId : String} {kw : List (Str × Value)}
theorem check_new_kw (F : ExcBaseFacts B newId initId bmB) (hT : ∀ X : String, bm.contains (.type X) = bmB.contains (.type X)) {rest : List Value} {Q : Unit → Shared → Prop}
    (hC : h.get? C = some (excClassObj nm q C N bs bm hdct sn sub ab col dd k0 k1 k2 k3 k5 newId)) (hq : Q () ⟨h, g, d, t, os⟩) : wpAny M A (checkBuiltinCall newId ⟨.ref C :: rest, kw⟩) Q E ⟨h, g, d, t, os⟩ := by
  have hcont : (Value.ref C :: bm).contains (.type B) = true := by rw [List.contains_cons, hT, F.hasB, Bool.or_true]
  have hstar := F.noStar
  simp only [checkBuiltinCall, F.newKind, F.newSplit, F.newRow]
  repeat (first | refine wpAny_loadPart_at hC ?_ | (refine wpAny_isSubtype_exc hC ?_; rw [hcont]) | refine wpAny_staticBase_exc hC ?_ | refine wpAny_madeBy_exc hC ?_ | simp only [bne_self_eq_false, Bool.false_eq_true, if_false] | wp_step)
  exact hq
theorem new_kw (F : ExcBaseFacts B newId initId bmB) (hT : ∀ X : String, bm.contains (.type X) = bmB.contains (.type X)) {rest : List Value}
    (hC : h.get? C = some (excClassObj nm q C N bs bm hdct sn sub ab col dd k0 k1 k2 k3 k5 newId))
    (hq : R (.ok (.ret (.ref (h.objs.size + 1)))) ⟨(h.push { cls := .type "tuple", data := .seq rest.toArray }).push
      { cls := .ref C, data := .fields #[.ref h.objs.size, .none, .none, .none, .bool false, .none] }, g, d, t, os⟩) (hrest : rest.length ≤ sizeLine) :
    codeAny (model prog w) A (.builtin newId ⟨.ref C :: rest, kw⟩) R ⟨h, g, d, t, os⟩ := by
  have hends := F.ends
  have hcB : (Value.ref C :: bm).contains (.type B) = true := by rw [List.contains_cons, hT, F.hasB, Bool.or_true]
  have hcA : (Value.ref C :: bm).contains (.type "AttributeError") = false := by rw [List.contains_cons, hT, F.noAttr]; rfl
  have hcN : (Value.ref C :: bm).contains (.type "NameError") = false := by rw [List.contains_cons, hT, F.noName]; rfl
  refine codeAny_builtinAt F.entry ?_
  unfold Builtin.«BaseException.__new__»
  refine wpAt_bind ?_
  show wpAt _ _ _ (stack >>= _) _ _ _
  refine wpAt_bind (wpAt_stack fun p below => wpAt_of_wpAny ?_)
  wp_walk
  refine wpAt_of_wpAny ?_
  rw [F.owner]
  repeat (first | with_reducible refine wpAny_madeHere_exc F.canon hC ?_ | with_reducible refine wpAny_loadPart_at hC ?_ | (with_reducible refine wpAny_isSubtype_exc hC ?_; first | rw [hcB] | rw [hcA] | rw [hcN]) | wp_step)
  show R _ _
  rw [Heap.size_push]
  exact hq
theorem type_call_kw (F : ExcBaseFacts B newId initId bmB) (hT : ∀ X : String, bm.contains (.type X) = bmB.contains (.type X)) {rest : List Value} {fI : Addr} {Q : Fin → Shared → Prop}
    (hC : h.get? C = some (excClassObj nm q C N bs bm hdct sn sub ab col dd k0 k1 k2 k3 k5 newId))
    (hi : W.Looks (model prog w) h (typeLookup (.ref C) "__init__") (some (.ref fI))) (hb : ∀ self, W.Looks (model prog w) h (bindSpecial (.ref fI) self) (.ref fI, [self])) (hrest : rest.length ≤ sizeLine)
    (hq : codeAny (model prog w) A (.call (.ref fI) ⟨.ref (h.objs.size + 1) :: rest, kw⟩)
      (fun r s' => match r with | .ok (.ret v) => v = .none ∧ Q (.done (.ret (.ref (h.objs.size + 1)))) s' | .ok _ => False | .error e => E e s')
      ⟨(h.push (W.kdv_tup rest)).push (excO C h.objs.size), g, d, t, os⟩) :
    wpAny (model prog w) A (Builtin.«type.__call__» ⟨.ref C :: rest, kw⟩) Q E ⟨h, g, d, t, os⟩ := by
  repeat (first | with_reducible refine wpAny_loadPart_at hC ?_ | with_reducible refine wpAny_madeBy_exc hC ?_ | wp_step)
  refine codeAny_call_builtin_code (Code.quiet_builtin _ F.quiet) (check_new_kw F hT hC ?_)
  refine new_kw F hT hC ?_ hrest
  show wpAny _ _ _ _ _ _
  have k : ∀ b o, h.get? b = some o → ((h.push (W.kdv_tup rest)).push (excO C h.objs.size)).get? b = some o := fun b o e => Heap.get?_push_of_some _ (Heap.get?_push_of_some _ e)
  have hC₁ := k _ _ hC
  have hget : ((h.push (W.kdv_tup rest)).push (excO C h.objs.size)).get? (h.objs.size + 1) = some (excO C h.objs.size) := by heap_get
  have hcC : (Value.ref C :: bm).contains (.ref C) = true := by simp
  have i1 := hi.keeps k
  have b1 := (hb (.ref (h.objs.size + 1))).keeps k
  unfold isInstance
  repeat (first | with_reducible refine wpAny_loadPart_at hget ?_ | (with_reducible refine wpAny_isSubtype_exc hC₁ ?_; rw [hcC]) | wp_step)
  show wpAny _ _ (typeLookup (.ref C) _) _ _ _
  refine i1.at ?_
  refine wpAny_holding (wpAny_bind (b1.at ?_))
  refine wpAny_bind (wpAny_call (codeAny_mono hq fun r s' z => ?_))
  rcases r with e | (v | _ | _ | _) <;> first | exact z | exact z.elim | skip
  obtain ⟨rfl, z⟩ := z
  first
    | exact wpAny_pure (wpAny_pure z)
    | (wp_walk; exact z)
theorem call_kw (F : ExcBaseFacts B newId initId bmB) (hT : ∀ X : String, bm.contains (.type X) = bmB.contains (.type X)) {rest : List Value} {fI : Addr}
    (hC : h.get? C = some (excClassObj nm q C N bs bm hdct sn sub ab col dd k0 k1 k2 k3 k5 newId))
    (hi : W.Looks (model prog w) h (typeLookup (.ref C) "__init__") (some (.ref fI))) (hb : ∀ self, W.Looks (model prog w) h (bindSpecial (.ref fI) self) (.ref fI, [self])) (hrest : rest.length ≤ sizeLine)
    (hq : codeAny (model prog w) (A.under (.builtin "type.__call__" ⟨.ref C :: rest, kw⟩)) (.call (.ref fI) ⟨.ref (h.objs.size + 1) :: rest, kw⟩) (W.InitBack (h.objs.size + 1) R)
      ⟨(h.push (W.kdv_tup rest)).push (excO C h.objs.size), g, d, t, os⟩) :
    codeAny (model prog w) A (.call (.ref C) ⟨rest, kw⟩) R ⟨h, g, d, t, os⟩ := by
  have f1 := tc_lookup
  have f2 := tc_bind (.ref C)
  have hTy : (⟨h, g, d, t, os⟩ : Shared).TypeIs (.ref C) "type" := ⟨_, hC, rfl⟩
  refine codeAny_of_tree ?_
  show wpAny _ _ (callAny (.ref C) _) _ _ _
  repeat (any_goals (first | assumption | with_reducible refine wpAny_loadPart_at hC ?_ | wp_step))
  refine ⟨rfl, ?_⟩
  refine codeAny_call_builtin_at (Code.quiet_builtin _ (by decide +kernel)) entry_typeCall (wpAny_check_type_call_sub hC (type_call_kw F hT hC hi hb hrest ?_))
  refine codeAny_mono hq fun r s' z => ?_
  rcases r with e | (v | _ | _ | _) <;> exact z
end
end HandSPX
end PySem

namespace DM
open PySem PySem.Spec L2 PyProof.Rows
section
variable {X : Cx} {B newId initId : String} {tl : List Value} {x f : Str} {C fI : Addr} {k : Nat} {fd : FuncData} {ps : List Str} {p pos : Pos} {pins : List (Addr × Obj)} {σ : L2.St} {H : Hp} {s : Shared} {Q : VK}
/-- the class is called: one field -/
theorem run_x1 {us : List Value} {kw : List (Str × Value)} {y : V} {u : Value} (eb : EB B newId initId tl) (T : OexB X.K C newId tl) (no : PySem.W.findIn X.K (.ref C) f = some none) (iC : PySem.W.findIn X.K (.ref C) "__init__" = some (some (.ref fI))) (tI : PySem.W.typeIn X.K (.ref fI) = some (.type "function"))
    (F1 : FnOk X.prog X.w X.K X.mg X.base (L2.CX X.prog X.w) k fI fd ps (spX1 X.K newId tl f)) (hr : Room (k + 1) X.A) (hb : ∀ (s : Shared) (a : Value), ps.length = 2 → X.K.In s.heap → BindsTo s fd ⟨a :: us, kw⟩ (ps.zip [a, u])) (hus : us.length ≤ 1) (I : Inv X pins σ H s) (ry : RelV y u)
    (h : ∀ a dx, H a = none → H dx = none → dx ≠ a → Q (.ref a) (upd (upd H dx (exd dx [(f, y)])) a (exo a C (some dx)))) : wpAny (model X.prog X.w) X.A (call (.ref C) us kw) (EP X pins σ Q) X.xe s := by
  obtain ⟨nm, q, N, bs, sn, sub, ab, col, dd, k0, k1, k2, k3, k5, hC⟩ := T.cls
  obtain ⟨hp, g, dr, tk, os⟩ := s
  let a := hp.objs.size + 1
  have hsz : hp.objs.size ≤ a := Nat.le_succ _
  have hn : H a = none := I.hok.fresh hsz
  have kk : ∀ b o, hp.get? b = some o → ((hp.push (PySem.W.kdv_tup us)).push (PySem.HandSPX.excO C hp.objs.size)).get? b = some o := fun b o e => Heap.get?_push_of_some _ (Heap.get?_push_of_some _ e)
  have hget : ((hp.push (PySem.W.kdv_tup us)).push (PySem.HandSPX.excO C hp.objs.size)).get? (hp.objs.size + 1) = some (PySem.HandSPX.excO C hp.objs.size) := by heap_get
  have I2 : Inv X pins σ (upd H a (exo a C none)) ⟨(hp.push (PySem.W.kdv_tup us)).push (PySem.HandSPX.excO C hp.objs.size), g, dr, tk, os⟩ :=
    I.laid (t' := tk) (a := a) (o := exo a C none) (h' := (hp.push (PySem.W.kdv_tup us)).push (PySem.HandSPX.excO C hp.objs.size)) kk hsz (exo_ok hget)
  have r2 : Vals [V.ref a, y] [Value.ref a, u] := .cons rfl (.cons ry .nil)
  let E0' : XK := fun _ _ _ => False
  have hq : spX1 X.K newId tl f [V.ref a, y] (upd H a (exo a C none)) (fun v H2 => v = .non ∧ Q (.ref a) H2) E0' := by
    refine ⟨a, C, y, rfl, T, no, upd_same, fun dx n ne => ⟨rfl, ?_⟩⟩
    rw [upd_ne ne] at n
    have e : upd (upd (upd H a (exo a C none)) dx (exd dx [(f, y)])) a (exo a C (some dx)) = upd (upd H dx (exd dx [(f, y)])) a (exo a C (some dx)) := by
      funext b
      by_cases h1 : b = a
      · subst h1; rw [upd_same, upd_same]
      · rw [upd_ne h1, upd_ne h1]
        by_cases h2 : b = dx
        · subst h2; rw [upd_same, upd_same]
        · rw [upd_ne h2, upd_ne h2, upd_ne h1]
    rw [e]
    exact h a dx hn n ne
  have len : ps.length = 2 := by
    have e := r2.length
    rw [F1.len _ _ _ _ hq] at e
    exact e
  refine wpAny_call (PySem.HandSPX.call_kw eb.F (fun _ => rfl) (I.kIn _ _ hC) (PySem.W.looks_findIn I.kIn iC) (fun self => PySem.W.bind_fn I.kIn self tI) (by rw [sizeLine_eq]; omega)
    (codeAny_mono (F1.run _ X.stack _ _ ⟨Value.ref a :: us, kw⟩ [Value.ref a, u] _ _ E0' (hr.make C us kw) (I2.env0.make C us kw) (hb _ _ len I2.kIn) r2 hq) fun r s' hq' => ?_))
  cases r with
  | error er => obtain ⟨_, _, _, _, _, _, _, _, _, _, _, _, z⟩ := hq'; exact z.elim
  | ok fl =>
    cases fl with
    | ret u =>
      obtain ⟨v, H2, os2, bare2, un2, hok2, rv, ev, q2⟩ := hq'
      subst ev
      obtain ⟨h2, g2, d2, t2, os'⟩ := s'
      exact ⟨rv, V.ref a, H2, I2.call' (ch := []) os2 un2 hok2 bare2 (fun _ z => nomatch z), rfl, q2⟩
    | next => exact False.elim hq'
    | brk => exact False.elim hq'
    | cont => exact False.elim hq'
/-- .. no field -/
theorem run_x0 (eb : EB B newId initId tl) (T : OexB X.K C newId tl) (iC : PySem.W.findIn X.K (.ref C) "__init__" = some (some (.ref fI))) (tI : PySem.W.typeIn X.K (.ref fI) = some (.type "function"))
    (F1 : FnOk X.prog X.w X.K X.mg X.base (L2.CX X.prog X.w) k fI fd ps (spX0 X.K newId tl)) (hr : Room (k + 1) X.A) (hb : Binds X.K fd ps []) (I : Inv X pins σ H s)
    (h : ∀ a, H a = none → Q (.ref a) (upd H a (exo a C none))) : wpAny (model X.prog X.w) X.A (call (.ref C) []) (EP X pins σ Q) X.xe s := by
  obtain ⟨nm, q, N, bs, sn, sub, ab, col, dd, k0, k1, k2, k3, k5, hC⟩ := T.cls
  obtain ⟨hp, g, dr, tk, os⟩ := s
  let a := hp.objs.size + 1
  have hsz : hp.objs.size ≤ a := Nat.le_succ _
  have hn : H a = none := I.hok.fresh hsz
  have kk : ∀ b o, hp.get? b = some o → ((hp.push (PySem.W.kdv_tup [])).push (PySem.HandSPX.excO C hp.objs.size)).get? b = some o := fun b o e => Heap.get?_push_of_some _ (Heap.get?_push_of_some _ e)
  have hget : ((hp.push (PySem.W.kdv_tup [])).push (PySem.HandSPX.excO C hp.objs.size)).get? (hp.objs.size + 1) = some (PySem.HandSPX.excO C hp.objs.size) := by heap_get
  have I2 : Inv X pins σ (upd H a (exo a C none)) ⟨(hp.push (PySem.W.kdv_tup [])).push (PySem.HandSPX.excO C hp.objs.size), g, dr, tk, os⟩ :=
    I.laid (t' := tk) (a := a) (o := exo a C none) (h' := (hp.push (PySem.W.kdv_tup [])).push (PySem.HandSPX.excO C hp.objs.size)) kk hsz (exo_ok hget)
  have r2 : Vals [V.ref a] [Value.ref a] := .cons rfl .nil
  have hq : spX0 X.K newId tl [V.ref a] (upd H a (exo a C none)) (fun v H2 => v = .non ∧ Q (.ref a) H2) (fun _ _ _ => False) := ⟨_, C, rfl, T, upd_same, rfl, h a hn⟩
  have len : [Value.ref a].length = ps.length := (r2.length.symm.trans (F1.len _ _ _ _ hq))
  have bind := hb ⟨(hp.push (PySem.W.kdv_tup [])).push (PySem.HandSPX.excO C hp.objs.size), g, dr, tk, os⟩ [Value.ref a] I2.kIn (by rw [List.append_nil]; exact len)
  rw [List.append_nil] at bind
  refine wpAny_call (PySem.HandSPX.call_own eb.F (fun _ => rfl) (I.kIn _ _ hC) (PySem.W.looks_findIn I.kIn iC) (fun self => PySem.W.bind_fn I.kIn self tI) (by simp [sizeLine_eq])
    (codeAny_mono (F1.run _ X.stack _ _ ⟨[Value.ref a], []⟩ [Value.ref a] _ _ (fun _ _ _ => False) (hr.make C [] []) (I2.env0.make C [] []) bind r2 hq) fun r s' hq' => ?_))
  cases r with
  | error er => obtain ⟨_, _, _, _, _, _, _, _, _, _, _, _, z⟩ := hq'; exact z.elim
  | ok fl =>
    cases fl with
    | ret u =>
      obtain ⟨v, H2, os2, bare2, un2, hok2, rv, ev, q2⟩ := hq'
      subst ev
      obtain ⟨h2, g2, d2, t2, os'⟩ := s'
      exact ⟨rv, V.ref a, H2, I2.call' (ch := []) os2 un2 hok2 bare2 (fun _ z => nomatch z), rfl, q2⟩
    | next => exact False.elim hq'
    | brk => exact False.elim hq'
    | cont => exact False.elim hq'
/-- C(e) -/
theorem pe_x1 {e : Expr} {ta : TA} (eb : EB B newId initId tl) (T : OexB X.K C newId tl) (no : PySem.W.findIn X.K (.ref C) f = some none) (iC : PySem.W.findIn X.K (.ref C) "__init__" = some (some (.ref fI))) (tI : PySem.W.typeIn X.K (.ref fI) = some (.type "function"))
    (F1 : FnOk X.prog X.w X.K X.mg X.base (L2.CX X.prog X.w) k fI fd ps (spX1 X.K newId tl f)) (hr : Room (k + 1) X.A) (hb : Binds X.K fd ps []) (hg : Gl X x) (hm : X.mg x = some (.ref C)) (ha : PA X [e] ta)
    (hdb : (x == ("__debug__" : Str)) = false := by decide) (he : starEach [e] X.env = (false, eval e X.env) :: starEach [] X.env := by rfl) (hpl : (backTo pos (starEach [] X.env)).any (·.1) = false := by rfl) :
    PE X (.Call (.Name x p) [e] [] pos) (fun σ H Q => ta σ H fun vs H1 => ∃ y, vs = [y] ∧ ∀ a dx, H1 a = none → H1 dx = none → dx ≠ a → Q (.ref a) (upd (upd H1 dx (exd dx [(f, y)])) a (exo a C (some dx)))) := by
  refine ⟨fun pins s σ H Q I h => ?_⟩
  refine wpAny_Call_Name_kw (ld_glob I hg hm ?_ hdb)
  refine PySem.W.callWith_K (h₀ := X.base) I.ok.mod.kin T.kC (thn (ha.run pos pins s σ H _ I h) fun us s1 ⟨vs, H1, I1, r1, y, ev, q1⟩ => ⟨I1.kIn, ?_⟩) he hpl
  subst ev
  obtain ⟨u, rfl, ry⟩ := vals1 r1
  refine run_x1 eb T no iC tI F1 hr (fun s a len KI => ?_) (Nat.le_refl _) I1 ry q1
  have := hb s [a, u] KI (by rw [List.append_nil]; exact len.symm)
  rw [List.append_nil] at this
  exact this
/-- C(f = e) -/
theorem pe_x1k {e : Expr} {kpos : Pos} {tk : TA} (eb : EB B newId initId tl) (T : OexB X.K C newId tl) (no : PySem.W.findIn X.K (.ref C) f = some none) (iC : PySem.W.findIn X.K (.ref C) "__init__" = some (some (.ref fI))) (tI : PySem.W.typeIn X.K (.ref fI) = some (.type "function"))
    (F1 : FnOk X.prog X.w X.K X.mg X.base (L2.CX X.prog X.w) k fI fd ps (spX1 X.K newId tl f)) (hr : Room (k + 1) X.A) (hb : KwB X.K fd ps 1 [f] [.at 0, .at 1]) (hg : Gl X x) (hm : X.mg x = some (.ref C)) (hkw : PK X [⟨some f, e, kpos⟩] tk)
    (hdb : (x == ("__debug__" : Str)) = false := by decide) (hall : (backToKw pos (keywordEach [⟨some f, e, kpos⟩] X.env)).all (·.1.isSome) = true := by rfl) (hks : (backToKw pos (keywordEach [⟨some f, e, kpos⟩] X.env)).filterMap (·.1) = [f] := by rfl)
    (hpl : ((backTo pos (starEach [] X.env)).any (·.1) || (backToKw pos (keywordEach [⟨some f, e, kpos⟩] X.env)).any (·.1.isNone)) = false := by rfl) :
    PE X (.Call (.Name x p) [] [⟨some f, e, kpos⟩] pos) (fun σ H Q => tk σ H fun vs H1 => ∃ y, vs = [y] ∧ ∀ a dx, H1 a = none → H1 dx = none → dx ≠ a → Q (.ref a) (upd (upd H1 dx (exd dx [(f, y)])) a (exo a C (some dx)))) := by
  refine ⟨fun pins s σ H Q I h => ?_⟩
  refine wpAny_Call_Name_kw (ld_glob I hg hm ?_ hdb)
  refine PySem.W.callWith_KW0 (h₀ := X.base) I.ok.mod.kin T.kC hall ?_ hpl
  refine thn (hkw.run pos pins s σ H _ I h) fun ws s2 ⟨zs, H2, I2, rz, y, ev, q2⟩ => ⟨I2.kIn, ?_⟩
  rw [hks]
  subst ev
  obtain ⟨u, rfl, ry⟩ := vals1 rz
  obtain ⟨u0, hf, hb⟩ := hb.ex
  exact run_x1 eb T no iC tI F1 hr (fun s a len KI => hb s [a] [u] KI rfl rfl) (Nat.zero_le _) I2 ry q2
/-- C() -/
theorem pe_x0 (eb : EB B newId initId tl) (T : OexB X.K C newId tl) (iC : PySem.W.findIn X.K (.ref C) "__init__" = some (some (.ref fI))) (tI : PySem.W.typeIn X.K (.ref fI) = some (.type "function"))
    (F1 : FnOk X.prog X.w X.K X.mg X.base (L2.CX X.prog X.w) k fI fd ps (spX0 X.K newId tl)) (hr : Room (k + 1) X.A) (hb : Binds X.K fd ps []) (hg : Gl X x) (hm : X.mg x = some (.ref C)) (hdb : (x == ("__debug__" : Str)) = false := by decide) :
    PE X (.Call (.Name x p) [] [] pos) (fun σ H Q => ∀ a, H a = none → Q (.ref a) (upd H a (exo a C none))) := by
  refine ⟨fun pins s σ H Q I h => ?_⟩
  refine wpAny_Call_Name_kw (ld_glob I hg hm (PySem.W.callWith_K0 I.kIn T.kC ?_) hdb)
  exact run_x0 eb T iC tI F1 hr hb I h
/-- e.f -/
theorem pe_xat {e : Expr} {te : TE} {n : Str} (hT : ∀ C c, X.mg c = some (.ref C) → c ∈ xcs → XfC X.K C ∧ PySem.W.findIn X.K (.ref C) n = some none) (he : PE X e te) (hb : attributeBase e n X.env (eval e X.env) = eval e X.env := by rfl) :
    PE X (.Attribute e n pos) (fun σ H Q => te σ H fun x H1 => ∃ a C c dd fs v, x = .ref a ∧ X.mg c = some (.ref C) ∧ c ∈ xcs ∧ H1 a = some (exo a C (some dd)) ∧ H1 dd = some (exd dd fs) ∧ fs.lookup n = some v ∧ Q v H1) := by
  refine ⟨fun pins s σ H Q I h => ?_⟩
  refine attr_of hb (thn (he.run pins s σ H _ I h) fun u s1 hh => ?_)
  obtain ⟨x, H1, I1, rx, a, C, c, dd, fs, v, ex, hm, hc, ea, ed, l, q⟩ := hh
  subst ex
  obtain rfl : u = Value.ref a := rx
  obtain ⟨T, no⟩ := hT C c hm hc
  obtain ⟨t1, ho⟩ := exo_at I1.hok ea
  obtain ⟨mA, hns, hr⟩ := exd_at I1.hok ed
  obtain ⟨od, hod, hl⟩ := lookIn_ns hns
  obtain ⟨u, hu, ru⟩ := RelO.some_of (v := v) (o := mA n) (by rw [← l]; exact hr n)
  have J : PySem.W.InstAt s1.heap a _ C (some od) := ⟨ho, rfl, rfl, hod⟩
  exact HandSPX.exc_get I1.kIn J T.ga T.gg T.exC (PySem.W.findObj_own T.hdC no rfl (by rw [hl, hu])) (handed_of ru) ⟨v, H1, I1.tok _, ru, q⟩
end
/-! ### over data -/
theorem xcN_eq : xcN = xcs := rfl
/-- all of the errors' classes are there -/
def GX (K : PySem.W.Frag) (mg : Str → Option Value) : Prop := ∀ c ∈ xcN, mg c = some (.ref (He.ga K c))
theorem gx_of {K : PySem.W.Frag} {mg : Str → Option Value} (h1 : mg "InvalidStatement" = some (.ref (He.ga K "InvalidStatement"))) (h2 : mg "InvalidClaim" = some (.ref (He.ga K "InvalidClaim"))) (h3 : mg "ParseError" = some (.ref (He.ga K "ParseError"))) (h4 : mg "UnknownStatement" = some (.ref (He.ga K "UnknownStatement")))
    (h5 : mg "UnknownMark" = some (.ref (He.ga K "UnknownMark"))) (h6 : mg "UnknownRecord" = some (.ref (He.ga K "UnknownRecord"))) (h7 : mg "UnknownSource" = some (.ref (He.ga K "UnknownSource"))) (h8 : mg "Unjoinable" = some (.ref (He.ga K "Unjoinable"))) (h9 : mg "LimitExceeded" = some (.ref (He.ga K "LimitExceeded"))) : GX K mg := by
  intro c hc
  simp only [xcN, List.mem_cons, List.not_mem_nil, or_false] at hc
  rcases hc with rfl | rfl | rfl | rfl | rfl | rfl | rfl | rfl | rfl <;> assumption
/-- isinstance(e, T) for each class -/
def isEB (T : Str) (cv : Value) (K : PySem.W.Frag) : Bool := xcN.all fun c => xfB K (He.ga K c) && (isxB c K && decide (PySem.W.kitOne K (.ref (He.ga K c)) cv = some (c == T || (upX c).contains T)))
def isEO (T : Str) (K : PySem.W.Frag) : Bool := isEB T (.ref (He.ga K T)) K
structure IsE (K : PySem.W.Frag) (mg : Str → Option Value) (T : Str) (cv : Value) : Prop where
  al : ∀ c ∈ xcN, ∀ C, mg c = some (.ref C) → XfC K C ∧ IsxC K C ∧ PySem.W.kitOne K (.ref C) cv = some (c == T || (upX c).contains T)
theorem isE_ok {T : Str} {cv : Value} {K : PySem.W.Frag} {mg : Str → Option Value} (h : isEB T cv K = true) (g : GX K mg) : IsE K mg T cv := ⟨fun c hc C hm => by
  obtain rfl : He.ga K c = C := by have := (g c hc).symm.trans hm; cases this; rfl
  obtain ⟨h1, h⟩ := He.ba (List.all_eq_true.mp h c hc)
  obtain ⟨h2, h3⟩ := He.ba h
  exact ⟨xfB_ok h1, isxB_ok h2, of_decide_eq_true h3⟩⟩
structure IsEO (K : PySem.W.Frag) (mg : Str → Option Value) (T : Str) : Prop where
  gl : mg T = some (.ref (He.ga K T))
  is : IsE K mg T (.ref (He.ga K T))
theorem isEO_ok {T : Str} {K : PySem.W.Frag} {mg : Str → Option Value} (h : isEO T K = true) (g : GX K mg) (hT : T ∈ xcN) : IsEO K mg T := ⟨g T hT, isE_ok h g⟩
/-- e.f for each class -/
def xatB (f : Str) (K : PySem.W.Frag) : Bool := xcN.all fun c => xfB K (He.ga K c) && decide (PySem.W.findIn K (.ref (He.ga K c)) f = some none)
structure XatX (K : PySem.W.Frag) (mg : Str → Option Value) (f : Str) : Prop where
  al : ∀ C c, mg c = some (.ref C) → c ∈ xcs → XfC K C ∧ PySem.W.findIn K (.ref C) f = some none
theorem xatB_ok {f : Str} {K : PySem.W.Frag} {mg : Str → Option Value} (h : xatB f K = true) (g : GX K mg) : XatX K mg f := ⟨fun C c hm hc => by
  obtain rfl : He.ga K c = C := by have := (g c hc).symm.trans hm; cases this; rfl
  obtain ⟨h1, h2⟩ := He.ba (List.all_eq_true.mp h c hc)
  exact ⟨xfB_ok h1, of_decide_eq_true h2⟩⟩
/-- made by name -/
structure KnownXk (P : Program) (w : World) (K : PySem.W.Frag) (mg : Str → Option Value) (base : Heap) (k : Nat) (c f : Str) : Prop where
  ex : ∃ (B newId initId : String) (tl : List Value) (C fI : Addr) (fd : FuncData) (ps : List Str), XC K mg c C ∧ EB B newId initId tl ∧ OexB K C newId tl ∧ PySem.W.findIn K (.ref C) f = some none ∧ PySem.W.findIn K (.ref C) "__init__" = some (some (.ref fI)) ∧
    PySem.W.typeIn K (.ref fI) = some (.type "function") ∧ FnOk P w K mg base (L2.CX P w) k fI fd ps (spX1 K newId tl f) ∧ KwB K fd ps 1 [f] [.at 0, .at 1]
section
variable {X : Cx} {k : Nat} {c f : Str} {e : Expr} {t : DA} {te : DE} {p pos kpos : Pos}
theorem x1_rep {M : MB} {H : Hp} {a dx C : Addr} {y : V} {d : D} (R : MR X.K X.mg M H) (hm : X.mg c = some (.ref C)) (ry : Rep X.K M H d y) (na : H a = none) (nd : H dx = none) (ne : dx ≠ a) :
    ∃ M', M'.m = M.m ++ [some (.xdc [(f, d)]), some (.exv c (some M.m.length))] ∧ Ev M H M' (upd (upd H dx (exd dx [(f, y)])) a (exo a C (some dx))) ∧ MR X.K X.mg M' (upd (upd H dx (exd dx [(f, y)])) a (exo a C (some dx))) ∧ Rep X.K M' (upd (upd H dx (exd dx [(f, y)])) a (exo a C (some dx))) (.ref (M.m.length + 1)) (.ref a) := by
  have e1 : Ev M H (M.add dx (.xdc [(f, d)])) (upd H dx (exd dx [(f, y)])) := .made nd
  have R1 : MR X.K X.mg (M.add dx (.xdc [(f, d)])) (upd H dx (exd dx [(f, y)])) := R.made nd ⟨[(f, y)], upd_same, y, [], rfl, ry.ev e1, rfl⟩
  have na1 : upd H dx (exd dx [(f, y)]) a = none := by rw [upd_ne (Ne.symm ne)]; exact na
  have l1 : (M.add dx (.xdc [(f, d)])).m.length = M.m.length + 1 := by show (M.m ++ [_]).length = _; simp
  have il : M.i[M.m.length]? = none := by rw [R.len]; exact List.getElem?_eq_none (Nat.le_refl _)
  have R2 : MR X.K X.mg ((M.add dx (.xdc [(f, d)])).add a (.exv c (some M.m.length))) (upd (upd H dx (exd dx [(f, y)])) a (exo a C (some dx))) := R1.made na1 ⟨C, some dx, hm, upd_same, dx, rfl, by
    show ((M.i ++ [dx]) ++ [a])[M.m.length]? = some dx
    rw [R.len, List.append_assoc, List.getElem?_append_right (Nat.le_refl _), Nat.sub_self]; rfl⟩
  refine ⟨(M.add dx (.xdc [(f, d)])).add a (.exv c (some M.m.length)), ?_, e1.trans (.made na1), R2, ?_⟩
  · show (M.m ++ [some (.xdc [(f, d)])]) ++ [some (.exv c (some M.m.length))] = _
    rw [List.append_assoc]; rfl
  · have := rep_last (K := X.K) (H' := upd (upd H dx (exd dx [(f, y)])) a (exo a C (some dx))) (p := a) (u := .exv c (some M.m.length)) R1
    rw [l1] at this
    exact this
/-- C(e) -/
theorem de_x1 (hx : KnownX X.prog X.w X.K X.mg X.base k c f) (hr : Room (k + 1) X.A) (ha : PAd X [e] t) (hg : Gl X c := by rfl) (hdb : (c == ("__debug__" : Str)) = false := by decide)
    (he : starEach [e] X.env = (false, eval e X.env) :: starEach [] X.env := by rfl) (hpl : (backTo pos (starEach [] X.env)).any (·.1) = false := by rfl) : PEd X (.Call (.Name c p) [e] [] pos) (dMkX1 c f t) := by
  obtain ⟨B, newId, initId, tl, C, fI, fd, ps, hm, eb, T, no, iC, tI, F1, hb⟩ := hx.ex
  refine peI (pe_x1 eb T no iC tI F1 hr hb hg hm.at_ ha hdb he hpl) fun σ H Q ⟨ρ, M, E, Qd, S, R, q, xo, kk⟩ => ⟨ρ, M, E, _, S, R, q, xo, fun vs ds M1 H1 e1 R1 r1 q1 => ?_⟩
  match ds, r1, q1 with
  | [d], r1, q1 =>
    obtain ⟨y, ey, ry⟩ := r1.one'
    refine ⟨y, ey, fun a dx na nd ne => ?_⟩
    obtain ⟨M2, hm2, e2, R2, r2⟩ := x1_rep (c := c) (f := f) R1 hm.at_ ry na nd ne
    have q1 : Qd (.ref (M1.m.length + 1)) (M1.m ++ [some (.xdc [(f, d)]), some (.exv c (some M1.m.length))]) := by simpa [as1] using q1
    exact kk _ _ M2 _ (e1.trans e2) R2 r2 (by rw [hm2]; exact q1)
/-- C(f = e) -/
theorem de_x1k (hx : KnownXk X.prog X.w X.K X.mg X.base k c f) (hr : Room (k + 1) X.A) (ha : PKd X [⟨some f, e, kpos⟩] t) (hg : Gl X c := by rfl) (hdb : (c == ("__debug__" : Str)) = false := by decide)
    (hall : (backToKw pos (keywordEach [⟨some f, e, kpos⟩] X.env)).all (·.1.isSome) = true := by rfl) (hks : (backToKw pos (keywordEach [⟨some f, e, kpos⟩] X.env)).filterMap (·.1) = [f] := by rfl)
    (hpl : ((backTo pos (starEach [] X.env)).any (·.1) || (backToKw pos (keywordEach [⟨some f, e, kpos⟩] X.env)).any (·.1.isNone)) = false := by rfl) : PEd X (.Call (.Name c p) [] [⟨some f, e, kpos⟩] pos) (dMkX1 c f t) := by
  obtain ⟨B, newId, initId, tl, C, fI, fd, ps, hm, eb, T, no, iC, tI, F1, hb⟩ := hx.ex
  refine peI (pe_x1k eb T no iC tI F1 hr hb hg hm.at_ ha hdb hall hks hpl) fun σ H Q ⟨ρ, M, E, Qd, S, R, q, xo, kk⟩ => ⟨ρ, M, E, _, S, R, q, xo, fun vs ds M1 H1 e1 R1 r1 q1 => ?_⟩
  match ds, r1, q1 with
  | [d], r1, q1 =>
    obtain ⟨y, ey, ry⟩ := r1.one'
    refine ⟨y, ey, fun a dx na nd ne => ?_⟩
    obtain ⟨M2, hm2, e2, R2, r2⟩ := x1_rep (c := c) (f := f) R1 hm.at_ ry na nd ne
    have q1 : Qd (.ref (M1.m.length + 1)) (M1.m ++ [some (.xdc [(f, d)]), some (.exv c (some M1.m.length))]) := by simpa [as1] using q1
    exact kk _ _ M2 _ (e1.trans e2) R2 r2 (by rw [hm2]; exact q1)
/-- C() -/
theorem de_x0 (hx : KnownX0 X.prog X.w X.K X.mg X.base k c) (hr : Room (k + 1) X.A) (hg : Gl X c := by rfl) (hdb : (c == ("__debug__" : Str)) = false := by decide) : PEd X (.Call (.Name c p) [] [] pos) (dMkX0 c) := by
  obtain ⟨B, newId, initId, tl, C, fI, fd, ps, hm, eb, T, iC, tI, F1, hb⟩ := hx.ex
  refine peI (pe_x0 eb T iC tI F1 hr hb hg hm.at_ hdb) fun σ H Q ⟨ρ, M, E, Qd, S, R, q, xo, kk⟩ a na => ?_
  exact kk _ _ (M.add a (.exv c none)) _ (.made na) (R.made na ⟨C, none, hm.at_, upd_same, rfl⟩) (rep_last R) q
/-- e.f -/
theorem de_xat (hT : XatX X.K X.mg f) (he : PEd X e te) (hb : attributeBase e f X.env (eval e X.env) = eval e X.env := by rfl) : PEd X (.Attribute e f pos) (dXat f te) :=
  peI (pe_xat hT.al he hb) fun σ H Q ⟨ρ, M, E, Qd, S, R, q, xo, kk⟩ => ⟨ρ, M, E, _, S, R, q, xo, fun v d M1 H1 e1 R1 r1 ⟨p, c, k, fs, d', ed, hp, hk, hc, hl, q1⟩ => by
    subst ed
    obtain ⟨a, ha, ev⟩ := r1
    subst ev
    obtain ⟨C, dd, hm, hx, dx, e2, hi⟩ := R1.at_ _ _ _ ha hp
    subst e2
    obtain ⟨gs, hd, rf⟩ := R1.at_ _ _ _ hi hk
    obtain ⟨v, g1, g2⟩ := lookF_rep rf (show lookF fs f = some d' from by rw [← hl]; rfl)
    exact ⟨a, C, c, dx, gs, v, rfl, hm, hc, hx, hd, g1, kk v d' M1 H1 e1 R1 g2 q1⟩⟩
/-! isinstance of an error -/
def rIsV (X : Cx) : List V → Hp → VK → Prop := fun xs H Q => ∃ a C d c cv b, xs = [.ref a, c] ∧ (∀ u, RelV c u → u = cv) ∧ H a = some (exo a C d) ∧ (d = none ∨ ∃ dd fs, d = some dd ∧ H dd = some (exd dd fs)) ∧ XfC X.K C ∧ IsxC X.K C ∧ PySem.W.kitOne X.K (.ref C) cv = some b ∧ Q (.bl b) H
theorem call_isV : CallR X (.builtin "isinstance") (rIsV X) := by
  intro pins s σ H xs us Q I r h
  obtain ⟨a, C, d, c, cv, b, rfl, hcv, ha, hd, F, G, e, q⟩ := h
  obtain ⟨u, us', rfl, ru, rr⟩ : ∃ u us', us = u :: us' ∧ RelV (.ref a) u ∧ Vals [c] us' := by cases r with | cons x y => exact ⟨_, _, rfl, x, y⟩
  obtain ⟨t, rfl, rt⟩ := vals1 rr
  cases ru
  obtain rfl : t = cv := hcv _ rt
  obtain ⟨t1, ho⟩ := exo_at I.hok ha
  have J : ∃ ox od, PySem.W.InstAt s.heap a ox C od := by
    rcases hd with hd | ⟨dd, gs, hd, hx⟩
    · subst hd
      exact ⟨_, none, ho, rfl, rfl, trivial⟩
    · subst hd
      obtain ⟨mA, hns, _⟩ := exd_at I.hok hx
      obtain ⟨od, hod, _⟩ := lookIn_ns hns
      exact ⟨_, some od, ho, rfl, rfl, hod⟩
  obtain ⟨ox, od, J⟩ := J
  exact PySem.W.kia_one (PySem.W.kitx_exc G.hcl F.ga F.gg F.exC G.ha G.hn G.ht G.hm) I.kIn J e (fun z => nomatch z) fun tk => ⟨.bl b, H, I.kept (t' := tk) fun _ _ z => z, rfl, q⟩
theorem isV_rep {M : MB} {H : Hp} {v : V} {d : D} {T : Str} {cv : Value} {c : V} (R : MR X.K X.mg M H) (F : IsE X.K X.mg T cv) (hcv : ∀ u, RelV c u → u = cv) (r : Rep X.K M H d v) {Qd : DQ} {Q : VK} (q : rIsiE T d M.m Qd) (k : ∀ b, Qd (.bl b) M.m → Q (.bl b) H) : rIsV X [v, c] H Q := by
  obtain ⟨p, n, j, ed, hp, hc, hj, q1⟩ := q
  subst ed
  obtain ⟨a, ha, ev⟩ := r
  subst ev
  obtain ⟨C, dd, hm, hx, e2⟩ := R.at_ _ _ _ ha hp
  obtain ⟨h1, h2, h3⟩ := F.al n hc C hm
  refine ⟨a, C, dd, c, cv, _, rfl, hcv, hx, ?_, h1, h2, h3, k _ q1⟩
  cases j with
  | none => exact .inl e2
  | some j =>
    obtain ⟨dx, e3, hi⟩ := e2
    obtain ⟨fs, hf⟩ := hj j rfl
    obtain ⟨gs, hg, _⟩ := R.at_ _ _ _ hi hf
    exact .inr ⟨dx, gs, e3, hg⟩
variable {T : Str} {x y : Str} {p' : Pos}
/-- isinstance(e, T), T built in -/
theorem de_isE {TB : String} (F : IsE X.K X.mg y (.type TB)) (hi : X.mg "isinstance" = none) (hT : X.mg y = none) (he : PEd X e te) (hx : x = "isinstance" := by rfl) (hv : bootBuiltins y = some (.type TB) := by decide +kernel)
    (hg : Gl X x := by rfl) (hg' : Gl X y := by rfl) (hn : y ≠ "__name__" := by decide) (hd : (y == ("__debug__" : Str)) = false := by decide)
    (h1 : starEach [e, .Name y p'] X.env = (false, eval e X.env) :: starEach [.Name y p'] X.env := by rfl) (h2 : starEach [.Name y p'] X.env = (false, eval (.Name y p') X.env) :: starEach [] X.env := by rfl) (hpl : (backTo pos (starEach [.Name y p'] X.env)).any (·.1) = false := by rfl) :
    PEd X (.Call (.Name x p) [e, .Name y p'] [] pos) (dUn (rIsiE y) te) := by
  subst hx
  refine peI (pe_callB call_isV hg hi (by decide +kernel) (pa_cons he (pa_cons (pe_bltn (v := .ty TB) hg' hT hv rfl hn hd) pa_nil h2) h1) (by decide) (by decide) h1 hpl) fun σ H Q ⟨ρ, M, E, Qd, S, R, q, xo, k⟩ => ?_
  exact ⟨ρ, M, E, _, S, R, q, xo, fun v d M1 H1 e1 R1 r1 q1 => isV_rep (c := .ty TB) R1 F (fun u h => h) r1 q1 fun b qb => k _ (.bl b) M1 H1 e1 R1 rfl qb⟩
/-- .. T an own class -/
theorem de_isEO (F : IsEO X.K X.mg y) (hi : X.mg "isinstance" = none) (he : PEd X e te) (hx : x = "isinstance" := by rfl) (hg : Gl X x := by rfl) (hg' : Gl X y := by rfl) (hd : (y == ("__debug__" : Str)) = false := by decide)
    (h1 : starEach [e, .Name y p'] X.env = (false, eval e X.env) :: starEach [.Name y p'] X.env := by rfl) (h2 : starEach [.Name y p'] X.env = (false, eval (.Name y p') X.env) :: starEach [] X.env := by rfl) (hpl : (backTo pos (starEach [.Name y p'] X.env)).any (·.1) = false := by rfl) :
    PEd X (.Call (.Name x p) [e, .Name y p'] [] pos) (dUn (rIsiE y) te) := by
  subst hx
  refine peI (pe_callB call_isV hg hi (by decide +kernel) (pa_cons he (pa_cons (pe_glob (v := .ref (He.ga X.K y)) hg' F.gl rfl hd) pa_nil h2) h1) (by decide) (by decide) h1 hpl) fun σ H Q ⟨ρ, M, E, Qd, S, R, q, xo, k⟩ => ?_
  exact ⟨ρ, M, E, _, S, R, q, xo, fun v d M1 H1 e1 R1 r1 q1 => isV_rep (c := .ref (He.ga X.K y)) R1 F.is (fun u h => h) r1 q1 fun b qb => k _ (.bl b) M1 H1 e1 R1 rfl qb⟩
end
/-- .. of the class made by name -/
theorem exB_known1k {P : Program} {w : World} {K : PySem.W.Frag} {mg : Str → Option Value} {base h : Heap} {c f : Str} {B newId initId : String} {tl : List Value} {k : Nat} {fd : FuncData} {ps : List Str} (X : K.In h) (G : h.Ns mainGlobals mg) (eb : EB B newId initId tl) (e : exB newId tl c K = true) (hm : mg c = some (.ref (He.ga K c))) (hf : f ∈ fldsX)
    (F : FnOk P w K mg base (L2.CX P w) k (He.ma K (He.ga K c) "__init__") fd ps (spX1 K newId tl f)) (hb : KwB K fd ps 1 [f] [.at 0, .at 1]) : KnownXk P w K mg base k c f := by
  obtain ⟨e1, e2⟩ := He.ba e
  obtain ⟨e2, e3⟩ := He.ba e2
  obtain ⟨e3, e4⟩ := He.ba e3
  obtain ⟨e5, e6⟩ := He.ba e4
  exact ⟨B, newId, initId, tl, _, _, fd, ps, xcB_ok X G e2 hm, eb, oexB_ok e1, (caB_ok (mg := mg) e3 hm).no f hf, of_decide_eq_true e5, of_decide_eq_true e6, F, hb⟩
end DM

namespace K06
open PySem PySem.Spec L2 DM
open PyProof.Rows (envOfC)
def top (i : Nat) : Stmt := PySem.Challenge.pw_whenline_k06_errors.main.body.getD i (.Pass ⟨0, 0, 0, 0⟩)

abbrev s_f_law_kinds : Stmt := top 11
abbrev s_f_law_built : Stmt := top 12
abbrev s_law : Stmt := top 13
/-! ### the head -/
abbrev s_UnknownStatement_init : Stmt := (clsOf (top 4)).getD 0 (.Pass ⟨0, 0, 0, 0⟩)
theorem sc_UnknownStatement_init : FnScope ["self", "number"] ["self", "number"] (defScope s_UnknownStatement_init) := ⟨rfl, rfl, rfl, by decide +kernel, rfl, by decide +kernel, by decide +kernel⟩
theorem ki_UnknownStatement {P : Program} {w : World} {K : PySem.W.Frag} {mg : Str → Option Value} {base : Heap} {f : Addr} {fd : FuncData} (F : FunD K "__init__" "UnknownStatement.__init__" (defArgs s_UnknownStatement_init) (defBody s_UnknownStatement_init) (defScope s_UnknownStatement_init) [] [] f fd) (m_B : mg "LookupError" = none) : FnOk P w K mg base (L2.CX P w) 1 f fd ["self", "number"] (spX1 K "LookupError.__new__" tlL "number") :=
  init1_ok F sc_UnknownStatement_init fun cdv A outer s H E => pss_cons (ps_expr (pe_binit ebL PyProof.Rows.Boot.«LookupError» rfl m_B (pa_cons (pe_var (i := 0) rfl (by first | exact Or.inl rfl | exact Or.inr (Or.inl rfl) | exact Or.inr (Or.inr rfl))) (pa_cons pe_str pa_nil)) (by decide) (by decide) (by decide))) (pss_one (ps_ost1 ebL (pe_var (i := 0) rfl (by first | exact Or.inl rfl | exact Or.inr (Or.inl rfl) | exact Or.inr (Or.inr rfl))) (pe_var (i := 1) rfl (by first | exact Or.inl rfl | exact Or.inr (Or.inl rfl) | exact Or.inr (Or.inr rfl)))))
theorem kb_UnknownStatement {K : PySem.W.Frag} {f : Addr} {fd : FuncData} (F : FunD K "__init__" "UnknownStatement.__init__" (defArgs s_UnknownStatement_init) (defBody s_UnknownStatement_init) (defScope s_UnknownStatement_init) [] [] f fd) : Binds K fd ["self", "number"] [] := F.bindsN fun _ _ _ _ _ _ us hl => match us, hl with | [_, _], _ => rfl
theorem kbk_UnknownStatement {K : PySem.W.Frag} {f : Addr} {fd : FuncData} (F : FunD K "__init__" "UnknownStatement.__init__" (defArgs s_UnknownStatement_init) (defBody s_UnknownStatement_init) (defScope s_UnknownStatement_init) [] [] f fd) : KwB K fd ["self", "number"] 1 ["number"] [.at 0, .at 1] := kw_all F 1 ["number"] [.at 0, .at 1] (fits_at rfl (fits_at rfl fits_nil)) fun _ _ _ _ _ _ us ws h1 h2 => match us, ws, h1, h2 with | [_], [_], _, _ => rfl
def d_UnknownStatement_init : He.DefD := ⟨("UnknownStatement", some "__init__"), "__init__", "UnknownStatement.__init__", defArgs s_UnknownStatement_init, defBody s_UnknownStatement_init, defScope s_UnknownStatement_init, [], []⟩
abbrev s_ParseError_init : Stmt := (clsOf (top 3)).getD 0 (.Pass ⟨0, 0, 0, 0⟩)
theorem sc_ParseError_init : FnScope ["self", "position"] ["self", "position"] (defScope s_ParseError_init) := ⟨rfl, rfl, rfl, by decide +kernel, rfl, by decide +kernel, by decide +kernel⟩
theorem ki_ParseError {P : Program} {w : World} {K : PySem.W.Frag} {mg : Str → Option Value} {base : Heap} {f : Addr} {fd : FuncData} (F : FunD K "__init__" "ParseError.__init__" (defArgs s_ParseError_init) (defBody s_ParseError_init) (defScope s_ParseError_init) [] [] f fd) (m_B : mg "ValueError" = none) : FnOk P w K mg base (L2.CX P w) 1 f fd ["self", "position"] (spX1 K "ValueError.__new__" tlV "position") :=
  init1_ok F sc_ParseError_init fun cdv A outer s H E => pss_cons (ps_expr (pe_binit ebV PyProof.Rows.Boot.«ValueError» rfl m_B (pa_cons (pe_var (i := 0) rfl (by first | exact Or.inl rfl | exact Or.inr (Or.inl rfl) | exact Or.inr (Or.inr rfl))) (pa_cons pe_str pa_nil)) (by decide) (by decide) (by decide))) (pss_one (ps_ost1 ebV (pe_var (i := 0) rfl (by first | exact Or.inl rfl | exact Or.inr (Or.inl rfl) | exact Or.inr (Or.inr rfl))) (pe_var (i := 1) rfl (by first | exact Or.inl rfl | exact Or.inr (Or.inl rfl) | exact Or.inr (Or.inr rfl)))))
theorem kb_ParseError {K : PySem.W.Frag} {f : Addr} {fd : FuncData} (F : FunD K "__init__" "ParseError.__init__" (defArgs s_ParseError_init) (defBody s_ParseError_init) (defScope s_ParseError_init) [] [] f fd) : Binds K fd ["self", "position"] [] := F.bindsN fun _ _ _ _ _ _ us hl => match us, hl with | [_, _], _ => rfl
theorem kbk_ParseError {K : PySem.W.Frag} {f : Addr} {fd : FuncData} (F : FunD K "__init__" "ParseError.__init__" (defArgs s_ParseError_init) (defBody s_ParseError_init) (defScope s_ParseError_init) [] [] f fd) : KwB K fd ["self", "position"] 1 ["position"] [.at 0, .at 1] := kw_all F 1 ["position"] [.at 0, .at 1] (fits_at rfl (fits_at rfl fits_nil)) fun _ _ _ _ _ _ us ws h1 h2 => match us, ws, h1, h2 with | [_], [_], _, _ => rfl
def d_ParseError_init : He.DefD := ⟨("ParseError", some "__init__"), "__init__", "ParseError.__init__", defArgs s_ParseError_init, defBody s_ParseError_init, defScope s_ParseError_init, [], []⟩
abbrev s_InvalidClaim_init : Stmt := (clsOf (top 2)).getD 0 (.Pass ⟨0, 0, 0, 0⟩)
theorem sc_InvalidClaim_init : FnScope ["self"] ["self"] (defScope s_InvalidClaim_init) := ⟨rfl, rfl, rfl, by decide +kernel, rfl, by decide +kernel, by decide +kernel⟩
theorem ki_InvalidClaim {P : Program} {w : World} {K : PySem.W.Frag} {mg : Str → Option Value} {base : Heap} {f : Addr} {fd : FuncData} (F : FunD K "__init__" "InvalidClaim.__init__" (defArgs s_InvalidClaim_init) (defBody s_InvalidClaim_init) (defScope s_InvalidClaim_init) [] [] f fd) (m_B : mg "ValueError" = none) : FnOk P w K mg base (L2.CX P w) 1 f fd ["self"] (spX0 K "ValueError.__new__" tlV) :=
  init0_ok F sc_InvalidClaim_init fun cdv A outer s H E => pss_one (ps_expr (pe_binit ebV PyProof.Rows.Boot.«ValueError» rfl m_B (pa_cons (pe_var (i := 0) rfl (by first | exact Or.inl rfl | exact Or.inr (Or.inl rfl) | exact Or.inr (Or.inr rfl))) (pa_cons pe_str pa_nil)) (by decide) (by decide) (by decide)))
theorem kb_InvalidClaim {K : PySem.W.Frag} {f : Addr} {fd : FuncData} (F : FunD K "__init__" "InvalidClaim.__init__" (defArgs s_InvalidClaim_init) (defBody s_InvalidClaim_init) (defScope s_InvalidClaim_init) [] [] f fd) : Binds K fd ["self"] [] := F.bindsN fun _ _ _ _ _ _ us hl => match us, hl with | [_], _ => rfl
def d_InvalidClaim_init : He.DefD := ⟨("InvalidClaim", some "__init__"), "__init__", "InvalidClaim.__init__", defArgs s_InvalidClaim_init, defBody s_InvalidClaim_init, defScope s_InvalidClaim_init, [], []⟩
abbrev s_InvalidStatement_init : Stmt := (clsOf (top 1)).getD 0 (.Pass ⟨0, 0, 0, 0⟩)
theorem sc_InvalidStatement_init : FnScope ["self", "place"] ["self", "place"] (defScope s_InvalidStatement_init) := ⟨rfl, rfl, rfl, by decide +kernel, rfl, by decide +kernel, by decide +kernel⟩
theorem ki_InvalidStatement {P : Program} {w : World} {K : PySem.W.Frag} {mg : Str → Option Value} {base : Heap} {f : Addr} {fd : FuncData} (F : FunD K "__init__" "InvalidStatement.__init__" (defArgs s_InvalidStatement_init) (defBody s_InvalidStatement_init) (defScope s_InvalidStatement_init) [] [] f fd) (m_B : mg "ValueError" = none) : FnOk P w K mg base (L2.CX P w) 1 f fd ["self", "place"] (spX1 K "ValueError.__new__" tlV "place") :=
  init1_ok F sc_InvalidStatement_init fun cdv A outer s H E => pss_cons (ps_expr (pe_binit ebV PyProof.Rows.Boot.«ValueError» rfl m_B (pa_cons (pe_var (i := 0) rfl (by first | exact Or.inl rfl | exact Or.inr (Or.inl rfl) | exact Or.inr (Or.inr rfl))) (pa_cons pe_str pa_nil)) (by decide) (by decide) (by decide))) (pss_one (ps_ost1 ebV (pe_var (i := 0) rfl (by first | exact Or.inl rfl | exact Or.inr (Or.inl rfl) | exact Or.inr (Or.inr rfl))) (pe_var (i := 1) rfl (by first | exact Or.inl rfl | exact Or.inr (Or.inl rfl) | exact Or.inr (Or.inr rfl)))))
theorem kb_InvalidStatement {K : PySem.W.Frag} {f : Addr} {fd : FuncData} (F : FunD K "__init__" "InvalidStatement.__init__" (defArgs s_InvalidStatement_init) (defBody s_InvalidStatement_init) (defScope s_InvalidStatement_init) [] [] f fd) : Binds K fd ["self", "place"] [] := F.bindsN fun _ _ _ _ _ _ us hl => match us, hl with | [_, _], _ => rfl
theorem kbk_InvalidStatement {K : PySem.W.Frag} {f : Addr} {fd : FuncData} (F : FunD K "__init__" "InvalidStatement.__init__" (defArgs s_InvalidStatement_init) (defBody s_InvalidStatement_init) (defScope s_InvalidStatement_init) [] [] f fd) : KwB K fd ["self", "place"] 1 ["place"] [.at 0, .at 1] := kw_all F 1 ["place"] [.at 0, .at 1] (fits_at rfl (fits_at rfl fits_nil)) fun _ _ _ _ _ _ us ws h1 h2 => match us, ws, h1, h2 with | [_], [_], _, _ => rfl
def d_InvalidStatement_init : He.DefD := ⟨("InvalidStatement", some "__init__"), "__init__", "InvalidStatement.__init__", defArgs s_InvalidStatement_init, defBody s_InvalidStatement_init, defScope s_InvalidStatement_init, [], []⟩
abbrev s_UnknownSource_init : Stmt := (clsOf (top 7)).getD 0 (.Pass ⟨0, 0, 0, 0⟩)
theorem sc_UnknownSource_init : FnScope ["self", "source"] ["self", "source"] (defScope s_UnknownSource_init) := ⟨rfl, rfl, rfl, by decide +kernel, rfl, by decide +kernel, by decide +kernel⟩
theorem ki_UnknownSource {P : Program} {w : World} {K : PySem.W.Frag} {mg : Str → Option Value} {base : Heap} {f : Addr} {fd : FuncData} (F : FunD K "__init__" "UnknownSource.__init__" (defArgs s_UnknownSource_init) (defBody s_UnknownSource_init) (defScope s_UnknownSource_init) [] [] f fd) (m_B : mg "LookupError" = none) : FnOk P w K mg base (L2.CX P w) 1 f fd ["self", "source"] (spX1 K "LookupError.__new__" tlL "source") :=
  init1_ok F sc_UnknownSource_init fun cdv A outer s H E => pss_cons (ps_expr (pe_binit ebL PyProof.Rows.Boot.«LookupError» rfl m_B (pa_cons (pe_var (i := 0) rfl (by first | exact Or.inl rfl | exact Or.inr (Or.inl rfl) | exact Or.inr (Or.inr rfl))) (pa_cons pe_str pa_nil)) (by decide) (by decide) (by decide))) (pss_one (ps_ost1 ebL (pe_var (i := 0) rfl (by first | exact Or.inl rfl | exact Or.inr (Or.inl rfl) | exact Or.inr (Or.inr rfl))) (pe_var (i := 1) rfl (by first | exact Or.inl rfl | exact Or.inr (Or.inl rfl) | exact Or.inr (Or.inr rfl)))))
theorem kb_UnknownSource {K : PySem.W.Frag} {f : Addr} {fd : FuncData} (F : FunD K "__init__" "UnknownSource.__init__" (defArgs s_UnknownSource_init) (defBody s_UnknownSource_init) (defScope s_UnknownSource_init) [] [] f fd) : Binds K fd ["self", "source"] [] := F.bindsN fun _ _ _ _ _ _ us hl => match us, hl with | [_, _], _ => rfl
theorem kbk_UnknownSource {K : PySem.W.Frag} {f : Addr} {fd : FuncData} (F : FunD K "__init__" "UnknownSource.__init__" (defArgs s_UnknownSource_init) (defBody s_UnknownSource_init) (defScope s_UnknownSource_init) [] [] f fd) : KwB K fd ["self", "source"] 1 ["source"] [.at 0, .at 1] := kw_all F 1 ["source"] [.at 0, .at 1] (fits_at rfl (fits_at rfl fits_nil)) fun _ _ _ _ _ _ us ws h1 h2 => match us, ws, h1, h2 with | [_], [_], _, _ => rfl
def d_UnknownSource_init : He.DefD := ⟨("UnknownSource", some "__init__"), "__init__", "UnknownSource.__init__", defArgs s_UnknownSource_init, defBody s_UnknownSource_init, defScope s_UnknownSource_init, [], []⟩
abbrev s_UnknownRecord_init : Stmt := (clsOf (top 6)).getD 0 (.Pass ⟨0, 0, 0, 0⟩)
theorem sc_UnknownRecord_init : FnScope ["self", "number"] ["self", "number"] (defScope s_UnknownRecord_init) := ⟨rfl, rfl, rfl, by decide +kernel, rfl, by decide +kernel, by decide +kernel⟩
theorem ki_UnknownRecord {P : Program} {w : World} {K : PySem.W.Frag} {mg : Str → Option Value} {base : Heap} {f : Addr} {fd : FuncData} (F : FunD K "__init__" "UnknownRecord.__init__" (defArgs s_UnknownRecord_init) (defBody s_UnknownRecord_init) (defScope s_UnknownRecord_init) [] [] f fd) (m_B : mg "LookupError" = none) : FnOk P w K mg base (L2.CX P w) 1 f fd ["self", "number"] (spX1 K "LookupError.__new__" tlL "number") :=
  init1_ok F sc_UnknownRecord_init fun cdv A outer s H E => pss_cons (ps_expr (pe_binit ebL PyProof.Rows.Boot.«LookupError» rfl m_B (pa_cons (pe_var (i := 0) rfl (by first | exact Or.inl rfl | exact Or.inr (Or.inl rfl) | exact Or.inr (Or.inr rfl))) (pa_cons pe_str pa_nil)) (by decide) (by decide) (by decide))) (pss_one (ps_ost1 ebL (pe_var (i := 0) rfl (by first | exact Or.inl rfl | exact Or.inr (Or.inl rfl) | exact Or.inr (Or.inr rfl))) (pe_var (i := 1) rfl (by first | exact Or.inl rfl | exact Or.inr (Or.inl rfl) | exact Or.inr (Or.inr rfl)))))
theorem kb_UnknownRecord {K : PySem.W.Frag} {f : Addr} {fd : FuncData} (F : FunD K "__init__" "UnknownRecord.__init__" (defArgs s_UnknownRecord_init) (defBody s_UnknownRecord_init) (defScope s_UnknownRecord_init) [] [] f fd) : Binds K fd ["self", "number"] [] := F.bindsN fun _ _ _ _ _ _ us hl => match us, hl with | [_, _], _ => rfl
theorem kbk_UnknownRecord {K : PySem.W.Frag} {f : Addr} {fd : FuncData} (F : FunD K "__init__" "UnknownRecord.__init__" (defArgs s_UnknownRecord_init) (defBody s_UnknownRecord_init) (defScope s_UnknownRecord_init) [] [] f fd) : KwB K fd ["self", "number"] 1 ["number"] [.at 0, .at 1] := kw_all F 1 ["number"] [.at 0, .at 1] (fits_at rfl (fits_at rfl fits_nil)) fun _ _ _ _ _ _ us ws h1 h2 => match us, ws, h1, h2 with | [_], [_], _, _ => rfl
def d_UnknownRecord_init : He.DefD := ⟨("UnknownRecord", some "__init__"), "__init__", "UnknownRecord.__init__", defArgs s_UnknownRecord_init, defBody s_UnknownRecord_init, defScope s_UnknownRecord_init, [], []⟩
abbrev s_UnknownMark_init : Stmt := (clsOf (top 5)).getD 0 (.Pass ⟨0, 0, 0, 0⟩)
theorem sc_UnknownMark_init : FnScope ["self", "number"] ["self", "number"] (defScope s_UnknownMark_init) := ⟨rfl, rfl, rfl, by decide +kernel, rfl, by decide +kernel, by decide +kernel⟩
theorem ki_UnknownMark {P : Program} {w : World} {K : PySem.W.Frag} {mg : Str → Option Value} {base : Heap} {f : Addr} {fd : FuncData} (F : FunD K "__init__" "UnknownMark.__init__" (defArgs s_UnknownMark_init) (defBody s_UnknownMark_init) (defScope s_UnknownMark_init) [] [] f fd) (m_B : mg "LookupError" = none) : FnOk P w K mg base (L2.CX P w) 1 f fd ["self", "number"] (spX1 K "LookupError.__new__" tlL "number") :=
  init1_ok F sc_UnknownMark_init fun cdv A outer s H E => pss_cons (ps_expr (pe_binit ebL PyProof.Rows.Boot.«LookupError» rfl m_B (pa_cons (pe_var (i := 0) rfl (by first | exact Or.inl rfl | exact Or.inr (Or.inl rfl) | exact Or.inr (Or.inr rfl))) (pa_cons pe_str pa_nil)) (by decide) (by decide) (by decide))) (pss_one (ps_ost1 ebL (pe_var (i := 0) rfl (by first | exact Or.inl rfl | exact Or.inr (Or.inl rfl) | exact Or.inr (Or.inr rfl))) (pe_var (i := 1) rfl (by first | exact Or.inl rfl | exact Or.inr (Or.inl rfl) | exact Or.inr (Or.inr rfl)))))
theorem kb_UnknownMark {K : PySem.W.Frag} {f : Addr} {fd : FuncData} (F : FunD K "__init__" "UnknownMark.__init__" (defArgs s_UnknownMark_init) (defBody s_UnknownMark_init) (defScope s_UnknownMark_init) [] [] f fd) : Binds K fd ["self", "number"] [] := F.bindsN fun _ _ _ _ _ _ us hl => match us, hl with | [_, _], _ => rfl
theorem kbk_UnknownMark {K : PySem.W.Frag} {f : Addr} {fd : FuncData} (F : FunD K "__init__" "UnknownMark.__init__" (defArgs s_UnknownMark_init) (defBody s_UnknownMark_init) (defScope s_UnknownMark_init) [] [] f fd) : KwB K fd ["self", "number"] 1 ["number"] [.at 0, .at 1] := kw_all F 1 ["number"] [.at 0, .at 1] (fits_at rfl (fits_at rfl fits_nil)) fun _ _ _ _ _ _ us ws h1 h2 => match us, ws, h1, h2 with | [_], [_], _, _ => rfl
def d_UnknownMark_init : He.DefD := ⟨("UnknownMark", some "__init__"), "__init__", "UnknownMark.__init__", defArgs s_UnknownMark_init, defBody s_UnknownMark_init, defScope s_UnknownMark_init, [], []⟩
abbrev s_LimitExceeded_init : Stmt := (clsOf (top 9)).getD 0 (.Pass ⟨0, 0, 0, 0⟩)
theorem sc_LimitExceeded_init : FnScope ["self", "limit"] ["self", "limit"] (defScope s_LimitExceeded_init) := ⟨rfl, rfl, rfl, by decide +kernel, rfl, by decide +kernel, by decide +kernel⟩
theorem ki_LimitExceeded {P : Program} {w : World} {K : PySem.W.Frag} {mg : Str → Option Value} {base : Heap} {f : Addr} {fd : FuncData} (F : FunD K "__init__" "LimitExceeded.__init__" (defArgs s_LimitExceeded_init) (defBody s_LimitExceeded_init) (defScope s_LimitExceeded_init) [] [] f fd) (m_B : mg "OverflowError" = none) : FnOk P w K mg base (L2.CX P w) 1 f fd ["self", "limit"] (spX1 K "OverflowError.__new__" tlO "limit") :=
  init1_ok F sc_LimitExceeded_init fun cdv A outer s H E => pss_cons (ps_expr (pe_binit ebO PyProof.Rows.Boot.«OverflowError» rfl m_B (pa_cons (pe_var (i := 0) rfl (by first | exact Or.inl rfl | exact Or.inr (Or.inl rfl) | exact Or.inr (Or.inr rfl))) (pa_cons pe_str pa_nil)) (by decide) (by decide) (by decide))) (pss_one (ps_ost1 ebO (pe_var (i := 0) rfl (by first | exact Or.inl rfl | exact Or.inr (Or.inl rfl) | exact Or.inr (Or.inr rfl))) (pe_var (i := 1) rfl (by first | exact Or.inl rfl | exact Or.inr (Or.inl rfl) | exact Or.inr (Or.inr rfl)))))
theorem kb_LimitExceeded {K : PySem.W.Frag} {f : Addr} {fd : FuncData} (F : FunD K "__init__" "LimitExceeded.__init__" (defArgs s_LimitExceeded_init) (defBody s_LimitExceeded_init) (defScope s_LimitExceeded_init) [] [] f fd) : Binds K fd ["self", "limit"] [] := F.bindsN fun _ _ _ _ _ _ us hl => match us, hl with | [_, _], _ => rfl
theorem kbk_LimitExceeded {K : PySem.W.Frag} {f : Addr} {fd : FuncData} (F : FunD K "__init__" "LimitExceeded.__init__" (defArgs s_LimitExceeded_init) (defBody s_LimitExceeded_init) (defScope s_LimitExceeded_init) [] [] f fd) : KwB K fd ["self", "limit"] 1 ["limit"] [.at 0, .at 1] := kw_all F 1 ["limit"] [.at 0, .at 1] (fits_at rfl (fits_at rfl fits_nil)) fun _ _ _ _ _ _ us ws h1 h2 => match us, ws, h1, h2 with | [_], [_], _, _ => rfl
def d_LimitExceeded_init : He.DefD := ⟨("LimitExceeded", some "__init__"), "__init__", "LimitExceeded.__init__", defArgs s_LimitExceeded_init, defBody s_LimitExceeded_init, defScope s_LimitExceeded_init, [], []⟩
abbrev s_Unjoinable_init : Stmt := (clsOf (top 8)).getD 0 (.Pass ⟨0, 0, 0, 0⟩)
theorem sc_Unjoinable_init : FnScope ["self"] ["self"] (defScope s_Unjoinable_init) := ⟨rfl, rfl, rfl, by decide +kernel, rfl, by decide +kernel, by decide +kernel⟩
theorem ki_Unjoinable {P : Program} {w : World} {K : PySem.W.Frag} {mg : Str → Option Value} {base : Heap} {f : Addr} {fd : FuncData} (F : FunD K "__init__" "Unjoinable.__init__" (defArgs s_Unjoinable_init) (defBody s_Unjoinable_init) (defScope s_Unjoinable_init) [] [] f fd) (m_B : mg "RuntimeError" = none) : FnOk P w K mg base (L2.CX P w) 1 f fd ["self"] (spX0 K "RuntimeError.__new__" tlR) :=
  init0_ok F sc_Unjoinable_init fun cdv A outer s H E => pss_one (ps_expr (pe_binit ebR PyProof.Rows.Boot.«RuntimeError» rfl m_B (pa_cons (pe_var (i := 0) rfl (by first | exact Or.inl rfl | exact Or.inr (Or.inl rfl) | exact Or.inr (Or.inr rfl))) (pa_cons pe_str pa_nil)) (by decide) (by decide) (by decide)))
theorem kb_Unjoinable {K : PySem.W.Frag} {f : Addr} {fd : FuncData} (F : FunD K "__init__" "Unjoinable.__init__" (defArgs s_Unjoinable_init) (defBody s_Unjoinable_init) (defScope s_Unjoinable_init) [] [] f fd) : Binds K fd ["self"] [] := F.bindsN fun _ _ _ _ _ _ us hl => match us, hl with | [_], _ => rfl
def d_Unjoinable_init : He.DefD := ⟨("Unjoinable", some "__init__"), "__init__", "Unjoinable.__init__", defArgs s_Unjoinable_init, defBody s_Unjoinable_init, defScope s_Unjoinable_init, [], []⟩
def d_g_f_law_kinds : He.DefD := ⟨("_law_kinds", none), "_law_kinds", "_law_kinds", defArgs s_f_law_kinds, defBody s_f_law_kinds, defScope s_f_law_kinds, [], []⟩
def d_g_f_law_built : He.DefD := ⟨("_law_built", none), "_law_built", "_law_built", defArgs s_f_law_built, defBody s_f_law_built, defScope s_f_law_built, [], []⟩
def d_g_law : He.DefD := ⟨("law", none), "law", "law", defArgs s_law, defBody s_law, defScope s_law, [], []⟩
def fnl : List He.DefD := [d_g_f_law_kinds, d_g_f_law_built, d_g_law, d_UnknownStatement_init, d_ParseError_init, d_InvalidClaim_init, d_InvalidStatement_init, d_UnknownSource_init, d_UnknownRecord_init, d_UnknownMark_init, d_LimitExceeded_init, d_Unjoinable_init]
def fal : List He.Fa := [.glo "_law_kinds", .glo "_law_built", .glo "law", .free "isinstance", .free "RuntimeError", .free "LookupError", .free "ValueError", .free "IndexError", .free "KeyError", .free "OverflowError", .free "ZeroDivisionError", .free "NotImplementedError", .free "sum", .free "abs", .free "range", .glo "UnknownStatement", .glo "ParseError", .glo "InvalidClaim", .glo "InvalidStatement", .glo "UnknownSource", .glo "UnknownRecord", .glo "UnknownMark", .glo "LimitExceeded", .glo "Unjoinable"]
def fbl : FbL := [exB "LookupError.__new__" tlL "UnknownStatement", exB "ValueError.__new__" tlV "ParseError", exB "ValueError.__new__" tlV "InvalidClaim", exB "ValueError.__new__" tlV "InvalidStatement", exB "LookupError.__new__" tlL "UnknownSource", exB "LookupError.__new__" tlL "UnknownRecord", exB "LookupError.__new__" tlL "UnknownMark", exB "OverflowError.__new__" tlO "LimitExceeded", exB "RuntimeError.__new__" tlR "Unjoinable", isEB "RuntimeError" (.type "RuntimeError"), isEB "LookupError" (.type "LookupError"), isEB "ValueError" (.type "ValueError"), isEB "IndexError" (.type "IndexError"), isEB "KeyError" (.type "KeyError"), isEB "OverflowError" (.type "OverflowError"), isEB "ZeroDivisionError" (.type "ZeroDivisionError"), isEB "NotImplementedError" (.type "NotImplementedError"), isEO "ParseError", isEO "InvalidClaim", isEO "InvalidStatement", isEO "UnknownRecord", isEO "UnknownMark", isEO "UnknownStatement", isEO "LimitExceeded", isEO "Unjoinable", isEO "UnknownSource", xatB "place", xatB "source", xatB "number", xatB "position", xatB "limit"]
abbrev R : PySem.W.OpenRow := PySem.W.OpenLaw.row PySem.Challenge.rw_whenline_k06_errors
abbrev hk : PySem.W.Hook := hookM 5 fal fnl fbl
def ob (s : PySem.W.SharedT) : ObM := obsM 5 fal fnl fbl (HandSHeadRun.getT s)
theorem ob_eq (s : PySem.W.SharedT) : ob s = hk.obs s.abs := obsM_eq (HandSHeadRun.getT_eq s)
def loose : List Str := (["InvalidStatement", "InvalidClaim", "ParseError", "UnknownStatement", "UnknownMark", "UnknownRecord", "UnknownSource", "Unjoinable", "LimitExceeded", "_law_kinds", "_law_built"] : List Str)
open HandSHeadRun PySem.W PySem.Calls PyProof.Rows in
noncomputable abbrev endX (w : World) (os : OsState) := endF (stepQ (denQ tabQ) R.prog w) 9000 R.prog w os
open HandSHeadRun PySem.W PySem.Calls PyProof.Rows in
abbrev obK (s : PySem.W.SharedT) : PySem.W.Frag := fragM 5 (getT s)
theorem all_cut {α : Type _} {l : List α} {p : α → Bool} {a b : Nat} (h : ((l.drop a).take b).all p = true) (h' : (l.drop (a + b)).all p = true) : (l.drop a).all p = true := by
  rw [← List.take_append_drop b (l.drop a), List.all_append, h, List.drop_drop, h']; rfl
theorem map_cut {α β : Type _} {l : List α} {f g : α → β} {a b : Nat} (h : ((l.drop a).take b).map f = ((l.drop a).take b).map g) (h' : (l.drop (a + b)).map f = (l.drop (a + b)).map g) : (l.drop a).map f = (l.drop a).map g := by
  rw [← List.take_append_drop b (l.drop a), List.map_append, List.map_append, h, List.drop_drop, h']
open HandSHeadRun PySem.W PySem.Calls PyProof.Rows in
theorem run1 (w : World) (os : OsState) : (endX w os).map (fun s => (looksF R.prog (boot_heap w.params) s.abs, seenQ (view R.prog [13]) loose (importedModules R.prog.main.body) (fun s => xlAt (view R.prog [13]) [] s && recOk R.toRowW.records s) s.abs)) = some (true, openGood (view R.prog [13]) loose) := by kernel_rfl
open HandSHeadRun PySem.W PySem.Calls PyProof.Rows in
theorem run2_0 (w : World) (os : OsState) : (endX w os).map (fun s => ((fal.drop 0).take 24).all fun f => f.ok (obK s)) = some true := by kernel_rfl
open HandSHeadRun PySem.W PySem.Calls PyProof.Rows in
theorem run2_f (w : World) (os : OsState) : (endX w os).map (fun s => fbl.all fun t => t (obK s)) = some true := by kernel_rfl
open HandSHeadRun PySem.W PySem.Calls PyProof.Rows in
theorem run3_0 (w : World) (os : OsState) : (endX w os).map (fun s => ((fnl.drop 0).take 12).all fun d => d.ok (obK s)) = some true := by kernel_rfl
open HandSHeadRun PySem.W PySem.Calls PyProof.Rows in
theorem run4_0 (w : World) (os : OsState) : (endX w os).map (fun s => ((fnl.drop 0).take 12).map fun d => He.fnW (obK s) d.at_) = some (((fnl.drop 0).take 12).map He.DefD.val) := by kernel_rfl
open HandSHeadRun PySem.W PySem.Calls PyProof.Rows in
theorem run (w : World) : HandSHeadRun.RunEq R (view R.prog [13]) hk ob 9000 loose w := by
  intro os
  have a := run1 w os
  have hrun2_0 := run2_0 w os
  have hrun2_f := run2_f w os
  have hrun3_0 := run3_0 w os
  have hrun4_0 := run4_0 w os
  revert a hrun2_0 hrun2_f hrun3_0 hrun4_0
  unfold endX
  generalize endF (stepQ (denQ tabQ) R.prog w) 9000 R.prog w os = x
  intro a hrun2_0 hrun2_f hrun3_0 hrun4_0
  cases x with
  | none => cases a
  | some s =>
    have a := Option.some.inj a
    have hrun2_0 := Option.some.inj hrun2_0
    have hrun2_f := Option.some.inj hrun2_f
    have hrun3_0 := Option.some.inj hrun3_0
    have hrun4_0 := Option.some.inj hrun4_0
    have b : fal.all (fun f => f.ok (obK s)) = true ∧ fbl.all (fun t => t (obK s)) = true := ⟨(all_cut (a := 0) (b := 24) hrun2_0 rfl), hrun2_f⟩
    have c : fnl.all (fun d => d.ok (obK s)) = true := (all_cut (a := 0) (b := 12) hrun3_0 rfl)
    have d : fnl.map (fun d => He.fnW (obK s) d.at_) = fnl.map He.DefD.val := (map_cut (a := 0) (b := 12) hrun4_0 rfl)
    have e : ob s = hk.val w := Prod.ext (Prod.ext (Bool.and_eq_true_iff.mpr ⟨b.1, c⟩) d) b.2
    show some (_, _, ob s) = some (true, _, hk.val w)
    rw [e]
    exact congrArg some (Prod.ext (congrArg (fun z => z.1) a) (Prod.ext (congrArg (fun z => z.2) a) rfl))

-- exv: _law_kinds~_law_e; _law_built~_law_e; law~_law_made[0]; law~_law_made[2]; law~_law_made[3]; law~_law_made[4]; law~_law_made[5]; law~_law_made[6]; law~_law_made[8]
/-! ### errors as values -/
/-- an error's cell, its dict's -/
def ExAt (M : MH) (p : Nat) (c : Str) : Prop := c ∈ xcN ∧ ∃ k, M[p]? = some (some (.exv c k)) ∧ ∀ j, k = some j → ∃ fs, M[j]? = some (some (.xdc fs))
def kndL : List Str := ["InvalidStatement", "InvalidClaim", "ParseError", "UnknownStatement", "UnknownMark", "UnknownRecord", "UnknownSource", "Unjoinable", "LimitExceeded"]
def bltL : List Str := ["ValueError", "LookupError", "RuntimeError", "OverflowError", "KeyError", "IndexError", "NotImplementedError", "ZeroDivisionError"]
def isL (c : Str) (l : List Str) : D := .lis (l.map fun T => .bl (c == T || (upX c).contains T))
def sp_f_law_kinds : SpD := fun ds M _ Q => ∃ p c, ds = [.ref p] ∧ ExAt M p c ∧ Q (isL c kndL) M
def sp_f_law_built : SpD := fun ds M _ Q => ∃ p c, ds = [.ref p] ∧ ExAt M p c ∧ Q (isL c bltL) M
abbrev sp_law : SpD := spLaw 63

abbrev t_f_law_kinds : DS := dSeq (dAsg (dLst newZ (dCons (dUn (rIsiE "InvalidStatement") (dVar 0)) (dCons (dUn (rIsiE "InvalidClaim") (dVar 0)) (dCons (dUn (rIsiE "ParseError") (dVar 0)) (dNil))))) (.nm 1)) (dSeq (dAsg (dOp (rPlus newZ) (dVar 1) (dLst newZ (dCons (dUn (rIsiE "UnknownStatement") (dVar 0)) (dCons (dUn (rIsiE "UnknownMark") (dVar 0)) (dCons (dUn (rIsiE "UnknownRecord") (dVar 0)) (dNil)))))) (.nm 1)) (dRet (dOp (rPlus newZ) (dVar 1) (dLst newZ (dCons (dUn (rIsiE "UnknownSource") (dVar 0)) (dCons (dUn (rIsiE "Unjoinable") (dVar 0)) (dCons (dUn (rIsiE "LimitExceeded") (dVar 0)) (dNil))))))))
abbrev t_f_law_built : DS := dSeq (dAsg (dLst newZ (dCons (dUn (rIsiE "ValueError") (dVar 0)) (dCons (dUn (rIsiE "LookupError") (dVar 0)) (dCons (dUn (rIsiE "RuntimeError") (dVar 0)) (dNil))))) (.nm 1)) (dSeq (dAsg (dOp (rPlus newZ) (dVar 1) (dLst newZ (dCons (dUn (rIsiE "OverflowError") (dVar 0)) (dCons (dUn (rIsiE "KeyError") (dVar 0)) (dCons (dUn (rIsiE "IndexError") (dVar 0)) (dNil)))))) (.nm 1)) (dRet (dOp (rPlus newZ) (dVar 1) (dLst newZ (dCons (dUn (rIsiE "NotImplementedError") (dVar 0)) (dCons (dUn (rIsiE "ZeroDivisionError") (dVar 0)) (dNil)))))))
abbrev t_law : DS := dSeq (dAsg (dOp rMod (dCallB cAbs (dCons (dCallB cSum (dCons (dSl newZ (dVar 0) dNone (dSome (dC (.int 3)))) (dNil))) (dNil))) (dC (.int 1000003))) (.nm 1)) (dSeq (dAsg (dTup (dCons (dVar 1) (dCons (dC (.int 0)) (dNil)))) (.nm 2)) (dSeq (dAsg (dLst newZ (dCons (dMkX1 "InvalidStatement" "place" (dCons (dVar 2) dNil)) (dCons (dMkX0 "InvalidClaim") (dCons (dMkX1 "ParseError" "position" (dCons (dVar 1) dNil)) (dCons (dMkX1 "UnknownStatement" "number" (dCons (dVar 1) dNil)) (dNil)))))) (.nm 3)) (dSeq (dAsg (dOp (rPlus newZ) (dVar 3) (dLst newZ (dCons (dMkX1 "UnknownMark" "number" (dCons (dVar 1) dNil)) (dCons (dMkX1 "UnknownRecord" "number" (dCons (dVar 1) dNil)) (dCons (dMkX1 "UnknownSource" "source" (dCons (dVar 1) dNil)) (dNil)))))) (.nm 3)) (dSeq (dAsg (dOp (rPlus newZ) (dVar 3) (dLst newZ (dCons (dMkX0 "Unjoinable") (dCons (dMkX1 "LimitExceeded" "limit" (dCons (dVar 1) dNil)) (dNil))))) (.nm 3)) (dSeq (dAsg (dLst newZ (dCons (dC (.int 0)) (dCons (dC (.int 0)) (dCons (dC (.int 0)) (dCons (dC (.int 1)) (dCons (dC (.int 1)) (dCons (dC (.int 1)) (dCons (dC (.int 1)) (dCons (dC (.int 2)) (dCons (dC (.int 3)) (dNil))))))))))) (.nm 4)) (dSeq (dFor (iRange1 (dCons (dC (.int 9)) (dNil))) (.nm 5) (dSeq (dIfS (dTest (dOp rNe (dCall sp_f_law_kinds (dCons (dOp rItem (dVar 3) (dVar 5)) (dNil))) (dLC newZ (iRange1 (dCons (dC (.int 9)) (dNil))) (.nm 7) (tYesD) (dOp rEq (dVar 7) (dVar 5)) [7]))) (dRet (dC (.bl false))) (dNext)) (dIfS (dTest (dOp rNe (dCall sp_f_law_built (dCons (dOp rItem (dVar 3) (dVar 5)) (dNil))) (dLC newZ (iRange1 (dCons (dC (.int 8)) (dNil))) (.nm 7) (tYesD) (dOp rEq (dVar 7) (dOp rItem (dVar 4) (dVar 5))) [7]))) (dRet (dC (.bl false))) (dNext)))) (dSeq (dIfS (dTest (dOp rNe (dLst newZ (dCons (dXat "place" (dOp rItem (dVar 3) (dC (.int 0)))) (dCons (dXat "place" (dMkX1 "InvalidStatement" "place" (dCons (dVar 2) (dNil)))) (dNil)))) (dLst newZ (dCons (dVar 2) (dCons (dVar 2) (dNil)))))) (dRet (dC (.bl false))) (dNext)) (dSeq (dAsg (dLst newZ (dCons (dXat "position" (dOp rItem (dVar 3) (dC (.int 2)))) (dCons (dXat "number" (dOp rItem (dVar 3) (dC (.int 3)))) (dCons (dXat "number" (dOp rItem (dVar 3) (dC (.int 4)))) (dCons (dXat "number" (dOp rItem (dVar 3) (dC (.int 5)))) (dCons (dXat "source" (dOp rItem (dVar 3) (dC (.int 6)))) (dNil))))))) (.nm 6)) (dSeq (dAsg (dOp (rPlus newZ) (dVar 6) (dLst newZ (dCons (dXat "limit" (dOp rItem (dVar 3) (dC (.int 8)))) (dCons (dXat "position" (dMkX1 "ParseError" "position" (dCons (dVar 1) (dNil)))) (dCons (dXat "number" (dMkX1 "UnknownStatement" "number" (dCons (dVar 1) (dNil)))) (dNil)))))) (.nm 6)) (dSeq (dAsg (dOp (rPlus newZ) (dVar 6) (dLst newZ (dCons (dXat "number" (dMkX1 "UnknownMark" "number" (dCons (dVar 1) (dNil)))) (dCons (dXat "number" (dMkX1 "UnknownRecord" "number" (dCons (dVar 1) (dNil)))) (dCons (dXat "source" (dMkX1 "UnknownSource" "source" (dCons (dVar 1) (dNil)))) (dNil)))))) (.nm 6)) (dRet (dOp rEq (dOp (rPlus newZ) (dVar 6) (dLst newZ (dCons (dXat "limit" (dMkX1 "LimitExceeded" "limit" (dCons (dVar 1) (dNil)))) (dNil)))) (dOp (rRepL newZ) (dLst newD (dCons (dVar 1) (dNil))) (dC (.int 12)))))))))))))))

-- base
theorem is_at {M : MH} {p : Nat} {c T : Str} {Q : DQ} (h : ExAt M p c) : rIsiE T (.ref p) M Q ↔ Q (.bl (c == T || (upX c).contains T)) M := by
  obtain ⟨hc, k, hp, hk⟩ := h
  refine ⟨fun ⟨p', c', k', e, h1, _, _, q⟩ => ?_, fun q => rIsiE_at hp hc hk q⟩
  cases e
  rw [hp] at h1
  cases h1
  exact q
theorem ok_f_law_kinds : OkD sp_f_law_kinds 1 2 t_f_law_kinds := by
  rintro ds M X Q ⟨p, c, rfl, h, q⟩
  refine ⟨rfl, fun hb hd => .inl ?_⟩
  simp (maxDischargeDepth := 6) [t_f_law_kinds, is_at h]
  refine .of ?_
  simpa [isL, kndL] using q
theorem ok_f_law_built : OkD sp_f_law_built 1 2 t_f_law_built := by
  rintro ds M X Q ⟨p, c, rfl, h, q⟩
  refine ⟨rfl, fun hb hd => .inl ?_⟩
  simp (maxDischargeDepth := 6) [t_f_law_built, is_at h]
  refine .of ?_
  simpa [isL, bltL] using q
def M9 (m : Int) : MH := [some (.xdc [("place", .tup [.int m, .int 0])]), some (.exv "InvalidStatement" (some 0)), some (.exv "InvalidClaim" none), some (.xdc [("position", .int m)]), some (.exv "ParseError" (some 3)), some (.xdc [("number", .int m)]), some (.exv "UnknownStatement" (some 5)),
  some (.xdc [("number", .int m)]), some (.exv "UnknownMark" (some 7)), some (.xdc [("number", .int m)]), some (.exv "UnknownRecord" (some 9)), some (.xdc [("source", .int m)]), some (.exv "UnknownSource" (some 11)), some (.exv "Unjoinable" none), some (.xdc [("limit", .int m)]), some (.exv "LimitExceeded" (some 14))]
def L9 : List D := [.ref 1, .ref 2, .ref 4, .ref 6, .ref 8, .ref 10, .ref 12, .ref 13, .ref 15]
def grpL : List Nat := [0, 0, 0, 1, 1, 1, 1, 2, 3]
def grpD : List D := [.int 0, .int 0, .int 0, .int 1, .int 1, .int 1, .int 1, .int 2, .int 3]
theorem grp_at : ∀ i : Nat, i < 9 → grpD[i]? = some (.int ((grpL.getD i 0 : Nat) : Int)) := by
  intro i hi
  have : i = 0 ∨ i = 1 ∨ i = 2 ∨ i = 3 ∨ i = 4 ∨ i = 5 ∨ i = 6 ∨ i = 7 ∨ i = 8 := by omega
  rcases this with rfl | rfl | rfl | rfl | rfl | rfl | rfl | rfl | rfl <;> rfl
theorem fm_some {α : Type} {g : α → D} : ∀ l : List α, (l.filterMap fun x => some (g x)) = l.map g
  | [] => rfl
  | a :: l => by rw [List.filterMap_cons, List.map_cons, fm_some l]
theorem xat_new {M : MH} {f c : Str} {d : D} {Q : DQ} (hc : c ∈ xcN) (q : Q d (M ++ [some (.xdc [(f, d)]), some (.exv c (some M.length))])) : xatQ f (.ref (M.length + 1)) (M ++ [some (.xdc [(f, d)]), some (.exv c (some M.length))]) Q := xatQ_at (k := M.length) (fs := [(f, d)]) (by simp) (by simp) hc (by simp [List.lookup]) q
theorem item_n {l : List D} {d : D} {i : Int} {M : MH} {Q : DQ} (j : Nat) (e : i = (j : Int)) (h : l[j]? = some d) (q : Q d M) : itemQ l i M Q := by
  subst e
  exact (itemQ_nat h).mpr q
theorem nine (m : Int) : ∀ i : Nat, i < 9 → ∃ p c, L9[i]? = some (.ref p) ∧ ExAt (M9 m) p c ∧ isL c kndL = .lis ((List.range 9).map fun j : Nat => .bl (decide ((j : Int) = (i : Int)))) ∧ isL c bltL = .lis ((List.range 8).map fun j : Nat => .bl (decide ((j : Int) = ((grpL.getD i 0 : Nat) : Int)))) := by
  have e1 : ∀ (c : Str) (k : Nat) (fs : Fs) (p : Nat), c ∈ xcN → (M9 m)[p]? = some (some (.exv c (some k))) → (M9 m)[k]? = some (some (.xdc fs)) → ExAt (M9 m) p c := fun c k fs p hc h1 h2 => ⟨hc, some k, h1, fun j e => by cases e; exact ⟨fs, h2⟩⟩
  have e0 : ∀ (c : Str) (p : Nat), c ∈ xcN → (M9 m)[p]? = some (some (.exv c none)) → ExAt (M9 m) p c := fun c p hc h1 => ⟨hc, none, h1, fun j e => by cases e⟩
  intro i hi
  have : i = 0 ∨ i = 1 ∨ i = 2 ∨ i = 3 ∨ i = 4 ∨ i = 5 ∨ i = 6 ∨ i = 7 ∨ i = 8 := by omega
  rcases this with rfl | rfl | rfl | rfl | rfl | rfl | rfl | rfl | rfl
  · exact ⟨1, "InvalidStatement", rfl, e1 _ _ _ _ (by decide) rfl rfl, by rfl, by rfl⟩
  · exact ⟨2, "InvalidClaim", rfl, e0 _ _ (by decide) rfl, by rfl, by rfl⟩
  · exact ⟨4, "ParseError", rfl, e1 _ _ _ _ (by decide) rfl rfl, by rfl, by rfl⟩
  · exact ⟨6, "UnknownStatement", rfl, e1 _ _ _ _ (by decide) rfl rfl, by rfl, by rfl⟩
  · exact ⟨8, "UnknownMark", rfl, e1 _ _ _ _ (by decide) rfl rfl, by rfl, by rfl⟩
  · exact ⟨10, "UnknownRecord", rfl, e1 _ _ _ _ (by decide) rfl rfl, by rfl, by rfl⟩
  · exact ⟨12, "UnknownSource", rfl, e1 _ _ _ _ (by decide) rfl rfl, by rfl, by rfl⟩
  · exact ⟨13, "Unjoinable", rfl, e0 _ _ (by decide) rfl, by rfl, by rfl⟩
  · exact ⟨15, "LimitExceeded", rfl, e1 _ _ _ _ (by decide) rfl rfl, by rfl, by rfl⟩
theorem ok_law : OkD sp_law 1 8 t_law := by
  rintro ds M X Q ⟨ns, rfl, hl, rfl, K⟩
  refine ⟨rfl, fun hb hd => .inl ?_⟩
  simp (maxDischargeDepth := 6) [t_law]
  refine ⟨_, rfl, ns.take 3, by simp [noTup], by simp [seqD, cutD], ?_⟩
  simp (maxDischargeDepth := 6)
  generalize hm : (if (ns.take 3).sum < 0 then -(ns.take 3).sum else (ns.take 3).sum) % 1000003 = m
  clear hm
  refine loop_rng (n := 9) (T := Unit) (fun _ => [some (.lis (ns.map D.int)), some (.int m), some (.tup [.int m, .int 0]), some (.lis L9), some (.lis grpD), none, none, none]) (fun _ => M9 m) (fun _ _ => True) (nx_go () (by simp [lessS, L9, grpD]) trivial lessH_rfl (.inl rfl)) ?_ ?_
  · intro i _ hi _
    obtain ⟨p, c, h1, h2, h3, h4⟩ := nine m i hi
    refine ⟨trivial, ?_⟩
    simp (maxDischargeDepth := 6)
    refine (itemQ_nat h1).mpr ?_
    simp (maxDischargeDepth := 6)
    refine ⟨p, c, rfl, h2, ?_⟩
    rw [h3]
    simp (maxDischargeDepth := 6)
    refine ⟨szl _ (by decide), comp_fn (rangeD_map 0 9) (fun j : Nat => some (.bl (decide ((j : Int) = i)))) trivial (fun j x hx => ?_) ?_⟩
    · simp (maxDischargeDepth := 6)
      exact stop2 ⟨back_, x, hx, rfl⟩
    rw [fm_some]
    simp (maxDischargeDepth := 6) only [hold]
    simp (maxDischargeDepth := 6)
    refine rNe_same rfl rfl (Nat.le_of_ble_eq_true rfl) ?_
    simp (maxDischargeDepth := 6)
    refine (itemQ_nat h1).mpr ?_
    simp (maxDischargeDepth := 6)
    refine ⟨p, c, rfl, h2, ?_⟩
    rw [h4]
    simp (maxDischargeDepth := 6)
    refine ⟨szl _ (by decide), comp_fn (rangeD_map 0 8) (fun j : Nat => some (.bl (decide ((j : Int) = ((grpL.getD i 0 : Nat) : Int))))) trivial (fun j x hx => ?_) ?_⟩
    · simp (maxDischargeDepth := 6)
      refine (itemQ_nat (grp_at i hi)).mpr ?_
      simp (maxDischargeDepth := 6)
      exact stop2 ⟨back_, x, hx, rfl⟩
    rw [fm_some]
    simp (maxDischargeDepth := 6) only [hold]
    simp (maxDischargeDepth := 6)
    refine rNe_same rfl rfl (Nat.le_of_ble_eq_true rfl) ?_
    simp (maxDischargeDepth := 6)
    exact nx_at (l := ⟨⟩) () (by simp [lessS]) trivial lessH_rfl (.inl rfl)
  · intro _ _
    refine ⟨trivial, ?_⟩
    simp (maxDischargeDepth := 6) [L9]
    refine xatQ_at (M := M9 m) rfl rfl (by decide) rfl ?_
    simp (maxDischargeDepth := 6) [L9]
    refine xatQ_at rfl rfl (by decide) rfl ?_
    simp (maxDischargeDepth := 6)
    refine rNe_same rfl rfl (Nat.le_of_ble_eq_true rfl) ?_
    simp (maxDischargeDepth := 6)
    generalize hM : (M9 m ++ _) = M
    have g : ∀ (p : Nat) o, (M9 m)[p]? = some o → M[p]? = some o := fun p o h => by
      rw [← hM, List.getElem?_append_left (by exact (List.getElem?_eq_some_iff.mp h).1)]; exact h
    clear hM
    refine xatQ_at (c := "ParseError") (k := 3) (g _ _ rfl) (g _ _ rfl) (by decide) rfl ?_
    simp (maxDischargeDepth := 6)
    refine xatQ_at (c := "UnknownStatement") (k := 5) (g _ _ rfl) (g _ _ rfl) (by decide) rfl ?_
    simp (maxDischargeDepth := 6)
    refine xatQ_at (c := "UnknownMark") (k := 7) (g _ _ rfl) (g _ _ rfl) (by decide) rfl ?_
    simp (maxDischargeDepth := 6)
    refine item_n 5 rfl rfl ?_
    simp (maxDischargeDepth := 6)
    refine xatQ_at (c := "UnknownRecord") (k := 9) (g _ _ rfl) (g _ _ rfl) (by decide) rfl ?_
    simp (maxDischargeDepth := 6)
    refine item_n 6 rfl rfl ?_
    simp (maxDischargeDepth := 6)
    refine xatQ_at (c := "UnknownSource") (k := 11) (g _ _ rfl) (g _ _ rfl) (by decide) rfl ?_
    simp (maxDischargeDepth := 6)
    refine item_n 8 rfl rfl ?_
    simp (maxDischargeDepth := 6)
    refine xatQ_at (c := "LimitExceeded") (k := 14) (g _ _ rfl) (g _ _ rfl) (by decide) rfl ?_
    clear g
    simp (maxDischargeDepth := 6)
    refine xat_new (by decide) ?_
    generalize (M ++ _) = M
    simp (maxDischargeDepth := 6)
    refine xat_new (by decide) ?_
    generalize (M ++ _) = M
    simp (maxDischargeDepth := 6)
    refine xat_new (by decide) ?_
    generalize (M ++ _) = M
    simp (maxDischargeDepth := 6)
    refine xat_new (by decide) ?_
    generalize (M ++ _) = M
    simp (maxDischargeDepth := 6)
    refine xat_new (by decide) ?_
    generalize (M ++ _) = M
    simp (maxDischargeDepth := 6)
    refine xat_new (by decide) ?_
    generalize (M ++ _) = M
    simp (maxDischargeDepth := 6)
    refine rEq_same rfl rfl (Nat.le_of_ble_eq_true rfl) ?_
    exact .of (K _)

abbrev L_f_law_kinds : Nat := 0 + 1
theorem sc_f_law_kinds : FnScope ["_law_e", "_law_found"] ["_law_e"] (defScope s_f_law_kinds) := ⟨rfl, rfl, rfl, by decide +kernel, rfl, by decide +kernel, by decide +kernel⟩
theorem dr_f_law_kinds {P : Program} {w : World} {K : PySem.W.Frag} {mg : Str → Option Value} {base : Heap} (m_isinstance : mg "isinstance" = none) (ieo_ParseError : IsEO K mg "ParseError") (ieo_InvalidClaim : IsEO K mg "InvalidClaim") (ieo_InvalidStatement : IsEO K mg "InvalidStatement") (ieo_UnknownRecord : IsEO K mg "UnknownRecord") (ieo_UnknownMark : IsEO K mg "UnknownMark") (ieo_UnknownStatement : IsEO K mg "UnknownStatement") (ieo_LimitExceeded : IsEO K mg "LimitExceeded") (ieo_Unjoinable : IsEO K mg "Unjoinable") (ieo_UnknownSource : IsEO K mg "UnknownSource") (f : Addr) (cdv : Value) (A : Around) (outer : List Env) (s : Shared) (H : Hp) (E : XK)
    (hr : Room 0 (A.deeper (envOfC "_law_kinds" (defScope s_f_law_kinds) s.heap.objs.size f cdv))) (hgd : (A.deeper (envOfC "_law_kinds" (defScope s_f_law_kinds) s.heap.objs.size f cdv)).guards = some []) :
    PSsd (Xf P w K mg base ["_law_e", "_law_found"] "_law_kinds" (defScope s_f_law_kinds) f cdv A outer s H E) (defBody s_f_law_kinds) t_f_law_kinds := by
  have nd := sc_f_law_kinds.nd
  have hp : PassesOwn (model P w) (Xf P w K mg base ["_law_e", "_law_found"] "_law_kinds" (defScope s_f_law_kinds) f cdv A outer s H E).A (Xf P w K mg base ["_law_e", "_law_found"] "_law_kinds" (defScope s_f_law_kinds) f cdv A outer s H E).env (Xf P w K mg base ["_law_e", "_law_found"] "_law_kinds" (defScope s_f_law_kinds) f cdv A outer s H E).xe := PassesOwn.leaving
  exact ds_cons (ds_set (i := 1) nd (de_lst mkZ (da_cons (de_isEO ieo_InvalidStatement m_isinstance (de_var 0)) (da_cons (de_isEO ieo_InvalidClaim m_isinstance (de_var 0)) (da_cons (de_isEO ieo_ParseError m_isinstance (de_var 0)) (da_nil)))))) (ds_cons (ds_set (i := 1) nd (de_opZ (od_plus mkZ) (de_var 1) (de_lst mkZ (da_cons (de_isEO ieo_UnknownStatement m_isinstance (de_var 0)) (da_cons (de_isEO ieo_UnknownMark m_isinstance (de_var 0)) (da_cons (de_isEO ieo_UnknownRecord m_isinstance (de_var 0)) (da_nil))))))) (ds_one (ds_ret (de_opZ (od_plus mkZ) (de_var 1) (de_lst mkZ (da_cons (de_isEO ieo_UnknownSource m_isinstance (de_var 0)) (da_cons (de_isEO ieo_Unjoinable m_isinstance (de_var 0)) (da_cons (de_isEO ieo_LimitExceeded m_isinstance (de_var 0)) (da_nil)))))))))
theorem kn_f_law_kinds {P : Program} {w : World} {K : PySem.W.Frag} {mg : Str → Option Value} {base : Heap} (m_isinstance : mg "isinstance" = none) (ieo_ParseError : IsEO K mg "ParseError") (ieo_InvalidClaim : IsEO K mg "InvalidClaim") (ieo_InvalidStatement : IsEO K mg "InvalidStatement") (ieo_UnknownRecord : IsEO K mg "UnknownRecord") (ieo_UnknownMark : IsEO K mg "UnknownMark") (ieo_UnknownStatement : IsEO K mg "UnknownStatement") (ieo_LimitExceeded : IsEO K mg "LimitExceeded") (ieo_Unjoinable : IsEO K mg "Unjoinable") (ieo_UnknownSource : IsEO K mg "UnknownSource") {f : Addr} {x : Str} {fd : FuncData} (F : FunD K "_law_kinds" "_law_kinds" (defArgs s_f_law_kinds) (defBody s_f_law_kinds) (defScope s_f_law_kinds) [] [] f fd) (hm : mg x = some (.ref f)) : Known P w K mg base L_f_law_kinds x sp_f_law_kinds :=
  ⟨f, fd, ["_law_e"], hm, F.kp, fnD_of (lk_of F) sc_f_law_kinds (dr_f_law_kinds m_isinstance ieo_ParseError ieo_InvalidClaim ieo_InvalidStatement ieo_UnknownRecord ieo_UnknownMark ieo_UnknownStatement ieo_LimitExceeded ieo_Unjoinable ieo_UnknownSource f) ok_f_law_kinds, F.bindsN fun _ _ _ _ _ _ us hl => match us, hl with | [_], _ => rfl⟩
abbrev L_f_law_built : Nat := 0 + 1
theorem sc_f_law_built : FnScope ["_law_e", "_law_found"] ["_law_e"] (defScope s_f_law_built) := ⟨rfl, rfl, rfl, by decide +kernel, rfl, by decide +kernel, by decide +kernel⟩
theorem dr_f_law_built {P : Program} {w : World} {K : PySem.W.Frag} {mg : Str → Option Value} {base : Heap} (m_IndexError : mg "IndexError" = none) (m_KeyError : mg "KeyError" = none) (m_LookupError : mg "LookupError" = none) (m_NotImplementedError : mg "NotImplementedError" = none) (m_OverflowError : mg "OverflowError" = none) (m_RuntimeError : mg "RuntimeError" = none) (m_ValueError : mg "ValueError" = none) (m_ZeroDivisionError : mg "ZeroDivisionError" = none) (m_isinstance : mg "isinstance" = none) (iee_RuntimeError : IsE K mg "RuntimeError" (.type "RuntimeError")) (iee_LookupError : IsE K mg "LookupError" (.type "LookupError")) (iee_ValueError : IsE K mg "ValueError" (.type "ValueError")) (iee_IndexError : IsE K mg "IndexError" (.type "IndexError")) (iee_KeyError : IsE K mg "KeyError" (.type "KeyError")) (iee_OverflowError : IsE K mg "OverflowError" (.type "OverflowError")) (iee_ZeroDivisionError : IsE K mg "ZeroDivisionError" (.type "ZeroDivisionError")) (iee_NotImplementedError : IsE K mg "NotImplementedError" (.type "NotImplementedError")) (f : Addr) (cdv : Value) (A : Around) (outer : List Env) (s : Shared) (H : Hp) (E : XK)
    (hr : Room 0 (A.deeper (envOfC "_law_built" (defScope s_f_law_built) s.heap.objs.size f cdv))) (hgd : (A.deeper (envOfC "_law_built" (defScope s_f_law_built) s.heap.objs.size f cdv)).guards = some []) :
    PSsd (Xf P w K mg base ["_law_e", "_law_found"] "_law_built" (defScope s_f_law_built) f cdv A outer s H E) (defBody s_f_law_built) t_f_law_built := by
  have nd := sc_f_law_built.nd
  have hp : PassesOwn (model P w) (Xf P w K mg base ["_law_e", "_law_found"] "_law_built" (defScope s_f_law_built) f cdv A outer s H E).A (Xf P w K mg base ["_law_e", "_law_found"] "_law_built" (defScope s_f_law_built) f cdv A outer s H E).env (Xf P w K mg base ["_law_e", "_law_found"] "_law_built" (defScope s_f_law_built) f cdv A outer s H E).xe := PassesOwn.leaving
  exact ds_cons (ds_set (i := 1) nd (de_lst mkZ (da_cons (de_isE iee_ValueError m_isinstance m_ValueError (de_var 0)) (da_cons (de_isE iee_LookupError m_isinstance m_LookupError (de_var 0)) (da_cons (de_isE iee_RuntimeError m_isinstance m_RuntimeError (de_var 0)) (da_nil)))))) (ds_cons (ds_set (i := 1) nd (de_opZ (od_plus mkZ) (de_var 1) (de_lst mkZ (da_cons (de_isE iee_OverflowError m_isinstance m_OverflowError (de_var 0)) (da_cons (de_isE iee_KeyError m_isinstance m_KeyError (de_var 0)) (da_cons (de_isE iee_IndexError m_isinstance m_IndexError (de_var 0)) (da_nil))))))) (ds_one (ds_ret (de_opZ (od_plus mkZ) (de_var 1) (de_lst mkZ (da_cons (de_isE iee_NotImplementedError m_isinstance m_NotImplementedError (de_var 0)) (da_cons (de_isE iee_ZeroDivisionError m_isinstance m_ZeroDivisionError (de_var 0)) (da_nil))))))))
theorem kn_f_law_built {P : Program} {w : World} {K : PySem.W.Frag} {mg : Str → Option Value} {base : Heap} (m_IndexError : mg "IndexError" = none) (m_KeyError : mg "KeyError" = none) (m_LookupError : mg "LookupError" = none) (m_NotImplementedError : mg "NotImplementedError" = none) (m_OverflowError : mg "OverflowError" = none) (m_RuntimeError : mg "RuntimeError" = none) (m_ValueError : mg "ValueError" = none) (m_ZeroDivisionError : mg "ZeroDivisionError" = none) (m_isinstance : mg "isinstance" = none) (iee_RuntimeError : IsE K mg "RuntimeError" (.type "RuntimeError")) (iee_LookupError : IsE K mg "LookupError" (.type "LookupError")) (iee_ValueError : IsE K mg "ValueError" (.type "ValueError")) (iee_IndexError : IsE K mg "IndexError" (.type "IndexError")) (iee_KeyError : IsE K mg "KeyError" (.type "KeyError")) (iee_OverflowError : IsE K mg "OverflowError" (.type "OverflowError")) (iee_ZeroDivisionError : IsE K mg "ZeroDivisionError" (.type "ZeroDivisionError")) (iee_NotImplementedError : IsE K mg "NotImplementedError" (.type "NotImplementedError")) {f : Addr} {x : Str} {fd : FuncData} (F : FunD K "_law_built" "_law_built" (defArgs s_f_law_built) (defBody s_f_law_built) (defScope s_f_law_built) [] [] f fd) (hm : mg x = some (.ref f)) : Known P w K mg base L_f_law_built x sp_f_law_built :=
  ⟨f, fd, ["_law_e"], hm, F.kp, fnD_of (lk_of F) sc_f_law_built (dr_f_law_built m_IndexError m_KeyError m_LookupError m_NotImplementedError m_OverflowError m_RuntimeError m_ValueError m_ZeroDivisionError m_isinstance iee_RuntimeError iee_LookupError iee_ValueError iee_IndexError iee_KeyError iee_OverflowError iee_ZeroDivisionError iee_NotImplementedError f) ok_f_law_built, F.bindsN fun _ _ _ _ _ _ us hl => match us, hl with | [_], _ => rfl⟩
abbrev L_law : Nat := (Nat.max (Nat.max 2 L_f_law_kinds) L_f_law_built) + 1
theorem sc_law : FnScope ["_law_script", "_law_many", "_law_some", "_law_made", "_law_groups", "_law_k", "_law_found", "_law_at"] ["_law_script"] (defScope s_law) := ⟨rfl, rfl, rfl, by decide +kernel, rfl, by decide +kernel, by decide +kernel⟩
theorem dr_law {P : Program} {w : World} {K : PySem.W.Frag} {mg : Str → Option Value} {base : Heap} (m_abs : mg "abs" = none) (m_range : mg "range" = none) (m_sum : mg "sum" = none) (k_f_law_kinds : Known P w K mg base L_f_law_kinds "_law_kinds" sp_f_law_kinds) (k_f_law_built : Known P w K mg base L_f_law_built "_law_built" sp_f_law_built) (x_UnknownStatement : KnownX P w K mg base 1 "UnknownStatement" "number") (x_ParseError : KnownX P w K mg base 1 "ParseError" "position") (x_InvalidClaim : KnownX0 P w K mg base 1 "InvalidClaim") (x_InvalidStatement : KnownX P w K mg base 1 "InvalidStatement" "place") (x_UnknownSource : KnownX P w K mg base 1 "UnknownSource" "source") (x_UnknownRecord : KnownX P w K mg base 1 "UnknownRecord" "number") (x_UnknownMark : KnownX P w K mg base 1 "UnknownMark" "number") (x_LimitExceeded : KnownX P w K mg base 1 "LimitExceeded" "limit") (x_Unjoinable : KnownX0 P w K mg base 1 "Unjoinable") (xk_UnknownStatement : KnownXk P w K mg base 1 "UnknownStatement" "number") (xk_ParseError : KnownXk P w K mg base 1 "ParseError" "position") (xk_InvalidStatement : KnownXk P w K mg base 1 "InvalidStatement" "place") (xk_UnknownSource : KnownXk P w K mg base 1 "UnknownSource" "source") (xk_UnknownRecord : KnownXk P w K mg base 1 "UnknownRecord" "number") (xk_UnknownMark : KnownXk P w K mg base 1 "UnknownMark" "number") (xk_LimitExceeded : KnownXk P w K mg base 1 "LimitExceeded" "limit") (xa_place : XatX K mg "place") (xa_source : XatX K mg "source") (xa_number : XatX K mg "number") (xa_position : XatX K mg "position") (xa_limit : XatX K mg "limit") (f : Addr) (cdv : Value) (A : Around) (outer : List Env) (s : Shared) (H : Hp) (E : XK)
    (hr : Room (Nat.max (Nat.max 2 L_f_law_kinds) L_f_law_built) (A.deeper (envOfC "law" (defScope s_law) s.heap.objs.size f cdv))) (hgd : (A.deeper (envOfC "law" (defScope s_law) s.heap.objs.size f cdv)).guards = some []) :
    PSsd (Xf P w K mg base ["_law_script", "_law_many", "_law_some", "_law_made", "_law_groups", "_law_k", "_law_found", "_law_at"] "law" (defScope s_law) f cdv A outer s H E) (defBody s_law) t_law := by
  have nd := sc_law.nd
  have hp : PassesOwn (model P w) (Xf P w K mg base ["_law_script", "_law_many", "_law_some", "_law_made", "_law_groups", "_law_k", "_law_found", "_law_at"] "law" (defScope s_law) f cdv A outer s H E).A (Xf P w K mg base ["_law_script", "_law_many", "_law_some", "_law_made", "_law_groups", "_law_k", "_law_found", "_law_at"] "law" (defScope s_law) f cdv A outer s H E).env (Xf P w K mg base ["_law_script", "_law_many", "_law_some", "_law_made", "_law_groups", "_law_k", "_law_found", "_law_at"] "law" (defScope s_law) f cdv A outer s H E).xe := PassesOwn.leaving
  exact ds_cons (ds_set (i := 1) nd (de_op od_mod (de_callB (cd_abs) m_abs (da_cons (de_callB (cd_sum rfl) m_sum (da_cons (de_slice mkZ (de_var 0) do_none (do_some (de_int))) (da_nil))) (da_nil))) (de_int))) (ds_cons (ds_set (i := 2) nd (de_tup (da_cons (de_var 1) (da_cons (de_int) (da_nil))))) (ds_cons (ds_set (i := 3) nd (de_lst mkZ (da_cons (de_x1k xk_InvalidStatement (hr.mono (by decide)) (dk_cons (de_var 2) dk_nil)) (da_cons (de_x0 x_InvalidClaim (hr.mono (by decide))) (da_cons (de_x1k xk_ParseError (hr.mono (by decide)) (dk_cons (de_var 1) dk_nil)) (da_cons (de_x1k xk_UnknownStatement (hr.mono (by decide)) (dk_cons (de_var 1) dk_nil)) (da_nil))))))) (ds_cons (ds_set (i := 3) nd (de_opZ (od_plus mkZ) (de_var 3) (de_lst mkZ (da_cons (de_x1k xk_UnknownMark (hr.mono (by decide)) (dk_cons (de_var 1) dk_nil)) (da_cons (de_x1k xk_UnknownRecord (hr.mono (by decide)) (dk_cons (de_var 1) dk_nil)) (da_cons (de_x1k xk_UnknownSource (hr.mono (by decide)) (dk_cons (de_var 1) dk_nil)) (da_nil))))))) (ds_cons (ds_set (i := 3) nd (de_opZ (od_plus mkZ) (de_var 3) (de_lst mkZ (da_cons (de_x0 x_Unjoinable (hr.mono (by decide))) (da_cons (de_x1k xk_LimitExceeded (hr.mono (by decide)) (dk_cons (de_var 1) dk_nil)) (da_nil)))))) (ds_cons (ds_set (i := 4) nd (de_lst mkZ (da_cons (de_int) (da_cons (de_int) (da_cons (de_int) (da_cons (de_int) (da_cons (de_int) (da_cons (de_int) (da_cons (de_int) (da_cons (de_int) (da_cons (de_int) (da_nil)))))))))))) (ds_cons (ds_for hp rfl (di_range1 m_range (da_cons (de_int) (da_nil))) (dg_nm 5 nd) (ds_cons (ds_if (dt_cmp (od_ne hr.units) (de_call k_f_law_kinds (hr.mono (by decide)) hgd (da_cons (de_ix (xd_any (hu_of hr)) (de_var 3) (de_var 5)) (da_nil))) (de_lc mkZ rfl nd (own := [("_law_at", 7)]) (di_range1 m_range (da_cons (de_int) (da_nil))) (blkC_by (N' := ["_law_script", "_law_many", "_law_some", "_law_made", "_law_groups", "_law_k", "_law_found", "_law_at"]) (sc' := defScope s_law) rfl rfl (by decide +kernel)) (fun _ _ _ _ _ => dg_nm 7 nd) (fun _ _ _ _ _ => dts_nil) (fun _ _ _ _ _ => de_cmp (od_eq hr.units) (de_var 7) (de_var 5)))) (ds_one (ds_ret (de_bl))) (ds_nil)) (ds_one (ds_if (dt_cmp (od_ne hr.units) (de_call k_f_law_built (hr.mono (by decide)) hgd (da_cons (de_ix (xd_any (hu_of hr)) (de_var 3) (de_var 5)) (da_nil))) (de_lc mkZ rfl nd (own := [("_law_at", 7)]) (di_range1 m_range (da_cons (de_int) (da_nil))) (blkC_by (N' := ["_law_script", "_law_many", "_law_some", "_law_made", "_law_groups", "_law_k", "_law_found", "_law_at"]) (sc' := defScope s_law) rfl rfl (by decide +kernel)) (fun _ _ _ _ _ => dg_nm 7 nd) (fun _ _ _ _ _ => dts_nil) (fun _ _ _ _ _ => de_cmp (od_eq hr.units) (de_var 7) (de_ix (xd_any (hu_of hr)) (de_var 4) (de_var 5))))) (ds_one (ds_ret (de_bl))) (ds_nil))))) (ds_cons (ds_if (dt_cmp (od_ne hr.units) (de_lst mkZ (da_cons (de_xat xa_place (de_ix (xd_any (hu_of hr)) (de_var 3) (de_int))) (da_cons (de_xat xa_place (de_x1 x_InvalidStatement (hr.mono (by decide)) (da_cons (de_var 2) (da_nil)))) (da_nil)))) (de_lst mkZ (da_cons (de_var 2) (da_cons (de_var 2) (da_nil))))) (ds_one (ds_ret (de_bl))) (ds_nil)) (ds_cons (ds_set (i := 6) nd (de_lst mkZ (da_cons (de_xat xa_position (de_ix (xd_any (hu_of hr)) (de_var 3) (de_int))) (da_cons (de_xat xa_number (de_ix (xd_any (hu_of hr)) (de_var 3) (de_int))) (da_cons (de_xat xa_number (de_ix (xd_any (hu_of hr)) (de_var 3) (de_int))) (da_cons (de_xat xa_number (de_ix (xd_any (hu_of hr)) (de_var 3) (de_int))) (da_cons (de_xat xa_source (de_ix (xd_any (hu_of hr)) (de_var 3) (de_int))) (da_nil)))))))) (ds_cons (ds_set (i := 6) nd (de_opZ (od_plus mkZ) (de_var 6) (de_lst mkZ (da_cons (de_xat xa_limit (de_ix (xd_any (hu_of hr)) (de_var 3) (de_int))) (da_cons (de_xat xa_position (de_x1 x_ParseError (hr.mono (by decide)) (da_cons (de_var 1) (da_nil)))) (da_cons (de_xat xa_number (de_x1 x_UnknownStatement (hr.mono (by decide)) (da_cons (de_var 1) (da_nil)))) (da_nil))))))) (ds_cons (ds_set (i := 6) nd (de_opZ (od_plus mkZ) (de_var 6) (de_lst mkZ (da_cons (de_xat xa_number (de_x1 x_UnknownMark (hr.mono (by decide)) (da_cons (de_var 1) (da_nil)))) (da_cons (de_xat xa_number (de_x1 x_UnknownRecord (hr.mono (by decide)) (da_cons (de_var 1) (da_nil)))) (da_cons (de_xat xa_source (de_x1 x_UnknownSource (hr.mono (by decide)) (da_cons (de_var 1) (da_nil)))) (da_nil))))))) (ds_one (ds_ret (de_cmp (od_eq hr.units) (de_opZ (od_plus mkZ) (de_var 6) (de_lst mkZ (da_cons (de_xat xa_limit (de_x1 x_LimitExceeded (hr.mono (by decide)) (da_cons (de_var 1) (da_nil)))) (da_nil)))) (de_opZ (od_repL mkZ) (de_lst mkD (da_cons (de_var 1) (da_nil))) (de_int)))))))))))))))
theorem kn_law {P : Program} {w : World} {K : PySem.W.Frag} {mg : Str → Option Value} {base : Heap} (m_abs : mg "abs" = none) (m_range : mg "range" = none) (m_sum : mg "sum" = none) (k_f_law_kinds : Known P w K mg base L_f_law_kinds "_law_kinds" sp_f_law_kinds) (k_f_law_built : Known P w K mg base L_f_law_built "_law_built" sp_f_law_built) (x_UnknownStatement : KnownX P w K mg base 1 "UnknownStatement" "number") (x_ParseError : KnownX P w K mg base 1 "ParseError" "position") (x_InvalidClaim : KnownX0 P w K mg base 1 "InvalidClaim") (x_InvalidStatement : KnownX P w K mg base 1 "InvalidStatement" "place") (x_UnknownSource : KnownX P w K mg base 1 "UnknownSource" "source") (x_UnknownRecord : KnownX P w K mg base 1 "UnknownRecord" "number") (x_UnknownMark : KnownX P w K mg base 1 "UnknownMark" "number") (x_LimitExceeded : KnownX P w K mg base 1 "LimitExceeded" "limit") (x_Unjoinable : KnownX0 P w K mg base 1 "Unjoinable") (xk_UnknownStatement : KnownXk P w K mg base 1 "UnknownStatement" "number") (xk_ParseError : KnownXk P w K mg base 1 "ParseError" "position") (xk_InvalidStatement : KnownXk P w K mg base 1 "InvalidStatement" "place") (xk_UnknownSource : KnownXk P w K mg base 1 "UnknownSource" "source") (xk_UnknownRecord : KnownXk P w K mg base 1 "UnknownRecord" "number") (xk_UnknownMark : KnownXk P w K mg base 1 "UnknownMark" "number") (xk_LimitExceeded : KnownXk P w K mg base 1 "LimitExceeded" "limit") (xa_place : XatX K mg "place") (xa_source : XatX K mg "source") (xa_number : XatX K mg "number") (xa_position : XatX K mg "position") (xa_limit : XatX K mg "limit") {f : Addr} {x : Str} {fd : FuncData} (F : FunD K "law" "law" (defArgs s_law) (defBody s_law) (defScope s_law) [] [] f fd) (hm : mg x = some (.ref f)) : Known P w K mg base L_law x sp_law :=
  ⟨f, fd, ["_law_script"], hm, F.kp, fnD_of (lk_of F) sc_law (dr_law m_abs m_range m_sum k_f_law_kinds k_f_law_built x_UnknownStatement x_ParseError x_InvalidClaim x_InvalidStatement x_UnknownSource x_UnknownRecord x_UnknownMark x_LimitExceeded x_Unjoinable xk_UnknownStatement xk_ParseError xk_InvalidStatement xk_UnknownSource xk_UnknownRecord xk_UnknownMark xk_LimitExceeded xa_place xa_source xa_number xa_position xa_limit f) ok_law, F.bindsN fun _ _ _ _ _ _ us hl => match us, hl with | [_], _ => rfl⟩

theorem facts {P : Program} {w : World} {K : PySem.W.Frag} {h : Heap} {mg : Str → Option Value} {f : Addr} (X : K.In h) (G : h.Ns mainGlobals mg) (hfa : mg ("law" : Str) = some (.ref f)) (c : He.SaysD fal fnl K) (cb : fbl.all (fun t => t K) = true) (base : Heap) : ∃ fd ps, FnD P w K mg base L_law f fd ps sp_law ∧ Binds K fd ps [] := by
  obtain ⟨fd_f_law_kinds, F_f_law_kinds⟩ := c.def_ 0 (d := d_g_f_law_kinds) rfl
  have g_f_law_kinds : mg "_law_kinds" = _ := He.glo_ok X G (c.fact 0 (f := .glo "_law_kinds") rfl)
  obtain ⟨fd_f_law_built, F_f_law_built⟩ := c.def_ 1 (d := d_g_f_law_built) rfl
  have g_f_law_built : mg "_law_built" = _ := He.glo_ok X G (c.fact 1 (f := .glo "_law_built") rfl)
  obtain ⟨fd_law, F_law⟩ := c.def_ 2 (d := d_g_law) rfl
  have g_law : mg "law" = _ := He.glo_ok X G (c.fact 2 (f := .glo "law") rfl)
  have m_isinstance : mg "isinstance" = none := He.free_ok X G (c.fact 3 (f := .free "isinstance") rfl)
  have m_RuntimeError : mg "RuntimeError" = none := He.free_ok X G (c.fact 4 (f := .free "RuntimeError") rfl)
  have m_LookupError : mg "LookupError" = none := He.free_ok X G (c.fact 5 (f := .free "LookupError") rfl)
  have m_ValueError : mg "ValueError" = none := He.free_ok X G (c.fact 6 (f := .free "ValueError") rfl)
  have m_IndexError : mg "IndexError" = none := He.free_ok X G (c.fact 7 (f := .free "IndexError") rfl)
  have m_KeyError : mg "KeyError" = none := He.free_ok X G (c.fact 8 (f := .free "KeyError") rfl)
  have m_OverflowError : mg "OverflowError" = none := He.free_ok X G (c.fact 9 (f := .free "OverflowError") rfl)
  have m_ZeroDivisionError : mg "ZeroDivisionError" = none := He.free_ok X G (c.fact 10 (f := .free "ZeroDivisionError") rfl)
  have m_NotImplementedError : mg "NotImplementedError" = none := He.free_ok X G (c.fact 11 (f := .free "NotImplementedError") rfl)
  have m_sum : mg "sum" = none := He.free_ok X G (c.fact 12 (f := .free "sum") rfl)
  have m_abs : mg "abs" = none := He.free_ok X G (c.fact 13 (f := .free "abs") rfl)
  have m_range : mg "range" = none := He.free_ok X G (c.fact 14 (f := .free "range") rfl)
  have g_UnknownStatement : mg "UnknownStatement" = some (.ref (He.ga K "UnknownStatement")) := He.glo_ok X G (c.fact 15 (f := .glo "UnknownStatement") rfl)
  have g_ParseError : mg "ParseError" = some (.ref (He.ga K "ParseError")) := He.glo_ok X G (c.fact 16 (f := .glo "ParseError") rfl)
  have g_InvalidClaim : mg "InvalidClaim" = some (.ref (He.ga K "InvalidClaim")) := He.glo_ok X G (c.fact 17 (f := .glo "InvalidClaim") rfl)
  have g_InvalidStatement : mg "InvalidStatement" = some (.ref (He.ga K "InvalidStatement")) := He.glo_ok X G (c.fact 18 (f := .glo "InvalidStatement") rfl)
  have g_UnknownSource : mg "UnknownSource" = some (.ref (He.ga K "UnknownSource")) := He.glo_ok X G (c.fact 19 (f := .glo "UnknownSource") rfl)
  have g_UnknownRecord : mg "UnknownRecord" = some (.ref (He.ga K "UnknownRecord")) := He.glo_ok X G (c.fact 20 (f := .glo "UnknownRecord") rfl)
  have g_UnknownMark : mg "UnknownMark" = some (.ref (He.ga K "UnknownMark")) := He.glo_ok X G (c.fact 21 (f := .glo "UnknownMark") rfl)
  have g_LimitExceeded : mg "LimitExceeded" = some (.ref (He.ga K "LimitExceeded")) := He.glo_ok X G (c.fact 22 (f := .glo "LimitExceeded") rfl)
  have g_Unjoinable : mg "Unjoinable" = some (.ref (He.ga K "Unjoinable")) := He.glo_ok X G (c.fact 23 (f := .glo "Unjoinable") rfl)
  have e_UnknownStatement := fb_at cb 0 (t := exB "LookupError.__new__" tlL "UnknownStatement") rfl
  have h_UnknownStatement : CaughtX K mg "UnknownStatement" := exB_caught e_UnknownStatement g_UnknownStatement
  have e_ParseError := fb_at cb 1 (t := exB "ValueError.__new__" tlV "ParseError") rfl
  have h_ParseError : CaughtX K mg "ParseError" := exB_caught e_ParseError g_ParseError
  have e_InvalidClaim := fb_at cb 2 (t := exB "ValueError.__new__" tlV "InvalidClaim") rfl
  have h_InvalidClaim : CaughtX K mg "InvalidClaim" := exB_caught e_InvalidClaim g_InvalidClaim
  have e_InvalidStatement := fb_at cb 3 (t := exB "ValueError.__new__" tlV "InvalidStatement") rfl
  have h_InvalidStatement : CaughtX K mg "InvalidStatement" := exB_caught e_InvalidStatement g_InvalidStatement
  have e_UnknownSource := fb_at cb 4 (t := exB "LookupError.__new__" tlL "UnknownSource") rfl
  have h_UnknownSource : CaughtX K mg "UnknownSource" := exB_caught e_UnknownSource g_UnknownSource
  have e_UnknownRecord := fb_at cb 5 (t := exB "LookupError.__new__" tlL "UnknownRecord") rfl
  have h_UnknownRecord : CaughtX K mg "UnknownRecord" := exB_caught e_UnknownRecord g_UnknownRecord
  have e_UnknownMark := fb_at cb 6 (t := exB "LookupError.__new__" tlL "UnknownMark") rfl
  have h_UnknownMark : CaughtX K mg "UnknownMark" := exB_caught e_UnknownMark g_UnknownMark
  have e_LimitExceeded := fb_at cb 7 (t := exB "OverflowError.__new__" tlO "LimitExceeded") rfl
  have h_LimitExceeded : CaughtX K mg "LimitExceeded" := exB_caught e_LimitExceeded g_LimitExceeded
  have e_Unjoinable := fb_at cb 8 (t := exB "RuntimeError.__new__" tlR "Unjoinable") rfl
  have h_Unjoinable : CaughtX K mg "Unjoinable" := exB_caught e_Unjoinable g_Unjoinable
  have gx : GX K mg := gx_of g_InvalidStatement g_InvalidClaim g_ParseError g_UnknownStatement g_UnknownMark g_UnknownRecord g_UnknownSource g_Unjoinable g_LimitExceeded
  have iee_RuntimeError : IsE K mg "RuntimeError" (.type "RuntimeError") := isE_ok (fb_at cb 9 (t := isEB "RuntimeError" (.type "RuntimeError")) rfl) gx
  have iee_LookupError : IsE K mg "LookupError" (.type "LookupError") := isE_ok (fb_at cb 10 (t := isEB "LookupError" (.type "LookupError")) rfl) gx
  have iee_ValueError : IsE K mg "ValueError" (.type "ValueError") := isE_ok (fb_at cb 11 (t := isEB "ValueError" (.type "ValueError")) rfl) gx
  have iee_IndexError : IsE K mg "IndexError" (.type "IndexError") := isE_ok (fb_at cb 12 (t := isEB "IndexError" (.type "IndexError")) rfl) gx
  have iee_KeyError : IsE K mg "KeyError" (.type "KeyError") := isE_ok (fb_at cb 13 (t := isEB "KeyError" (.type "KeyError")) rfl) gx
  have iee_OverflowError : IsE K mg "OverflowError" (.type "OverflowError") := isE_ok (fb_at cb 14 (t := isEB "OverflowError" (.type "OverflowError")) rfl) gx
  have iee_ZeroDivisionError : IsE K mg "ZeroDivisionError" (.type "ZeroDivisionError") := isE_ok (fb_at cb 15 (t := isEB "ZeroDivisionError" (.type "ZeroDivisionError")) rfl) gx
  have iee_NotImplementedError : IsE K mg "NotImplementedError" (.type "NotImplementedError") := isE_ok (fb_at cb 16 (t := isEB "NotImplementedError" (.type "NotImplementedError")) rfl) gx
  have ieo_ParseError : IsEO K mg "ParseError" := isEO_ok (fb_at cb 17 (t := isEO "ParseError") rfl) gx (by decide)
  have ieo_InvalidClaim : IsEO K mg "InvalidClaim" := isEO_ok (fb_at cb 18 (t := isEO "InvalidClaim") rfl) gx (by decide)
  have ieo_InvalidStatement : IsEO K mg "InvalidStatement" := isEO_ok (fb_at cb 19 (t := isEO "InvalidStatement") rfl) gx (by decide)
  have ieo_UnknownRecord : IsEO K mg "UnknownRecord" := isEO_ok (fb_at cb 20 (t := isEO "UnknownRecord") rfl) gx (by decide)
  have ieo_UnknownMark : IsEO K mg "UnknownMark" := isEO_ok (fb_at cb 21 (t := isEO "UnknownMark") rfl) gx (by decide)
  have ieo_UnknownStatement : IsEO K mg "UnknownStatement" := isEO_ok (fb_at cb 22 (t := isEO "UnknownStatement") rfl) gx (by decide)
  have ieo_LimitExceeded : IsEO K mg "LimitExceeded" := isEO_ok (fb_at cb 23 (t := isEO "LimitExceeded") rfl) gx (by decide)
  have ieo_Unjoinable : IsEO K mg "Unjoinable" := isEO_ok (fb_at cb 24 (t := isEO "Unjoinable") rfl) gx (by decide)
  have ieo_UnknownSource : IsEO K mg "UnknownSource" := isEO_ok (fb_at cb 25 (t := isEO "UnknownSource") rfl) gx (by decide)
  have xa_place : XatX K mg "place" := xatB_ok (fb_at cb 26 (t := xatB "place") rfl) gx
  have xa_source : XatX K mg "source" := xatB_ok (fb_at cb 27 (t := xatB "source") rfl) gx
  have xa_number : XatX K mg "number" := xatB_ok (fb_at cb 28 (t := xatB "number") rfl) gx
  have xa_position : XatX K mg "position" := xatB_ok (fb_at cb 29 (t := xatB "position") rfl) gx
  have xa_limit : XatX K mg "limit" := xatB_ok (fb_at cb 30 (t := xatB "limit") rfl) gx
  obtain ⟨fx0, X0⟩ := c.def_ 3 (d := d_UnknownStatement_init) rfl
  have xk_UnknownStatement : KnownXk P w K mg base 1 "UnknownStatement" "number" := exB_known1k X G ebL e_UnknownStatement g_UnknownStatement (by decide) (ki_UnknownStatement X0 m_LookupError) (kbk_UnknownStatement X0)
  have x_UnknownStatement : KnownX P w K mg base 1 "UnknownStatement" "number" := exB_known1 X G ebL e_UnknownStatement g_UnknownStatement (by decide) (ki_UnknownStatement X0 m_LookupError) (kb_UnknownStatement X0)
  obtain ⟨fx1, X1⟩ := c.def_ 4 (d := d_ParseError_init) rfl
  have xk_ParseError : KnownXk P w K mg base 1 "ParseError" "position" := exB_known1k X G ebV e_ParseError g_ParseError (by decide) (ki_ParseError X1 m_ValueError) (kbk_ParseError X1)
  have x_ParseError : KnownX P w K mg base 1 "ParseError" "position" := exB_known1 X G ebV e_ParseError g_ParseError (by decide) (ki_ParseError X1 m_ValueError) (kb_ParseError X1)
  obtain ⟨fx2, X2⟩ := c.def_ 5 (d := d_InvalidClaim_init) rfl
  have x_InvalidClaim : KnownX0 P w K mg base 1 "InvalidClaim" := exB_known0 X G ebV e_InvalidClaim g_InvalidClaim (ki_InvalidClaim X2 m_ValueError) (kb_InvalidClaim X2)
  obtain ⟨fx3, X3⟩ := c.def_ 6 (d := d_InvalidStatement_init) rfl
  have xk_InvalidStatement : KnownXk P w K mg base 1 "InvalidStatement" "place" := exB_known1k X G ebV e_InvalidStatement g_InvalidStatement (by decide) (ki_InvalidStatement X3 m_ValueError) (kbk_InvalidStatement X3)
  have x_InvalidStatement : KnownX P w K mg base 1 "InvalidStatement" "place" := exB_known1 X G ebV e_InvalidStatement g_InvalidStatement (by decide) (ki_InvalidStatement X3 m_ValueError) (kb_InvalidStatement X3)
  obtain ⟨fx4, X4⟩ := c.def_ 7 (d := d_UnknownSource_init) rfl
  have xk_UnknownSource : KnownXk P w K mg base 1 "UnknownSource" "source" := exB_known1k X G ebL e_UnknownSource g_UnknownSource (by decide) (ki_UnknownSource X4 m_LookupError) (kbk_UnknownSource X4)
  have x_UnknownSource : KnownX P w K mg base 1 "UnknownSource" "source" := exB_known1 X G ebL e_UnknownSource g_UnknownSource (by decide) (ki_UnknownSource X4 m_LookupError) (kb_UnknownSource X4)
  obtain ⟨fx5, X5⟩ := c.def_ 8 (d := d_UnknownRecord_init) rfl
  have xk_UnknownRecord : KnownXk P w K mg base 1 "UnknownRecord" "number" := exB_known1k X G ebL e_UnknownRecord g_UnknownRecord (by decide) (ki_UnknownRecord X5 m_LookupError) (kbk_UnknownRecord X5)
  have x_UnknownRecord : KnownX P w K mg base 1 "UnknownRecord" "number" := exB_known1 X G ebL e_UnknownRecord g_UnknownRecord (by decide) (ki_UnknownRecord X5 m_LookupError) (kb_UnknownRecord X5)
  obtain ⟨fx6, X6⟩ := c.def_ 9 (d := d_UnknownMark_init) rfl
  have xk_UnknownMark : KnownXk P w K mg base 1 "UnknownMark" "number" := exB_known1k X G ebL e_UnknownMark g_UnknownMark (by decide) (ki_UnknownMark X6 m_LookupError) (kbk_UnknownMark X6)
  have x_UnknownMark : KnownX P w K mg base 1 "UnknownMark" "number" := exB_known1 X G ebL e_UnknownMark g_UnknownMark (by decide) (ki_UnknownMark X6 m_LookupError) (kb_UnknownMark X6)
  obtain ⟨fx7, X7⟩ := c.def_ 10 (d := d_LimitExceeded_init) rfl
  have xk_LimitExceeded : KnownXk P w K mg base 1 "LimitExceeded" "limit" := exB_known1k X G ebO e_LimitExceeded g_LimitExceeded (by decide) (ki_LimitExceeded X7 m_OverflowError) (kbk_LimitExceeded X7)
  have x_LimitExceeded : KnownX P w K mg base 1 "LimitExceeded" "limit" := exB_known1 X G ebO e_LimitExceeded g_LimitExceeded (by decide) (ki_LimitExceeded X7 m_OverflowError) (kb_LimitExceeded X7)
  obtain ⟨fx8, X8⟩ := c.def_ 11 (d := d_Unjoinable_init) rfl
  have x_Unjoinable : KnownX0 P w K mg base 1 "Unjoinable" := exB_known0 X G ebR e_Unjoinable g_Unjoinable (ki_Unjoinable X8 m_RuntimeError) (kb_Unjoinable X8)
  have k_f_law_kinds : Known P w K mg base L_f_law_kinds "_law_kinds" sp_f_law_kinds := kn_f_law_kinds m_isinstance ieo_ParseError ieo_InvalidClaim ieo_InvalidStatement ieo_UnknownRecord ieo_UnknownMark ieo_UnknownStatement ieo_LimitExceeded ieo_Unjoinable ieo_UnknownSource F_f_law_kinds g_f_law_kinds
  have k_f_law_built : Known P w K mg base L_f_law_built "_law_built" sp_f_law_built := kn_f_law_built m_IndexError m_KeyError m_LookupError m_NotImplementedError m_OverflowError m_RuntimeError m_ValueError m_ZeroDivisionError m_isinstance iee_RuntimeError iee_LookupError iee_ValueError iee_IndexError iee_KeyError iee_OverflowError iee_ZeroDivisionError iee_NotImplementedError F_f_law_built g_f_law_built
  have k_law : Known P w K mg base L_law "law" sp_law := kn_law m_abs m_range m_sum k_f_law_kinds k_f_law_built x_UnknownStatement x_ParseError x_InvalidClaim x_InvalidStatement x_UnknownSource x_UnknownRecord x_UnknownMark x_LimitExceeded x_Unjoinable xk_UnknownStatement xk_ParseError xk_InvalidStatement xk_UnknownSource xk_UnknownRecord xk_UnknownMark xk_LimitExceeded xa_place xa_source xa_number xa_position xa_limit F_law g_law
  obtain ⟨fz, fd, ps, h1, _, h2, h3⟩ := k_law.ex
  rw [hfa] at h1
  cases h1
  exact ⟨fd, ps, h2, h3⟩

end K06
open PySem PySem.W PySem.Calls PyProof.Rows
theorem PySem.Challenge.cw_whenline_k06_errors_holds : PySem.Challenge.rw_whenline_k06_errors.Holds := by
  w_on; o_law
  refine HandSHeadRun.head_any (r := OpenLaw.row PySem.Challenge.rw_whenline_k06_errors) (q := view (OpenLaw.row PySem.Challenge.rw_whenline_k06_errors).prog [13]) (H := K06.hk) (ob := K06.ob) (M := 9000) (loose := K06.loose) (d := HandSHeadRun.topDef (OpenLaw.row PySem.Challenge.rw_whenline_k06_errors).prog 13) (kwd := []) K06.ob_eq
    (by kernel_rfl) (fun s => by kernel_rfl) K06.run (by kernel_rfl) (by kernel_rfl) (by kernel_rfl) (by rfl) (by first | assumption | decide +kernel) (by decide +kernel) ⟨rfl, rfl, rfl, rfl, rfl, by decide +kernel⟩ ?hw ?hc
  case hw => w_witness2
  case hc =>
    refine DM.walk_D (l := PySem.Challenge.rw_whenline_k06_errors) (n := 63) (k := K06.L_law) rfl (by decide) (by kernel_rfl) ⟨rfl, by decide, by decide⟩ ?F
    intro w mg fa h Y G hmg0
    obtain ⟨K, KX, c⟩ := Y
    have hmg : mg ("law" : PySem.Str) = some (.ref fa) := by
      have e : (HandSHeadRun.topDef (OpenLaw.row PySem.Challenge.rw_whenline_k06_errors).prog 13).name = ("law" : PySem.Str) := by kernel_rfl
      rw [← e]
      exact hmg0
    exact ⟨K, KX, fun base _ _ => K06.facts KX G hmg c.1 c.2 base⟩

