import PyProof.Rows.All
import HandS.ForMost
import KE.DataEq
import HandS.Wide
import PyProof.Rows.RegStrFacts
import PyProof.ReprLen
import HandS.TupAny
import HandS.Zip
import HandS.Style
import HandS.Exc
import HandS.IsInst
import HandS.TupMul
import HandS.Small
import HandS.Iter
import KE.GoesEnum
import HandS.Defaults
import HandS.Head0
import HandS.Head1
import HandS.Head2
import HandS.HeadEnd
import HandS.HeadHook1
import HandS.HeadHook2
import HandS.ExcInit
import HandS.ExcField
import HandS.TryMany
import HandS.Conv
import HandS.DictComp
import KE.KRevSl
import Lean
import Wide.All
import Wide.FinOn
import PySem.Challenge.RW_whenline_k13_chains_at_the_limits
set_option Elab.async false
set_option linter.all false
set_option maxRecDepth 100000
set_option maxHeartbeats 0
/-! DM, the core: data as values, a heap of numbered cells, readings as predicate transformers (what follows; what is raised). No program, no rule of the layer below. -/
namespace DM
open PySem L2

/-- a value: tuples, and lists and dicts that nobody writes to any more, are values; else: the cell of that number -/
inductive D where
  | non | bl (b : Bool) | int (i : Int) | str (s : Str) | tup (l : List D) | lis (l : List D) | dct (ks : List Key) (vs : List D) | ref (n : Nat)
abbrev Fs := List (Str × D)
/-- a cell: a list, a dict, an instance of a class by its name; a pen (of which nothing is told) -/
inductive MO where
  | lst (l : List D) | dic (l : List (Key × D)) | ins (c : Str) (fs : Fs) | pen | dit (l : List (List Key × D))
abbrev MH := List (Option MO)
abbrev DSt := List (Option D)
mutual
/-- a value names no cell from n on -/
def D.bel (n : Nat) : D → Bool
  | .ref k => decide (k < n)
  | .tup l => D.bels n l
  | .lis l => D.bels n l
  | .dct _ l => D.bels n l
  | _ => true
def D.bels (n : Nat) : List D → Bool
  | [] => true
  | x :: r => x.bel n && D.bels n r
end
def MO.bel (n : Nat) : MO → Bool
  | .lst l => D.bels n l
  | .dic l => D.bels n (l.map (·.2))
  | .ins _ fs => D.bels n (fs.map (·.2))
  | .pen => true
  | .dit l => D.bels n (l.map (·.2))
def bMO (n : Nat) : Option MO → Bool
  | some o => o.bel n
  | none => true
def bD (n : Nat) : Option D → Bool
  | some o => o.bel n
  | none => true
def belM (n : Nat) (M : MH) : Bool := M.all (bMO n)
def belS (n : Nat) (ρ : DSt) : Bool := ρ.all (bD n)
/-- a pen: a list of the script's ints that nobody writes to, a count, a rest -/
def PenD (l : List D) : Prop := ∃ (cs : List Int) (at' left : Int), l = [.lis (cs.map D.int), .int at', .int left] ∧ 0 ≤ at' ∧ 0 ≤ left ∧ cs.length ≤ 63
/-- less is told of a cell -/
def LeO (o u : MO) : Prop := o = u ∨ (o = .pen ∧ ∃ l, u = .lst l ∧ PenD l)
/-- less is known -/
def LessP (M' M : MH) : Prop := ∀ (i : Nat) o, M'[i]? = some (some o) → ∃ u, M[i]? = some (some u) ∧ LeO o u
/-- .. and cells behind the first n may be let go, if nothing names them -/
def LessM (n : Nat) (M' M : MH) : Prop := LessP M' M ∧ (M'.length = M.length ∨ (n ≤ M'.length ∧ M'.length ≤ M.length ∧ belM M'.length M' = true))
def Less (ρ' ρ : DSt) : Prop := ρ'.length = ρ.length ∧ ∀ (i : Nat) d, ρ'[i]? = some (some d) → ρ[i]? = some (some d)
theorem Less.rfl {ρ : DSt} : Less ρ ρ := ⟨Eq.refl _, fun _ _ h => h⟩
theorem LessM.rfl {M : MH} {n : Nat} : LessM n M M := ⟨fun _ o h => ⟨o, h, .inl (Eq.refl _)⟩, .inl (Eq.refl _)⟩

/-- what comes later, not looked at before its time: simp does not go into it -/
structure Later {α : Sort _} (Q : α) : Type where
  mk ::
def hold {α : Sort _} (Q : α) (_ : Later Q) : α := Q
/-- the same, and it stays -/
def stop {α : Sort _} (Q : α) (_ : Later Q) : α := Q
@[simp ↓] theorem hold1 {α : Sort _} {Q : α → Prop} {t : Later Q} {a : α} : hold Q t a ↔ Q a := Iff.rfl
@[simp ↓] theorem hold2 {α β : Sort _} {Q : α → β → Prop} {t : Later Q} {a : α} {b : β} : hold Q t a b ↔ Q a b := Iff.rfl
@[simp ↓] theorem hold3 {α β γ : Sort _} {Q : α → β → γ → Prop} {t : Later Q} {a : α} {b : β} {c : γ} : hold Q t a b c ↔ Q a b c := Iff.rfl
/-- two ways -/
def br (b : Bool) (A B : Prop) : Prop := if b = true then A else B
theorem br_of {b : Bool} {A B : Prop} (h : b = true → A) (g : b = false → B) : br b A B := by
  cases b
  · exact g rfl
  · exact h rfl
@[simp] theorem br_t {A B : Prop} : br true A B ↔ A := Iff.rfl
@[simp] theorem br_f {A B : Prop} : br false A B ↔ B := Iff.rfl
def isB (x : D) (B : Bool → Prop) : Prop := ∃ k, x = .bl k ∧ B k
@[simp] theorem isB_bl {k : Bool} {B : Bool → Prop} : isB (.bl k) B ↔ B k := ⟨fun ⟨_, e, h⟩ => by cases e; exact h, fun h => ⟨k, rfl, h⟩⟩
def asI (x : D) (B : Int → Prop) : Prop := ∃ i, x = .int i ∧ B i
@[simp] theorem asI_int {i : Int} {B : Int → Prop} : asI (.int i) B ↔ B i := ⟨fun ⟨_, e, h⟩ => by cases e; exact h, fun h => ⟨i, rfl, h⟩⟩
def as1 (ds : List D) (B : D → Prop) : Prop := ∃ x, ds = [x] ∧ B x
@[simp] theorem as1_ {x : D} {B : D → Prop} : as1 [x] B ↔ B x := ⟨fun ⟨_, e, h⟩ => by cases e; exact h, fun h => ⟨x, rfl, h⟩⟩
def as2 (ds : List D) (B : D → D → Prop) : Prop := ∃ x y, ds = [x, y] ∧ B x y
@[simp] theorem as2_ {x y : D} {B : D → D → Prop} : as2 [x, y] B ↔ B x y := ⟨fun ⟨_, _, e, h⟩ => by cases e; exact h, fun h => ⟨x, y, rfl, h⟩⟩

abbrev DQ := D → MH → Prop
/-- what is raised: the class, the fields -/
abbrev XQ := Str → Fs → MH → Prop
abbrev noX : XQ := fun _ _ _ => False
abbrev DE := DSt → MH → XQ → DQ → Prop
abbrev DT := DSt → MH → XQ → (Bool → MH → Prop) → Prop
abbrev DA := DSt → MH → XQ → (List D → MH → Prop) → Prop
structure DEnds where
  nx : DSt → MH → Prop
  rt : DQ
  bk : DSt → MH → Prop := fun _ _ => False
  ct : DSt → MH → Prop := fun _ _ => False
  ex : Str → Fs → DSt → MH → Prop := fun _ _ _ _ => False
abbrev DS := DEnds → DSt → MH → Prop
abbrev SpD := List D → MH → XQ → DQ → Prop
/-- what is raised in a statement -/
def xAt (E : DEnds) (ρ : DSt) : XQ := fun c fs M => E.ex c fs ρ M
/-- it may be forgotten -/
def WkM (n : Nat) (P : MH → Prop) (M : MH) : Prop := ∃ M', LessM n M' M ∧ P M'
def WkD (n : Nat) (P : D → MH → Prop) (d : D) (M : MH) : Prop := ∃ M', LessM n M' M ∧ (M'.length = M.length ∨ d.bel M'.length = true) ∧ P d M'
def WkL (n : Nat) (P : List D → MH → Prop) (l : List D) (M : MH) : Prop := ∃ M', LessM n M' M ∧ (M'.length = M.length ∨ D.bels M'.length l = true) ∧ P l M'
def Wk (n : Nat) (P : DSt → MH → Prop) (ρ : DSt) (M : MH) : Prop := ∃ ρ' M', Less ρ' ρ ∧ LessM n M' M ∧ (M'.length = M.length ∨ belS M'.length ρ' = true) ∧ P ρ' M'
theorem WkM.of {n : Nat} {P : MH → Prop} {M : MH} (h : P M) : WkM n P M := ⟨M, .rfl, h⟩
theorem WkD.of {n : Nat} {P : D → MH → Prop} {d : D} {M : MH} (h : P d M) : WkD n P d M := ⟨M, .rfl, .inl rfl, h⟩
theorem WkL.of {n : Nat} {P : List D → MH → Prop} {d : List D} {M : MH} (h : P d M) : WkL n P d M := ⟨M, .rfl, .inl rfl, h⟩
theorem Wk.of {n : Nat} {P : DSt → MH → Prop} {ρ : DSt} {M : MH} (h : P ρ M) : Wk n P ρ M := ⟨ρ, M, .rfl, .rfl, .inl rfl, h⟩

/-- a new cell -/
def newD (M : MH) (o : MO) (Q : DQ) : Prop := Q (.ref M.length) (M ++ [some o])
@[simp] theorem newD_ {M : MH} {o : MO} {Q : DQ} : newD M o Q ↔ Q (.ref M.length) (M ++ [some o]) := Iff.rfl
/-- a list, a dict as a value: of what nobody writes to -/
def MO.frz : MO → D → Prop
  | .lst l, d => d = .lis l
  | .dic l, d => d = .dct (l.map (·.1)) (l.map (·.2))
  | _, _ => False
abbrev MkR := MH → MO → DQ → Prop
/-- a new list or dict that nobody will write to -/
def newZ : MkR := fun M o Q => ∃ d, o.frz d ∧ Q d M
@[simp] theorem newZ_lst {M : MH} {l : List D} {Q : DQ} : newZ M (.lst l) Q ↔ Q (.lis l) M := ⟨fun ⟨d, e, q⟩ => by cases (show d = .lis l from e); exact q, fun q => ⟨_, rfl, q⟩⟩
@[simp] theorem newZ_dic {M : MH} {l : List (Key × D)} {Q : DQ} : newZ M (.dic l) Q ↔ Q (.dct (l.map (·.1)) (l.map (·.2))) M := ⟨fun ⟨d, e, q⟩ => by cases (show d = .dct (l.map (·.1)) (l.map (·.2)) from e); exact q, fun q => ⟨_, rfl, q⟩⟩

/-! ### expressions -/
def dVar (i : Nat) : DE := fun ρ M _ Q => ∃ d, ρ[i]? = some (some d) ∧ Q d M
def dC (d : D) : DE := fun _ M _ Q => Q d M
abbrev RD2 := D → D → MH → DQ → Prop
abbrev RD1 := D → MH → DQ → Prop
def dOp (r : RD2) (a b : DE) : DE := fun ρ M E Q => a ρ M E fun x M1 => b ρ M1 E fun y M2 => r x y M2 Q
def dUn (r : RD1) (a : DE) : DE := fun ρ M E Q => a ρ M E fun x M1 => r x M1 Q
def dNil : DA := fun _ M _ Q => Q [] M
def dCons (a : DE) (r : DA) : DA := fun ρ M E Q => a ρ M E fun x M1 => r ρ M1 E fun xs M2 => Q (x :: xs) M2
def dTup (a : DA) : DE := fun ρ M E Q => a ρ M E fun xs M1 => xs.length ≤ sizeLine ∧ Q (.tup xs) M1
def dLst (mk : MkR) (a : DA) : DE := fun ρ M E Q => a ρ M E fun xs M1 => xs.length ≤ sizeLine ∧ mk M1 (.lst xs) Q
def dCall (r : SpD) (a : DA) : DE := fun ρ M E Q => a ρ M E fun xs M1 => r xs M1 E Q
abbrev BD := List D → MH → DQ → Prop
/-- a call of a built-in -/
def dCallB (r : BD) (a : DA) : DE := fun ρ M E Q => a ρ M E fun xs M1 => r xs M1 Q
def dTest (a : DE) : DT := fun ρ M E Q => a ρ M E fun x M1 => isB x fun k => Q k M1
def dAnd (t u : DT) : DT := fun ρ M E Q => t ρ M E fun c M1 => br c (u ρ M1 E Q) (Q false M1)
def dOr (t u : DT) : DT := fun ρ M E Q => t ρ M E fun c M1 => br c (Q true M1) (u ρ M1 E Q)
def dNot (t : DT) : DT := fun ρ M E Q => t ρ M E fun c M1 => Q (!c) M1
def dAndV (a b : DE) : DE := fun ρ M E Q => a ρ M E fun x M1 => isB x fun c => br c (b ρ M1 E Q) (Q (.bl false) M1)
def dOrV (a b : DE) : DE := fun ρ M E Q => a ρ M E fun x M1 => isB x fun c => br c (Q (.bl true) M1) (b ρ M1 E Q)
def dNotV (a : DE) : DE := fun ρ M E Q => a ρ M E fun x M1 => isB x fun c => Q (.bl (!c)) M1
def dIf (t : DT) (a b : DE) : DE := fun ρ M E Q => t ρ M E fun c M1 => br c (a ρ M1 E Q) (b ρ M1 E Q)
def dChain (r r' : RD2) (a b c : DE) : DE := fun ρ M E Q => a ρ M E fun x M1 => b ρ M1 E fun y M2 => r x y M2 fun z M3 => isB z fun k =>
  br k (c ρ M3 E fun u M4 => r' y u M4 Q) (Q (.bl false) M3)
/-- a list, a dict that nobody will write to from now on -/
def rFrz : RD1 := fun x M Q => ∃ k o d, x = .ref k ∧ M[k]? = some (some o) ∧ o.frz d ∧ Q d (M.set k none)

/-! ### operations by values -/
def rI (C : Int → Int → Prop) (g : Int → Int → D) : RD2 := fun x y M Q => ∃ i j, x = .int i ∧ y = .int j ∧ C i j ∧ Q (g i j) M
def rAdd : RD2 := rI (fun _ _ => True) fun i j => .int (i + j)
def rSub : RD2 := rI (fun _ _ => True) fun i j => .int (i - j)
def CMulD (i j : Int) : Prop := (i.natAbs < 2 ^ 64) ∨ (j.natAbs < 2 ^ 64)
def rMulI : RD2 := rI CMulD fun i j => .int (i * j)
def CDivD (_ j : Int) : Prop := 0 < j ∧ j < 2 ^ 400
def rDiv : RD2 := rI CDivD fun i j => .int (i / j)
def rMod : RD2 := rI (fun _ j => 0 < j) fun i j => .int (i % j)
def CPowD (i j : Int) : Prop := 0 ≤ j ∧ j ≤ 1000 ∧ i.natAbs < 2 ^ 64
def rPow : RD2 := rI CPowD fun i j => .int (i ^ j.toNat)
def rLt : RD2 := rI (fun _ _ => True) fun i j => .bl (decide (i < j))
def rLe : RD2 := rI (fun _ _ => True) fun i j => .bl (decide (i ≤ j))
def rGt : RD2 := rI (fun _ _ => True) fun i j => .bl (decide (j < i))
def rGe : RD2 := rI (fun _ _ => True) fun i j => .bl (decide (j ≤ i))
def rNeg : RD1 := fun x M Q => ∃ i, x = .int i ∧ Q (.int (-i)) M
def D.isN : D → Bool
  | .non => true
  | _ => false
def rIsN : RD1 := fun x M Q => Q (.bl x.isN) M
def rNotN : RD1 := fun x M Q => Q (.bl (!x.isN)) M

/-! ### data as a whole: what ==, repr see -/
mutual
def D.plain : D → Bool
  | .tup l => D.plains l
  | .lis l => D.plains l
  | .dct _ _ => false
  | .ref _ => false
  | _ => true
def D.plains : List D → Bool
  | [] => true
  | x :: r => x.plain && D.plains r
end
mutual
def D.py : D → PyData
  | .non => .none
  | .bl b => .bool b
  | .int i => .int i
  | .str x => .str x
  | .tup l => .tuple (D.pys l)
  | .lis l => .list (D.pys l)
  | .dct _ _ => .none
  | .ref _ => .none
def D.pys : List D → List PyData
  | [] => []
  | x :: r => x.py :: D.pys r
end
mutual
inductive Sees (M : MH) : D → PyData → Prop
  | non : Sees M .non .none
  | bl (b : Bool) : Sees M (.bl b) (.bool b)
  | int (i : Int) : Sees M (.int i) (.int i)
  | str (x : Str) : Sees M (.str x) (.str x)
  | tup {l : List D} {ps : List PyData} : SeesL M l ps → Sees M (.tup l) (.tuple ps)
  | lis {l : List D} {ps : List PyData} : SeesL M l ps → Sees M (.lis l) (.list ps)
  | lst {a : Nat} {l : List D} {ps : List PyData} : M[a]? = some (some (.lst l)) → SeesL M l ps → Sees M (.ref a) (.list ps)
inductive SeesL (M : MH) : List D → List PyData → Prop
  | nil : SeesL M [] []
  | cons {x : D} {l : List D} {p : PyData} {ps : List PyData} : Sees M x p → SeesL M l ps → SeesL M (x :: l) (p :: ps)
end
mutual
theorem Sees.py (M : MH) : ∀ x : D, x.plain = true → Sees M x x.py
  | .non, _ => .non
  | .bl b, _ => .bl b
  | .int i, _ => .int i
  | .str x, _ => .str x
  | .tup l, h => .tup (SeesL.pys M l h)
  | .lis l, h => .lis (SeesL.pys M l h)
  | .dct _ _, h => nomatch h
  | .ref _, h => nomatch h
theorem SeesL.pys (M : MH) : ∀ l : List D, D.plains l = true → SeesL M l (D.pys l)
  | [], _ => .nil
  | x :: r, h => by
    have h' : (x.plain && D.plains r) = true := h
    rw [Bool.and_eq_true] at h'
    exact .cons (Sees.py M x h'.1) (SeesL.pys M r h'.2)
end
def rEq : RD2 := fun x y M Q => ∃ p q, Sees M x p ∧ Sees M y q ∧ p.plain = true ∧ q.plain = true ∧ p.depth ≤ 60 ∧ Q (.bl (PyData.eqv p q)) M
def rNe : RD2 := fun x y M Q => ∃ p q, Sees M x p ∧ Sees M y q ∧ p.plain = true ∧ q.plain = true ∧ p.depth ≤ 60 ∧ Q (.bl (!PyData.eqv p q)) M
def cRepr : BD := fun ds M Q => ∃ x p, ds = [x] ∧ Sees M x p ∧ p.showable = true ∧ p.hasDict = false ∧ p.shown.length ≤ sizeLine ∧ p.depth ≤ 60 ∧ Q (.str p.shown) M

/-! ### sequences -/
def ixD (n : Nat) (i : Int) : Option Nat := if 0 ≤ i then (if i < n then some i.toNat else none) else (if 0 ≤ i + n then some (i + n).toNat else none)
/-- the items of a tuple, of a list -/
def seqD (M : MH) : D → Option (List D)
  | .tup l => some l
  | .lis l => some l
  | .ref k => match M[k]? with
    | some (some (.lst l)) => some l
    | _ => none
  | _ => none
def itemQ (l : List D) (a : Int) (M : MH) (Q : DQ) : Prop := ∃ j d, ixD l.length a = some j ∧ l[j]? = some d ∧ Q d M
def rIx : RD2 := fun x y M Q => ∃ l i, seqD M x = some l ∧ y = .int i ∧ itemQ l i M Q
def cutD {α : Type} (l : List α) (lo hi : Option Nat) : List α := (l.take (hi.getD l.length)).drop (lo.getD 0)
/-- x[lo:hi]; the ends are from 0 on -/
def rSl (mk : MkR) (x : D) (lo hi : Option Int) (M : MH) (Q : DQ) : Prop := (∀ i, lo = some i → 0 ≤ i) ∧ (∀ i, hi = some i → 0 ≤ i) ∧
  ((∃ l, x = .tup l ∧ Q (.tup (cutD l (lo.map Int.toNat) (hi.map Int.toNat))) M) ∨
   ∃ l, (∀ l', x ≠ .tup l') ∧ seqD M x = some l ∧ mk M (.lst (cutD l (lo.map Int.toNat) (hi.map Int.toNat))) Q)
abbrev DO := DSt → MH → XQ → (Option Int → MH → Prop) → Prop
def dNone : DO := fun _ M _ Q => Q none M
def dSome (a : DE) : DO := fun ρ M E Q => a ρ M E fun x M1 => asI x fun i => Q (some i) M1
def dSl (mk : MkR) (a : DE) (lo hi : DO) : DE := fun ρ M E Q => a ρ M E fun x M1 => lo ρ M1 E fun i M2 => hi ρ M2 E fun j M3 => rSl mk x i j M3 Q
def cLen : BD := fun ds M Q => as1 ds fun x => (∃ l, seqD M x = some l ∧ Q (.int l.length) M)
def cList (mk : MkR) : BD := fun ds M Q => as1 ds fun x => ∃ l, seqD M x = some l ∧ mk M (.lst l) Q
def cTuple : BD := fun ds M Q => as1 ds fun x => ∃ l, seqD M x = some l ∧ Q (.tup l) M
/-- +: of ints; tuples; lists; texts -/
def rPlus (mk : MkR) : RD2 := fun x y M Q =>
  match x, y with
  | .int i, .int j => Q (.int (i + j)) M
  | .tup l, .tup m => l.length + m.length ≤ sizeLine ∧ Q (.tup (l ++ m)) M
  | .str l, .str m => l.length + m.length ≤ sizeLine ∧ Q (.str (l ++ m)) M
  | x, y => ∃ l m, (∀ l', x ≠ .tup l') ∧ (∀ l', y ≠ .tup l') ∧ seqD M x = some l ∧ seqD M y = some m ∧ l.length + m.length ≤ sizeLine ∧ mk M (.lst (l ++ m)) Q
/-- *: of ints; a tuple and a small int -/
def rMul : RD2 := fun x y M Q =>
  match x, y with
  | .int i, .int j => CMulD i j ∧ Q (.int (i * j)) M
  | .tup l, .int k => l ≠ [] ∧ 2 ≤ k ∧ k ≤ 1000 ∧ l.length ≤ 1000 ∧ Q (.tup (List.replicate k.toNat l).flatten) M
  | _, _ => False
def rRev (mk : MkR) : RD1 := fun x M Q => (∃ l, x = .tup l ∧ Q (.tup l.reverse) M) ∨ ∃ l, (∀ l', x ≠ .tup l') ∧ seqD M x = some l ∧ mk M (.lst l.reverse) Q
/-- keys, dicts -/
def D.key : D → Option Key
  | .int i => some (.inl i)
  | .str s => some (.inr s)
  | _ => none
def kD : Key → D
  | .inl i => .int i
  | .inr s => .str s
def lookD {κ : Type} [DecidableEq κ] (l : List (κ × D)) (k : κ) : Option D := (l.find? fun p => decide (p.1 = k)).map (·.2)
/-- the pairs of a dict -/
def dicD (M : MH) : D → Option (List (Key × D))
  | .dct ks vs => some (ks.zip vs)
  | .ref k => match M[k]? with
    | some (some (.dic l)) => some l
    | _ => none
  | _ => none
def rItemD : RD2 := fun x y M Q => ∃ l k d, dicD M x = some l ∧ y.key = some k ∧ lookD l k = some d ∧ Q d M
/-- x[i] of a list, a tuple, a dict -/
def rItem : RD2 := fun x y M Q => rIx x y M Q ∨ rItemD x y M Q
def cIntB : BD := fun ds M Q => as1 ds fun x => (∃ i, x = .int i ∧ Q (.int i) M) ∨ ∃ k, x = .bl k ∧ Q (.int (if k then 1 else 0)) M
def cMax2 : BD := fun ds M Q => as2 ds fun x y => asI x fun i => asI y fun j => Q (.int (if j > i then j else i)) M
def cMin2 : BD := fun ds M Q => as2 ds fun x y => asI x fun i => asI y fun j => Q (.int (if j < i then j else i)) M
def cAbs : BD := fun ds M Q => as1 ds fun x => asI x fun i => Q (.int (if i < 0 then -i else i)) M

inductive Ty where
  | int | bool | str | tuple | list | dict
def Ty.nm : Ty → String
  | .int => "int"
  | .bool => "bool"
  | .str => "str"
  | .tuple => "tuple"
  | .list => "list"
  | .dict => "dict"
/-- isinstance of data -/
@[simp] def isTy (M : MH) (T : Ty) : D → Bool
  | .int _ => match T with | .int => true | _ => false
  | .bl _ => match T with | .int => true | .bool => true | _ => false
  | .str _ => match T with | .str => true | _ => false
  | .tup _ => match T with | .tuple => true | _ => false
  | .lis _ => match T with | .list => true | _ => false
  | .dct _ _ => match T with | .dict => true | _ => false
  | .ref k => match M[k]? with
    | some (some (.lst _)) => (match T with | .list => true | _ => false)
    | some (some (.dic _)) => (match T with | .dict => true | _ => false)
    | some (some (.dit _)) => (match T with | .dict => true | _ => false)
    | _ => false
  | .non => false
@[simp] def tyOk (M : MH) : D → Prop
  | .ref k => (∃ l, M[k]? = some (some (.lst l))) ∨ ∃ l, M[k]? = some (some (.dic l))
  | _ => True
def rIsi (T : Ty) : RD1 := fun x M Q => tyOk M x ∧ Q (.bl (isTy M T x)) M

/-! ### statements -/
def dNext : DS := fun E ρ M => E.nx ρ M
def dSeq (t u : DS) : DS := fun E ρ M => t { E with nx := u E } ρ M
/-- one after another, by what holds in between -/
def dCut (t u : DS) : DS := fun E ρ M => ∃ J : DSt → MH → Prop, t { E with nx := J } ρ M ∧ ∀ ρ' M', J ρ' M' → u E ρ' M'
theorem dCut_of {t u : DS} {E : DEnds} {ρ : DSt} {M : MH} (h : t { E with nx := u E } ρ M) : dCut t u E ρ M := ⟨u E, h, fun _ _ q => q⟩
def dBreak : DS := fun E ρ M => E.bk ρ M
def dCont : DS := fun E ρ M => E.ct ρ M
def dDrop (a : DE) : DS := fun E ρ M => a ρ M (xAt E ρ) fun _ M1 => E.nx ρ M1
def dRet (a : DE) : DS := fun E ρ M => a ρ M (xAt E ρ) E.rt
def dRetN : DS := fun E _ M => E.rt .non M
def dIfS (c : DT) (t u : DS) : DS := fun E ρ M => c ρ M (xAt E ρ) fun b M1 => br b (t E ρ M1) (u E ρ M1)
/-- targets: a name's slot, several targets -/
inductive Tg where
  | nm (i : Nat) | tp (l : List Tg)
mutual
def Tg.store : Tg → D → DSt → (DSt → Prop) → Prop
  | .nm i, d, ρ, Q => Q (ρ.set i (some d))
  | .tp ts, d, ρ, Q => ∃ l, d = .tup l ∧ l.length = ts.length ∧ Tg.stores ts l ρ Q
def Tg.stores : List Tg → List D → DSt → (DSt → Prop) → Prop
  | t :: ts, d :: ds, ρ, Q => t.store d ρ fun ρ' => Tg.stores ts ds ρ' Q
  | _, _, ρ, Q => Q ρ
end
def dAsg (a : DE) (g : Tg) : DS := fun E ρ M => a ρ M (xAt E ρ) fun x M1 => g.store x ρ fun ρ' => E.nx ρ' M1
/-- a, b = e1, e2 -/
def dPar (i j : Nat) (a : DA) : DS := fun E ρ M => a ρ M (xAt E ρ) fun ds M1 => as2 ds fun x y => E.nx ((ρ.set i (some x)).set j (some y)) M1
/-- o[i] = v: of a list, of a dict -/
def setQ (l : List D) (a : Int) (v : D) (Q : List D → Prop) : Prop := ∃ j, ixD l.length a = some j ∧ Q (l.set j v)
def putD {κ : Type} [DecidableEq κ] (l : List (κ × D)) (k : κ) (v : D) : List (κ × D) := if l.any (fun p => decide (p.1 = k)) then l.map (fun p => if p.1 = k then (p.1, v) else p) else l ++ [(k, v)]
def rSet (o i v : D) (M : MH) (Q : MH → Prop) : Prop := ∃ p, o = .ref p ∧
  ((∃ l k, M[p]? = some (some (.lst l)) ∧ i = .int k ∧ setQ l k v fun l' => Q (M.set p (some (.lst l')))) ∨
   (∃ l k, M[p]? = some (some (.dic l)) ∧ i.key = some k ∧ l.length < sizeLine ∧ Q (M.set p (some (.dic (putD l k v))))))
def dSetIx (e o i : DE) : DS := fun E ρ M => e ρ M (xAt E ρ) fun v M1 => o ρ M1 (xAt E ρ) fun x M2 => i ρ M2 (xAt E ρ) fun k M3 => rSet x k v M3 fun M4 => E.nx ρ M4
/-- x.append(e), x.extend(y) -/
def mAppend : D → BD := fun x ds M Q => ∃ a l d, x = .ref a ∧ ds = [d] ∧ M[a]? = some (some (.lst l)) ∧ l.length < sizeLine ∧ Q .non (M.set a (some (.lst (l ++ [d]))))
def mExtend : D → BD := fun x ds M Q => ∃ a l y m, x = .ref a ∧ ds = [y] ∧ M[a]? = some (some (.lst l)) ∧ seqD M y = some m ∧ (∀ l', y ≠ .tup l') ∧ l.length + m.length ≤ sizeLine ∧ Q .non (M.set a (some (.lst (l ++ m))))
def isLst (M : MH) (x : D) : Prop := ∃ a l, x = .ref a ∧ M[a]? = some (some (.lst l))
def dMeth (ty : MH → D → Prop) (r : D → BD) (o : DE) (a : DA) : DE := fun ρ M E Q => o ρ M E fun x M1 => ty M1 x ∧ a ρ M1 E fun ds M2 => r x ds M2 Q

/-! ### loops, comprehensions -/
/-- what a loop walks: its items, what must stay -/
abbrev DI := DSt → MH → XQ → (List D → (MH → Prop) → MH → Prop) → Prop
def seqI (x : D) (M : MH) (R : List D → (MH → Prop) → MH → Prop) : Prop :=
  match x with
  | .tup l => R l (fun _ => True) M
  | .lis l => R l (fun _ => True) M
  | .ref p => ∃ l, M[p]? = some (some (.lst l)) ∧ R l (fun M => M[p]? = some (some (.lst l))) M
  | _ => False
def iSeq (a : DE) : DI := fun ρ M E R => a ρ M E fun x M1 => seqI x M1 R
def rangeD (lo : Int) : Nat → List D
  | 0 => []
  | n + 1 => .int lo :: rangeD (lo + 1) n
def iRange1 (a : DA) : DI := fun ρ M E R => a ρ M E fun ds M1 => as1 ds fun x => asI x fun j => j < 2 ^ 62 ∧ -(2 ^ 62) ≤ j ∧ R (rangeD 0 j.toNat) (fun _ => True) M1
def iRange2 (a : DA) : DI := fun ρ M E R => a ρ M E fun ds M1 => as2 ds fun x y => asI x fun i => asI y fun j => (-(2 ^ 62) ≤ i ∧ i < 2 ^ 62 ∧ j < 2 ^ 62 ∧ -(2 ^ 62) ≤ j) ∧ R (rangeD i (j - i).toNat) (fun _ => True) M1
def enumD (k : Int) : List D → List D
  | [] => []
  | x :: r => .tup [.int k, x] :: enumD (k + 1) r
def enumI (x : D) (M : MH) (R : List D → (MH → Prop) → MH → Prop) : Prop := seqI x M fun l G M1 => R (enumD 0 l) G M1
def iEnum (a : DA) : DI := fun ρ M E R => a ρ M E fun ds M1 => as1 ds fun x => enumI x M1 R
def zipD (l m : List D) : List D := (l.zip m).map fun p => .tup [p.1, p.2]
def zipI (x y : D) (M : MH) (R : List D → (MH → Prop) → MH → Prop) : Prop := ∃ l m, x = .tup l ∧ y = .tup m ∧ R (zipD l m) (fun _ => True) M
def iZip (a : DA) : DI := fun ρ M E R => a ρ M E fun ds M1 => as2 ds fun x y => zipI x y M1 R
/-! ### forgetting -/
def lessS : DSt → DSt → Prop
  | none :: a, _ :: b => lessS a b
  | some x :: a, y :: b => some x = y ∧ lessS a b
  | [], [] => True
  | _, _ => False
def lessH : MH → MH → Prop
  | [], _ => True
  | none :: a, _ :: b => lessH a b
  | some o :: a, u :: b => (∃ v, u = some v ∧ LeO o v) ∧ lessH a b
  | _ :: _, [] => False
theorem less_of : ∀ {a b : DSt}, lessS a b → Less a b
  | [], [], _ => .rfl
  | none :: a, y :: b, h => by
    have ih := less_of (a := a) (b := b) h
    exact ⟨by simp [ih.1], fun i d e => by
      cases i with
      | zero => simp at e
      | succ i => simpa using ih.2 i d (by simpa using e)⟩
  | some x :: a, y :: b, h => by
    obtain ⟨e, h⟩ := h
    subst e
    have ih := less_of h
    exact ⟨by simp [ih.1], fun i d e => by
      cases i with
      | zero => simpa using e
      | succ i => simpa using ih.2 i d (by simpa using e)⟩
  | [], _ :: _, h => h.elim
  | some _ :: _, [], h => h.elim
  | none :: _, [], h => h.elim
theorem lessP_of : ∀ {a b : MH}, lessH a b → LessP a b
  | [], _, _ => fun i o e => by simp at e
  | none :: a, y :: b, h => fun i o e => by
    cases i with
    | zero => simp at e
    | succ i => simpa using lessP_of (a := a) (b := b) h i o (by simpa using e)
  | some x :: a, y :: b, ⟨⟨v, e1, e2⟩, h⟩ => fun i o e => by
    cases i with
    | zero => simp at e; subst e; subst e1; exact ⟨v, rfl, e2⟩
    | succ i => simpa using lessP_of h i o (by simpa using e)
  | none :: _, [], h => h.elim
  | some _ :: _, [], h => h.elim
@[simp] theorem leO_rfl {o : MO} : LeO o o ↔ True := iff_true_intro (.inl rfl)
theorem lessH_rfl : ∀ {a : MH}, lessH a a
  | [] => trivial
  | none :: a => lessH_rfl (a := a)
  | some o :: a => ⟨⟨o, rfl, .inl rfl⟩, lessH_rfl (a := a)⟩
@[simp] theorem lessH_self {a : MH} : lessH a a ↔ True := iff_true_intro lessH_rfl
theorem lessH_app' : ∀ {M a b : MH}, lessH a b → lessH (M ++ a) (M ++ b)
  | [], _, _, h => h
  | none :: M, _, _, h => lessH_app' (M := M) h
  | some o :: M, _, _, h => ⟨⟨o, rfl, .inl rfl⟩, lessH_app' (M := M) h⟩
@[simp] theorem lessH_app {M a b : MH} : lessH (M ++ a) (M ++ b) ↔ lessH a b := by
  refine ⟨fun h => ?_, lessH_app'⟩
  induction M with
  | nil => exact h
  | cons x M ih => cases x with
    | none => exact ih h
    | some o => exact ih h.2
@[simp] theorem lessH_pre {M b : MH} : lessH M (M ++ b) ↔ True := iff_true_intro (by have := lessH_app' (M := M) (a := []) (b := b) trivial; simpa using this)
/-- a typed state: its slots, its cells -/
def cutOk (n : Nat) (f : DSt) (m M' : MH) : Prop := m.length = M'.length ∨ (n ≤ m.length ∧ m.length ≤ M'.length ∧ belM m.length m = true ∧ belS m.length f = true)
def nxP {T : Type} (n : Nat) (P : T → Prop) (f : T → DSt) (m : T → MH) : DSt → MH → Prop := fun ρ' M' => ∃ t, lessS (f t) ρ' ∧ lessH (m t) M' ∧ cutOk n (f t) (m t) M' ∧ P t
theorem nxP.wk {T : Type} {n : Nat} {P : T → Prop} {f : T → DSt} {m : T → MH} {ρ : DSt} {M : MH} (h : nxP n P f m ρ M) : Wk n (fun ρ' M' => ∃ t, ρ' = f t ∧ M' = m t ∧ P t) ρ M := by
  obtain ⟨t, h1, h2, h3, h4⟩ := h
  refine ⟨f t, m t, less_of h1, ⟨lessP_of h2, ?_⟩, ?_, t, rfl, rfl, h4⟩
  · rcases h3 with h3 | ⟨h3, h5, h6, h7⟩
    · exact .inl h3
    · exact .inr ⟨h3, h5, h6⟩
  · exact h3.imp id fun h => h.2.2.2
/-- a turn's end -/
theorem nx_of {T : Type} {n : Nat} {P : T → Prop} {f : T → DSt} {m : T → MH} {ρ : DSt} {M : MH} {l : Later (nxP n P f m)} (t : T) (h4 : P t) (h1 : lessS (f t) ρ) (h2 : lessH (m t) M) (h3 : cutOk n (f t) (m t) M) : stop (nxP n P f m) l ρ M := ⟨t, h1, h2, h3, h4⟩
/-- a loop by a typed state that stands ahead of its turns; at a turn's end cells that are newer than the loop may be let go -/
def loopD (G : MH → Prop) (g : Tg) (tb : DS) (xs : List D) (E : DEnds) (ρ : DSt) (M : MH) : Prop :=
  ∃ (T : Type) (f : T → DSt) (m : T → MH) (J : Nat → T → Prop), nxP M.length (J 0) f m ρ M ∧ (∀ i x t, xs[i]? = some x → J i t → G (m t) ∧ g.store x (f t) fun ρ2 => tb { E with nx := stop (nxP M.length (J (i + 1)) f m) ⟨⟩, ct := stop (nxP M.length (J (i + 1)) f m) ⟨⟩, bk := E.nx } ρ2 (m t)) ∧ ∀ t, J xs.length t → G (m t) ∧ E.nx (f t) (m t)
/-- .. turn by turn -/
def nxI (n : Nat) (P : DSt → MH → Prop) : DSt → MH → Prop := nxP n (fun t : DSt × MH => P t.1 t.2) Prod.fst Prod.snd
def loopR (n : Nat) (G : MH → Prop) (g : Tg) (tb : DS) : List D → DEnds → DSt → MH → Prop
  | [], E, ρ, M => G M ∧ E.nx ρ M
  | x :: xs, E, ρ, M => G M ∧ g.store x ρ fun ρ1 => tb { E with nx := stop (nxI n (loopR n G g tb xs E)) ⟨⟩, ct := stop (nxI n (loopR n G g tb xs E)) ⟨⟩, bk := E.nx } ρ1 M
theorem lessS_rfl : ∀ {a : DSt}, lessS a a
  | [] => trivial
  | none :: a => lessS_rfl (a := a)
  | some _ :: a => ⟨rfl, lessS_rfl (a := a)⟩
@[simp] theorem lessS_self {a : DSt} : lessS a a ↔ True := iff_true_intro lessS_rfl
theorem loopD_of {G : MH → Prop} {g : Tg} {tb : DS} {xs : List D} {E : DEnds} {ρ : DSt} {M : MH} (h : loopR M.length G g tb xs E ρ M) : loopD G g tb xs E ρ M := by
  refine ⟨DSt × MH, Prod.fst, Prod.snd, fun i t => loopR M.length G g tb (xs.drop i) E t.1 t.2, ⟨(ρ, M), lessS_rfl, lessH_rfl, .inl rfl, h⟩, fun i x t e q => ?_, fun t q => ?_⟩
  · have hl := (List.getElem?_eq_some_iff.mp e).1
    dsimp only at q
    rw [List.drop_eq_getElem_cons hl] at q
    have : xs[i] = x := (List.getElem?_eq_some_iff.mp e).2
    rw [this] at q
    exact q
  · dsimp only at q; rw [List.drop_length] at q; exact q
def dFor (w : DI) (g : Tg) (tb : DS) : DS := fun E ρ M => w ρ M (xAt E ρ) fun xs G M1 => loopD G g tb xs E ρ M1
def wipeD (ρ : DSt) : List Nat → DSt
  | [] => ρ
  | v :: vs => (wipeD ρ vs).set v none
def tYesD : DT := fun _ M _ Q => Q true M
/-- the cells are as before, but for new ones that nothing names -/
def backM (M M3 : MH) : Prop := M3 = M ∨ ∃ L, M3 = M ++ L ∧ belM M.length M = true
def backD (M : MH) (y : D) (M3 : MH) : Prop := M3 = M ∨ ((∃ L, M3 = M ++ L ∧ belM M.length M = true) ∧ y.bel M.length = true)
/-- a comprehension: each item gives one, or none, as R tells; the cells stay -/
def compD (G : MH → Prop) (g : Tg) (tt : DT) (te : DE) (ρ : DSt) (xs : List D) (M : MH) (Q : List D → MH → Prop) : Prop :=
  G M ∧ ∃ R : Nat → D → Option D → Prop, (∀ i x, xs[i]? = some x → g.store x ρ fun ρ1 => tt ρ1 M noX fun b M2 => br b (te ρ1 M2 noX (stop (fun y M3 => backD M y M3 ∧ R i x (some y)) ⟨⟩)) (stop (backM M M2 ∧ R i x none) ⟨⟩)) ∧
    ∀ ys : List (Option D), ys.length = xs.length → (∀ (i : Nat) x y, xs[i]? = some x → ys[i]? = some y → R i x y) → Q (ys.filterMap id) M
def dLC (mk : MkR) (w : DI) (g : Tg) (tt : DT) (te : DE) (vs : List Nat) : DE := fun ρ M E Q => w ρ M E fun xs G M1 => xs.length ≤ sizeLine ∧ compD G g tt te (wipeD ρ vs) xs M1 fun acc M2 => mk M2 (.lst acc) Q
def dWhile (c : DT) (tb : DS) : DS := fun E ρ M => ∃ (T : Type) (f : T → DSt) (m : T → MH) (J : Nat → T → Prop), (∃ n, nxP M.length (J n) f m ρ M) ∧ ∀ n t, J n t →
  c (f t) (m t) (xAt E (f t)) fun b M2 => br b (tb { E with nx := stop (nxP M.length (fun t => ∃ k, k < n ∧ J k t) f m) ⟨⟩, ct := stop (nxP M.length (fun t => ∃ k, k < n ∧ J k t) f m) ⟨⟩, bk := E.nx } (f t) M2) (E.nx (f t) M2)
/-- x op= e of a name -/
def dAug (i : Nat) (r : RD2) (e : DE) : DS := fun E ρ M => dVar i ρ M (xAt E ρ) fun x _ => e ρ M (xAt E ρ) fun y M1 => r x y M1 fun z M2 => E.nx (ρ.set i (some z)) M2
/-- at a def's end what it made may be forgotten -/
def ends (n : Nat) (X : XQ) (Q : DQ) : DEnds := { nx := fun _ M => WkD n Q .non M, rt := fun d M => WkD n Q d M, ex := fun c fs _ M => WkL n (fun _ M' => X c fs M') (fs.map (·.2)) M }
def startD (n : Nat) (ds : List D) : DSt := ds.map some ++ List.replicate (n - ds.length) none

/-- a pen may be looked into -/
def Opens (M : MH) (B : MH → Prop) : Prop := B M ∨ ∃ p : Nat, M[p]? = some (some .pen) ∧ ∀ l, PenD l → B (M.set p (some (.lst l)))
/-- what is shown of a def: its promise sp by its body's reading t; k parameters, N slots -/
abbrev OkD (sp : SpD) (k N : Nat) (t : DS) : Prop := ∀ ds M X Q, sp ds M X Q → ds.length = k ∧ (belM M.length M = true → D.bels M.length ds = true → Opens M fun M' => t (ends M.length X Q) (startD N ds) M')
/-! ### instances, exceptions -/
def lookF (fs : Fs) (f : Str) : Option D := fs.lookup f
def insD (M : MH) : D → Option (Str × Fs)
  | .ref k => match M[k]? with
    | some (some (.ins c fs)) => some (c, fs)
    | _ => none
  | _ => none
def rAttr (cs : List Str) (f : Str) : RD1 := fun x M Q => ∃ c fs d, insD M x = some (c, fs) ∧ c ∈ cs ∧ lookF fs f = some d ∧ Q d M
def putA (f : Str) (v : D) : Fs → Fs
  | p :: r => if p.1 = f then (p.1, v) :: r else p :: putA f v r
  | [] => [(f, v)]
def rSetF (cs : List Str) (f : Str) (o v : D) (M : MH) (Q : MH → Prop) : Prop := ∃ k c fs, o = .ref k ∧ M[k]? = some (some (.ins c fs)) ∧ c ∈ cs ∧ fs.length < 900 ∧ Q (M.set k (some (.ins c (putA f v fs))))
def dSetF (cs : List Str) (f : Str) (e o : DE) : DS := fun E ρ M => e ρ M (xAt E ρ) fun v M1 => o ρ M1 (xAt E ρ) fun x M2 => rSetF cs f x v M2 fun M3 => E.nx ρ M3
/-- o.f op= e -/
def dAugF (cs : List Str) (f : Str) (r : RD2) (o e : DE) : DS := fun E ρ M => o ρ M (xAt E ρ) fun x M1 => ∃ c fs v, insD M1 x = some (c, fs) ∧ c ∈ cs ∧ lookF fs f = some v ∧ e ρ M1 (xAt E ρ) fun y M3 => r v y M3 fun z M4 => ∃ k fs', x = .ref k ∧ M4[k]? = some (some (.ins c fs')) ∧ fs'.length < 900 ∧ E.nx ρ (M4.set k (some (.ins c (putA f z fs'))))
/-- o.m(..): by the class of o -/
def dCallM (tbl : List (Str × SpD)) (m : Str) (o : DE) (a : DA) : DE := fun ρ M E Q => o ρ M E fun x M1 => ∃ c fs sp, insD M1 x = some (c, fs) ∧ tbl.lookup c = some sp ∧ lookF fs m = none ∧ a ρ M1 E fun ds M2 => sp (x :: ds) M2 E Q
/-- C(..) by its __init__ -/
def dNew (c : Str) (sp : SpD) (a : DA) : DE := fun ρ M E Q => a ρ M E fun ds M1 => sp (.ref M1.length :: ds) (M1 ++ [some (.ins c [])]) E fun d M2 => d = .non ∧ Q (.ref M1.length) M2
/-- raise C(..): the fields by the arguments -/
def dRaise (c : Str) (f : List Str) (a : DA) : DS := fun E ρ M => a ρ M (xAt E ρ) fun ds M1 => ds.length = f.length ∧ E.ex c (f.zip ds) ρ M1
/-- try: .. except C as e: .. ; e's slot -/
def setN (ρ : DSt) : Option Nat → DSt
  | some i => ρ.set i none
  | none => ρ
def sufE (E : DEnds) (i : Option Nat) : DEnds := { nx := fun ρ M => E.nx (setN ρ i) M, rt := E.rt, bk := fun ρ M => E.bk (setN ρ i) M, ct := fun ρ M => E.ct (setN ρ i) M }
def dTry (t : DS) (hs : List (Str × Option Nat × (Fs → DS))) : DS := fun E ρ M => t { E with ex := fun c fs ρ1 M1 => match hs.lookup c with | some u => u.2 fs (sufE E u.1) (setN ρ1 u.1) M1 | none => E.ex c fs ρ1 M1 } ρ M
def dXf (fs : Fs) (f : Str) : DE := fun _ M _ Q => ∃ d, lookF fs f = some d ∧ Q d M

theorem szl (n : Nat) (h : n ≤ 1000) : n ≤ sizeLine := by rw [sizeLine_eq]; omega
theorem szl' (n : Nat) (h : n ≤ 1000) : n < sizeLine := by rw [sizeLine_eq]; omega
end DM

/-! DM: evaluation over data by simp; helpers for promises. Plain Lean. -/
namespace DM
open PySem L2
section
variable {ρ : DSt} {M : MH} {E : XQ} {Q : DQ} {d e : D} {l m : List D} {i : Nat} {t : Tg} {ts : List Tg} {R : DSt → Prop}
@[simp ↓] theorem store_nm : Tg.store (.nm i) d ρ R ↔ R (ρ.set i (some d)) := by rw [Tg.store]
@[simp ↓] theorem store_tp : Tg.store (.tp ts) (.tup l) ρ R ↔ l.length = ts.length ∧ Tg.stores ts l ρ R := by
  rw [Tg.store]
  constructor
  · rintro ⟨m, e, h⟩; cases e; exact h
  · intro h; exact ⟨l, rfl, h⟩
@[simp ↓] theorem stores_cons : Tg.stores (t :: ts) (d :: l) ρ R ↔ Tg.store t d ρ fun ρ' => Tg.stores ts l ρ' R := by rw [Tg.stores]
@[simp ↓] theorem stores_nil : Tg.stores [] l ρ R ↔ R ρ := by
  rw [Tg.stores]
  intro _ _ _ _ h; cases h
@[simp ↓] theorem dVar_z : dVar 0 (some d :: ρ) M E Q ↔ Q d M := by simp [dVar]
@[simp ↓] theorem dVar_s {x : Option D} : dVar (i + 1) (x :: ρ) M E Q ↔ dVar i ρ M E Q := by simp [dVar]
end
/-! ### what simp opens -/
section
variable {ρ : DSt} {M : MH} {X : XQ} {Q : DQ} {d : D} {a b c : DE} {r r' : RD2} {r1 : RD1} {t u : DS} {T U : DT} {A : DA} {sp : SpD} {bd : BD} {E : DEnds} {R : List D → MH → Prop} {B : Bool → MH → Prop} {i j : Nat} {g : Tg} {mk : MkR}
@[simp ↓] theorem dC_ : dC d ρ M X Q ↔ Q d M := Iff.rfl
@[simp ↓] theorem dOp_ : dOp r a b ρ M X Q ↔ a ρ M X (hold (fun x M1 => b ρ M1 X (hold (fun y M2 => r x y M2 Q) ⟨⟩)) ⟨⟩) := Iff.rfl
@[simp ↓] theorem dUn_ : dUn r1 a ρ M X Q ↔ a ρ M X (hold (fun x M1 => r1 x M1 Q) ⟨⟩) := Iff.rfl
@[simp ↓] theorem dNil_ : dNil ρ M X R ↔ R [] M := Iff.rfl
@[simp ↓] theorem dCons_ : dCons a A ρ M X R ↔ a ρ M X (hold (fun x M1 => A ρ M1 X (hold (fun xs M2 => R (x :: xs) M2) ⟨⟩)) ⟨⟩) := Iff.rfl
@[simp ↓] theorem dTup_ : dTup A ρ M X Q ↔ A ρ M X (hold (fun xs M1 => xs.length ≤ sizeLine ∧ Q (.tup xs) M1) ⟨⟩) := Iff.rfl
@[simp ↓] theorem dLst_ : dLst mk A ρ M X Q ↔ A ρ M X (hold (fun xs M1 => xs.length ≤ sizeLine ∧ mk M1 (.lst xs) Q) ⟨⟩) := Iff.rfl
@[simp ↓] theorem dCall_ : dCall sp A ρ M X Q ↔ A ρ M X (hold (fun xs M1 => sp xs M1 X Q) ⟨⟩) := Iff.rfl
@[simp ↓] theorem dCallB_ : dCallB bd A ρ M X Q ↔ A ρ M X (hold (fun xs M1 => bd xs M1 Q) ⟨⟩) := Iff.rfl
@[simp ↓] theorem dTest_ : dTest a ρ M X B ↔ a ρ M X (hold (fun x M1 => isB x (hold (fun k => B k M1) ⟨⟩)) ⟨⟩) := Iff.rfl
@[simp ↓] theorem dAnd_ : dAnd T U ρ M X B ↔ T ρ M X (hold (fun c M1 => br c (U ρ M1 X B) (B false M1)) ⟨⟩) := Iff.rfl
@[simp ↓] theorem dOr_ : dOr T U ρ M X B ↔ T ρ M X (hold (fun c M1 => br c (B true M1) (U ρ M1 X B)) ⟨⟩) := Iff.rfl
@[simp ↓] theorem dNot_ : dNot T ρ M X B ↔ T ρ M X (hold (fun c M1 => B (!c) M1) ⟨⟩) := Iff.rfl
@[simp ↓] theorem dAndV_ : dAndV a b ρ M X Q ↔ a ρ M X (hold (fun x M1 => isB x (hold (fun c => br c (b ρ M1 X Q) (Q (.bl false) M1)) ⟨⟩)) ⟨⟩) := Iff.rfl
@[simp ↓] theorem dOrV_ : dOrV a b ρ M X Q ↔ a ρ M X (hold (fun x M1 => isB x (hold (fun c => br c (Q (.bl true) M1) (b ρ M1 X Q)) ⟨⟩)) ⟨⟩) := Iff.rfl
@[simp ↓] theorem dNotV_ : dNotV a ρ M X Q ↔ a ρ M X (hold (fun x M1 => isB x (hold (fun c => Q (.bl (!c)) M1) ⟨⟩)) ⟨⟩) := Iff.rfl
@[simp ↓] theorem dIf_ : dIf T a b ρ M X Q ↔ T ρ M X (hold (fun c M1 => br c (a ρ M1 X Q) (b ρ M1 X Q)) ⟨⟩) := Iff.rfl
@[simp ↓] theorem dChain_ : dChain r r' a b c ρ M X Q ↔ a ρ M X (hold (fun x M1 => b ρ M1 X (hold (fun y M2 => r x y M2 (hold (fun z M3 => isB z (hold (fun k => br k (c ρ M3 X (hold (fun u M4 => r' y u M4 Q) ⟨⟩)) (Q (.bl false) M3)) ⟨⟩)) ⟨⟩)) ⟨⟩)) ⟨⟩) := Iff.rfl
@[simp ↓] theorem dNext_ : dNext E ρ M ↔ E.nx ρ M := Iff.rfl
@[simp ↓] theorem dSeq_ : dSeq t u E ρ M ↔ t { E with nx := u E } ρ M := Iff.rfl
@[simp ↓] theorem dDrop_ : dDrop a E ρ M ↔ a ρ M (xAt E ρ) (hold (fun _ M1 => E.nx ρ M1) ⟨⟩) := Iff.rfl
@[simp ↓] theorem dRet_ : dRet a E ρ M ↔ a ρ M (xAt E ρ) (hold E.rt ⟨⟩) := Iff.rfl
@[simp ↓] theorem dRetN_ : dRetN E ρ M ↔ E.rt .non M := Iff.rfl
@[simp ↓] theorem dIfS_ : dIfS T t u E ρ M ↔ T ρ M (xAt E ρ) (hold (fun b M1 => br b (t E ρ M1) (u E ρ M1)) ⟨⟩) := Iff.rfl
@[simp ↓] theorem dAsg_ : dAsg a g E ρ M ↔ a ρ M (xAt E ρ) (hold (fun x M1 => g.store x ρ (hold (fun ρ' => E.nx ρ' M1) ⟨⟩)) ⟨⟩) := Iff.rfl
@[simp ↓] theorem dPar_ : dPar i j A E ρ M ↔ A ρ M (xAt E ρ) (hold (fun ds M1 => as2 ds (hold (fun x y => E.nx ((ρ.set i (some x)).set j (some y)) M1) ⟨⟩)) ⟨⟩) := Iff.rfl
theorem dCut_by {J : DSt → MH → Prop} (h : t { E with nx := stop J ⟨⟩ } ρ M) (h' : ∀ ρ' M', J ρ' M' → u E ρ' M') : dCut t u E ρ M := ⟨J, h, h'⟩
@[simp ↓] theorem dBreak_ : dBreak E ρ M ↔ E.bk ρ M := Iff.rfl
@[simp ↓] theorem dCont_ : dCont E ρ M ↔ E.ct ρ M := Iff.rfl
@[simp ↓] theorem dSetIx_ {e : DE} : dSetIx e a b E ρ M ↔ e ρ M (xAt E ρ) (hold (fun v M1 => a ρ M1 (xAt E ρ) (hold (fun x M2 => b ρ M2 (xAt E ρ) (hold (fun k M3 => rSet x k v M3 (hold (fun M4 => E.nx ρ M4) ⟨⟩)) ⟨⟩)) ⟨⟩)) ⟨⟩) := Iff.rfl
@[simp ↓] theorem dMeth_ {ty} {w} : dMeth ty w a A ρ M X Q ↔ a ρ M X (hold (fun x M1 => ty M1 x ∧ A ρ M1 X (hold (fun ds M2 => w x ds M2 Q) ⟨⟩)) ⟨⟩) := Iff.rfl
@[simp ↓] theorem dAug_ : dAug i r a E ρ M ↔ dVar i ρ M (xAt E ρ) (hold (fun x _ => a ρ M (xAt E ρ) (hold (fun y M1 => r x y M1 (hold (fun z M2 => E.nx (ρ.set i (some z)) M2) ⟨⟩)) ⟨⟩)) ⟨⟩) := Iff.rfl
@[simp ↓] theorem dSl_ {lo hi} : dSl mk a lo hi ρ M X Q ↔ a ρ M X (hold (fun x M1 => lo ρ M1 X (hold (fun i M2 => hi ρ M2 X (hold (fun j M3 => rSl mk x i j M3 Q) ⟨⟩)) ⟨⟩)) ⟨⟩) := Iff.rfl
@[simp ↓] theorem dNone_ {S : Option Int → MH → Prop} : dNone ρ M X S ↔ S none M := Iff.rfl
@[simp ↓] theorem dSome_ {S : Option Int → MH → Prop} : dSome a ρ M X S ↔ a ρ M X (hold (fun x M1 => asI x (hold (fun i => S (some i) M1) ⟨⟩)) ⟨⟩) := Iff.rfl
@[simp ↓] theorem tYesD_ : tYesD ρ M X B ↔ B true M := Iff.rfl
@[simp ↓] theorem ends_rt {n : Nat} : (ends n X Q).rt d M ↔ WkD n Q d M := Iff.rfl
@[simp ↓] theorem ends_nx {n : Nat} : (ends n X Q).nx ρ M ↔ WkD n Q .non M := Iff.rfl
@[simp ↓] theorem ends_ex {n : Nat} {c : Str} {fs : Fs} : (ends n X Q).ex c fs ρ M ↔ WkL n (fun _ M' => X c fs M') (fs.map (·.2)) M := Iff.rfl
@[simp] theorem startD_ {n : Nat} {ds : List D} : startD n ds = ds.map some ++ List.replicate (n - ds.length) none := rfl
@[simp ↓] theorem iRange1_ {Z : List D → (MH → Prop) → MH → Prop} : iRange1 A ρ M X Z ↔ A ρ M X (hold (fun ds M1 => as1 ds (hold (fun x => asI x (hold (fun j => j < 2 ^ 62 ∧ -(2 ^ 62) ≤ j ∧ Z (rangeD 0 j.toNat) (fun _ => True) M1) ⟨⟩)) ⟨⟩)) ⟨⟩) := Iff.rfl
@[simp ↓] theorem iRange2_ {Z : List D → (MH → Prop) → MH → Prop} : iRange2 A ρ M X Z ↔ A ρ M X (hold (fun ds M1 => as2 ds (hold (fun x y => asI x (hold (fun i => asI y (hold (fun j => (-(2 ^ 62) ≤ i ∧ i < 2 ^ 62 ∧ j < 2 ^ 62 ∧ -(2 ^ 62) ≤ j) ∧ Z (rangeD i (j - i).toNat) (fun _ => True) M1) ⟨⟩)) ⟨⟩)) ⟨⟩)) ⟨⟩) := Iff.rfl
@[simp ↓] theorem iSeq_ {Z : List D → (MH → Prop) → MH → Prop} : iSeq a ρ M X Z ↔ a ρ M X (hold (fun x M1 => seqI x M1 Z) ⟨⟩) := Iff.rfl
@[simp ↓] theorem iEnum_ {Z : List D → (MH → Prop) → MH → Prop} : iEnum A ρ M X Z ↔ A ρ M X (hold (fun ds M1 => as1 ds (hold (fun x => enumI x M1 Z) ⟨⟩)) ⟨⟩) := Iff.rfl
@[simp ↓] theorem iZip_ {Z : List D → (MH → Prop) → MH → Prop} : iZip A ρ M X Z ↔ A ρ M X (hold (fun ds M1 => as2 ds (hold (fun x y => zipI x y M1 Z) ⟨⟩)) ⟨⟩) := Iff.rfl
@[simp ↓] theorem dFor_ {w : DI} : dFor w g t E ρ M ↔ w ρ M (xAt E ρ) (hold (fun xs G M1 => loopD G g t xs E ρ M1) ⟨⟩) := Iff.rfl
@[simp ↓] theorem dLC_ {w : DI} {vs : List Nat} : dLC mk w g T a vs ρ M X Q ↔ w ρ M X (hold (fun xs G M1 => xs.length ≤ sizeLine ∧ compD G g T a (wipeD ρ vs) xs M1 (hold (fun acc M2 => mk M2 (.lst acc) Q) ⟨⟩)) ⟨⟩) := Iff.rfl
@[simp ↓] theorem dRaise_ {c : Str} {f : List Str} : dRaise c f A E ρ M ↔ A ρ M (xAt E ρ) (hold (fun ds M1 => ds.length = f.length ∧ E.ex c (f.zip ds) ρ M1) ⟨⟩) := Iff.rfl
@[simp ↓] theorem dTry_ {hs} : dTry t hs E ρ M ↔ t { E with ex := fun c fs ρ1 M1 => match hs.lookup c with | some u => u.2 fs (sufE E u.1) (setN ρ1 u.1) M1 | none => E.ex c fs ρ1 M1 } ρ M := Iff.rfl
@[simp ↓] theorem xAt_ {c : Str} {fs : Fs} : xAt E ρ c fs M ↔ E.ex c fs ρ M := Iff.rfl
@[simp] theorem noE_nx : (sufE E none).nx = E.nx := rfl
@[simp ↓] theorem dXf_ {fs : Fs} {f : Str} : dXf fs f ρ M X Q ↔ ∃ d, lookF fs f = some d ∧ Q d M := Iff.rfl
@[simp] theorem CPowD_ {i j : Int} : CPowD i j ↔ 0 ≤ j ∧ j ≤ 1000 ∧ i.natAbs < 2 ^ 64 := Iff.rfl
@[simp] theorem szle {n : Nat} (h : n ≤ 1000) : n ≤ sizeLine ↔ True := iff_true_intro (Nat.le_trans h (szl 1000 (by decide)))
@[simp] theorem szlt {n : Nat} (h : n < 1000) : n < sizeLine ↔ True := iff_true_intro (Nat.lt_of_lt_of_le h (szl 1000 (by decide)))
section
variable {M l : MH} {v : Option MO} {k : Nat}
@[simp] theorem get_len : (M ++ l)[M.length]? = l[0]? := by simp [List.getElem?_append_right]
@[simp] theorem get_lenk : (M ++ l)[M.length + k]? = l[k]? := by rw [List.getElem?_append_right (Nat.le_add_right _ _)]; simp
@[simp] theorem get_old {p : Nat} {x : Option MO} (h : M[p]? = some x) : (M ++ l)[p]? = some x := by
  rw [List.getElem?_append_left (List.getElem?_eq_some_iff.mp h).1, h]
@[simp] theorem set_len : (M ++ l).set M.length v = M ++ l.set 0 v := by simp [List.set_append_right]
@[simp] theorem set_lenk : (M ++ l).set (M.length + k) v = M ++ l.set k v := by rw [List.set_append_right (h := Nat.le_add_right _ _)]; simp
end
@[simp] theorem sl0 : (0 : Nat) ≤ sizeLine := szl 0 (by decide)
@[simp] theorem sl1 : (1 : Nat) ≤ sizeLine := szl 1 (by decide)
@[simp] theorem sl2 : (2 : Nat) ≤ sizeLine := szl 2 (by decide)
@[simp] theorem sl3 : (3 : Nat) ≤ sizeLine := szl 3 (by decide)
@[simp] theorem sl4 : (4 : Nat) ≤ sizeLine := szl 4 (by decide)
@[simp] theorem sl5 : (5 : Nat) ≤ sizeLine := szl 5 (by decide)
@[simp] theorem sl6 : (6 : Nat) ≤ sizeLine := szl 6 (by decide)
@[simp] theorem sl7 : (7 : Nat) ≤ sizeLine := szl 7 (by decide)
@[simp] theorem sl8 : (8 : Nat) ≤ sizeLine := szl 8 (by decide)
@[simp] theorem sl9 : (9 : Nat) ≤ sizeLine := szl 9 (by decide)
@[simp] theorem sl10 : (10 : Nat) ≤ sizeLine := szl 10 (by decide)
@[simp] theorem sl11 : (11 : Nat) ≤ sizeLine := szl 11 (by decide)
@[simp] theorem sl12 : (12 : Nat) ≤ sizeLine := szl 12 (by decide)
@[simp] theorem sl13 : (13 : Nat) ≤ sizeLine := szl 13 (by decide)
@[simp] theorem sl14 : (14 : Nat) ≤ sizeLine := szl 14 (by decide)
@[simp] theorem sl15 : (15 : Nat) ≤ sizeLine := szl 15 (by decide)
@[simp] theorem sl16 : (16 : Nat) ≤ sizeLine := szl 16 (by decide)
@[simp] theorem sl17 : (17 : Nat) ≤ sizeLine := szl 17 (by decide)
@[simp] theorem sl18 : (18 : Nat) ≤ sizeLine := szl 18 (by decide)
@[simp] theorem sl19 : (19 : Nat) ≤ sizeLine := szl 19 (by decide)
@[simp] theorem sl20 : (20 : Nat) ≤ sizeLine := szl 20 (by decide)
@[simp] theorem sl40 : (40 : Nat) ≤ sizeLine := szl 40 (by decide)
end
/-! ### == of plain data -/
mutual
theorem plain_py : ∀ d : D, d.plain = true → d.py.plain = true
  | .non, _ | .bl _, _ | .int _, _ | .str _, _ => rfl
  | .tup l, h => plains_py l h
  | .lis l, h => plains_py l h
  | .ref _, h => nomatch h
  | .dct _ _, h => nomatch h
theorem plains_py : ∀ l : List D, D.plains l = true → PyData.plainAll (D.pys l) = true
  | [], _ => rfl
  | x :: r, h => by
    have h' : (x.plain && D.plains r) = true := h
    rw [Bool.and_eq_true] at h'
    rw [D.pys, PyData.plainAll, plain_py x h'.1, plains_py r h'.2]; rfl
end
theorem rEq_of {x y : D} {M : MH} {Q : DQ} (hx : x.plain = true) (hy : y.plain = true) (nx : x.py.depth ≤ 60) (q : Q (.bl (PyData.eqv x.py y.py)) M) : rEq x y M Q :=
  ⟨_, _, .py M x hx, .py M y hy, plain_py x hx, plain_py y hy, nx, q⟩
theorem rNe_of {x y : D} {M : MH} {Q : DQ} (hx : x.plain = true) (hy : y.plain = true) (nx : x.py.depth ≤ 60) (q : Q (.bl (!PyData.eqv x.py y.py)) M) : rNe x y M Q :=
  ⟨_, _, .py M x hx, .py M y hy, plain_py x hx, plain_py y hy, nx, q⟩
theorem plain_ints : ∀ ns : List Int, D.plains (ns.map D.int) = true
  | [] => rfl
  | _ :: r => by rw [List.map_cons, D.plains, plain_ints r]; rfl
theorem dep_ints : ∀ ns : List Int, PyData.depthAll (D.pys (ns.map D.int)) = 0
  | [] => rfl
  | _ :: r => by rw [List.map_cons, D.pys, PyData.depthAll, dep_ints r]; rfl
/-! ### operations on ints, truths, texts, tuples -/
section
variable {M : MH} {Q : DQ} {a b : Int} {x y : Str} {k l' : Bool} {p : PyData} {d : D} {l m : List D} {n : Nat} {T : Ty} {mk : MkR}
@[simp] theorem rPlus_int : rPlus mk (.int a) (.int b) M Q ↔ Q (.int (a + b)) M := Iff.rfl
@[simp] theorem rPlus_tup : rPlus mk (.tup l) (.tup m) M Q ↔ (l.length + m.length ≤ sizeLine ∧ Q (.tup (l ++ m)) M) := Iff.rfl
@[simp] theorem rPlus_str : rPlus mk (.str x) (.str y) M Q ↔ (x.length + y.length ≤ sizeLine ∧ Q (.str (x ++ y)) M) := Iff.rfl
@[simp] theorem rPlus_lis : rPlus mk (.lis l) (.lis m) M Q ↔ (l.length + m.length ≤ sizeLine ∧ mk M (.lst (l ++ m)) Q) := by
  show (∃ a b, _) ↔ _
  constructor
  · rintro ⟨a, b, _, _, e, e', h⟩; cases e; cases e'; exact h
  · intro h; exact ⟨l, m, by simp, by simp, rfl, rfl, h⟩
@[simp] theorem rSub_int : rSub (.int a) (.int b) M Q ↔ Q (.int (a - b)) M := by simp [rSub, rI]
@[simp] theorem rAdd_int : rAdd (.int a) (.int b) M Q ↔ Q (.int (a + b)) M := by simp [rAdd, rI]
@[simp] theorem rMul_int : rMul (.int a) (.int b) M Q ↔ ((a.natAbs < 2 ^ 64 ∨ b.natAbs < 2 ^ 64) ∧ Q (.int (a * b)) M) := by simp [rMul, CMulD]
@[simp] theorem rMul_tup : rMul (.tup l) (.int a) M Q ↔ (l ≠ [] ∧ 2 ≤ a ∧ a ≤ 1000 ∧ l.length ≤ 1000 ∧ Q (.tup (List.replicate a.toNat l).flatten) M) := by simp [rMul]
@[simp] theorem rMulI_int : rMulI (.int a) (.int b) M Q ↔ ((a.natAbs < 2 ^ 64 ∨ b.natAbs < 2 ^ 64) ∧ Q (.int (a * b)) M) := by simp [rMulI, rI, CMulD]
@[simp] theorem rDiv_int : rDiv (.int a) (.int b) M Q ↔ (CDivD a b ∧ Q (.int (a / b)) M) := by simp [rDiv, rI]
@[simp] theorem rMod_int : rMod (.int a) (.int b) M Q ↔ (0 < b ∧ Q (.int (a % b)) M) := by simp [rMod, rI]
@[simp] theorem rPow_int : rPow (.int a) (.int b) M Q ↔ (CPowD a b ∧ Q (.int (a ^ b.toNat)) M) := by simp [rPow, rI]
@[simp] theorem rLt_int : rLt (.int a) (.int b) M Q ↔ Q (.bl (decide (a < b))) M := by simp [rLt, rI]
@[simp] theorem rLe_int : rLe (.int a) (.int b) M Q ↔ Q (.bl (decide (a ≤ b))) M := by simp [rLe, rI]
@[simp] theorem rGt_int : rGt (.int a) (.int b) M Q ↔ Q (.bl (decide (b < a))) M := by simp [rGt, rI]
@[simp] theorem rGe_int : rGe (.int a) (.int b) M Q ↔ Q (.bl (decide (b ≤ a))) M := by simp [rGe, rI]
@[simp] theorem rNeg_int : rNeg (.int a) M Q ↔ Q (.int (-a)) M := by simp [rNeg]
@[simp] theorem isN_non : D.isN .non = true := rfl
@[simp] theorem isN_int : D.isN (.int a) = false := rfl
@[simp] theorem isN_tup : D.isN (.tup l) = false := rfl
@[simp] theorem isN_lis : D.isN (.lis l) = false := rfl
@[simp] theorem isN_str : D.isN (.str x) = false := rfl
@[simp] theorem isN_bl : D.isN (.bl k) = false := rfl
@[simp] theorem isN_ref : D.isN (.ref n) = false := rfl
@[simp] theorem rIsN_ : rIsN d M Q ↔ Q (.bl d.isN) M := Iff.rfl
@[simp] theorem rNotN_ : rNotN d M Q ↔ Q (.bl (!d.isN)) M := Iff.rfl
theorem ixD_nat {i : Nat} (h : i < n) : ixD n (i : Int) = some i := by unfold ixD; simp [h]
@[simp] theorem ixD_0 : ixD (n + 1) 0 = some 0 := by unfold ixD; simp <;> omega
@[simp] theorem ixD_1 : ixD (n + 2) 1 = some 1 := by unfold ixD; simp <;> omega
@[simp] theorem ixD_2 : ixD (n + 3) 2 = some 2 := by unfold ixD; simp <;> omega
@[simp] theorem ixD_3 : ixD (n + 4) 3 = some 3 := by unfold ixD; simp <;> omega
@[simp] theorem ixD_m1 : ixD (n + 1) (-1) = some n := by unfold ixD; simp <;> omega
theorem itemQ_nat {j : Nat} (h : l[j]? = some d) : itemQ l (j : Int) M Q ↔ Q d M := by
  have hl := (List.getElem?_eq_some_iff.mp h).1
  constructor
  · rintro ⟨k, e, h1, h2, q⟩
    rw [ixD_nat hl] at h1; cases h1
    rw [h] at h2; cases h2; exact q
  · intro q; exact ⟨j, d, ixD_nat hl, h, q⟩
@[simp] theorem itemQ_0 : itemQ (d :: l) 0 M Q ↔ Q d M := itemQ_nat (j := 0) rfl
@[simp] theorem itemQ_1 {x0 : D} : itemQ (x0 :: d :: l) 1 M Q ↔ Q d M := itemQ_nat (j := 1) rfl
@[simp] theorem itemQ_2 {x0 x1 : D} : itemQ (x0 :: x1 :: d :: l) 2 M Q ↔ Q d M := itemQ_nat (j := 2) rfl
@[simp] theorem itemQ_3 {x0 x1 x2 : D} : itemQ (x0 :: x1 :: x2 :: d :: l) 3 M Q ↔ Q d M := itemQ_nat (j := 3) rfl
@[simp] theorem itemQ_4 {x0 x1 x2 x3 : D} : itemQ (x0 :: x1 :: x2 :: x3 :: d :: l) 4 M Q ↔ Q d M := itemQ_nat (j := 4) rfl
@[simp] theorem seqD_tup : seqD M (.tup l) = some l := rfl
@[simp] theorem seqD_lis : seqD M (.lis l) = some l := rfl
@[simp] theorem dicD_tup : dicD M (.tup l) = none := rfl
@[simp] theorem dicD_lis : dicD M (.lis l) = none := rfl
theorem seqD_at (h : M[n]? = some (some (.lst l))) : seqD M (.ref n) = some l := by unfold seqD; simp [h]
theorem dicD_at {l : List (Key × D)} (h : M[n]? = some (some (.dic l))) : dicD M (.ref n) = some l := by unfold dicD; simp [h]
theorem dicD_no (h : M[n]? = some (some (.lst l))) : dicD M (.ref n) = none := by unfold dicD; simp [h]
theorem seqD_no {l : List (Key × D)} (h : M[n]? = some (some (.dic l))) : seqD M (.ref n) = none := by unfold seqD; simp [h]
@[simp] theorem rItem_tup : rItem (.tup l) (.int a) M Q ↔ itemQ l a M Q := by simp [rItem, rIx, rItemD]
@[simp] theorem rItem_lis : rItem (.lis l) (.int a) M Q ↔ itemQ l a M Q := by simp [rItem, rIx, rItemD]
@[simp] theorem rItem_at (h : M[n]? = some (some (.lst l))) : rItem (.ref n) (.int a) M Q ↔ itemQ l a M Q := by simp [rItem, rIx, rItemD, seqD_at h, dicD_no h]
@[simp] theorem rItem_dic {l : List (Key × D)} (h : M[n]? = some (some (.dic l))) : rItem (.ref n) d M Q ↔ ∃ k e, d.key = some k ∧ lookD l k = some e ∧ Q e M := by
  simp only [rItem, rIx, rItemD, seqD_no h, dicD_at h]
  constructor
  · rintro (⟨_, _, e, _⟩ | ⟨m, k, e, e1, h1, h2, q⟩)
    · cases e
    · cases e1; exact ⟨k, e, h1, h2, q⟩
  · rintro ⟨k, e, h1, h2, q⟩; exact .inr ⟨_, k, e, rfl, h1, h2, q⟩
@[simp] theorem cLen_tup : cLen [.tup l] M Q ↔ Q (.int l.length) M := by simp [cLen]
@[simp] theorem cLen_lis : cLen [.lis l] M Q ↔ Q (.int l.length) M := by simp [cLen]
@[simp] theorem cLen_at (h : M[n]? = some (some (.lst l))) : cLen [.ref n] M Q ↔ Q (.int l.length) M := by simp [cLen, seqD_at h]
@[simp] theorem cTuple_tup : cTuple [.tup l] M Q ↔ Q (.tup l) M := by simp [cTuple]
@[simp] theorem cTuple_lis : cTuple [.lis l] M Q ↔ Q (.tup l) M := by simp [cTuple]
@[simp] theorem cTuple_at (h : M[n]? = some (some (.lst l))) : cTuple [.ref n] M Q ↔ Q (.tup l) M := by simp [cTuple, seqD_at h]
@[simp] theorem cList_tup : cList mk [.tup l] M Q ↔ mk M (.lst l) Q := by simp [cList]
@[simp] theorem cList_lis : cList mk [.lis l] M Q ↔ mk M (.lst l) Q := by simp [cList]
@[simp] theorem cList_at (h : M[n]? = some (some (.lst l))) : cList mk [.ref n] M Q ↔ mk M (.lst l) Q := by simp [cList, seqD_at h]
@[simp] theorem cIntB_int : cIntB [.int a] M Q ↔ Q (.int a) M := by simp [cIntB]
@[simp] theorem cIntB_bl : cIntB [.bl k] M Q ↔ Q (.int (if k then 1 else 0)) M := by cases k <;> simp [cIntB]
@[simp] theorem cMax2_int : cMax2 [.int a, .int b] M Q ↔ Q (.int (if b > a then b else a)) M := by simp [cMax2]
@[simp] theorem cMin2_int : cMin2 [.int a, .int b] M Q ↔ Q (.int (if b < a then b else a)) M := by simp [cMin2]
@[simp] theorem cAbs_int : cAbs [.int a] M Q ↔ Q (.int (if a < 0 then -a else a)) M := by simp [cAbs]
@[simp] theorem isLst_at (h : M[n]? = some (some (.lst l))) : isLst M (.ref n) ↔ True := iff_true_intro ⟨n, l, rfl, h⟩
@[simp] theorem mAppend_at (h : M[n]? = some (some (.lst l))) : mAppend (.ref n) [d] M Q ↔ l.length < sizeLine ∧ Q .non (M.set n (some (.lst (l ++ [d])))) := by simp [mAppend, h]
@[simp] theorem mExtend_at (h : M[n]? = some (some (.lst l))) : mExtend (.ref n) [.lis m] M Q ↔ l.length + m.length ≤ sizeLine ∧ Q .non (M.set n (some (.lst (l ++ m)))) := by simp [mExtend, h]
@[simp] theorem rFrz_at (h : M[n]? = some (some (.lst l))) : rFrz (.ref n) M Q ↔ Q (.lis l) (M.set n none) := by simp [rFrz, h, MO.frz]
theorem setQ_nat {j : Nat} {v : D} {P : List D → Prop} (h : j < l.length) : setQ l (j : Int) v P ↔ P (l.set j v) := by
  unfold setQ
  rw [ixD_nat h]
  simp
@[simp] theorem setQ_0 {x v : D} {P : List D → Prop} : setQ (x :: l) 0 v P ↔ P (v :: l) := setQ_nat (j := 0) (by simp)
@[simp] theorem setQ_1 {x y v : D} {P : List D → Prop} : setQ (x :: y :: l) 1 v P ↔ P (x :: v :: l) := setQ_nat (j := 1) (by simp)
@[simp] theorem setQ_2 {x y z v : D} {P : List D → Prop} : setQ (x :: y :: z :: l) 2 v P ↔ P (x :: y :: v :: l) := setQ_nat (j := 2) (by simp)
theorem rSet_at {v : D} {P : MH → Prop} (h : M[n]? = some (some (.lst l))) : rSet (.ref n) (.int a) v M P ↔ setQ l a v fun l' => P (M.set n (some (.lst l'))) := by simp [rSet, h]
theorem rSet_dic {v : D} {P : MH → Prop} {l : List (Key × D)} (h : M[n]? = some (some (.dic l))) : rSet (.ref n) d v M P ↔ ∃ k, d.key = some k ∧ l.length < sizeLine ∧ P (M.set n (some (.dic (putD l k v)))) := by simp [rSet, h]
@[simp] theorem rSl_tup {lo hi : Option Int} : rSl mk (.tup l) lo hi M Q ↔ (∀ i, lo = some i → 0 ≤ i) ∧ (∀ i, hi = some i → 0 ≤ i) ∧ Q (.tup (cutD l (lo.map Int.toNat) (hi.map Int.toNat))) M := by simp [rSl]
@[simp] theorem rSl_lis {lo hi : Option Int} : rSl mk (.lis l) lo hi M Q ↔ (∀ i, lo = some i → 0 ≤ i) ∧ (∀ i, hi = some i → 0 ≤ i) ∧ mk M (.lst (cutD l (lo.map Int.toNat) (hi.map Int.toNat))) Q := by simp [rSl]
@[simp ↓] theorem seqI_tup {R : List D → (MH → Prop) → MH → Prop} : seqI (.tup l) M R ↔ R l (fun _ => True) M := Iff.rfl
@[simp ↓] theorem seqI_lis {R : List D → (MH → Prop) → MH → Prop} : seqI (.lis l) M R ↔ R l (fun _ => True) M := Iff.rfl
theorem seqI_at {R : List D → (MH → Prop) → MH → Prop} (h : M[n]? = some (some (.lst l))) : seqI (.ref n) M R ↔ R l (fun M => M[n]? = some (some (.lst l))) M := by simp [seqI, h]
@[simp ↓] theorem enumI_ {R : List D → (MH → Prop) → MH → Prop} : enumI d M R ↔ seqI d M (hold (fun l G M1 => R (enumD 0 l) G M1) ⟨⟩) := Iff.rfl
@[simp ↓] theorem zipI_ {R : List D → (MH → Prop) → MH → Prop} : zipI (.tup l) (.tup m) M R ↔ R (zipD l m) (fun _ => True) M := by simp [zipI]
@[simp] theorem rIsi_ : rIsi T d M Q ↔ tyOk M d ∧ Q (.bl (isTy M T d)) M := Iff.rfl
@[simp] theorem sees_int : Sees M (.int a) p ↔ p = .int a := ⟨fun h => by cases h; rfl, fun h => h ▸ .int a⟩
@[simp] theorem sees_bl : Sees M (.bl k) p ↔ p = .bool k := ⟨fun h => by cases h; rfl, fun h => h ▸ .bl k⟩
@[simp] theorem sees_str : Sees M (.str x) p ↔ p = .str x := ⟨fun h => by cases h; rfl, fun h => h ▸ .str x⟩
@[simp] theorem sees_non : Sees M .non p ↔ p = .none := ⟨fun h => by cases h; rfl, fun h => h ▸ .non⟩
@[simp] theorem eq_int : rEq (.int a) (.int b) M Q ↔ Q (.bl (decide (a = b))) M := by
  constructor
  · rintro ⟨p, q, h1, h2, _, _, _, h⟩
    rw [sees_int] at h1 h2; subst h1; subst h2
    simpa [PyData.eqv, Bool.beq_eq_decide_eq] using h
  · intro q
    refine rEq_of rfl rfl (by simp [D.py, PyData.depth]) ?_
    simpa [D.py, PyData.eqv, Bool.beq_eq_decide_eq] using q
@[simp] theorem eq_bl : rEq (.bl k) (.bl l') M Q ↔ Q (.bl (k == l')) M := by
  constructor
  · rintro ⟨p, q, h1, h2, _, _, _, h⟩
    rw [sees_bl] at h1 h2; subst h1; subst h2
    simpa [PyData.eqv, Bool.beq_eq_decide_eq] using h
  · intro q
    refine rEq_of rfl rfl (by simp [D.py, PyData.depth]) ?_
    simpa [D.py, PyData.eqv, Bool.beq_eq_decide_eq] using q
@[simp] theorem eq_str : rEq (.str x) (.str y) M Q ↔ Q (.bl (x == y)) M := by
  constructor
  · rintro ⟨p, q, h1, h2, _, _, _, h⟩
    rw [sees_str] at h1 h2; subst h1; subst h2
    simpa [PyData.eqv, Bool.beq_eq_decide_eq] using h
  · intro q
    refine rEq_of rfl rfl (by simp [D.py, PyData.depth]) ?_
    simpa [D.py, PyData.eqv, Bool.beq_eq_decide_eq] using q
@[simp] theorem ne_int : rNe (.int a) (.int b) M Q ↔ Q (.bl (!(decide (a = b)))) M := by
  constructor
  · rintro ⟨p, q, h1, h2, _, _, _, h⟩
    rw [sees_int] at h1 h2; subst h1; subst h2
    simpa [PyData.eqv, Bool.beq_eq_decide_eq] using h
  · intro q
    refine rNe_of rfl rfl (by simp [D.py, PyData.depth]) ?_
    simpa [D.py, PyData.eqv, Bool.beq_eq_decide_eq] using q
@[simp] theorem ne_bl : rNe (.bl k) (.bl l') M Q ↔ Q (.bl (!(k == l'))) M := by
  constructor
  · rintro ⟨p, q, h1, h2, _, _, _, h⟩
    rw [sees_bl] at h1 h2; subst h1; subst h2
    simpa [PyData.eqv, Bool.beq_eq_decide_eq] using h
  · intro q
    refine rNe_of rfl rfl (by simp [D.py, PyData.depth]) ?_
    simpa [D.py, PyData.eqv, Bool.beq_eq_decide_eq] using q
@[simp] theorem ne_str : rNe (.str x) (.str y) M Q ↔ Q (.bl (!(x == y))) M := by
  constructor
  · rintro ⟨p, q, h1, h2, _, _, _, h⟩
    rw [sees_str] at h1 h2; subst h1; subst h2
    simpa [PyData.eqv, Bool.beq_eq_decide_eq] using h
  · intro q
    refine rNe_of rfl rfl (by simp [D.py, PyData.depth]) ?_
    simpa [D.py, PyData.eqv, Bool.beq_eq_decide_eq] using q
end
/-! ### repr of plain data -/
mutual
/-- what repr takes -/
def D.rok : D → Bool
  | .int i => decide (i.natAbs.log2 < 1920)
  | .str x => PyData.strOk x
  | .tup l | .lis l => D.roks l
  | .ref _ => false
  | .dct _ _ => false
  | _ => true
def D.roks : List D → Bool
  | [] => true
  | x :: r => x.rok && D.roks r
end
mutual
def D.wt : D → Nat
  | .str x => x.length + 1
  | .tup l | .lis l => D.wts l + 1
  | _ => 1
def D.wts : List D → Nat
  | [] => 0
  | x :: r => x.wt + D.wts r
end
theorem strOk_lt {x : Str} (h : PyData.strOk x = true) : ∀ c ∈ x.cps.toList, c < 16 ^ 8 := by
  have h0 : x.cps.all (· < 0x110000) = true := by simpa only [PyData.strOk] using h
  intro c hcm
  have := (Array.all_eq_true_iff_forall_mem.mp h0) c (Array.mem_toList_iff.mp hcm)
  have h1 : c < 0x110000 := by simpa using this
  exact Nat.lt_trans h1 (by decide)
mutual
theorem rok_all : ∀ d : D, d.rok = true → d.plain = true ∧ d.py.showable = true ∧ d.py.hasDict = false ∧ d.py.shown.length + 2 ≤ 1930 * d.wt
  | .non, _ => ⟨rfl, rfl, rfl, by decide⟩
  | .bl b, _ => ⟨rfl, rfl, rfl, by cases b <;> decide⟩
  | .int i, h => ⟨rfl, h, rfl, by
      have := PyProof.Rows.int_text_len_1921 (of_decide_eq_true h)
      show (Str.ofString (toString i)).length + 2 ≤ 1930 * 1
      omega⟩
  | .str x, h => ⟨rfl, rfl, rfl, by
      have := StrLaws.reprText_len x (strOk_lt h)
      show (reprText x).length + 2 ≤ 1930 * (x.length + 1)
      omega⟩
  | .tup l, h => by
    obtain ⟨a, b, c, e⟩ := roks_all l h
    refine ⟨a, b, c, ?_⟩
    have := tupleText_len_le (PyData.shownAll (D.pys l))
    rw [PyData.shownAll_length] at this
    show (tupleText (PyData.shownAll (D.pys l))).length + 2 ≤ 1930 * (D.wts l + 1)
    omega
  | .lis l, h => by
    obtain ⟨a, b, c, e⟩ := roks_all l h
    refine ⟨a, b, c, ?_⟩
    have := listText_len_le (PyData.shownAll (D.pys l))
    rw [PyData.shownAll_length] at this
    show (listText (PyData.shownAll (D.pys l))).length + 2 ≤ 1930 * (D.wts l + 1)
    omega
  | .ref _, h => nomatch h
  | .dct _ _, h => nomatch h
theorem roks_all : ∀ l : List D, D.roks l = true → D.plains l = true ∧ PyData.showableAll (D.pys l) = true ∧ PyData.hasDictAll (D.pys l) = false ∧ ((PyData.shownAll (D.pys l)).map (·.length)).sum + 2 * (D.pys l).length ≤ 1930 * D.wts l
  | [], _ => ⟨rfl, rfl, rfl, by decide⟩
  | x :: r, h => by
    have h' : (x.rok && D.roks r) = true := h
    rw [Bool.and_eq_true] at h'
    obtain ⟨a, b, c, e⟩ := rok_all x h'.1
    obtain ⟨a', b', c', e'⟩ := roks_all r h'.2
    refine ⟨by rw [D.plains, a, a']; rfl, by rw [D.pys, PyData.showableAll, b, b']; rfl, by rw [D.pys, PyData.hasDictAll, c, c']; rfl, ?_⟩
    simp only [D.pys, PyData.shownAll, D.wts, List.map_cons, List.sum_cons, List.length_cons]
    omega
end
theorem cRepr_of {d : D} {M : MH} {Q : DQ} (h : d.rok = true) (w : d.wt ≤ 8000) (k : d.py.depth ≤ 60) (q : Q (.str d.py.shown) M) : cRepr [d] M Q := by
  obtain ⟨a, b, c, e⟩ := rok_all d h
  exact ⟨d, d.py, rfl, .py M d a, b, c, by rw [sizeLine_eq]; omega, k, q⟩
end DM

/-! DM: draws, loops by a typed state, comprehensions, forgetting. Plain Lean. -/
namespace DM
open PySem L2
/-! ### the drawing defs: what they promise -/
def Wide (n : Int) : Prop := 0 < n ∧ n < 2 ^ 400
@[simp] theorem wide_of {n : Int} (h : 0 < n ∧ n < 2 ^ 200) : Wide n ↔ True := iff_true_intro ⟨h.1, Int.lt_trans h.2 (by exact of_decide_eq_true rfl)⟩
def pPen : SpD := fun ds M _ Q => ∃ ns : List Int, ds = [.lis (ns.map D.int)] ∧ Q (.ref M.length) (M ++ [some .pen])
/-- the pen, open: its parts -/
def penL (cs : List Int) (a l : Int) : List D := [.lis (cs.map D.int), .int a, .int l]
def pFresh : SpD := fun ds M _ Q => ∃ p cs a l, ds = [.ref p] ∧ M[p]? = some (some (.lst (penL cs a l))) ∧ 0 ≤ a ∧ ∀ n a' : Int, 0 ≤ n → 0 ≤ a' → Q (.int n) (M.set p (some (.lst (penL cs a' l))))
def pDraw : SpD := fun ds M _ Q => ∃ p many, ds = [.ref p, .int many] ∧ Wide many ∧ M[p]? = some (some .pen) ∧ ∀ d : Int, 0 ≤ d → d < many → Q (.int d) M
@[simp] theorem pen_ {ns : List Int} {M : MH} {X : XQ} {Q : DQ} : pPen [.lis (ns.map D.int)] M X Q ↔ Q (.ref M.length) (M ++ [some .pen]) := ⟨fun ⟨_, _, h⟩ => h, fun h => ⟨ns, rfl, h⟩⟩
@[simp] theorem draw_ {p : Nat} {many : Int} {M : MH} {X : XQ} {Q : DQ} : pDraw [.ref p, .int many] M X Q ↔ Wide many ∧ M[p]? = some (some .pen) ∧ ∀ d : Int, 0 ≤ d → d < many → Q (.int d) M := by
  constructor
  · rintro ⟨p', m', e, h⟩; cases e; exact h
  · intro h; exact ⟨p, many, rfl, h⟩
/-- a law's promise -/
def spLaw (n : Nat) : SpD := fun ds M _ Q => ∃ ns : List Int, ds = [.lis (ns.map D.int)] ∧ ns.length ≤ n ∧ M = [] ∧ ∀ M', Q (.bl true) M'
theorem stop1 {α : Sort _} {Q : α → Prop} {t : Later Q} {a : α} (h : Q a) : stop Q t a := h
theorem stop2 {α β : Sort _} {Q : α → β → Prop} {t : Later Q} {a : α} {b : β} (h : Q a b) : stop Q t a b := h
section
variable {n : Nat} {Q : DQ} {M : MH} {b c : Bool}
@[simp] theorem br_wand : br b (WkD n Q (.bl c) M) (WkD n Q (.bl false) M) ↔ WkD n Q (.bl (b && c)) M := by cases b <;> rfl
@[simp] theorem br_wor : br b (WkD n Q (.bl true) M) (WkD n Q (.bl c) M) ↔ WkD n Q (.bl (b || c)) M := by cases b <;> rfl
end
/-! ### loops -/
theorem rangeD_ln : ∀ (k : Nat) (lo : Int), (rangeD lo k).length = k
  | 0, _ => rfl
  | k + 1, lo => by rw [rangeD, List.length_cons, rangeD_ln k]
theorem rangeD_gt : ∀ (k : Nat) (lo : Int) (i : Nat), i < k → (rangeD lo k)[i]? = some (.int (lo + i))
  | 0, _, _, h => by omega
  | k + 1, lo, 0, _ => by simp [rangeD]
  | k + 1, lo, i + 1, h => by
    rw [rangeD, List.getElem?_cons_succ, rangeD_gt k (lo + 1) i (by omega)]
    congr 2
    push_cast
    omega
theorem rangeD_map (lo : Int) (k : Nat) : rangeD lo k = (List.range k).map fun i : Nat => D.int (lo + i) := by
  apply List.ext_getElem?
  intro i
  by_cases h : i < k
  · rw [rangeD_gt _ _ _ h]; simp [h]
  · rw [List.getElem?_eq_none (by rw [rangeD_ln]; omega), List.getElem?_eq_none (by simp; omega)]
section
variable {G : MH → Prop} {g : Tg} {tb : DS} {E : DEnds} {ρ : DSt} {M : MH}
/-- a turn's end -/
theorem nx_at {T : Type} {n : Nat} {P : T → Prop} {f : T → DSt} {m : T → MH} {ρ : DSt} {M : MH} {l : Later (nxP n P f m)} (t : T) (h1 : lessS (f t) ρ) (h4 : P t) (h2 : lessH (m t) M) (h3 : cutOk n (f t) (m t) M) : stop (nxP n P f m) l ρ M := ⟨t, h1, h2, h3, h4⟩
/-- over the items e x, x of l, by a typed state -/
theorem loop_st {α : Type} {l : List α} {e : α → D} {xs : List D} (hx : xs = l.map e) {T : Type} (f : T → DSt) (m : T → MH) (J : Nat → T → Prop) (start : nxP M.length (J 0) f m ρ M)
    (turn : ∀ (i : Nat) x t, l[i]? = some x → l.take (i + 1) = l.take i ++ [x] → J i t → G (m t) ∧ g.store (e x) (f t) fun ρ1 => tb { E with nx := stop (nxP M.length (J (i + 1)) f m) ⟨⟩, ct := stop (nxP M.length (J (i + 1)) f m) ⟨⟩, bk := E.nx } ρ1 (m t))
    (last : ∀ t, J l.length t → G (m t) ∧ E.nx (f t) (m t)) : loopD G g tb xs E ρ M := by
  subst hx
  refine ⟨T, f, m, J, start, fun i x t h q => ?_, fun t q => last t (by simpa using q)⟩
  rw [List.getElem?_map] at h
  cases el : l[i]? with
  | none => rw [el] at h; cases h
  | some y =>
    rw [el] at h; cases h
    exact turn i y t el (by rw [List.take_add_one, el]; rfl) q
/-- over range(lo, lo + n) -/
theorem loop_rng {n : Nat} {lo : Int} {T : Type} (f : T → DSt) (m : T → MH) (J : Nat → T → Prop) (start : nxP M.length (J 0) f m ρ M)
    (turn : ∀ (i : Nat) t, i < n → J i t → G (m t) ∧ g.store (.int (lo + i)) (f t) fun ρ1 => tb { E with nx := stop (nxP M.length (J (i + 1)) f m) ⟨⟩, ct := stop (nxP M.length (J (i + 1)) f m) ⟨⟩, bk := E.nx } ρ1 (m t))
    (last : ∀ t, J n t → G (m t) ∧ E.nx (f t) (m t)) : loopD G g tb (rangeD lo n) E ρ M :=
  loop_st (rangeD_map lo n) f m J start (fun i x t h _ q => by
    obtain ⟨h1, h2⟩ := List.getElem?_eq_some_iff.mp h
    simp at h1 h2
    subst h2
    exact turn i t h1 q) fun t q => last t (by simpa using q)
/-- a loop that carries nothing: the slots and the cells are the same ahead of each turn -/
theorem loop_same {α : Type} {l : List α} {e : α → D} {xs : List D} (hx : xs = l.map e) (f : DSt) (m : MH) (start : nxP M.length (fun _ : Unit => True) (fun _ => f) (fun _ => m) ρ M)
    (turn : ∀ (i : Nat) x, l[i]? = some x → G m ∧ g.store (e x) f fun ρ1 => tb { E with nx := stop (nxP M.length (fun _ : Unit => True) (fun _ => f) (fun _ => m)) ⟨⟩, ct := stop (nxP M.length (fun _ : Unit => True) (fun _ => f) (fun _ => m)) ⟨⟩, bk := E.nx } ρ1 m)
    (last : G m ∧ E.nx f m) : loopD G g tb xs E ρ M := loop_st hx (T := Unit) (fun _ => f) (fun _ => m) (fun _ _ => True) start (fun i x _ h _ _ => turn i x h) fun _ _ => last
end
theorem nxI_of {n : Nat} {P : DSt → MH → Prop} {l : Later (nxI n P)} {ρ : DSt} {M : MH} (h : P ρ M) : stop (nxI n P) l ρ M := ⟨(ρ, M), lessS_rfl, lessH_rfl, .inl rfl, h⟩
theorem WkL.of' {n : Nat} {P : List D → MH → Prop} {l : List D} {M : MH} (h : P l M) : WkL n P l M := .of h
@[simp] theorem enumD_nil {k : Int} : enumD k [] = [] := rfl
@[simp] theorem enumD_cons {k : Int} {x : D} {l : List D} : enumD k (x :: l) = .tup [.int k, x] :: enumD (k + 1) l := rfl
theorem plains_mem : ∀ {l : List D} {x : D}, D.plains l = true → x ∈ l → x.plain = true
  | y :: l, x, h, m => by
    rw [D.plains, Bool.and_eq_true] at h
    rcases List.mem_cons.mp m with e | m
    · rw [e]; exact h.1
    · exact plains_mem h.2 m
/-! ### comprehensions -/
section
variable {α : Type} {l : List α} {e : α → D} {xs : List D} {G : MH → Prop} {g : Tg} {tt : DT} {te : DE} {ρ : DSt} {M : MH} {Q : List D → MH → Prop}
/-- what an item gave -/
theorem back_ {y : D} : backD M y M := .inl rfl
theorem backM_ : backM M M := .inl rfl
theorem yes_of {P : Prop} {y : D} {M3 : MH} {R : D → Prop} {l : Later (fun y M3 => backD M y M3 ∧ R y)} (h : R y) (b : backD M y M3) : stop (fun y M3 => backD M y M3 ∧ R y) l y M3 := ⟨b, h⟩
/-- each item gives one, told by a relation -/
theorem comp_rel {β : Type} (hx : xs = l.map e) (enc : β → D) (P : Nat → α → β → Prop) (gl : G M)
    (turn : ∀ (i : Nat) x, l[i]? = some x → g.store (e x) ρ fun ρ1 => tt ρ1 M noX fun b M2 => br b (te ρ1 M2 noX (stop (fun y M3 => backD M y M3 ∧ (∃ a b, l[i]? = some a ∧ some y = some (enc b) ∧ P i a b)) ⟨⟩)) (stop (backM M M2 ∧ (∃ a b, l[i]? = some a ∧ (none : Option D) = some (enc b) ∧ P i a b)) ⟨⟩))
    (last : ∀ bs : List β, bs.length = l.length → (∀ (i : Nat) x b, l[i]? = some x → bs[i]? = some b → P i x b) → Q (bs.map enc) M) : compD G g tt te ρ xs M Q := by
  subst hx
  refine ⟨gl, fun i x y => ∃ a b, l[i]? = some a ∧ y = some (enc b) ∧ P i a b, fun i x h => ?_, fun ys hl h => ?_⟩
  · rw [List.getElem?_map] at h
    cases el : l[i]? with
    | none => rw [el] at h; cases h
    | some a =>
      rw [el] at h; cases h
      exact turn i a el
  · have : ∃ bs : List β, bs.length = l.length ∧ ys = bs.map (fun b => some (enc b)) ∧ ∀ (i : Nat) x b, l[i]? = some x → bs[i]? = some b → P i x b := by
      clear turn last
      have key : ∀ n ≤ ys.length, ∃ bs : List β, bs.length = n ∧ ys.take n = bs.map (fun b => some (enc b)) ∧ ∀ (i : Nat) x b, l[i]? = some x → bs[i]? = some b → P i x b := by
        intro n
        induction n with
        | zero => intro _; exact ⟨[], rfl, rfl, fun i x b _ h => by simp at h⟩
        | succ n ih =>
          intro hn
          obtain ⟨bs, h1, h2, h3⟩ := ih (by omega)
          have hy : ys[n]? = some ys[n] := List.getElem?_eq_getElem (by omega)
          have hln : n < l.length := by simp at hl; omega
          obtain ⟨a, b, ea, eb, hp⟩ := h n (e l[n]) ys[n] (by simp [hln]) hy
          refine ⟨bs ++ [b], by simp [h1], by rw [List.take_add_one, hy, h2, eb]; simp, fun i x b' hx hb => ?_⟩
          by_cases hi : i < n
          · rw [List.getElem?_append_left (by omega)] at hb; exact h3 i x b' hx hb
          · have : i = n := by
              have := (List.getElem?_eq_some_iff.mp hb).1
              simp at this; omega
            subst this
            rw [List.getElem?_append_right (by omega), h1] at hb
            simp at hb; subst hb
            rw [ea] at hx; cases hx
            exact hp
      obtain ⟨bs, h1, h2, h3⟩ := key ys.length (Nat.le_refl _)
      rw [List.take_length] at h2
      exact ⟨bs, by rw [h1, hl]; simp, h2, h3⟩
    obtain ⟨bs, h1, h2, h3⟩ := this
    subst h2
    have e1 : (bs.map fun b => some (enc b)).filterMap id = bs.map enc := by rw [List.filterMap_map]; simp [Function.comp_def, List.filterMap_eq_map']
    rw [e1]
    exact last bs h1 h3
/-- each item gives one, or none, by a function -/
theorem comp_fn (hx : xs = l.map e) (f : α → Option D) (gl : G M)
    (turn : ∀ (i : Nat) x, l[i]? = some x → g.store (e x) ρ fun ρ1 => tt ρ1 M noX fun b M2 => br b (te ρ1 M2 noX (stop (fun y M3 => backD M y M3 ∧ (∃ a, l[i]? = some a ∧ f a = some y)) ⟨⟩)) (stop (backM M M2 ∧ (∃ a, l[i]? = some a ∧ f a = none)) ⟨⟩))
    (last : Q (l.filterMap f) M) : compD G g tt te ρ xs M Q := by
  subst hx
  refine ⟨gl, fun i x y => ∃ a, l[i]? = some a ∧ f a = y, fun i x h => ?_, fun ys hl h => ?_⟩
  · rw [List.getElem?_map] at h
    cases el : l[i]? with
    | none => rw [el] at h; cases h
    | some a =>
      rw [el] at h; cases h
      exact turn i a el
  · have : ys = l.map f := by
      apply List.ext_getElem?
      intro i
      by_cases hi : i < l.length
      · have hy : i < ys.length := by rw [hl]; simpa using hi
        obtain ⟨a, ea, ef⟩ := h i (e l[i]) ys[i] (by simp [hi]) (List.getElem?_eq_getElem hy)
        rw [List.getElem?_eq_getElem hi] at ea; cases ea
        rw [List.getElem?_map, List.getElem?_eq_getElem hi, List.getElem?_eq_getElem hy, ← ef]; rfl
      · rw [List.getElem?_eq_none (by rw [hl]; simp; omega), List.getElem?_eq_none (by simp; omega)]
    subst this
    rw [List.filterMap_map]
    simpa [Function.comp_def] using last
end
end DM

/-! DM: equality of data, sizes for repr. Plain Lean. -/
namespace DM
open PySem L2
mutual
/-- no bool in it, nothing by address: == is sameness -/
def D.sharp : D → Bool
  | .non => true
  | .int _ => true
  | .str _ => true
  | .tup l => D.sharps l
  | .lis l => D.sharps l
  | _ => false
def D.sharps : List D → Bool
  | [] => true
  | x :: r => x.sharp && D.sharps r
end
mutual
theorem sharp_plain : ∀ x : D, x.sharp = true → x.plain = true
  | .non, _ => rfl
  | .int _, _ => rfl
  | .str _, _ => rfl
  | .tup l, h => sharps_plain l h
  | .lis l, h => sharps_plain l h
theorem sharps_plain : ∀ l : List D, D.sharps l = true → D.plains l = true
  | [], _ => rfl
  | x :: r, h => by
    rw [D.sharps, Bool.and_eq_true] at h
    rw [D.plains, sharp_plain x h.1, sharps_plain r h.2]; rfl
end
mutual
theorem eqv_sharp : ∀ x y : D, x.sharp = true → y.sharp = true → (PyData.eqv x.py y.py = true ↔ x = y)
  | .non, y, _, h => by cases y <;> simp [D.sharp] at h <;> simp [D.py, PyData.eqv]
  | .int i, y, _, h => by cases y <;> simp [D.sharp] at h <;> simp [D.py, PyData.eqv]
  | .str s, y, _, h => by cases y <;> simp [D.sharp] at h <;> simp [D.py, PyData.eqv]
  | .tup l, y, h, h' => by
    cases y with
    | tup m => simp [D.py, PyData.eqv, eqvs_sharp l m h h']
    | _ => simp [D.sharp] at h' <;> simp [D.py, PyData.eqv]
  | .lis l, y, h, h' => by
    cases y with
    | lis m => simp [D.py, PyData.eqv, eqvs_sharp l m h h']
    | _ => simp [D.sharp] at h' <;> simp [D.py, PyData.eqv]
theorem eqvs_sharp : ∀ l m : List D, D.sharps l = true → D.sharps m = true → (PyData.eqvAll (D.pys l) (D.pys m) = true ↔ l = m)
  | [], [], _, _ => by simp [D.pys, PyData.eqvAll]
  | [], _ :: _, _, _ => by simp [D.pys, PyData.eqvAll]
  | _ :: _, [], _, _ => by simp [D.pys, PyData.eqvAll]
  | x :: r, y :: m, h, h' => by
    rw [D.sharps, Bool.and_eq_true] at h h'
    simp [D.pys, PyData.eqvAll, eqv_sharp x y h.1 h'.1, eqvs_sharp r m h.2 h'.2]
end
/-- x == y -/
theorem rEq_sharp {x y : D} {M : MH} {Q : DQ} (hx : x.sharp = true) (hy : y.sharp = true) (k : x.py.depth ≤ 60) (q : ∀ b : Bool, (b = true ↔ x = y) → Q (.bl b) M) : rEq x y M Q :=
  rEq_of (sharp_plain x hx) (sharp_plain y hy) k (q _ (eqv_sharp x y hx hy))
theorem rNe_sharp {x y : D} {M : MH} {Q : DQ} (hx : x.sharp = true) (hy : y.sharp = true) (k : x.py.depth ≤ 60) (q : ∀ b : Bool, (b = true ↔ x ≠ y) → Q (.bl b) M) : rNe x y M Q :=
  rNe_of (sharp_plain x hx) (sharp_plain y hy) k (q _ (by have := eqv_sharp x y hx hy; cases h : PyData.eqv x.py y.py <;> simp_all))
theorem rNe_same {x y : D} {M : MH} {Q : DQ} (e : x = y) (hx : x.plain = true) (hk : x.py.depth ≤ 60) (q : Q (.bl false) M) : rNe x y M Q := by
  subst e
  refine rNe_of hx hx hk ?_
  rw [SeqAt.eqv_refl_plain _ (plain_py x hx)]
  exact q
theorem rEq_same {x y : D} {M : MH} {Q : DQ} (e : x = y) (hx : x.plain = true) (hk : x.py.depth ≤ 60) (q : Q (.bl true) M) : rEq x y M Q := by
  subst e
  refine rEq_of hx hx hk ?_
  rw [SeqAt.eqv_refl_plain _ (plain_py x hx)]
  exact q
/-- x == [], x == () -/
theorem eq_lnil {l : List D} {M : MH} {Q : DQ} (hx : D.plains l = true) (k : PyData.depthAll (D.pys l) ≤ 50) (q : Q (.bl l.isEmpty) M) : rEq (.lis l) (.lis []) M Q := by
  refine rEq_of hx rfl (by rw [D.py, PyData.depth]; omega) ?_
  cases l <;> simpa [D.py, D.pys, PyData.eqv, PyData.eqvAll] using q
theorem ne_tnil {l : List D} {M : MH} {Q : DQ} (hx : D.plains l = true) (k : PyData.depthAll (D.pys l) ≤ 50) (q : Q (.bl (!l.isEmpty)) M) : rNe (.tup l) (.tup []) M Q := by
  refine rNe_of hx rfl (by rw [D.py, PyData.depth]; omega) ?_
  cases l <;> simpa [D.py, D.pys, PyData.eqv, PyData.eqvAll] using q
theorem eq_tnil {l : List D} {M : MH} {Q : DQ} (hx : D.plains l = true) (k : PyData.depthAll (D.pys l) ≤ 50) (q : Q (.bl l.isEmpty) M) : rEq (.tup l) (.tup []) M Q := by
  refine rEq_of hx rfl (by rw [D.py, PyData.depth]; omega) ?_
  cases l <;> simpa [D.py, D.pys, PyData.eqv, PyData.eqvAll] using q
theorem item_all {l : List D} {i : Int} {M : MH} {Q : DQ} (h0 : 0 ≤ i) (h1 : i < l.length) (q : ∀ x ∈ l, Q x M) : itemQ l i M Q := by
  have e : i = ((i.toNat : Nat) : Int) := (Int.toNat_of_nonneg h0).symm
  have h : i.toNat < l.length := by omega
  rw [e, itemQ_nat (List.getElem?_eq_getElem h)]
  exact q _ (List.getElem_mem h)
theorem item_nth {l : List D} {i : Int} {M : MH} {Q : DQ} (h0 : 0 ≤ i) (h1 : i < l.length) (q : ∀ x, l[i.toNat]? = some x → Q x M) : itemQ l i M Q := by
  have e : i = ((i.toNat : Nat) : Int) := (Int.toNat_of_nonneg h0).symm
  have h : i.toNat < l.length := by omega
  rw [e, itemQ_nat (List.getElem?_eq_getElem h)]
  exact q _ (List.getElem?_eq_getElem h)
/-- ahead of the first turn -/
theorem nx_go {T : Type} {n : Nat} {P : T → Prop} {f : T → DSt} {m : T → MH} {ρ : DSt} {M : MH} (t : T) (h1 : lessS (f t) ρ) (h4 : P t) (h2 : lessH (m t) M) (h3 : cutOk n (f t) (m t) M) : nxP n P f m ρ M := ⟨t, h1, h2, h3, h4⟩
/-- the def's own cells are let go at its end -/
theorem WkD.cut {P : D → MH → Prop} {d : D} {M l : MH} (hb : belM M.length M = true) (hd : d.bel M.length = true) (h : P d M) : WkD M.length P d (M ++ l) := ⟨M, ⟨lessP_of (by simp), .inr ⟨Nat.le_refl _, by simp, hb⟩⟩, .inr hd, h⟩
theorem WkL.cut {P : List D → MH → Prop} {d : List D} {M l : MH} (hb : belM M.length M = true) (hd : D.bels M.length d = true) (h : P d M) : WkL M.length P d (M ++ l) := ⟨M, ⟨lessP_of (by simp), .inr ⟨Nat.le_refl _, by simp, hb⟩⟩, .inr hd, h⟩
/-! ### sizes -/
theorem rok_int {i : Int} (h : i.natAbs < 2 ^ 250) : D.rok (.int i) = true := by
  show decide (i.natAbs.log2 < 1920) = true
  refine decide_eq_true ?_
  by_cases z : i.natAbs = 0
  · rw [z]; decide
  · exact Nat.lt_of_lt_of_le ((Nat.log2_lt z).mpr h) (by decide)
theorem roks_map {α : Type} {f : α → D} : ∀ {l : List α}, (∀ x ∈ l, (f x).rok = true) → D.roks (l.map f) = true
  | [], _ => rfl
  | x :: r, h => by rw [List.map_cons, D.roks, h x (by simp), roks_map fun y hy => h y (by simp [hy])]; rfl
theorem wts_map {α : Type} {f : α → D} {c : Nat} : ∀ {l : List α}, (∀ x ∈ l, (f x).wt ≤ c) → D.wts (l.map f) ≤ c * l.length
  | [], _ => Nat.zero_le _
  | x :: r, h => by
    have h1 := h x (by simp)
    have h2 := wts_map (l := r) fun y hy => h y (by simp [hy])
    rw [List.map_cons, D.wts, List.length_cons, Nat.mul_add]
    omega
theorem dep_map {α : Type} {f : α → D} {c : Nat} : ∀ {l : List α}, (∀ x ∈ l, (f x).py.depth ≤ c) → PyData.depthAll (D.pys (l.map f)) ≤ c
  | [], _ => Nat.zero_le _
  | x :: r, h => by
    have h1 := h x (by simp)
    have h2 := dep_map (l := r) fun y hy => h y (by simp [hy])
    rw [List.map_cons, D.pys, PyData.depthAll]
    omega
theorem dep_tup {l : List D} {c : Nat} (h : PyData.depthAll (D.pys l) ≤ c) : (D.py (.tup l)).depth ≤ c + 1 := by
  rw [D.py, PyData.depth]; omega
theorem sharps_map {α : Type} {f : α → D} : ∀ {l : List α}, (∀ x ∈ l, (f x).sharp = true) → D.sharps (l.map f) = true
  | [], _ => rfl
  | x :: r, h => by rw [List.map_cons, D.sharps, h x (by simp), sharps_map fun y hy => h y (by simp [hy])]; rfl
theorem plains_map {α : Type} {f : α → D} : ∀ {l : List α}, (∀ x ∈ l, (f x).plain = true) → D.plains (l.map f) = true
  | [], _ => rfl
  | x :: r, h => by rw [List.map_cons, D.plains, h x (by simp), plains_map fun y hy => h y (by simp [hy])]; rfl
theorem bels_map {α : Type} {n : Nat} {f : α → D} : ∀ {l : List α}, (∀ x ∈ l, (f x).bel n = true) → D.bels n (l.map f) = true
  | [], _ => rfl
  | x :: r, h => by rw [List.map_cons, D.bels, h x (by simp), bels_map fun y hy => h y (by simp [hy])]; rfl
theorem zipD_map2 {α : Type} {f g : α → D} : ∀ l : List α, zipD (l.map f) (l.map g) = l.map fun x => .tup [f x, g x]
  | [] => rfl
  | x :: r => by
    have := zipD_map2 (f := f) (g := g) r
    simp [zipD] at this ⊢
    exact this
mutual
theorem rok_bel : ∀ (x : D) (n : Nat), x.rok = true → x.bel n = true
  | .non, _, _ => rfl
  | .bl _, _, _ => rfl
  | .int _, _, _ => rfl
  | .str _, _, _ => rfl
  | .tup l, n, h => roks_bel l n h
  | .lis l, n, h => roks_bel l n h
theorem roks_bel : ∀ (l : List D) (n : Nat), D.roks l = true → D.bels n l = true
  | [], _, _ => rfl
  | x :: r, n, h => by
    rw [D.roks, Bool.and_eq_true] at h
    rw [D.bels, rok_bel x n h.1, roks_bel r n h.2]; rfl
end
theorem wt_pos : ∀ x : D, 1 ≤ x.wt
  | .non => Nat.le_refl _
  | .bl _ => Nat.le_refl _
  | .int _ => Nat.le_refl _
  | .str _ => by rw [D.wt]; omega
  | .tup _ => by rw [D.wt]; omega
  | .lis _ => by rw [D.wt]; omega
  | .dct _ _ => by simp [D.wt]
  | .ref _ => by simp [D.wt]
theorem wts_len : ∀ l : List D, l.length ≤ D.wts l
  | [] => Nat.zero_le _
  | x :: r => by
    have := wt_pos x
    have := wts_len r
    rw [D.wts, List.length_cons]; omega
theorem cut_to {l : List D} {n : Nat} : cutD l none (some n) = l.take n := by simp [cutD]
theorem cut_from {l : List D} {n : Nat} : cutD l (some n) none = l.drop n := by simp [cutD]
/-! ### parts of what may be shown -/
theorem roks_app : ∀ {l m : List D}, D.roks (l ++ m) = (D.roks l && D.roks m)
  | [], m => by simp [D.roks]
  | x :: l, m => by rw [List.cons_append, D.roks, D.roks, roks_app, Bool.and_assoc]
theorem wts_app : ∀ {l m : List D}, D.wts (l ++ m) = D.wts l + D.wts m
  | [], m => by simp [D.wts]
  | x :: l, m => by rw [List.cons_append, D.wts, D.wts, wts_app]; omega
theorem dep_app : ∀ {l m : List D}, PyData.depthAll (D.pys (l ++ m)) = max (PyData.depthAll (D.pys l)) (PyData.depthAll (D.pys m))
  | [], m => by simp [D.pys, PyData.depthAll]
  | x :: l, m => by simp only [List.cons_append, D.pys, PyData.depthAll]; rw [dep_app]; omega
theorem split_at {l : List D} {i : Nat} {x : D} (h : l[i]? = some x) : l = l.take i ++ [x] ++ l.drop (i + 1) := by
  obtain ⟨h1, h2⟩ := List.getElem?_eq_some_iff.mp h
  rw [← h2]; simp
theorem rok_plain {x : D} (h : x.rok = true) : x.plain = true := (rok_all x h).1
end DM

/-! DM, the bridge: what the data and the cells are in the abstract heap of the layer below; liftings of readings. -/
namespace DM
open PySem PySem.Spec L2

/-! ### representation -/
/-- the cells with their addresses -/
structure MB where
  i : List Addr
  m : MH
/-- a list of the written part, as the boot leaves it -/
def SqK (K : PySem.W.Frag) (a : Addr) (xs : List V) : Prop := ∃ (its : Array Value) (n : Nat), K.lookup a = some { cls := .type "list", data := .seq its n } ∧ its.size ≤ sizeLine ∧ Vals xs its.toList
/-- a list that nobody writes to: locked, or written at the top -/
def SqF (K : PySem.W.Frag) (H : Hp) (a : Addr) (xs : List V) : Prop := (∃ o, H a = some (.frz o (.lst xs))) ∨ SqK K a xs
/-- a list that is read -/
def SqE (K : PySem.W.Frag) (H : Hp) (a : Addr) (xs : List V) : Prop := Rd H a (.lst xs) ∨ SqK K a xs
theorem SqF.e {K : PySem.W.Frag} {H : Hp} {a : Addr} {xs : List V} (h : SqF K H a xs) : SqE K H a xs := by
  rcases h with ⟨o, h⟩ | h
  · exact .inl (.inr ⟨o, h⟩)
  · exact .inr h
theorem SqE.l {K : PySem.W.Frag} {H : Hp} {a : Addr} {xs : List V} (h : SqE K H a xs) : SqL K H a xs := by
  rcases h with h | ⟨its, n, h1, h2, h3⟩
  · exact .inl h
  · exact .inr ⟨_, its, n, h1, rfl, rfl, rfl, h2, h3⟩
theorem SqE.at {X : Cx} {pins : List (Addr × Obj)} {σ : L2.St} {H : Hp} {s : Shared} {a : Addr} {xs : List V} (I : Inv X pins σ H s) (h : SqE X.K H a xs) : ∃ (its : List Value) (n : Nat), Vals xs its ∧ xs.length ≤ sizeLine ∧ s.heap.get? a = some { cls := .type "list", data := .seq its.toArray n } := by
  rcases h with h | ⟨its, n, h1, h2, h3⟩
  · obtain ⟨z, its, n, r, e⟩ := h.ok I.hok
    exact ⟨its, n, r, z, e⟩
  · have e := h3.length
    refine ⟨its.toList, n, h3, ?_, by simpa using I.kIn a _ h1⟩
    simp only [Array.length_toList] at e
    omega
section
variable (K : PySem.W.Frag) (M : MB) (H : Hp)
mutual
def Rep : D → V → Prop
  | .non, v => v = .non
  | .bl b, v => v = .bl b
  | .int i, v => v = .int i
  | .str s, v => v = .str s
  | .ref k, v => ∃ a, M.i[k]? = some a ∧ v = .ref a
  | .tup l, v => ∃ p vs, v = .ref p ∧ SqT K H p vs ∧ Reps l vs
  | .lis l, v => ∃ p vs, v = .ref p ∧ SqF K H p vs ∧ Reps l vs
  | .dct ks ds, v => ∃ p vs o, v = .ref p ∧ H p = some (.frz o (.dK (ks.zip vs))) ∧ ks.length = ds.length ∧ Reps ds vs
def Reps : List D → List V → Prop
  | [], vs => vs = []
  | d :: l, vs => ∃ v r, vs = v :: r ∧ Rep d v ∧ Reps l r
end
end
structure KeepT (K : PySem.W.Frag) (M : MB) (H : Hp) (M' : MB) (H' : Hp) : Prop where
  t : ∀ a xs, SqT K H a xs → SqT K H' a xs
  f : ∀ a xs, SqF K H a xs → SqF K H' a xs
  z : ∀ a o u, H a = some (.frz o u) → H' a = some (.frz o u)
  r : ∀ (k : Nat) a, M.i[k]? = some a → M'.i[k]? = some a
section
variable {K : PySem.W.Frag} {M M' : MB} {H H' : Hp}
theorem Reps.len : ∀ {l : List D} {vs : List V}, Reps K M H l vs → l.length = vs.length
  | [], _, h => by cases h; rfl
  | _ :: l, _, ⟨v, r, e, _, h⟩ => by subst e; simp [Reps.len h]
theorem Reps.get : ∀ {l : List D} {vs : List V} {j : Nat} {d : D}, Reps K M H l vs → l[j]? = some d → ∃ v, vs[j]? = some v ∧ Rep K M H d v
  | [], _, _, _, _, e => by simp at e
  | x :: l, _, 0, d, ⟨v, r, e, h1, _⟩, q => by subst e; simp at q; subst q; exact ⟨v, rfl, h1⟩
  | x :: l, _, j + 1, d, ⟨v, r, e, _, h2⟩, q => by
    subst e
    obtain ⟨u, h3, h4⟩ := Reps.get (j := j) h2 (by simpa using q)
    exact ⟨u, by simpa using h3, h4⟩
theorem Reps.getV : ∀ {l : List D} {vs : List V} {j : Nat} {v : V}, Reps K M H l vs → vs[j]? = some v → ∃ d, l[j]? = some d ∧ Rep K M H d v
  | [], _, _, _, h, e => by cases h; simp at e
  | x :: l, _, 0, w, ⟨v, r, e, h1, _⟩, q => by subst e; simp at q; subst q; exact ⟨x, rfl, h1⟩
  | x :: l, _, j + 1, w, ⟨v, r, e, _, h2⟩, q => by
    subst e
    obtain ⟨u, h3, h4⟩ := Reps.getV (j := j) h2 (by simpa using q)
    exact ⟨u, by simpa using h3, h4⟩
theorem Reps.app : ∀ {l m : List D} {vs ws : List V}, Reps K M H l vs → Reps K M H m ws → Reps K M H (l ++ m) (vs ++ ws)
  | [], _, _, _, h, g => by cases h; exact g
  | _ :: l, _, _, _, ⟨v, r, e, h1, h2⟩, g => by subst e; exact ⟨v, _, rfl, h1, Reps.app h2 g⟩
theorem Reps.take : ∀ {l : List D} {vs : List V} (n : Nat), Reps K M H l vs → Reps K M H (l.take n) (vs.take n)
  | [], _, n, h => by cases h; simp [Reps]
  | _ :: l, _, 0, _ => by simp [Reps]
  | _ :: l, _, n + 1, ⟨v, r, e, h1, h2⟩ => by subst e; exact ⟨v, _, rfl, h1, Reps.take n h2⟩
theorem Reps.drop : ∀ {l : List D} {vs : List V} (n : Nat), Reps K M H l vs → Reps K M H (l.drop n) (vs.drop n)
  | [], _, n, h => by cases h; simp [Reps]
  | _ :: l, _, 0, h => h
  | _ :: l, _, n + 1, ⟨v, r, e, h1, h2⟩ => by subst e; exact Reps.drop n h2
theorem Reps.set {d : D} {v : V} (q : Rep K M H d v) : ∀ {l : List D} {vs : List V} (j : Nat), Reps K M H l vs → Reps K M H (l.set j d) (vs.set j v)
  | [], _, _, h => by cases h; simp [Reps]
  | _ :: l, _, 0, ⟨w, r, e, h1, h2⟩ => by subst e; exact ⟨v, _, rfl, q, h2⟩
  | _ :: l, _, j + 1, ⟨w, r, e, h1, h2⟩ => by subst e; exact ⟨w, _, rfl, h1, Reps.set q j h2⟩
theorem Reps.one {d : D} {v : V} (q : Rep K M H d v) : Reps K M H [d] [v] := ⟨v, [], rfl, q, rfl⟩
theorem Reps.cons {d : D} {v : V} {l : List D} {vs : List V} (q : Rep K M H d v) (h : Reps K M H l vs) : Reps K M H (d :: l) (v :: vs) := ⟨v, vs, rfl, q, h⟩
theorem Reps.nil : Reps K M H [] [] := rfl
theorem Reps.rev : ∀ {l : List D} {vs : List V}, Reps K M H l vs → Reps K M H l.reverse vs.reverse
  | [], _, h => by cases h; exact Reps.nil
  | _ :: l, _, ⟨v, r, e, h1, h2⟩ => by subst e; rw [List.reverse_cons, List.reverse_cons]; exact Reps.app (Reps.rev h2) (Reps.one h1)
mutual
theorem Rep.mono (k : KeepT K M H M' H') : ∀ {d : D} {v : V}, Rep K M H d v → Rep K M' H' d v
  | .non, _, h => h
  | .bl _, _, h => h
  | .int _, _, h => h
  | .str _, _, h => h
  | .ref _, _, ⟨a, h, e⟩ => ⟨a, k.r _ _ h, e⟩
  | .tup l, _, ⟨p, vs, e, h1, h2⟩ => ⟨p, vs, e, k.t _ _ h1, Reps.mono k h2⟩
  | .lis l, _, ⟨p, vs, e, h1, h2⟩ => ⟨p, vs, e, k.f _ _ h1, Reps.mono k h2⟩
  | .dct ks l, _, ⟨p, vs, o, e, h1, hl, h2⟩ => ⟨p, vs, o, e, k.z _ _ _ h1, hl, Reps.mono k h2⟩
theorem Reps.mono (k : KeepT K M H M' H') : ∀ {l : List D} {vs : List V}, Reps K M H l vs → Reps K M' H' l vs
  | [], _, h => h
  | _ :: l, _, ⟨v, r, e, h1, h2⟩ => ⟨v, r, e, Rep.mono k h1, Reps.mono k h2⟩
end
end

def RepKV {κ : Type} (K : PySem.W.Frag) (M : MB) (H : Hp) : List (κ × D) → List (κ × V) → Prop
  | [], ks => ks = []
  | (k, d) :: l, ks => ∃ v r, ks = (k, v) :: r ∧ Rep K M H d v ∧ RepKV K M H l r
def RepF (K : PySem.W.Frag) (M : MB) (H : Hp) : Fs → List (Str × V) → Prop
  | [], ks => ks = []
  | (k, d) :: l, ks => ∃ v r, ks = (k, v) :: r ∧ Rep K M H d v ∧ RepF K M H l r
def RepO (K : PySem.W.Frag) (mg : Str → Option Value) (M : MB) (H : Hp) (a : Addr) : MO → Prop
  | .lst l => ∃ vs, H a = some (.lst vs) ∧ Reps K M H l vs
  | .dic l => ∃ ks, H a = some (.dK ks) ∧ RepKV K M H l ks
  | .ins c fs => ∃ C dx gs, mg c = some (.ref C) ∧ H a = some (.ins C dx gs) ∧ RepF K M H fs gs
  | .pen => ∃ l vs, PenD l ∧ H a = some (.lst vs) ∧ Reps K M H l vs
  | .dit l => ∃ ks, H a = some (.dT ks) ∧ RepKV K M H l ks
structure MR (K : PySem.W.Frag) (mg : Str → Option Value) (M : MB) (H : Hp) : Prop where
  len : M.m.length = M.i.length
  nd : M.i.Nodup
  tr : ∀ a ∈ M.i, H a ≠ none
  at_ : ∀ (k : Nat) a o, M.i[k]? = some a → M.m[k]? = some (some o) → RepO K mg M H a o
def Slots (K : PySem.W.Frag) (M : MB) (H : Hp) (ρ : DSt) (σ : St) : Prop := ρ.length = σ.length ∧ ∀ (i : Nat) d, ρ[i]? = some (some d) → ∃ v, σ[i]? = some (some v) ∧ Rep K M H d v
/-- from a moment to a later one -/
structure Ev (M : MB) (H : Hp) (M' : MB) (H' : Hp) : Prop where
  tup : ∀ a xs, H a = some (.tup xs) → H' a = some (.tup xs)
  frz : ∀ a o u, H a = some (.frz o u) → H' a = some (.frz o u)
  frame : ∀ a o, H a = some o → a ∉ M.i → H' a = some o
  pre : ∀ (k : Nat) a, M.i[k]? = some a → M'.i[k]? = some a
  dom : ∀ a, a ∈ M'.i → a ∉ M.i → H a = none
def MB.add (M : MB) (a : Addr) (o : MO) : MB := ⟨M.i ++ [a], M.m ++ [some o]⟩
def MB.put (M : MB) (k : Nat) (o : Option MO) : MB := ⟨M.i, M.m.set k o⟩
section
variable {K : PySem.W.Frag} {mg : Str → Option Value} {M M1 M2 M' : MB} {H H1 H2 H' : Hp} {ρ : DSt} {σ : St}
theorem RepKV.mono {κ : Type} (k : KeepT K M H M' H') : ∀ {l : List (κ × D)} {ks : List (κ × V)}, RepKV K M H l ks → RepKV K M' H' l ks
  | [], _, h => h
  | (_, _) :: l, _, ⟨v, r, e, h1, h2⟩ => ⟨v, r, e, h1.mono k, RepKV.mono k h2⟩
theorem RepF.mono (k : KeepT K M H M' H') : ∀ {l : Fs} {ks : List (Str × V)}, RepF K M H l ks → RepF K M' H' l ks
  | [], _, h => h
  | (_, _) :: l, _, ⟨v, r, e, h1, h2⟩ => ⟨v, r, e, h1.mono k, RepF.mono k h2⟩
theorem Ev.sq (e : Ev M H M' H') : KeepT K M H M' H' := ⟨fun a xs h => by
  rcases h with (h | ⟨o, h⟩) | h
  · exact .inl (.inl (e.tup _ _ h))
  · exact .inl (.inr ⟨o, e.frz _ _ _ h⟩)
  · exact .inr h, fun a xs h => by
  rcases h with ⟨o, g⟩ | g
  · exact .inl ⟨o, e.frz _ _ _ g⟩
  · exact .inr g, e.frz, e.pre⟩
theorem Ev.refl : Ev M H M H := ⟨fun _ _ h => h, fun _ _ _ h => h, fun _ _ h _ => h, fun _ _ h => h, fun _ h g => absurd h g⟩
theorem mem_pre (e : ∀ (k : Nat) a, M.i[k]? = some a → M'.i[k]? = some a) {a : Addr} (h : a ∈ M.i) : a ∈ M'.i := by
  obtain ⟨k, hk⟩ := List.mem_iff_getElem?.mp h
  exact List.mem_of_getElem? (e k a hk)
theorem Ev.trans (e : Ev M H M1 H1) (f : Ev M1 H1 M2 H2) : Ev M H M2 H2 where
  tup := fun a xs h => f.tup a xs (e.tup a xs h)
  frz := fun a o u h => f.frz a o u (e.frz a o u h)
  frame := fun a o h n => f.frame a o (e.frame a o h n) fun z => by
    have := e.dom a z n
    rw [h] at this; cases this
  pre := fun k a h => f.pre k a (e.pre k a h)
  dom := fun a n n2 => by
    by_cases q : a ∈ M1.i
    · exact e.dom a q n2
    · have := f.dom a n q
      cases r : H a with
      | none => rfl
      | some o => rw [e.frame a o r n2] at this; cases this
/-- cells are let go -/
def MB.less (M : MB) (M' : MH) : MB := ⟨M.i.take M'.length, M'⟩
theorem take_pre {M : MB} {n k : Nat} {a : Addr} (h : M.i[k]? = some a) (hk : k < n) : (M.i.take n)[k]? = some a := by rw [List.getElem?_take, if_pos hk]; exact h
theorem Ev.less {m : MH} (e : Ev M H M1 H1) (hn : M.i.length ≤ m.length) : Ev M H (M1.less m) H1 := ⟨e.tup, e.frz, e.frame, fun k a h => take_pre (e.pre k a h) (Nat.lt_of_lt_of_le (List.getElem?_eq_some_iff.mp h).1 hn), fun a h h' => e.dom a (List.mem_of_mem_take h) h'⟩
theorem pre_len (e : ∀ (k : Nat) a, M.i[k]? = some a → M'.i[k]? = some a) : M.i.length ≤ M'.i.length := by
  by_cases h : M.i.length = 0
  · omega
  · have h1 : M.i.length - 1 < M.i.length := by omega
    have := (List.getElem?_eq_some_iff.mp (e _ _ (List.getElem?_eq_getElem h1))).1
    omega
end
/-- how far a value reaches into the cells -/
theorem lt_of_get {α : Type} {l : List α} {k : Nat} {a : α} (h : l[k]? = some a) : k < l.length := (List.getElem?_eq_some_iff.mp h).1
section
variable {K : PySem.W.Frag} {mg : Str → Option Value} {M M1 M2 M' : MB} {H H1 H2 H' : Hp} {ρ : DSt} {σ : St}
theorem Rep.ev {d : D} {v : V} (h : Rep K M H d v) (e : Ev M H M' H') : Rep K M' H' d v := h.mono e.sq
theorem Reps.ev {l : List D} {vs : List V} (h : Reps K M H l vs) (e : Ev M H M' H') : Reps K M' H' l vs := h.mono e.sq
theorem RepF.ev {l : Fs} {vs : List (Str × V)} (h : RepF K M H l vs) (e : Ev M H M' H') : RepF K M' H' l vs := h.mono e.sq
theorem RepKV.ev {κ : Type} {l : List (κ × D)} {vs : List (κ × V)} (h : RepKV K M H l vs) (e : Ev M H M' H') : RepKV K M' H' l vs := h.mono e.sq
theorem Slots.ev (h : Slots K M H ρ σ) (e : Ev M H M' H') : Slots K M' H' ρ σ := ⟨h.1, fun i d q => by
  obtain ⟨v, h1, h2⟩ := h.2 i d q
  exact ⟨v, h1, h2.ev e⟩⟩
theorem Slots.set {i : Nat} {d : D} {v : V} (h : Slots K M H ρ σ) (r : Rep K M H d v) : Slots K M H (ρ.set i (some d)) (σ.set i (some v)) := by
  refine ⟨by simp [h.1], fun j x e => ?_⟩
  by_cases hj : i = j
  · subst hj
    by_cases hl : i < ρ.length
    · rw [List.getElem?_set_self hl] at e
      cases e
      exact ⟨v, by rw [List.getElem?_set_self (by rw [← h.1]; exact hl)], r⟩
    · rw [List.getElem?_eq_none (by simp; omega)] at e
      cases e
  · rw [List.getElem?_set_ne hj] at e
    obtain ⟨w, h1, h2⟩ := h.2 j x e
    exact ⟨w, by rw [List.getElem?_set_ne hj]; exact h1, h2⟩
theorem Slots.less {ρ' : DSt} (h : Slots K M H ρ σ) (l : Less ρ' ρ) : Slots K M H ρ' σ := ⟨l.1.trans h.1, fun i d e => h.2 i d (l.2 i d e)⟩
/-- the tracked addresses -/
theorem MR.mem {p : Addr} (R : MR K mg M H) (n : H p = none) : p ∉ M.i := fun h => R.tr p h n
theorem RepO.keep {a : Addr} {o : MO} (h : RepO K mg M H a o) (k : KeepT K M H M' H') (ha : ∀ u, H a = some u → H' a = some u) : RepO K mg M' H' a o := by
  cases o with
  | lst l => obtain ⟨vs, h1, h2⟩ := h; exact ⟨vs, ha _ h1, h2.mono k⟩
  | dic l => obtain ⟨vs, h1, h2⟩ := h; exact ⟨vs, ha _ h1, h2.mono k⟩
  | dit l => obtain ⟨vs, h1, h2⟩ := h; exact ⟨vs, ha _ h1, h2.mono k⟩
  | ins C fs => obtain ⟨C', dx, gs, h0, h1, h2⟩ := h; exact ⟨C', dx, gs, h0, ha _ h1, h2.mono k⟩
  | pen => obtain ⟨l, vs, h0, h1, h2⟩ := h; exact ⟨l, vs, h0, ha _ h1, h2.mono k⟩
/-- the heap grows by one object that is no cell -/
theorem Ev.new {p : Addr} {o : HO} (n : H p = none) : Ev M H M (upd H p o) :=
  ⟨fun a xs h => by rw [upd_ne (ne_of_none h n)]; exact h, fun a o u h => by rw [upd_ne (ne_of_none h n)]; exact h, fun a o h _ => by rw [upd_ne (ne_of_none h n)]; exact h, fun _ _ h => h, fun a h g => absurd h g⟩
theorem upd_some {p a : Addr} {o : HO} (h : H a ≠ none) : upd H p o a ≠ none := by
  unfold upd
  by_cases e : a = p
  · simp [e]
  · simp [e, h]
theorem MR.new {p : Addr} {o : HO} (h : MR K mg M H) (n : H p = none) : MR K mg M (upd H p o) := ⟨h.len, h.nd, fun a ha => upd_some (h.tr a ha), fun k a u e e' =>
  (h.at_ k a u e e').keep (Ev.new (M := M) (o := o) n).sq fun w q => by rw [upd_ne (ne_of_none q n)]; exact q⟩
theorem sq_new {p : Addr} {vs : List V} : SqT K (upd H p (.tup vs)) p vs := .inl (.inl upd_same)
/-- a new cell -/
theorem pre_add {p : Addr} {u : MO} (k : Nat) (a : Addr) (h : M.i[k]? = some a) : (M.add p u).i[k]? = some a := by
  show (M.i ++ [p])[k]? = some a
  rw [List.getElem?_append_left (lt_of_get h)]; exact h
theorem Ev.made {p : Addr} {o : HO} {u : MO} (n : H p = none) : Ev M H (M.add p u) (upd H p o) :=
  ⟨(Ev.new (M := M) (o := o) n).tup, (Ev.new (M := M) (o := o) n).frz, (Ev.new (M := M) (o := o) n).frame, pre_add, fun a h g => by
    have : a ∈ M.i ++ [p] := h
    rcases List.mem_append.mp this with h | h
    · exact absurd h g
    · rw [List.mem_singleton.mp h]; exact n⟩
/-- .. of what was tracked already -/
theorem Ev.join {p : Addr} {u : MO} (e : Ev M H M1 H1) (n : H p = none) (np : p ∉ M.i) : Ev M H (M1.add p u) H1 :=
  ⟨e.tup, e.frz, e.frame, fun k a h => pre_add k a (e.pre k a h), fun a h g => by
    have : a ∈ M1.i ++ [p] := h
    rcases List.mem_append.mp this with h | h
    · exact e.dom a h g
    · rw [List.mem_singleton.mp h]; exact n⟩
theorem get_last {α : Type} (l : List α) (x : α) : (l ++ [x])[l.length]? = some x := by simp
theorem MR.join {p : Addr} {u : MO} (h : MR K mg M H) (n : H p ≠ none) (np : p ∉ M.i) (r : RepO K mg (M.add p u) H p u) : MR K mg (M.add p u) H := by
  refine ⟨by simp [MB.add, h.len], List.nodup_append.mpr ⟨h.nd, by simp, fun a ha b hb => by rw [List.mem_singleton.mp hb]; exact fun z => np (z ▸ ha)⟩, fun a ha => ?_, fun k a o e e' => ?_⟩
  · have : a ∈ M.i ++ [p] := ha
    rcases List.mem_append.mp this with h' | h'
    · exact h.tr a h'
    · rw [List.mem_singleton.mp h']; exact n
  · have e : (M.i ++ [p])[k]? = some a := e
    have e' : (M.m ++ [some u])[k]? = some (some o) := e'
    by_cases hk : k < M.i.length
    · rw [List.getElem?_append_left hk] at e
      rw [List.getElem?_append_left (by rw [h.len]; exact hk)] at e'
      exact (h.at_ k a o e e').keep ⟨fun _ _ q => q, fun _ _ q => q, fun _ _ _ q => q, pre_add⟩ fun _ q => q
    · have hk' : k = M.i.length := by
        have := lt_of_get e; rw [List.length_append] at this; simp at this; omega
      subst hk'
      rw [get_last] at e; cases e
      rw [← h.len, get_last] at e'; cases e'
      exact r
theorem MR.made {p : Addr} {o : HO} {u : MO} (h : MR K mg M H) (n : H p = none) (r : RepO K mg (M.add p u) (upd H p o) p u) : MR K mg (M.add p u) (upd H p o) :=
  (h.new (o := o) n).join (by rw [upd_same]; simp) (h.mem n) r
theorem rep_last {p : Addr} {u : MO} (h : MR K mg M H) : Rep K (M.add p u) H' (.ref M.m.length) (.ref p) := ⟨p, by show (M.i ++ [p])[M.m.length]? = some p; rw [h.len, get_last], rfl⟩
/-- a cell is written -/
theorem Ev.put {a : Addr} {o : HO} {u : HO} {k : Nat} {v : Option MO} (q : M.i[k]? = some a) (e : H a = some o) (mu : Mut (some o)) : Ev M H (M.put k v) (upd H a u) where
  tup := fun b xs h => by
    have : b ≠ a := fun z => by subst z; rw [e] at h; cases h; exact mu
    rw [upd_ne this]; exact h
  frz := fun b o' u' h => by
    have : b ≠ a := fun z => by subst z; rw [e] at h; cases h; exact mu
    rw [upd_ne this]; exact h
  frame := fun b o' h n => by
    have : b ≠ a := fun z => by subst z; exact n (List.mem_of_getElem? q)
    rw [upd_ne this]; exact h
  pre := fun _ _ h => h
  dom := fun b n n2 => absurd n n2
theorem nd_ne {l : List Addr} (h : l.Nodup) {j k : Nat} {a b : Addr} (hj : l[j]? = some a) (hk : l[k]? = some b) (n : j ≠ k) : a ≠ b := fun z => by
  subst z
  obtain ⟨lj, ej⟩ := List.getElem?_eq_some_iff.mp hj
  obtain ⟨lk, ek⟩ := List.getElem?_eq_some_iff.mp hk
  exact n ((List.getElem_inj h).mp (ej.trans ek.symm))
theorem MR.put {a : Addr} {o : HO} {u : HO} {k : Nat} {v : MO} (h : MR K mg M H) (q : M.i[k]? = some a) (e : H a = some o) (mu : Mut (some o)) (r : RepO K mg (M.put k (some v)) (upd H a u) a v) : MR K mg (M.put k (some v)) (upd H a u) := by
  refine ⟨by simp [MB.put, h.len], h.nd, fun b hb => upd_some (h.tr b hb), fun j b x g g' => ?_⟩
  have g : M.i[j]? = some b := g
  have g' : (M.m.set k (some v))[j]? = some (some x) := g'
  by_cases z : k = j
  · subst z
    rw [q] at g; cases g
    rw [List.getElem?_set_self (by rw [h.len]; exact lt_of_get q)] at g'; cases g'
    exact r
  · rw [List.getElem?_set_ne z] at g'
    exact (h.at_ j b x g g').keep (Ev.put (M := M) (v := some v) (u := u) q e mu).sq fun w' q' => by rw [upd_ne (nd_ne h.nd g q (Ne.symm z))]; exact q'
/-- nothing more is told of a cell; it may be locked -/
theorem MR.lock {a : Addr} {o : HO} {u : HO} {k : Nat} (h : MR K mg M H) (q : M.i[k]? = some a) (e : H a = some o) (mu : Mut (some o)) : MR K mg (M.put k none) (upd H a u) := by
  refine ⟨by simp [MB.put, h.len], h.nd, fun b hb => upd_some (h.tr b hb), fun j b x g g' => ?_⟩
  have g : M.i[j]? = some b := g
  have g' : (M.m.set k none)[j]? = some (some x) := g'
  by_cases z : k = j
  · subst z
    rw [List.getElem?_set_self (by rw [h.len]; exact lt_of_get q)] at g'; cases g'
  · rw [List.getElem?_set_ne z] at g'
    exact (h.at_ j b x g g').keep (Ev.put (M := M) (v := none) (u := u) q e mu).sq fun w' q' => by rw [upd_ne (nd_ne h.nd g q (Ne.symm z))]; exact q'
theorem MR.get {k : Nat} {o : MO} (h : MR K mg M H) (e : M.m[k]? = some (some o)) : ∃ a, M.i[k]? = some a ∧ RepO K mg M H a o := by
  have : k < M.i.length := by rw [← h.len]; exact lt_of_get e
  exact ⟨M.i[k], List.getElem?_eq_getElem this, h.at_ k _ o (List.getElem?_eq_getElem this) e⟩
end
/-! ### values that do not reach beyond the first n cells -/
section
variable {K : PySem.W.Frag} {mg : Str → Option Value} {M M1 : MB} {H H1 : Hp} {m : MH}
mutual
theorem Rep.bel {n : Nat} (e : ∀ (k : Nat) a, k < n → M.i[k]? = some a → M1.i[k]? = some a) : ∀ {d : D} {v : V}, d.bel n = true → Rep K M H d v → Rep K M1 H d v
  | .non, _, _, h => h
  | .bl _, _, _, h => h
  | .int _, _, _, h => h
  | .str _, _, _, h => h
  | .ref k, _, b, ⟨a, h, q⟩ => ⟨a, e k a (by simpa [D.bel] using b) h, q⟩
  | .tup l, _, b, ⟨p, vs, q, h1, h2⟩ => ⟨p, vs, q, h1, Reps.bel e (by simpa [D.bel] using b) h2⟩
  | .lis l, _, b, ⟨p, vs, q, h1, h2⟩ => ⟨p, vs, q, h1, Reps.bel e (by simpa [D.bel] using b) h2⟩
  | .dct ks l, _, b, ⟨p, vs, o, q, h1, hl, h2⟩ => ⟨p, vs, o, q, h1, hl, Reps.bel e (by simpa [D.bel] using b) h2⟩
theorem Reps.bel {n : Nat} (e : ∀ (k : Nat) a, k < n → M.i[k]? = some a → M1.i[k]? = some a) : ∀ {l : List D} {vs : List V}, D.bels n l = true → Reps K M H l vs → Reps K M1 H l vs
  | [], _, _, h => h
  | x :: l, _, b, ⟨v, r, q, h1, h2⟩ => by
    rw [D.bels, Bool.and_eq_true] at b
    exact ⟨v, r, q, Rep.bel e b.1 h1, Reps.bel e b.2 h2⟩
end
theorem RepKV.bel {κ : Type} {n : Nat} (e : ∀ (k : Nat) a, k < n → M.i[k]? = some a → M1.i[k]? = some a) : ∀ {l : List (κ × D)} {vs : List (κ × V)}, D.bels n (l.map (·.2)) = true → RepKV K M H l vs → RepKV K M1 H l vs
  | [], _, _, h => h
  | (_, _) :: l, _, b, ⟨v, r, q, h1, h2⟩ => by
    rw [List.map_cons, D.bels, Bool.and_eq_true] at b
    exact ⟨v, r, q, h1.bel e b.1, RepKV.bel e b.2 h2⟩
theorem RepF.bel {n : Nat} (e : ∀ (k : Nat) a, k < n → M.i[k]? = some a → M1.i[k]? = some a) : ∀ {l : Fs} {vs : List (Str × V)}, D.bels n (l.map (·.2)) = true → RepF K M H l vs → RepF K M1 H l vs
  | [], _, _, h => h
  | (_, _) :: l, _, b, ⟨v, r, q, h1, h2⟩ => by
    rw [List.map_cons, D.bels, Bool.and_eq_true] at b
    exact ⟨v, r, q, h1.bel e b.1, RepF.bel e b.2 h2⟩
theorem penD_bel {l : List D} {n : Nat} (h : PenD l) : D.bels n l = true := by
  obtain ⟨cs, a, b, rfl, _⟩ := h
  have : ∀ cs : List Int, D.bels n (cs.map D.int) = true := fun cs => by
    induction cs with
    | nil => rfl
    | cons c cs ih => rw [List.map_cons, D.bels, ih]; rfl
  simp [D.bels, D.bel, this]
theorem RepO.bel {n : Nat} {a : Addr} {o : MO} (e : ∀ (k : Nat) a, k < n → M.i[k]? = some a → M1.i[k]? = some a) (b : o.bel n = true) (h : RepO K mg M H a o) : RepO K mg M1 H a o := by
  cases o with
  | lst l => obtain ⟨vs, h1, h2⟩ := h; exact ⟨vs, h1, h2.bel e b⟩
  | dic l => obtain ⟨vs, h1, h2⟩ := h; exact ⟨vs, h1, h2.bel e b⟩
  | dit l => obtain ⟨vs, h1, h2⟩ := h; exact ⟨vs, h1, h2.bel e b⟩
  | ins C fs => obtain ⟨C', dx, gs, h0, h1, h2⟩ := h; exact ⟨C', dx, gs, h0, h1, h2.bel e b⟩
  | pen => obtain ⟨l, vs, h0, h1, h2⟩ := h; exact ⟨l, vs, h0, h1, h2.bel e (penD_bel h0)⟩
theorem less_same (h : MR K mg M H) (e : m.length = M.m.length) : M.less m = ⟨M.i, m⟩ := by
  unfold MB.less; rw [e, h.len, List.take_length]
theorem belM_at {n : Nat} {m : MH} (h : belM n m = true) {k : Nat} {o : MO} (e : m[k]? = some (some o)) : o.bel n = true :=
  List.all_eq_true.mp h _ (List.mem_of_getElem? e)
theorem RepO.leO {a : Addr} {o u : MO} (h : RepO K mg M H a u) (l : LeO o u) : RepO K mg M H a o := by
  rcases l with e | ⟨e, l, e', p⟩
  · subst e; exact h
  · subst e; subst e'
    obtain ⟨vs, h1, h2⟩ := h
    exact ⟨l, vs, p, h1, h2⟩
theorem MR.less {n : Nat} (h : MR K mg M H) (s : LessM n m M.m) : MR K mg (M.less m) H := by
  obtain ⟨s, hl⟩ := s
  rcases hl with hl | ⟨h1, h2, hb⟩
  · rw [less_same h hl]
    exact ⟨hl.trans h.len, h.nd, h.tr, fun k a o e e' => by
      obtain ⟨u, g1, g2⟩ := s k o e'
      exact ((h.at_ k a u e g1).leO g2).keep ⟨fun _ _ q => q, fun _ _ q => q, fun _ _ _ q => q, fun _ _ q => q⟩ fun _ q => q⟩
  · refine ⟨by simp [MB.less]; rw [h.len] at h2; omega, h.nd.sublist (List.take_sublist _ _), fun a ha => h.tr a (List.mem_of_mem_take ha), fun k a o e e' => ?_⟩
    have e : (M.i.take m.length)[k]? = some a := e
    have e' : m[k]? = some (some o) := e'
    have ek : M.i[k]? = some a := by
      rw [List.getElem?_take] at e
      split at e
      · exact e
      · cases e
    obtain ⟨u, g1, g2⟩ := s k o e'
    exact ((h.at_ k a u ek g1).leO g2).bel (fun j b hj q => take_pre q hj) (belM_at hb e')
theorem Rep.less {d : D} {v : V} (h : Rep K M H d v) (R : MR K mg M H) (s : m.length = M.m.length ∨ d.bel m.length = true) : Rep K (M.less m) H d v := by
  rcases s with s | s
  · rw [less_same R s]; exact (Rep.mono (M := M) (M' := ⟨M.i, m⟩) ⟨fun _ _ q => q, fun _ _ q => q, fun _ _ _ q => q, fun _ _ q => q⟩ h)
  · exact h.bel (fun j b hj q => take_pre q hj) s
theorem Reps.less {d : List D} {v : List V} (h : Reps K M H d v) (R : MR K mg M H) (s : m.length = M.m.length ∨ D.bels m.length d = true) : Reps K (M.less m) H d v := by
  rcases s with s | s
  · rw [less_same R s]; exact (Reps.mono (M := M) (M' := ⟨M.i, m⟩) ⟨fun _ _ q => q, fun _ _ q => q, fun _ _ _ q => q, fun _ _ q => q⟩ h)
  · exact h.bel (fun j b hj q => take_pre q hj) s
theorem Slots.cut {ρ ρ' : DSt} {σ : St} (h : Slots K M H ρ σ) (R : MR K mg M H) (l : Less ρ' ρ) (s : m.length = M.m.length ∨ belS m.length ρ' = true) : Slots K (M.less m) H ρ' σ := by
  refine ⟨(h.less l).1, fun i d e => ?_⟩
  obtain ⟨v, h1, h2⟩ := (h.less l).2 i d e
  refine ⟨v, h1, h2.less R (s.imp id fun b => ?_)⟩
  exact List.all_eq_true.mp b _ (List.mem_of_getElem? e)
/-- what is below holds from the start: values that are there name cells that are there -/
theorem LessM.ge {n : Nat} {M' : MH} (s : LessM n m M') (h : n ≤ M'.length) : n ≤ m.length := by
  rcases s.2 with e | ⟨e, _⟩
  · omega
  · exact e
mutual
theorem Rep.is_bel : ∀ {d : D} {v : V}, Rep K M H d v → d.bel M.i.length = true
  | .non, _, _ => rfl
  | .bl _, _, _ => rfl
  | .int _, _, _ => rfl
  | .str _, _, _ => rfl
  | .ref k, _, ⟨a, h, q⟩ => by simpa [D.bel] using lt_of_get h
  | .tup l, _, ⟨p, vs, q, h1, h2⟩ => Reps.is_bel h2
  | .lis l, _, ⟨p, vs, q, h1, h2⟩ => Reps.is_bel h2
  | .dct ks l, _, ⟨p, vs, o, q, h1, hl, h2⟩ => Reps.is_bel h2
theorem Reps.is_bel : ∀ {l : List D} {vs : List V}, Reps K M H l vs → D.bels M.i.length l = true
  | [], _, h => rfl
  | x :: l, _, ⟨v, r, q, h1, h2⟩ => by rw [D.bels, Rep.is_bel h1, Reps.is_bel h2]; rfl
end
theorem RepKV.is_bel {κ : Type} : ∀ {l : List (κ × D)} {vs : List (κ × V)}, RepKV K M H l vs → D.bels M.i.length (l.map (·.2)) = true
  | [], _, h => rfl
  | (_, _) :: l, _, ⟨v, r, q, h1, h2⟩ => by rw [List.map_cons, D.bels, h1.is_bel, RepKV.is_bel h2]; rfl
theorem RepF.is_bel : ∀ {l : Fs} {vs : List (Str × V)}, RepF K M H l vs → D.bels M.i.length (l.map (·.2)) = true
  | [], _, h => rfl
  | (_, _) :: l, _, ⟨v, r, q, h1, h2⟩ => by rw [List.map_cons, D.bels, h1.is_bel, RepF.is_bel h2]; rfl
theorem MR.is_bel (h : MR K mg M H) : belM M.m.length M.m = true := by
  refine List.all_eq_true.mpr fun o ho => ?_
  cases o with
  | none => rfl
  | some o =>
    obtain ⟨k, hk⟩ := List.mem_iff_getElem?.mp ho
    obtain ⟨a, _, r⟩ := h.get hk
    rw [h.len]
    cases o with
    | lst l => obtain ⟨vs, h1, h2⟩ := r; exact h2.is_bel
    | dic l => obtain ⟨vs, h1, h2⟩ := r; exact h2.is_bel
    | dit l => obtain ⟨vs, h1, h2⟩ := r; exact h2.is_bel
    | ins C fs => obtain ⟨C', dx, gs, h0, h1, h2⟩ := r; exact h2.is_bel
    | pen => rfl
end

/-! ### liftings -/
/-- what the body wishes of an exception -/
def Wx (X : Cx) : WX := fun cls d σ H => ∀ (u : Value) (s' : Shared), XE X (fun cls' d' σ' H' => cls' = cls ∧ d' = d ∧ σ' = σ ∧ H' = H) u s' → X.xe u s'
theorem takes_Wx (X : Cx) : Takes X (Wx X) := fun u s' ⟨a, B, sI, pins, σ, H, cls, d, e, I, nb, up, sky, na, os, ag, w⟩ =>
  w u s' ⟨a, B, sI, pins, σ, H, cls, d, e, I, nb, up, sky, na, os, ag, rfl, rfl, rfl, rfl⟩
theorem wx_of {X : Cx} {W : WX} (tk : Takes X W) {cls : Value} {d : Option Addr} {σ : L2.St} {H : Hp} (w : W cls d σ H) : Wx X cls d σ H := fun u s' ⟨a, B, sI, pins, σ', H', cls', d', e, I, nb, up, sky, na, os, ag, e1, e2, e3, e4⟩ =>
  tk u s' ⟨a, B, sI, pins, σ', H', cls', d', e, I, nb, up, sky, na, os, ag, by rw [e1, e2, e3, e4]; exact w⟩
/-- the errors' classes that the texts have -/
def xcs : List Str := ["InvalidStatement", "InvalidClaim", "ParseError", "UnknownStatement", "UnknownMark", "UnknownRecord", "UnknownSource", "Unjoinable", "LimitExceeded"]
/-- the class named c at C is caught by its own name alone -/
structure XC (K : PySem.W.Frag) (mg : Str → Option Value) (c : Str) (C : Addr) : Prop where
  at_ : mg c = some (.ref C)
  own : ∀ c2 ∈ xcs, ∀ C2, mg c2 = some (.ref C2) → PySem.W.exmOne K (.ref C) (.ref C2) = some (decide (c = c2))
/-- an exception's dict, its fields -/
def XRep (K : PySem.W.Frag) (M : MB) (H : Hp) (fs : Fs) (d : Option Addr) : Prop := (fs = [] ∧ d = none) ∨ ∃ dd gs, d = some dd ∧ H dd = some (.xd gs) ∧ dd ∉ M.i ∧ RepF K M H fs gs
section
variable (X : Cx)
/-- what may be raised from M, H on, at the slots σ -/
def XOk (M : MB) (σ : L2.St) (H : Hp) (E : XQ) : Prop := ∀ c fs C d M' H', Ev M H M' H' → MR X.K X.mg M' H' → XC X.K X.mg c C → XRep X.K M' H' fs d → E c fs M'.m → Wx X (.ref C) d σ H'
def LE (t : DE) : TE := fun σ H Q => ∃ ρ M E Qd, Slots X.K M H ρ σ ∧ MR X.K X.mg M H ∧ t ρ M.m E Qd ∧ XOk X M σ H E ∧ ∀ v d M' H', Ev M H M' H' → MR X.K X.mg M' H' → Rep X.K M' H' d v → Qd d M'.m → Q v H'
def LT (t : DT) : TT := fun σ H Q => ∃ ρ M E Qd, Slots X.K M H ρ σ ∧ MR X.K X.mg M H ∧ t ρ M.m E Qd ∧ XOk X M σ H E ∧ ∀ b M' H', Ev M H M' H' → MR X.K X.mg M' H' → Qd b M'.m → Q b H'
def LA (t : DA) : TA := fun σ H Q => ∃ ρ M E Qd, Slots X.K M H ρ σ ∧ MR X.K X.mg M H ∧ t ρ M.m E Qd ∧ XOk X M σ H E ∧ ∀ vs ds M' H', Ev M H M' H' → MR X.K X.mg M' H' → Reps X.K M' H' ds vs → Qd ds M'.m → Q vs H'
/-- the ends of a statement that began at M, H -/
structure EndsOk (M : MB) (H : Hp) (De : DEnds) (D : Ends) : Prop where
  nx : ∀ σ' H' ρ' M', Ev M H M' H' → Slots X.K M' H' ρ' σ' → MR X.K X.mg M' H' → De.nx ρ' M'.m → D.nx σ' H'
  rt : ∀ v d M' H', Ev M H M' H' → MR X.K X.mg M' H' → Rep X.K M' H' d v → De.rt d M'.m → D.rt v H'
  bk : ∀ σ' H' ρ' M', Ev M H M' H' → Slots X.K M' H' ρ' σ' → MR X.K X.mg M' H' → De.bk ρ' M'.m → D.bk σ' H'
  ct : ∀ σ' H' ρ' M', Ev M H M' H' → Slots X.K M' H' ρ' σ' → MR X.K X.mg M' H' → De.ct ρ' M'.m → D.ct σ' H'
  ex : ∀ c fs C d σ' H' ρ' M', Ev M H M' H' → Slots X.K M' H' ρ' σ' → MR X.K X.mg M' H' → XC X.K X.mg c C → XRep X.K M' H' fs d → De.ex c fs ρ' M'.m → Wx X (.ref C) d σ' H'
def LS (t : DS) : TS := fun D σ H => ∃ ρ M De, Slots X.K M H ρ σ ∧ MR X.K X.mg M H ∧ t De ρ M.m ∧ EndsOk X M H De D
end
theorem EndsOk.later {X : Cx} {M M1 : MB} {H H1 : Hp} {De : DEnds} {D : Ends} (h : EndsOk X M H De D) (e : Ev M H M1 H1) : EndsOk X M1 H1 De D :=
  ⟨fun σ H ρ M f => h.nx σ H ρ M (e.trans f), fun v d M H f => h.rt v d M H (e.trans f), fun σ H ρ M f => h.bk σ H ρ M (e.trans f), fun σ H ρ M f => h.ct σ H ρ M (e.trans f), fun c fs C d σ H ρ M f => h.ex c fs C d σ H ρ M (e.trans f)⟩
theorem XOk.later {X : Cx} {M M1 : MB} {σ : L2.St} {H H1 : Hp} {E : XQ} (h : XOk X M σ H E) (e : Ev M H M1 H1) : XOk X M1 σ H1 E := fun c fs C d M' H' f => h c fs C d M' H' (e.trans f)
theorem XOk.no {X : Cx} {M : MB} {σ : L2.St} {H : Hp} : XOk X M σ H noX := fun _ _ _ _ _ _ _ _ _ _ q => q.elim
theorem EndsOk.xok {X : Cx} {M : MB} {H : Hp} {De : DEnds} {D : Ends} {ρ : DSt} {σ : L2.St} (h : EndsOk X M H De D) (S : Slots X.K M H ρ σ) : XOk X M σ H (xAt De ρ) := fun c fs C d M' H' f R hc r q => h.ex c fs C d σ H' ρ M' f (S.ev f) R hc r q
abbrev PEd (X : Cx) (e : Expr) (t : DE) : Prop := PE X e (LE X t)
abbrev PTd (X : Cx) (e : Expr) (t : DT) : Prop := PT X e (LT X t)
abbrev PWd (X : Cx) (e : Expr) (t : DT) : Prop := PW X e (LT X t)
abbrev PAd (X : Cx) (es : List Expr) (t : DA) : Prop := PA X es (LA X t)
abbrev PSd (X : Cx) (st : Stmt) (t : DS) : Prop := PS X st (LS X t)
abbrev PSsd (X : Cx) (st : List Stmt) (t : DS) : Prop := PSs X st (LS X t)
section
variable {X : Cx}
theorem peI {e : Expr} {te te' : TE} (h : PE X e te) (i : ∀ σ H Q, te' σ H Q → te σ H Q) : PE X e te' := ⟨fun pins s σ H Q I q => h.run pins s σ H Q I (i σ H Q q)⟩
theorem ptI {e : Expr} {te te' : TT} (h : PT X e te) (i : ∀ σ H Q, te' σ H Q → te σ H Q) : PT X e te' := ⟨fun pins s σ H Q I q => h.run pins s σ H Q I (i σ H Q q)⟩
theorem pwI {e : Expr} {te te' : TT} (h : PW X e te) (i : ∀ σ H Q, te' σ H Q → te σ H Q) : PW X e te' := ⟨fun wh pins s σ H Q I q => h.run wh pins s σ H Q I (i σ H Q q)⟩
theorem paI {e : List Expr} {te te' : TA} (h : PA X e te) (i : ∀ σ H Q, te' σ H Q → te σ H Q) : PA X e te' := ⟨fun pos pins s σ H Q I q => h.run pos pins s σ H Q I (i σ H Q q)⟩
theorem psI {e : Stmt} {te te' : TS} (h : PS X e te) (i : ∀ D σ H, te' D σ H → te D σ H) : PS X e te' := ⟨fun pins s σ H D I q => h.run pins s σ H D I (i D σ H q)⟩
theorem pssI {e : List Stmt} {te te' : TS} (h : PSs X e te) (i : ∀ D σ H, te' D σ H → te D σ H) : PSs X e te' := ⟨fun pins s σ H D I q => h.run pins s σ H D I (i D σ H q)⟩
end
end DM

/-! DL, the rules: each construct of Python by its reading over data. -/
namespace DM
open PySem PySem.Spec L2
section
variable {X : Cx} {e a b c : Expr} {es : List Expr} {ta tb tc : DE} {tA tB' : DT} {t : DA} {pos : Pos} {rest : List Expr}

/-! ### names, constants -/
theorem de_var (i : Nat) {x : Str} {pos : Pos} (hN : X.N[i]? = some x := by rfl) (hv : Vis X.env.scope x := by first | exact Or.inl rfl | exact Or.inr (Or.inl rfl) | exact Or.inr (Or.inr rfl)) (hd : (x == ("__debug__" : Str)) = false := by decide)
    (hcd : (x == ("__classdict__" : Str)) = false := by decide) : PEd X (.Name x pos) (dVar i) := peI (pe_var hN hv hd hcd) fun σ H Q ⟨ρ, M, E, Qd, S, R, ⟨d, h1, h2⟩, xo, k⟩ => by
  obtain ⟨v, e1, r⟩ := S.2 i d h1
  exact ⟨v, e1, k v d M H .refl R r h2⟩
theorem de_const {d : D} {v : V} (h : PE X e (tC v)) (r : ∀ M H, Rep X.K M H d v) : PEd X e (dC d) := peI h fun σ H Q ⟨ρ, M, E, Qd, S, R, q, xo, k⟩ => k v d M H .refl R (r M H) q
theorem de_int {i j pos} : PEd X (.Constant (.int i) j pos) (dC (.int i)) := de_const pe_int fun _ _ => rfl
theorem de_bl {b j pos} : PEd X (.Constant (.bool b) j pos) (dC (.bl b)) := de_const pe_bl fun _ _ => rfl
theorem de_non {j pos} : PEd X (.Constant .none j pos) (dC .non) := de_const pe_non fun _ _ => rfl
theorem de_str {x j pos} : PEd X (.Constant (.str x) j pos) (dC (.str x)) := de_const pe_str fun _ _ => rfl
/-- a module's constant that is flat -/
theorem de_glob {x : Str} {d : D} {v : V} {u : Value} {pos : Pos} (hm : X.mg x = some u) (r : RelV v u) (rd : ∀ M H, Rep X.K M H d v) (hg : Gl X x := by rfl) (hd : (x == ("__debug__" : Str)) = false := by decide) : PEd X (.Name x pos) (dC d) :=
  de_const (pe_glob hg hm r hd) rd

/-! ### argument lists, displays -/
theorem da_nil : PAd X [] dNil := paI pa_nil fun σ H Q ⟨ρ, M, E, Qd, S, R, q, xo, k⟩ => k [] [] M H .refl R .nil q
theorem da_cons (ha : PEd X e ta) (hr : PAd X es t) (hs : starEach (e :: es) X.env = (false, eval e X.env) :: starEach es X.env := by rfl) : PAd X (e :: es) (dCons ta t) :=
  paI (pa_cons ha hr hs) fun σ H Q ⟨ρ, M, E, Qd, S, R, q, xo, k⟩ => ⟨ρ, M, E, _, S, R, q, xo, fun v d M1 H1 e1 R1 r1 q1 =>
    ⟨ρ, M1, E, _, S.ev e1, R1, q1, xo.later e1, fun vs ds M2 H2 e2 R2 r2 q2 => k _ _ M2 H2 (e1.trans e2) R2 (.cons (r1.ev e2) r2) q2⟩⟩
/-! ### makers of lists and dicts -/
def frzQ (Q : VK) : VK := fun v H1 => Q v H1 ∨ ∃ a u, v = .ref a ∧ H1 a = some u ∧ Mut (some u) ∧ ∀ o, Q v (upd H1 a (.frz o u))
def tFrz (te : TE) : TE := fun σ H Q => te σ H (frzQ Q)
theorem pe_frz {te : TE} (h : PE X e te) : PE X e (tFrz te) := ⟨fun pins s σ H Q I q => thn (h.run pins s σ H _ I q) fun v s1 ⟨x, H1, I1, r, h⟩ => by
  rcases h with q1 | ⟨a, u, ex, ea, mu, q1⟩
  · exact ⟨x, H1, I1, r, q1⟩
  · subst ex
    obtain ⟨od, J⟩ := I1.lock ea mu
    exact ⟨_, _, J, r, q1 od⟩⟩
structure MkOk (mk : MkR) : Prop where
  of : ∀ {K : PySem.W.Frag} {mg : Str → Option Value} {M0 M : MB} {H0 H : Hp} {p : Addr} {o : MO} {ho : HO} {Qd : DQ} {Q : VK}, Ev M0 H0 M H → H0 p = none → p ∉ M0.i → p ∉ M.i → H p = some ho → Mut (some ho) → MR K mg M H → RepO K mg M H p o → mk M.m o Qd →
  (∀ v d M' H', Ev M0 H0 M' H' → MR K mg M' H' → Rep K M' H' d v → Qd d M'.m → Q v H') → frzQ Q (.ref p) H
theorem MkOk.new {mk : MkR} (hm : MkOk mk) {K : PySem.W.Frag} {mg : Str → Option Value} {M : MB} {H : Hp} {p : Addr} {o : MO} {ho : HO} {Qd : DQ} {Q : VK} (R : MR K mg M H) (n : H p = none) (mu : Mut (some ho)) (r : RepO K mg M (upd H p ho) p o) (q : mk M.m o Qd)
    (k : ∀ v d M' H', Ev M H M' H' → MR K mg M' H' → Rep K M' H' d v → Qd d M'.m → Q v H') : frzQ Q (.ref p) (upd H p ho) := hm.of (.new n) n (R.mem n) (R.mem n) upd_same mu (R.new n) r q k
/-- what is locked was none that a value holds -/
theorem KeepT.lock {K : PySem.W.Frag} {M : MB} {H : Hp} {p : Addr} {ho u : HO} (h : H p = some ho) (mu : Mut (some ho)) : KeepT K M H M (upd H p u) := by
  have ne : ∀ {a : Addr} {u' : HO}, H a = some u' → ¬ Mut (some u') → upd H p u a = some u' := fun {a u'} q w => by
    have : a ≠ p := fun z => by subst z; rw [h] at q; cases q; exact w mu
    rw [upd_ne this]; exact q
  refine ⟨fun a xs q => ?_, fun a xs q => ?_, fun a o v q => ne q fun z => z, fun _ _ q => q⟩
  · rcases q with (q | ⟨o, q⟩) | q
    · exact .inl (.inl (ne q fun z => z))
    · exact .inl (.inr ⟨o, ne q fun z => z⟩)
    · exact .inr q
  · rcases q with ⟨o, g⟩ | g
    · exact .inl ⟨o, ne g fun z => z⟩
    · exact .inr g
theorem MR.hid {K : PySem.W.Frag} {mg : Str → Option Value} {M : MB} {H : Hp} {p : Addr} {ho u : HO} (R : MR K mg M H) (h : H p = some ho) (mu : Mut (some ho)) (n : p ∉ M.i) : MR K mg M (upd H p u) := ⟨R.len, R.nd, fun a ha => upd_some (R.tr a ha), fun k a o e e' =>
  (R.at_ k a o e e').keep (.lock h mu) fun w q => by rw [upd_ne (fun z => by subst z; exact n (List.mem_of_getElem? e))]; exact q⟩
theorem Ev.hid {M M' : MB} {H H' : Hp} {p : Addr} {o : HO} (e : Ev M H M' H') (n : H p = none) : Ev M H M' (upd H' p o) :=
  ⟨fun a xs h => by rw [upd_ne (ne_of_none h n)]; exact e.tup a xs h, fun a o u h => by rw [upd_ne (ne_of_none h n)]; exact e.frz a o u h, fun a o h m => by rw [upd_ne (ne_of_none h n)]; exact e.frame a o h m, e.pre, e.dom⟩
theorem frz_rep {M : MB} {H : Hp} {mg : Str → Option Value} {K : PySem.W.Frag} {a : Addr} {o : MO} {d : D} (r : RepO K mg M H a o) (f : o.frz d) : ∃ u, H a = some u ∧ Mut (some u) ∧ ∀ ob, ∀ M' H', KeepT K M H M' H' → H' a = some (.frz ob u) → Rep K M' H' d (.ref a) := by
  cases o with
  | lst l =>
    cases (show d = .lis l from f)
    obtain ⟨vs, h1, h2⟩ := r
    exact ⟨_, h1, trivial, fun ob M' H' e h => ⟨a, vs, rfl, .inl ⟨ob, h⟩, h2.mono e⟩⟩
  | dic l =>
    cases (show d = .dct _ _ from f)
    obtain ⟨ks, h1, h2⟩ := r
    have key : ∀ {l : List (Key × D)} {ks : List (Key × V)} {M : MB} {H : Hp}, RepKV K M H l ks → (l.map (·.1)).zip (ks.map (·.2)) = ks ∧ Reps K M H (l.map (·.2)) (ks.map (·.2)) := by
      intro l
      induction l with
      | nil => intro ks M H h; cases h; exact ⟨rfl, rfl⟩
      | cons x l ih =>
        intro ks M H h
        obtain ⟨k, d⟩ := x
        obtain ⟨v, r, e, h1, h2⟩ := h
        subst e
        obtain ⟨i1, i2⟩ := ih h2
        exact ⟨by simp [i1], ⟨v, _, rfl, h1, i2⟩⟩
    refine ⟨_, h1, trivial, fun ob M' H' e h => ⟨a, ks.map (·.2), ob, rfl, ?_, by simp, ((key h2).2).mono e⟩⟩
    rw [(key h2).1]; exact h
  | ins _ _ => exact f.elim
  | dit _ => exact f.elim
  | pen => exact f.elim
theorem mkD : MkOk newD := ⟨fun {K mg M0 M H0 H p o ho Qd Q} e n n0 np hp mu R r q k =>
  .inl (k (.ref p) (.ref M.m.length) (M.add p o) H (e.join n n0) (R.join (by rw [hp]; simp) np (r.keep (M' := M.add p o) ⟨fun _ _ h => h, fun _ _ h => h, fun _ _ _ h => h, pre_add⟩ fun _ h => h)) (rep_last R) q)⟩
theorem mkZ : MkOk newZ := ⟨fun {K mg M0 M H0 H p o ho Qd Q} e n n0 np hp mu R r ⟨d, f, q⟩ k => by
  obtain ⟨u, h1, h2, h3⟩ := frz_rep r f
  rw [hp] at h1; cases h1
  exact .inr ⟨p, _, rfl, hp, mu, fun ob => k (.ref p) d M (upd H p (.frz ob ho)) (e.hid n) (R.hid hp mu np) (h3 ob M _ (.lock hp mu) upd_same) q⟩⟩
theorem de_tup {x1} (h : PAd X es t) : PEd X (.Tuple es x1 pos) (dTup t) := peI (pe_tup h) fun σ H Q ⟨ρ, M, E, Qd, S, R, q, xo, k⟩ =>
  ⟨ρ, M, E, _, S, R, q, xo, fun vs ds M1 H1 e1 R1 r1 ⟨z, q1⟩ => ⟨by rw [← r1.len]; exact z, fun p n =>
    k (.ref p) (.tup ds) M1 (upd H1 p (.tup vs)) (e1.trans (.new n)) (R1.new n) ⟨p, vs, rfl, sq_new, r1.ev (Ev.new (M := M1) n)⟩ q1⟩⟩
theorem de_lst {mk : MkR} (hm : MkOk mk) (h : PAd X es t) : PEd X (.List es pos) (dLst mk t) := peI (pe_frz (pe_lst h)) fun σ H Q ⟨ρ, M, E, Qd, S, R, q, xo, k⟩ =>
  ⟨ρ, M, E, _, S, R, q, xo, fun vs ds M1 H1 e1 R1 r1 ⟨z, q1⟩ => ⟨by rw [← r1.len]; exact z, fun p n =>
    hm.new R1 n trivial (o := .lst ds) ⟨vs, upd_same, r1.ev (Ev.new (M := M1) n)⟩ q1 fun v d M' H' e' R' r' q' => k v d M' H' (e1.trans e') R' r' q'⟩⟩

/-! ### operations -/
def OpD (X : Cx) (f : Value → Value → Sem Value) (r : RD2) : Prop := ∃ r' : R2, OpR X f r' ∧ ∀ (x y : D) (v w : V) (M : MB) (H : Hp) (Qd : DQ) (Q : VK), MR X.K X.mg M H → Rep X.K M H x v → Rep X.K M H y w → r x y M.m Qd →
  (∀ z d M' H', Ev M H M' H' → MR X.K X.mg M' H' → Rep X.K M' H' d z → Qd d M'.m → Q z H') → r' v w H Q
def UnD (X : Cx) (f : Value → Sem Value) (r : RD1) : Prop := ∃ r', UnR X f r' ∧ ∀ (x : D) (v : V) (M : MB) (H : Hp) (Qd : DQ) (Q : VK), MR X.K X.mg M H → Rep X.K M H x v → r x M.m Qd →
  (∀ z d M' H', Ev M H M' H' → MR X.K X.mg M' H' → Rep X.K M' H' d z → Qd d M'.m → Q z H') → r' v H Q
def CallD (X : Cx) (f : Value) (r : BD) : Prop := ∃ r', CallR X f r' ∧ ∀ (ds : List D) (vs : List V) (M : MB) (H : Hp) (Qd : DQ) (Q : VK), MR X.K X.mg M H → Reps X.K M H ds vs → r ds M.m Qd →
  (∀ z d M' H', Ev M H M' H' → MR X.K X.mg M' H' → Rep X.K M' H' d z → Qd d M'.m → Q z H') → r' vs H Q
theorem lift_op {r : RD2} {r' : R2} (h : ∀ (x y : D) (v w : V) (M : MB) (H : Hp) (Qd : DQ) (Q : VK), MR X.K X.mg M H → Rep X.K M H x v → Rep X.K M H y w → r x y M.m Qd →
    (∀ z d M' H', Ev M H M' H' → MR X.K X.mg M' H' → Rep X.K M' H' d z → Qd d M'.m → Q z H') → r' v w H Q) (σ : L2.St) (H : Hp) (Q : VK) : LE X (dOp r ta tb) σ H Q → tOp r' (LE X ta) (LE X tb) σ H Q := fun ⟨ρ, M, E, Qd, S, R, q, xo, k⟩ =>
  ⟨ρ, M, E, _, S, R, q, xo, fun v d M1 H1 e1 R1 r1 q1 => ⟨ρ, M1, E, _, S.ev e1, R1, q1, xo.later e1, fun w d2 M2 H2 e2 R2 r2 q2 =>
    h d d2 v w M2 H2 Qd Q R2 (r1.ev e2) r2 q2 fun z d M' H' e' R' r' q' => k z d M' H' ((e1.trans e2).trans e') R' r' q'⟩⟩
theorem de_op {op : Operator} {r : RD2} (ho : OpD X (binaryOp op) r) (ha : PEd X a ta) (hb : PEd X b tb) : PEd X (.BinOp a op b pos) (dOp r ta tb) := by
  obtain ⟨r', h1, h2⟩ := ho
  exact peI (pe_op h1 ha hb) (lift_op h2)
/-- .. of what makes lists -/
def OpZ (X : Cx) (f : Value → Value → Sem Value) (r : RD2) : Prop := ∃ r' : R2, OpR X f r' ∧ ∀ (x y : D) (v w : V) (M : MB) (H : Hp) (Qd : DQ) (Q : VK), MR X.K X.mg M H → Rep X.K M H x v → Rep X.K M H y w → r x y M.m Qd →
  (∀ z d M' H', Ev M H M' H' → MR X.K X.mg M' H' → Rep X.K M' H' d z → Qd d M'.m → Q z H') → r' v w H (frzQ Q)
def CallZ (X : Cx) (f : Value) (r : BD) : Prop := ∃ r', CallR X f r' ∧ ∀ (ds : List D) (vs : List V) (M : MB) (H : Hp) (Qd : DQ) (Q : VK), MR X.K X.mg M H → Reps X.K M H ds vs → r ds M.m Qd →
  (∀ z d M' H', Ev M H M' H' → MR X.K X.mg M' H' → Rep X.K M' H' d z → Qd d M'.m → Q z H') → r' vs H (frzQ Q)
theorem de_opZ {op : Operator} {r : RD2} (ho : OpZ X (binaryOp op) r) (ha : PEd X a ta) (hb : PEd X b tb) : PEd X (.BinOp a op b pos) (dOp r ta tb) := by
  obtain ⟨r', h1, h2⟩ := ho
  exact peI (pe_frz (pe_op h1 ha hb)) fun σ H Q ⟨ρ, M, E, Qd, S, R, q, xo, k⟩ =>
    ⟨ρ, M, E, _, S, R, q, xo, fun v d M1 H1 e1 R1 r1 q1 => ⟨ρ, M1, E, _, S.ev e1, R1, q1, xo.later e1, fun w d2 M2 H2 e2 R2 r2 q2 =>
      h2 d d2 v w M2 H2 Qd Q R2 (r1.ev e2) r2 q2 fun z d M' H' e' R' r' q' => k z d M' H' ((e1.trans e2).trans e') R' r' q'⟩⟩
theorem de_cmp {op : CmpOp} {r : RD2} (ho : OpD X (compareOp op) r) (ha : PEd X a ta) (hb : PEd X b tb) (hm : behindInMarks op b = false := by first | exact nomark _ | rfl) : PEd X (.Compare a [op] [b] pos) (dOp r ta tb) := by
  obtain ⟨r', h1, h2⟩ := ho
  exact peI (pe_cmpR h1 ha hb hm) (lift_op h2)
theorem lift_test {t : DE} {te : TE} (h : ∀ σ H Q, LE X t σ H Q → te σ H Q) (σ : L2.St) (H : Hp) (Q : Bool → Hp → Prop) : LT X (dTest t) σ H Q → tTest te σ H Q := fun ⟨ρ, M, E, Qd, S, R, q, xo, k⟩ =>
  h σ H _ ⟨ρ, M, E, _, S, R, q, xo, fun v d M1 H1 e1 R1 r1 ⟨c, e, q1⟩ => by
    subst e
    exact ⟨c, r1, k c M1 H1 e1 R1 q1⟩⟩
theorem dt_cmp {op : CmpOp} {r : RD2} (ho : OpD X (compareOp op) r) (ha : PEd X a ta) (hb : PEd X b tb) (hm : behindInMarks op b = false := by first | exact nomark _ | rfl) : PTd X (.Compare a [op] [b] pos) (dTest (dOp r ta tb)) := by
  obtain ⟨r', h1, h2⟩ := ho
  exact ptI (pt_cmpR h1 ha hb hm) (lift_test (lift_op h2))
theorem de_un {op : UnaryOp} {r : RD1} (ho : UnD X (unaryOp op) r) (ha : PEd X a ta) : PEd X (.UnaryOp op a pos) (dUn r ta) := by
  obtain ⟨r', h1, h2⟩ := ho
  exact peI (pe_un h1 ha) fun σ H Q ⟨ρ, M, E, Qd, S, R, q, xo, k⟩ => ⟨ρ, M, E, _, S, R, q, xo, fun v d M1 H1 e1 R1 r1 q1 => h2 d v M1 H1 Qd Q R1 r1 q1 fun z d M' H' e' R' r' q' => k z d M' H' (e1.trans e') R' r' q'⟩
theorem dt_val (h : PEd X e ta) (he : ∀ whole, isTrue e X.env whole = (do let v ← whole; standAt e.pos; holding [v] (truthy v)) := by intro _; rfl) : PTd X e (dTest ta) :=
  ptI (pt_val h he) fun σ H Q ⟨ρ, M, E, Qd, S, R, q, xo, k⟩ => ⟨ρ, M, E, _, S, R, q, xo, fun v d M1 H1 e1 R1 r1 ⟨c, e, q1⟩ => by
    subst e
    exact ⟨c, r1, k c M1 H1 e1 R1 q1⟩⟩
theorem isN_eq {K : PySem.W.Frag} {H : Hp} {d : D} {v : V} (r : Rep K M H d v) : decide (v = V.non) = d.isN := by
  cases d with
  | non => cases r; rfl
  | bl _ => cases r; rfl
  | int _ => cases r; rfl
  | str _ => cases r; rfl
  | ref _ => obtain ⟨a, _, e⟩ := r; subst e; rfl
  | tup _ => obtain ⟨p, vs, e, _⟩ := r; subst e; rfl
  | lis _ => obtain ⟨p, vs, e, _⟩ := r; subst e; rfl
  | dct _ _ => obtain ⟨p, vs, o, e, _⟩ := r; subst e; rfl
theorem lift_isN (σ : L2.St) (H : Hp) (Q : VK) : LE X (dUn rIsN ta) σ H Q → tIsN (LE X ta) σ H Q := fun ⟨ρ, M, E, Qd, S, R, q, xo, k⟩ =>
  ⟨ρ, M, E, _, S, R, q, xo, fun v d M1 H1 e1 R1 r1 q1 => by dsimp only; rw [isN_eq r1]; exact k _ (.bl d.isN) M1 H1 e1 R1 rfl q1⟩
theorem lift_notN (σ : L2.St) (H : Hp) (Q : VK) : LE X (dUn rNotN ta) σ H Q → tNotN (LE X ta) σ H Q := fun ⟨ρ, M, E, Qd, S, R, q, xo, k⟩ =>
  ⟨ρ, M, E, _, S, R, q, xo, fun v d M1 H1 e1 R1 r1 q1 => by dsimp only; rw [isN_eq r1]; exact k _ (.bl (!d.isN)) M1 H1 e1 R1 rfl q1⟩
theorem de_isN {j pos'} (ha : PEd X a ta) : PEd X (.Compare a [.Is] [.Constant .none j pos'] pos) (dUn rIsN ta) := peI (pe_cmp (pc_isN ha) rfl) lift_isN
theorem de_notN {j pos'} (ha : PEd X a ta) : PEd X (.Compare a [.IsNot] [.Constant .none j pos'] pos) (dUn rNotN ta) := peI (pe_cmp (pc_notN ha) rfl) lift_notN
theorem dt_isN {j pos'} (ha : PEd X a ta) : PTd X (.Compare a [.Is] [.Constant .none j pos'] pos) (dTest (dUn rIsN ta)) := ptI (pt_cmp (pc_isN ha) rfl) (lift_test lift_isN)
theorem dt_notN {j pos'} (ha : PEd X a ta) : PTd X (.Compare a [.IsNot] [.Constant .none j pos'] pos) (dTest (dUn rNotN ta)) := ptI (pt_cmp (pc_notN ha) rfl) (lift_test lift_notN)
theorem lift_chain {r r2 : RD2} {r' r2' : R2} (h : ∀ (x y : D) (v w : V) (M : MB) (H : Hp) (Qd : DQ) (Q : VK), MR X.K X.mg M H → Rep X.K M H x v → Rep X.K M H y w → r x y M.m Qd →
    (∀ z d M' H', Ev M H M' H' → MR X.K X.mg M' H' → Rep X.K M' H' d z → Qd d M'.m → Q z H') → r' v w H Q)
    (h' : ∀ (x y : D) (v w : V) (M : MB) (H : Hp) (Qd : DQ) (Q : VK), MR X.K X.mg M H → Rep X.K M H x v → Rep X.K M H y w → r2 x y M.m Qd →
    (∀ z d M' H', Ev M H M' H' → MR X.K X.mg M' H' → Rep X.K M' H' d z → Qd d M'.m → Q z H') → r2' v w H Q) (σ : L2.St) (H : Hp) (Q : VK) : LE X (dChain r r2 ta tb tc) σ H Q → tChain r' r2' (LE X ta) (LE X tb) (LE X tc) σ H Q := fun ⟨ρ, M, E, Qd, S, R, q, xo, k⟩ =>
  ⟨ρ, M, E, _, S, R, q, xo, fun v d M1 H1 e1 R1 r1 q1 => ⟨ρ, M1, E, _, S.ev e1, R1, q1, xo.later e1, fun w d2 M2 H2 e2 R2 r2 q2 =>
    h d d2 v w M2 H2 _ _ R2 (r1.ev e2) r2 q2 fun z d3 M3 H3 e3 R3 r3 ⟨c, ec, q3⟩ => by
      subst ec
      refine ⟨c, r3, ?_⟩
      cases c with
      | false => exact k _ (.bl false) M3 H3 ((e1.trans e2).trans e3) R3 rfl q3
      | true => exact ⟨ρ, M3, E, _, S.ev ((e1.trans e2).trans e3), R3, q3, xo.later ((e1.trans e2).trans e3), fun u d4 M4 H4 e4 R4 r4 q4 => h' d2 d4 w u M4 H4 Qd Q R4 (r2.ev (e3.trans e4)) r4 q4 fun z d M' H' e' R' r' q' => k z d M' H' ((((e1.trans e2).trans e3).trans e4).trans e') R' r' q'⟩⟩⟩
theorem de_chain {op op' : CmpOp} {r r' : RD2} (ho : OpD X (compareOp op) r) (ho' : OpD X (compareOp op') r') (ha : PEd X a ta) (hb : PEd X b tb) (hc : PEd X c tc)
    (hm : lastMarks [op, op'] [b, c] = false := by with_unfolding_all rfl) : PEd X (.Compare a [op, op'] [b, c] pos) (dChain r r' ta tb tc) := by
  obtain ⟨r1, h1, h2⟩ := ho
  obtain ⟨r2, h3, h4⟩ := ho'
  exact peI (pe_chain h1 h3 ha hb hc hm) (lift_chain h2 h4)
theorem dt_chain {op op' : CmpOp} {r r' : RD2} (ho : OpD X (compareOp op) r) (ho' : OpD X (compareOp op') r') (ha : PEd X a ta) (hb : PEd X b tb) (hc : PEd X c tc)
    (hm : lastMarks [op, op'] [b, c] = false := by with_unfolding_all rfl) : PTd X (.Compare a [op, op'] [b, c] pos) (dTest (dChain r r' ta tb tc)) := by
  obtain ⟨r1, h1, h2⟩ := ho
  obtain ⟨r2, h3, h4⟩ := ho'
  exact ptI (pt_chain h1 h3 ha hb hc hm) (lift_test (lift_chain h2 h4))

/-! ### tests -/
theorem dw_and1 (ha : PTd X a tA) : PWd X (.BoolOp .And [a] pos) tA := pw_and1 ha
theorem dw_or1 (ha : PTd X a tA) : PWd X (.BoolOp .Or [a] pos) tA := pw_or1 ha
theorem dw_and (ha : PTd X a tA) (hb : PWd X (.BoolOp .And (b :: rest) pos) tB') : PWd X (.BoolOp .And (a :: b :: rest) pos) (dAnd tA tB') :=
  pwI (pw_and ha hb) fun σ H Q ⟨ρ, M, E, Qd, S, R, q, xo, k⟩ => ⟨ρ, M, E, _, S, R, q, xo, fun c M1 H1 e1 R1 q1 => by
    cases c with
    | false => exact k false M1 H1 e1 R1 q1
    | true => exact ⟨ρ, M1, E, _, S.ev e1, R1, q1, xo.later e1, fun b M' H' e' R' q' => k b M' H' (e1.trans e') R' q'⟩⟩
theorem dw_or (ha : PTd X a tA) (hb : PWd X (.BoolOp .Or (b :: rest) pos) tB') : PWd X (.BoolOp .Or (a :: b :: rest) pos) (dOr tA tB') :=
  pwI (pw_or ha hb) fun σ H Q ⟨ρ, M, E, Qd, S, R, q, xo, k⟩ => ⟨ρ, M, E, _, S, R, q, xo, fun c M1 H1 e1 R1 q1 => by
    cases c with
    | true => exact k true M1 H1 e1 R1 q1
    | false => exact ⟨ρ, M1, E, _, S.ev e1, R1, q1, xo.later e1, fun b M' H' e' R' q' => k b M' H' (e1.trans e') R' q'⟩⟩
theorem dt_bool (h : PWd X e tA) : PTd X e tA := PW.pt h
theorem dt_not (ha : PTd X a tA) : PTd X (.UnaryOp .Not a pos) (dNot tA) := ptI (pt_not ha) fun σ H Q ⟨ρ, M, E, Qd, S, R, q, xo, k⟩ => ⟨ρ, M, E, _, S, R, q, xo, fun c M1 H1 e1 R1 q1 => k _ M1 H1 e1 R1 q1⟩
theorem de_one {op} (h : PEd X a ta) : PEd X (.BoolOp op [a] pos) ta := pe_one h
theorem de_and (ha : PEd X a ta) (hb : PEd X (.BoolOp .And (b :: rest) pos) tb) : PEd X (.BoolOp .And (a :: b :: rest) pos) (dAndV ta tb) :=
  peI (pe_and ha hb) fun σ H Q ⟨ρ, M, E, Qd, S, R, q, xo, k⟩ => ⟨ρ, M, E, _, S, R, q, xo, fun v d M1 H1 e1 R1 r1 ⟨c, ec, q1⟩ => by
    subst ec
    refine ⟨c, r1, ?_⟩
    cases c with
    | false => exact k _ (.bl false) M1 H1 e1 R1 rfl q1
    | true => exact ⟨ρ, M1, E, _, S.ev e1, R1, q1, xo.later e1, fun z d M' H' e' R' r' q' => k z d M' H' (e1.trans e') R' r' q'⟩⟩
theorem de_or (ha : PEd X a ta) (hb : PEd X (.BoolOp .Or (b :: rest) pos) tb) : PEd X (.BoolOp .Or (a :: b :: rest) pos) (dOrV ta tb) :=
  peI (pe_or ha hb) fun σ H Q ⟨ρ, M, E, Qd, S, R, q, xo, k⟩ => ⟨ρ, M, E, _, S, R, q, xo, fun v d M1 H1 e1 R1 r1 ⟨c, ec, q1⟩ => by
    subst ec
    refine ⟨c, r1, ?_⟩
    cases c with
    | true => exact k _ (.bl true) M1 H1 e1 R1 rfl q1
    | false => exact ⟨ρ, M1, E, _, S.ev e1, R1, q1, xo.later e1, fun z d M' H' e' R' r' q' => k z d M' H' (e1.trans e') R' r' q'⟩⟩
theorem de_not (ha : PEd X a ta) : PEd X (.UnaryOp .Not a pos) (dNotV ta) := peI (pe_not ha) fun σ H Q ⟨ρ, M, E, Qd, S, R, q, xo, k⟩ => ⟨ρ, M, E, _, S, R, q, xo, fun v d M1 H1 e1 R1 r1 ⟨c, ec, q1⟩ => by
  subst ec
  exact ⟨c, r1, k _ (.bl (!c)) M1 H1 e1 R1 rfl q1⟩⟩
theorem de_ifExp (hc : PTd X c tA) (ha : PEd X a ta) (hb : PEd X b tb) : PEd X (.IfExp c a b pos) (dIf tA ta tb) := peI (pe_ifExp hc ha hb) fun σ H Q ⟨ρ, M, E, Qd, S, R, q, xo, k⟩ => ⟨ρ, M, E, _, S, R, q, xo, fun c M1 H1 e1 R1 q1 => by
  cases c with
  | true => exact ⟨ρ, M1, E, _, S.ev e1, R1, q1, xo.later e1, fun z d M' H' e' R' r' q' => k z d M' H' (e1.trans e') R' r' q'⟩
  | false => exact ⟨ρ, M1, E, _, S.ev e1, R1, q1, xo.later e1, fun z d M' H' e' R' r' q' => k z d M' H' (e1.trans e') R' r' q'⟩⟩
end
end DM

/-! DL, the operations: which operations on data the model has. -/
namespace DM
open PySem PySem.Spec L2
section
variable {X : Cx}
/-- two ints -/
theorem od_I {f : Value → Value → Sem Value} {C : Int → Int → Prop} {C' : Int → Int → Prop} {g : Int → Int → D} {g' : Int → Int → V} (ho : OpR X f (L2.rI C' g')) (hc : ∀ i j, C i j → C' i j) (hg : ∀ i j, C i j → ∀ M H, Rep X.K M H (g i j) (g' i j)) : OpD X f (rI C g) :=
  ⟨_, ho, fun x y v w M H Qd Q R rx ry ⟨i, j, ex, ey, c, q⟩ k => by
    subst ex; subst ey
    exact ⟨i, j, rx, ry, hc i j c, k _ (g i j) M H .refl R (hg i j c M H) q⟩⟩
theorem od_I0 {f : Value → Value → Sem Value} {g : Int → Int → D} {g' : Int → Int → V} (ho : OpR X f (L2.rI0 g')) (hg : ∀ i j M H, Rep X.K M H (g i j) (g' i j)) : OpD X f (rI (fun _ _ => True) g) :=
  ⟨_, ho, fun x y v w M H Qd Q R rx ry ⟨i, j, ex, ey, c, q⟩ k => by
    subst ex; subst ey
    exact ⟨i, j, rx, ry, k _ (g i j) M H .refl R (hg i j M H) q⟩⟩
theorem OpD.or {f : Value → Value → Sem Value} {r r' : RD2} (h : OpD X f r) (h' : OpD X f r') : OpD X f (fun x y M Q => r x y M Q ∨ r' x y M Q) := by
  obtain ⟨a, h1, h2⟩ := h
  obtain ⟨b, h3, h4⟩ := h'
  refine ⟨_, h1.or h3, fun x y v w M H Qd Q R rx ry q k => ?_⟩
  rcases q with q | q
  · exact .inl (h2 x y v w M H Qd Q R rx ry q k)
  · exact .inr (h4 x y v w M H Qd Q R rx ry q k)
theorem od_sub : OpD X (binaryOp .Sub) rSub := od_I0 op_sub fun _ _ _ _ => rfl
theorem od_add : OpD X (binaryOp .Add) rAdd := od_I0 op_add fun _ _ _ _ => rfl
theorem nat64 {i : Int} (h : i.natAbs < 2 ^ 64) : -(2 ^ 64) < i ∧ i < 2 ^ 64 := by omega
theorem od_mulI : OpD X (binaryOp .Mult) rMulI := od_I op_mul (fun i j c => by rcases c with c | c <;> first | exact .inl (nat64 c) | exact .inr (nat64 c)) fun _ _ _ _ _ => rfl
theorem od_div : OpD X (binaryOp .FloorDiv) rDiv := od_I op_fdivW (fun i j c => ⟨c.1, by
  have h := c.2
  have : j.natAbs < 2 ^ 400 := by
    have e := Int.natAbs_of_nonneg (Int.le_of_lt c.1)
    exact Int.ofNat_lt.mp (by rw [e]; exact h)
  exact Nat.lt_of_lt_of_le (PySem.Flt.log2_lt_of (by decide : 0 < 400) this) (by decide)⟩) fun _ _ _ _ _ => rfl
theorem od_mod : OpD X (binaryOp .Mod) rMod := od_I op_mod (fun i j c => c) fun _ _ _ _ _ => rfl
theorem od_pow : OpD X (binaryOp .Pow) rPow := od_I op_pow (fun i j c => ⟨c.1, by have := c.2.1; omega, c.2.2⟩) fun _ _ _ _ _ => rfl
theorem od_lt : OpD X (compareOp .Lt) rLt := od_I0 op_lt fun _ _ _ _ => rfl
theorem od_le : OpD X (compareOp .LtE) rLe := od_I0 op_le fun _ _ _ _ => rfl
theorem od_gt : OpD X (compareOp .Gt) rGt := od_I0 op_gt fun _ _ _ _ => rfl
theorem od_ge : OpD X (compareOp .GtE) rGe := od_I0 op_ge fun _ _ _ _ => rfl
theorem ud_neg : UnD X (unaryOp .USub) rNeg := ⟨_, un_neg, fun x v M H Qd Q R rx ⟨i, e, q⟩ k => by
  subst e
  exact ⟨i, rx, k _ (.int (-i)) M H .refl R rfl q⟩⟩

/-! ### == -/
mutual
theorem Sees.dp {K : PySem.W.Frag} {mg : Str → Option Value} {M : MB} {H : Hp} (R : MR K mg M H) : ∀ {x : D} {p : PyData} {v : V}, Sees M.m x p → Rep K M H x v → Dp K H v p
  | _, _, _, .non, r => by cases r; exact .non
  | _, _, _, .bl b, r => by cases r; exact .bl b
  | _, _, _, .int i, r => by cases r; exact .int i
  | _, _, _, .str x, r => by cases r; exact .str x
  | _, _, _, .tup h, ⟨p, vs, e, h1, h2⟩ => by subst e; exact .tup h1 (SeesL.dp R h h2)
  | _, _, _, .lis h, ⟨p, vs, e, h1, h2⟩ => by subst e; exact .lst h1.e.l (SeesL.dp R h h2)
  | _, _, _, .lst h hl, ⟨a, ha, e⟩ => by
    subst e
    obtain ⟨vs, h1, h2⟩ := R.at_ _ _ _ ha h
    exact .lst (SqL.of h1) (SeesL.dp R hl h2)
theorem SeesL.dp {K : PySem.W.Frag} {mg : Str → Option Value} {M : MB} {H : Hp} (R : MR K mg M H) : ∀ {l : List D} {ps : List PyData} {vs : List V}, SeesL M.m l ps → Reps K M H l vs → DpAll K H vs ps
  | _, _, _, .nil, r => by cases r; exact .nil
  | _, _, _, .cons h hl, ⟨v, r, e, h1, h2⟩ => by subst e; exact .cons (Sees.dp R h h1) (SeesL.dp R hl h2)
end
theorem OpD.imp {f : Value → Value → Sem Value} {r r' : RD2} (h : OpD X f r) (i : ∀ x y M Q, r' x y M Q → r x y M Q) : OpD X f r' := by
  obtain ⟨a, h1, h2⟩ := h
  exact ⟨a, h1, fun x y v w M H Qd Q R rx ry q k => h2 x y v w M H Qd Q R rx ry (i _ _ _ _ q) k⟩
theorem od_eq (hu : X.A.units + 64 < cLine) : OpD X (compareOp .Eq) rEq := by
  refine ⟨fun x y H Q => ∃ d e, Dp X.K H x d ∧ Dp X.K H y e ∧ d.plain = true ∧ e.plain = true ∧ d.depth ≤ 60 ∧ Q (.bl (PyData.eqv d e)) H, ?_, fun x y v w M H Qd Q R rx ry ⟨p, q, h1, h2, h3, h4, h5, g⟩ k =>
    ⟨p, q, h1.dp R rx, h2.dp R ry, h3, h4, h5, k _ (.bl _) M H .refl R rfl g⟩⟩
  intro pins s σ H x y v u Q I rx ry ⟨d, e, hd, he, sd, se, hk, q⟩
  obtain ⟨as, r1⟩ := Dp.reads I d x v hd rx
  obtain ⟨bs, r2⟩ := Dp.reads I e y u he ry
  exact SeqAt.eq_plain r1 r2 sd se (Nat.lt_of_le_of_lt (Nat.add_le_add_left (Nat.le_trans (Nat.min_le_left _ _) (Nat.le_trans hk (by decide : 60 ≤ 64))) _) hu) ⟨.bl _, H, I, rfl, q⟩
theorem od_ne (hu : X.A.units + 64 < cLine) : OpD X (compareOp .NotEq) rNe := by
  refine ⟨fun x y H Q => ∃ d e, Dp X.K H x d ∧ Dp X.K H y e ∧ d.plain = true ∧ e.plain = true ∧ d.depth ≤ 60 ∧ Q (.bl (!PyData.eqv d e)) H, ?_, fun x y v w M H Qd Q R rx ry ⟨p, q, h1, h2, h3, h4, h5, g⟩ k =>
    ⟨p, q, h1.dp R rx, h2.dp R ry, h3, h4, h5, k _ (.bl _) M H .refl R rfl g⟩⟩
  intro pins s σ H x y v u Q I rx ry ⟨d, e, hd, he, sd, se, hk, q⟩
  obtain ⟨as, r1⟩ := Dp.reads I d x v hd rx
  obtain ⟨bs, r2⟩ := Dp.reads I e y u he ry
  exact SeqAt.ne_plain r1 r2 sd se (Nat.lt_of_le_of_lt (Nat.add_le_add_left (Nat.le_trans (Nat.min_le_left _ _) (Nat.le_trans hk (by decide : 60 ≤ 64))) _) hu) ⟨.bl _, H, I, rfl, q⟩

/-! ### repr -/
theorem cd_repr (hg : X.A.guards = some []) (hu : X.A.units + 64 < cLine) : CallD X (.builtin "repr") cRepr := by
  refine ⟨fun vs H Q => ∃ v p, vs = [v] ∧ Dp X.K H v p ∧ p.showable = true ∧ p.hasDict = false ∧ p.shown.length ≤ sizeLine ∧ p.depth ≤ 60 ∧ Q (.str p.shown) H, ?_, fun ds vs M H Qd Q R rs ⟨x, p, e, h1, h2, h3, h4, h5, q⟩ k => ?_⟩
  · intro pins s σ H xs us Q I r ⟨v, p, e, h1, h2, h3, h4, h5, q⟩
    subst e
    obtain ⟨u, eu, ru⟩ := vals1 r
    subst eu
    obtain ⟨as, rd⟩ := Dp.reads I p v u h1 ru
    have fin : ∀ tk, EP X pins σ Q (.str p.shown s.toks) { s with toks := tk } := fun tk => ⟨.str _, H, I.tok _, ⟨_, rfl⟩, q⟩
    cases h1 with
    | non => cases (show u = Value.none from ru); exact P.repr_of_none (fin _)
    | bl b => cases (show u = Value.bool b from ru); exact P.repr_of_bool (by cases b <;> exact fin _)
    | int i => obtain ⟨t, rfl⟩ := (show ∃ t, u = Value.int i t from ru); exact P.repr_of_int (of_decide_eq_true h2) (fin _)
    | str y => obtain ⟨t, rfl⟩ := (show ∃ t, u = Value.str y t from ru); exact P.repr_of_str (fin _) h4
    | @lst a xs ds ha hb =>
      cases (show u = Value.ref a from ru)
      exact repr_of_reads' rd h2 (fun z => by rw [h3] at z; cases z) hg (by omega) (fun _ _ z => z) (fun h' u tk kk => ⟨.str _, H, I.kept kk, ⟨u, rfl⟩, q⟩) h4
    | @tup a xs ds ha hb =>
      cases (show u = Value.ref a from ru)
      exact repr_of_reads' rd h2 (fun z => by rw [h3] at z; cases z) hg (by omega) (fun _ _ z => z) (fun h' u tk kk => ⟨.str _, H, I.kept kk, ⟨u, rfl⟩, q⟩) h4
  · subst e
    obtain ⟨v, r, e, rv, er⟩ := rs
    subst e; cases er
    exact ⟨v, p, rfl, h1.dp R rv, h2, h3, h4, h5, k _ (.str _) M H .refl R rfl q⟩

/-! ### sequences -/
theorem SqF.l {K : PySem.W.Frag} {H : Hp} {a : Addr} {xs : List V} (h : SqF K H a xs) : SqL K H a xs := h.e.l
theorem seqD_ref {M : MH} {k : Nat} {l : List D} (h : seqD M (.ref k) = some l) : M[k]? = some (some (.lst l)) := by
  have h' : (match M[k]? with
    | some (some (.lst l)) => some l
    | _ => none) = some l := h
  split at h'
  · cases h'; assumption
  · cases h'
theorem sq_of {K : PySem.W.Frag} {mg : Str → Option Value} {M : MB} {H : Hp} {x : D} {v : V} {l : List D} (R : MR K mg M H) (r : Rep K M H x v) (h : seqD M.m x = some l) : ∃ p vs, v = .ref p ∧ Reps K M H l vs ∧ ((x = .tup l ∧ SqT K H p vs) ∨ ((∀ l', x ≠ .tup l') ∧ SqE K H p vs)) := by
  cases x with
  | tup m => cases h; obtain ⟨p, vs, e, h1, h2⟩ := r; exact ⟨p, vs, e, h2, .inl ⟨rfl, h1⟩⟩
  | lis m => cases h; obtain ⟨p, vs, e, h1, h2⟩ := r; exact ⟨p, vs, e, h2, .inr ⟨by simp, h1.e⟩⟩
  | ref k => obtain ⟨a, ha, e⟩ := r; obtain ⟨vs, h1, h2⟩ := R.at_ _ _ _ ha (seqD_ref h); exact ⟨a, vs, e, h2, .inr ⟨by simp, .inl (.inl h1)⟩⟩
  | _ => cases h
theorem ixN_D {n : Nat} {i : Int} {j : Nat} (h : ixD n i = some j) : ixN n i = some j ∧ j < n := by
  unfold ixD at h
  unfold ixN
  by_cases h0 : 0 ≤ i
  · rw [if_pos h0] at h ⊢
    by_cases h1 : i < n
    · rw [if_pos h1] at h ⊢; cases h; exact ⟨rfl, by omega⟩
    · rw [if_neg h1] at h; cases h
  · rw [if_neg h0] at h ⊢
    by_cases h1 : 0 ≤ i + n
    · rw [if_pos h1] at h; cases h; rw [if_pos (by omega)]; exact ⟨rfl, by omega⟩
    · rw [if_neg h1] at h; cases h
def IxD (X : Cx) (r : RD2) : Prop := ∃ r' : R2, IxR X r' ∧ ∀ (x y : D) (v w : V) (M : MB) (H : Hp) (Qd : DQ) (Q : VK), MR X.K X.mg M H → Rep X.K M H x v → Rep X.K M H y w → r x y M.m Qd →
  (∀ z d M' H', Ev M H M' H' → MR X.K X.mg M' H' → Rep X.K M' H' d z → Qd d M'.m → Q z H') → r' v w H Q
theorem ix_any : IxR X (fun x y H Q => rIxT X.K x y H Q ∨ rIxL X.K x y H Q) := by
  intro value slice pins s σ H x y v u Q I rx ry h
  rcases h with h | h
  · exact ix_tup value slice pins s σ H x y v u Q I rx ry h
  · exact ix_list value slice pins s σ H x y v u Q I rx ry h
theorem xd_seq : IxD X rIx := ⟨_, ix_any, fun x y v w M H Qd Q R rx ry ⟨l, i, h1, h2, j, d, h3, h4, q⟩ k => by
  subst h2
  obtain ⟨p, vs, e, rs, hs⟩ := sq_of R rx h1
  subst e
  obtain ⟨z, g1, g2⟩ := rs.get h4
  have at' : atI vs i = some z := by
    unfold atI
    rw [← rs.len, (ixN_D h3).1]
    exact g1
  have fin := k z d M H .refl R g2 q
  rcases hs with ⟨_, hs⟩ | ⟨_, hs⟩
  · exact .inl ⟨p, vs, i, z, rfl, ry, hs, at', fin⟩
  · exact .inr ⟨p, vs, i, z, rfl, ry, hs.l, at', fin⟩⟩
theorem de_ix {a b : Expr} {ta tb : DE} {pos : Pos} {r : RD2} (hr : IxD X r) (ha : PEd X a ta) (hb : PEd X b tb) (hs : PlainIx b := by exact fun _ _ => rfl) : PEd X (.Subscript a b pos) (dOp r ta tb) := by
  obtain ⟨r', h1, h2⟩ := hr
  exact peI (pe_ix h1 ha hb hs) (lift_op h2)
theorem sIx_nn (n : Nat) {i : Int} (h : 0 ≤ i) (d : Nat) : HT.sIx n d (some i) = min i.toNat n := by
  show (if i < 0 then (i + (n : Int)).toNat else min i.toNat n) = _
  rw [if_neg (by omega)]
theorem cut_eq {α : Type} (xs : List α) (lo hi : Option Int) (h1 : ∀ i, lo = some i → 0 ≤ i) (h2 : ∀ i, hi = some i → 0 ≤ i) :
    (xs.drop (HT.sIx xs.length 0 lo)).take (HT.sIx xs.length xs.length hi - HT.sIx xs.length 0 lo) = cutD xs (lo.map Int.toNat) (hi.map Int.toNat) := by
  have el : HT.sIx xs.length 0 lo = min ((lo.map Int.toNat).getD 0) xs.length := by
    cases lo with
    | none => simp [HT.sIx]
    | some i => rw [sIx_nn _ (h1 i rfl)]; rfl
  have eh : HT.sIx xs.length xs.length hi = min ((hi.map Int.toNat).getD xs.length) xs.length := by
    cases hi with
    | none => simp [HT.sIx]
    | some i => rw [sIx_nn _ (h2 i rfl)]; rfl
  rw [el, eh]
  unfold cutD
  rw [List.drop_take]
  apply List.ext_getElem?
  intro j
  simp only [List.getElem?_take, List.getElem?_drop]
  generalize (lo.map Int.toNat).getD 0 = a
  generalize (hi.map Int.toNat).getD xs.length = b
  by_cases ha : a ≤ xs.length
  · rw [Nat.min_eq_left ha]
    by_cases hb : b ≤ xs.length
    · rw [Nat.min_eq_left hb]
    · by_cases h : j < xs.length - a
      · rw [if_pos (by omega), if_pos (by omega)]
      · rw [if_neg (by omega)]
        split
        · rw [List.getElem?_eq_none (by omega)]
        · rfl
  · rw [if_neg (by omega)]
    split
    · rw [List.getElem?_eq_none (by omega)]
    · rfl
theorem Reps.cut {K : PySem.W.Frag} {H : Hp} {l : List D} {vs : List V} (r : Reps K M H l vs) (lo hi : Option Int) (h1 : ∀ i, lo = some i → 0 ≤ i) (h2 : ∀ i, hi = some i → 0 ≤ i) :
    Reps K M H (cutD l (lo.map Int.toNat) (hi.map Int.toNat)) (cutV vs lo hi) := by
  rw [← cut_eq l lo hi h1 h2]
  unfold cutV
  rw [r.len]
  exact (r.drop _).take _
def LO (X : Cx) (t : DO) : TO := fun σ H Q => ∃ ρ M E Qd, Slots X.K M H ρ σ ∧ MR X.K X.mg M H ∧ t ρ M.m E Qd ∧ XOk X M σ H E ∧ ∀ i M' H', Ev M H M' H' → MR X.K X.mg M' H' → Qd i M'.m → Q i H'
theorem do_none : PO X none (LO X dNone) := ⟨fun pins s σ H Q I ⟨ρ, M, E, Qd, S, R, q, xo, k⟩ => po_none.run pins s σ H Q I (k none M H .refl R q)⟩
theorem do_some {e : Expr} {te : DE} (h : PEd X e te) : PO X (some e) (LO X (dSome te)) := ⟨fun pins s σ H Q I ⟨ρ, M, E, Qd, S, R, q, xo, k⟩ => (po_some h).run pins s σ H Q I ⟨ρ, M, E, _, S, R, q, xo, fun v d M1 H1 e1 R1 r1 ⟨i, e, q1⟩ => by
  subst e
  exact ⟨i, r1, k (some i) M1 H1 e1 R1 q1⟩⟩⟩
theorem de_slice {mk : MkR} (hm : MkOk mk) {e : Expr} {lo hi : Option Expr} {te : DE} {tl th : DO} {p2 pos : Pos} (he : PEd X e te) (hl : PO X lo (LO X tl)) (hh : PO X hi (LO X th)) :
    PEd X (.Subscript e (.Slice lo hi none p2) pos) (dSl mk te tl th) :=
  peI (pe_frz (pe_slice (sl_tupA.or sl_list) he hl hh)) fun σ H Q ⟨ρ, M, E, Qd, S, R, q, xo, k⟩ => ⟨ρ, M, E, _, S, R, q, xo, fun v d M1 H1 e1 R1 r1 q1 => ⟨ρ, M1, E, _, S.ev e1, R1, q1, xo.later e1, fun i M2 H2 e2 R2 q2 =>
    ⟨ρ, M2, E, _, S.ev (e1.trans e2), R2, q2, xo.later (e1.trans e2), fun j M3 H3 e3 R3 ⟨p1, p2, q3⟩ => by
      have r3 := r1.ev (e2.trans e3)
      rcases q3 with ⟨l, e, q3⟩ | ⟨l, hn, hx, q3⟩
      · subst e
        obtain ⟨a, vs, ea, ht, rs⟩ := r3
        subst ea
        refine .inl ⟨a, vs, rfl, ht, fun ⟨z1, z2⟩ => ?_, fun _ p n => ?_⟩
        · have hc := rs.cut i j p1 p2
          have : cutV vs i j = vs := by unfold cutV; rw [z1, z2]; simp
          rw [this] at hc
          exact .inl <| k _ (.tup (cutD l (i.map Int.toNat) (j.map Int.toNat))) M3 H3 ((e1.trans e2).trans e3) R3 ⟨a, vs, rfl, ht, hc⟩ q3
        · exact .inl <| k _ (.tup (cutD l (i.map Int.toNat) (j.map Int.toNat))) M3 (upd H3 p (.tup (cutV vs i j))) (((e1.trans e2).trans e3).trans (.new n)) (R3.new n) ⟨p, _, rfl, sq_new, (rs.cut i j p1 p2).ev (Ev.new (M := M3) n)⟩ q3
      · obtain ⟨a, vs, ea, rs, hl⟩ := sq_of R3 r3 hx
        subst ea
        rcases hl with ⟨e, _⟩ | ⟨_, hl⟩
        · exact absurd e (hn l)
        · exact .inr ⟨a, vs, rfl, hl.l, fun p n => hm.new R3 n trivial (o := .lst (cutD l (i.map Int.toNat) (j.map Int.toNat))) ⟨_, upd_same, (rs.cut i j p1 p2).ev (Ev.new (M := M3) n)⟩ q3 fun v d M' H' e' R' r' q' => k v d M' H' (((e1.trans e2).trans e3).trans e') R' r' q'⟩⟩⟩⟩

/-! ### calls of builtins -/
theorem de_callB {x : Str} {p pos : Pos} {e : Expr} {es : List Expr} {t : DA} {id : String} {r : BD} (hc : CallD X (.builtin id) r) (hm : X.mg x = none) (ha : PAd X (e :: es) t) (hv : bootBuiltins x = some (.builtin id) := by decide +kernel) (hg : Gl X x := by rfl)
    (hn : x ≠ "__name__" := by decide) (hdb : (x == ("__debug__" : Str)) = false := by decide) (he : starEach (e :: es) X.env = (false, eval e X.env) :: starEach es X.env := by rfl) (hpl : (backTo pos (starEach es X.env)).any (·.1) = false := by rfl) :
    PEd X (.Call (.Name x p) (e :: es) [] pos) (dCallB r t) := by
  obtain ⟨r', h1, h2⟩ := hc
  exact peI (pe_callB h1 hg hm hv ha hn hdb he hpl) fun σ H Q ⟨ρ, M, E, Qd, S, R, q, xo, k⟩ => ⟨ρ, M, E, _, S, R, q, xo, fun vs ds M1 H1 e1 R1 r1 q1 => h2 ds vs M1 H1 Qd Q R1 r1 q1 fun z d M' H' e' R' r' q' => k z d M' H' (e1.trans e') R' r' q'⟩
theorem de_callTy {x : Str} {p pos : Pos} {e : Expr} {es : List Expr} {t : DA} {T : String} {r : BD} (hc : CallD X (.type T) r) (hm : X.mg x = none) (ha : PAd X (e :: es) t) (hv : bootBuiltins x = some (.type T) := by decide +kernel) (hg : Gl X x := by rfl)
    (hn : x ≠ "__name__" := by decide) (hdb : (x == ("__debug__" : Str)) = false := by decide) (he : starEach (e :: es) X.env = (false, eval e X.env) :: starEach es X.env := by rfl) (hpl : (backTo pos (starEach es X.env)).any (·.1) = false := by rfl) :
    PEd X (.Call (.Name x p) (e :: es) [] pos) (dCallB r t) := by
  obtain ⟨r', h1, h2⟩ := hc
  exact peI (pe_callTy h1 hg hm hv ha hn hdb he hpl) fun σ H Q ⟨ρ, M, E, Qd, S, R, q, xo, k⟩ => ⟨ρ, M, E, _, S, R, q, xo, fun vs ds M1 H1 e1 R1 r1 q1 => h2 ds vs M1 H1 Qd Q R1 r1 q1 fun z d M' H' e' R' r' q' => k z d M' H' (e1.trans e') R' r' q'⟩
theorem de_callTyZ {x : Str} {p pos : Pos} {e : Expr} {es : List Expr} {t : DA} {T : String} {r : BD} (hc : CallZ X (.type T) r) (hm : X.mg x = none) (ha : PAd X (e :: es) t) (hv : bootBuiltins x = some (.type T) := by decide +kernel) (hg : Gl X x := by rfl)
    (hn : x ≠ "__name__" := by decide) (hdb : (x == ("__debug__" : Str)) = false := by decide) (he : starEach (e :: es) X.env = (false, eval e X.env) :: starEach es X.env := by rfl) (hpl : (backTo pos (starEach es X.env)).any (·.1) = false := by rfl) :
    PEd X (.Call (.Name x p) (e :: es) [] pos) (dCallB r t) := by
  obtain ⟨r', h1, h2⟩ := hc
  exact peI (pe_frz (pe_callTy h1 hg hm hv ha hn hdb he hpl)) fun σ H Q ⟨ρ, M, E, Qd, S, R, q, xo, k⟩ => ⟨ρ, M, E, _, S, R, q, xo, fun vs ds M1 H1 e1 R1 r1 q1 => h2 ds vs M1 H1 Qd Q R1 r1 q1 fun z d M' H' e' R' r' q' => k z d M' H' (e1.trans e') R' r' q'⟩
theorem Reps.one' {K : PySem.W.Frag} {H : Hp} {d : D} {vs : List V} (h : Reps K M H [d] vs) : ∃ v, vs = [v] ∧ Rep K M H d v := by
  obtain ⟨v, r, e, h1, h2⟩ := h
  cases h2
  exact ⟨v, e, h1⟩
theorem Reps.two' {K : PySem.W.Frag} {H : Hp} {d e : D} {vs : List V} (h : Reps K M H [d, e] vs) : ∃ v w, vs = [v, w] ∧ Rep K M H d v ∧ Rep K M H e w := by
  obtain ⟨v, r, e, h1, w, r', e', h2, h3⟩ := h
  cases h3; subst e'
  exact ⟨v, w, e, h1, h2⟩
theorem cd_list {mk : MkR} (hm : MkOk mk) : CallZ X (.type "list") (cList mk) := ⟨_, call_list_of, fun ds vs M H Qd Q R rs ⟨x, e, l, h, q⟩ k => by
  subst e
  obtain ⟨v, ev, rv⟩ := rs.one'
  subst ev
  obtain ⟨p, us, ep, ru, hs⟩ := sq_of R rv h
  subst ep
  exact ⟨p, us, rfl, hs.symm.imp (·.2.l) (·.2), fun a n => hm.new R n trivial (o := .lst l) ⟨_, upd_same, ru.ev (Ev.new (M := M) n)⟩ q k⟩⟩
theorem cd_tuple : CallD X (.type "tuple") cTuple := ⟨_, call_tuple_of, fun ds vs M H Qd Q R rs ⟨x, e, l, h, q⟩ k => by
  subst e
  obtain ⟨v, ev, rv⟩ := rs.one'
  subst ev
  obtain ⟨p, us, ep, ru, hs⟩ := sq_of R rv h
  subst ep
  rcases hs with ⟨_, hs⟩ | ⟨_, hs⟩
  · exact ⟨p, us, rfl, .inr ⟨hs, k _ (.tup l) M H .refl R ⟨p, us, rfl, hs, ru⟩ q⟩⟩
  · exact ⟨p, us, rfl, .inl ⟨hs.l, fun a n => k _ (.tup l) M _ (.new n) (R.new n) ⟨a, us, rfl, sq_new, ru.ev (Ev.new (M := M) n)⟩ q⟩⟩⟩
theorem cd_int : CallD X (.type "int") cIntB := ⟨_, call_int1, fun ds vs M H Qd Q R rs ⟨x, e, h⟩ k => by
  subst e
  rcases h with ⟨i, e, q⟩ | ⟨i, e, q⟩
  · subst e
    obtain ⟨v, ev, rv⟩ := rs.one'
    subst ev; cases rv
    exact .inl ⟨i, rfl, k _ (.int i) M H .refl R rfl q⟩
  · subst e
    obtain ⟨v, ev, rv⟩ := rs.one'
    subst ev; cases rv
    exact .inr ⟨i, rfl, k _ (.int _) M H .refl R rfl q⟩⟩
theorem cd_abs : CallD X (.builtin "abs") cAbs := ⟨_, call_abs, fun ds vs M H Qd Q R rs ⟨x, e, i, ei, q⟩ k => by
  subst e; subst ei
  obtain ⟨v, ev, rv⟩ := rs.one'
  subst ev; cases rv
  exact ⟨i, rfl, k _ (.int _) M H .refl R rfl q⟩⟩
theorem cd_max2 (hc : X.calm = true) : CallD X (.builtin "max") cMax2 := ⟨_, call_max2 hc, fun ds vs M H Qd Q R rs ⟨x, y, e, i, ei, j, ej, q⟩ k => by
  subst e; subst ei; subst ej
  obtain ⟨v, w, ev, rv, rw'⟩ := rs.two'
  subst ev; cases rv; cases rw'
  exact ⟨i, j, rfl, k _ (.int _) M H .refl R rfl q⟩⟩
theorem cd_min2 (hc : X.calm = true) : CallD X (.builtin "min") cMin2 := ⟨_, call_min2 hc, fun ds vs M H Qd Q R rs ⟨x, y, e, i, ei, j, ej, q⟩ k => by
  subst e; subst ei; subst ej
  obtain ⟨v, w, ev, rv, rw'⟩ := rs.two'
  subst ev; cases rv; cases rw'
  exact ⟨i, j, rfl, k _ (.int _) M H .refl R rfl q⟩⟩
theorem cd_len : CallD X (.builtin "len") cLen := ⟨_, call_len, fun ds vs M H Qd Q R rs ⟨x, e, l, h, q⟩ k => by
  subst e
  obtain ⟨v, ev, rv⟩ := rs.one'
  subst ev
  obtain ⟨p, us, ep, ru, hs⟩ := sq_of R rv h
  subst ep
  refine ⟨.ref p, us.length, rfl, ?_, k _ (.int _) M H .refl R rfl (by rw [← ru.len]; exact q)⟩
  rcases hs with ⟨_, hs⟩ | ⟨_, hs⟩
  · exact .inr ⟨us, hs, rfl⟩
  · exact .inl ⟨us, hs.l, rfl⟩⟩

/-! ### isinstance of a builtin type -/
theorem kit_non (T : Ty) : kitB "NoneType" T.nm = some false := by cases T <;> decide +kernel
theorem kit_bl (T : Ty) : kitB "bool" T.nm = some (match T with | .int => true | .bool => true | _ => false) := by cases T <;> decide +kernel
theorem kit_int (T : Ty) : kitB "int" T.nm = some (match T with | .int => true | _ => false) := by cases T <;> decide +kernel
theorem kit_str (T : Ty) : kitB "str" T.nm = some (match T with | .str => true | _ => false) := by cases T <;> decide +kernel
theorem kit_tup (T : Ty) : kitB "tuple" T.nm = some (match T with | .tuple => true | _ => false) := by cases T <;> decide +kernel
theorem kit_lis (T : Ty) : kitB "list" T.nm = some (match T with | .list => true | _ => false) := by cases T <;> decide +kernel
theorem kit_dic (T : Ty) : kitB "dict" T.nm = some (match T with | .dict => true | _ => false) := by cases T <;> decide +kernel
theorem ty_of {K : PySem.W.Frag} {mg : Str → Option Value} {M : MB} {H : Hp} (R : MR K mg M H) {x : D} {v : V} (r : Rep K M H x v) (T : Ty) {Q : DQ} (h : rIsi T x M.m Q) : ∃ t b, TyX K H v (.type t) ∧ kitB t T.nm = some b ∧ Q (.bl b) M.m := by
  obtain ⟨ho, q⟩ := h
  cases x with
  | non => cases r; exact ⟨"NoneType", _, .base .non, kit_non T, by cases T <;> exact q⟩
  | bl b => cases r; exact ⟨"bool", _, .base (.bl b), kit_bl T, by cases T <;> exact q⟩
  | int i => cases r; exact ⟨"int", _, .base (.int i), kit_int T, by cases T <;> exact q⟩
  | str i => cases r; exact ⟨"str", _, .base (.str i), kit_str T, by cases T <;> exact q⟩
  | ref k =>
    obtain ⟨a, ha, e⟩ := r
    subst e
    rcases ho with ⟨l, hm⟩ | ⟨l, hm⟩
    · obtain ⟨vs, h1, h2⟩ := R.at_ _ _ _ ha hm
      exact ⟨"list", _, .base (.lst h1), kit_lis T, by simp only [isTy, hm] at q; cases T <;> exact q⟩
    · obtain ⟨vs, h1, h2⟩ := R.at_ _ _ _ ha hm
      exact ⟨"dict", _, .base (.dK h1), kit_dic T, by simp only [isTy, hm] at q; cases T <;> exact q⟩
  | tup l =>
    obtain ⟨p, vs, e, h1, h2⟩ := r
    subst e
    refine ⟨"tuple", _, ?_, kit_tup T, by cases T <;> exact q⟩
    rcases h1 with (h1 | ⟨o, h1⟩) | ⟨o, its, n, h1, h3, _⟩
    · exact .base (.tup h1)
    · exact .fTuple h1
    · exact .kTuple h1 h3
  | lis l =>
    obtain ⟨p, vs, e, h1, h2⟩ := r
    subst e
    refine ⟨"list", _, ?_, kit_lis T, by cases T <;> exact q⟩
    rcases h1 with ⟨o, h1⟩ | ⟨its, n, h1, _⟩
    · exact .base (.frz h1)
    · exact .kList h1 rfl
  | dct ks l =>
    obtain ⟨p, vs, o, e, h1, _⟩ := r
    subst e
    exact ⟨"dict", _, .fDict h1, kit_dic T, by cases T <;> exact q⟩
theorem de_isi (T : Ty) {e : Expr} {te : DE} {x y : Str} {p p' pos : Pos} (hi : X.mg "isinstance" = none) (hT : X.mg y = none) (he : PEd X e te) (hx : x = "isinstance" := by rfl) (hv : bootBuiltins y = some (.type T.nm) := by decide +kernel)
    (hg : Gl X x := by rfl) (hg' : Gl X y := by rfl) (hn : y ≠ "__name__" := by decide) (hd : (y == ("__debug__" : Str)) = false := by decide)
    (h1 : starEach [e, .Name y p'] X.env = (false, eval e X.env) :: starEach [.Name y p'] X.env := by rfl) (h2 : starEach [.Name y p'] X.env = (false, eval (.Name y p') X.env) :: starEach [] X.env := by rfl) (hpl : (backTo pos (starEach [.Name y p'] X.env)).any (·.1) = false := by rfl) :
    PEd X (.Call (.Name x p) [e, .Name y p'] [] pos) (dUn (rIsi T) te) := by
  subst hx
  refine peI (pe_callB call_isi hg hi (by decide +kernel) (pa_cons he (pa_cons (pe_bltn (v := .ty T.nm) hg' hT hv rfl hn hd) pa_nil h2) h1) (by decide) (by decide) h1 hpl) fun σ H Q ⟨ρ, M, E, Qd, S, R, q, xo, k⟩ => ?_
  refine ⟨ρ, M, E, _, S, R, q, xo, fun v d M1 H1 e1 R1 r1 q1 => ?_⟩
  obtain ⟨t, b, h1, h2, h3⟩ := ty_of R1 r1 T q1
  exact ⟨v, .ty T.nm, .type t, .type T.nm, b, rfl, .ty _, h1, kit_ty h2, k _ (.bl b) M1 H1 e1 R1 rfl h3⟩

/-! ### + of tuples, of lists -/
theorem Reps.ne {K : PySem.W.Frag} {H : Hp} {l : List D} {vs : List V} (r : Reps K M H l vs) : l = [] ↔ vs = [] := by
  have := r.len
  cases l <;> cases vs <;> simp_all
theorem od_plusI : OpD X (binaryOp .Add) rAdd := od_add
def rCatT : RD2 := fun x y M Q => ∃ l m, x = .tup l ∧ y = .tup m ∧ l.length + m.length ≤ sizeLine ∧ Q (.tup (l ++ m)) M
def rCatL (mk : MkR) : RD2 := fun x y M Q => ∃ l m, (∀ l', x ≠ .tup l') ∧ (∀ l', y ≠ .tup l') ∧ seqD M x = some l ∧ seqD M y = some m ∧ l.length + m.length ≤ sizeLine ∧ mk M (.lst (l ++ m)) Q
def rCatS : RD2 := fun x y M Q => ∃ l m, x = .str l ∧ y = .str m ∧ l.length + m.length ≤ sizeLine ∧ Q (.str (l ++ m)) M
theorem od_catT : OpD X (binaryOp .Add) rCatT := ⟨_, op_catA (X := X), fun x y v w M H Qd Q R rx ry ⟨l, m, ex, ey, z, q⟩ k => by
  subst ex; subst ey
  obtain ⟨p, vs, ev, h1, r1⟩ := rx
  obtain ⟨p2, ws, ew, h2, r2⟩ := ry
  subst ev; subst ew
  refine ⟨p, p2, vs, ws, rfl, rfl, h1, h2, by rw [← r1.len, ← r2.len]; exact z, fun e => ?_, fun e e' => ?_, fun e e' a n => ?_⟩
  · have := r1.ne.mpr e
    subst this
    exact k _ (.tup m) M H .refl R ⟨p2, ws, rfl, h2, r2⟩ q
  · have := r2.ne.mpr e'
    subst this
    exact k _ (.tup l) M H .refl R ⟨p, vs, rfl, h1, r1⟩ (by simpa using q)
  · exact k _ (.tup (l ++ m)) M _ (.new n) (R.new n) ⟨a, _, rfl, sq_new, (r1.app r2).ev (Ev.new (M := M) n)⟩ q⟩
/-- two lists -/
theorem op_catL : OpR X (binaryOp .Add) (fun x y H Q => ∃ a b xs ys, x = .ref a ∧ y = .ref b ∧ SqL X.K H a xs ∧ SqL X.K H b ys ∧ xs.length + ys.length ≤ sizeLine ∧ ∀ p, H p = none → Q (.ref p) (upd H p (.lst (xs ++ ys)))) := by
  intro pins s σ H x y v u Q I rx ry ⟨a, b, xs, ys, ex, ey, hx, hy, hz, q⟩
  subst ex; subst ey
  cases rx; cases ry
  obtain ⟨its, r1, ⟨⟨c1, d1, dt1, s1⟩, n1, p1, e1, e2, e3⟩, _⟩ := I.list hx
  obtain ⟨its2, r2, ⟨⟨c2, d2, dt2, s2⟩, n2, p2, g1, g2, g3⟩, _⟩ := I.list hy
  dsimp only at e1 e2 e3 g1 g2 g3
  subst e1 e2 e3 g1 g2 g3
  have eq : its.toArray ++ its2.toArray = (its ++ its2).toArray := by simp
  refine concat_meets ⟨_, p1, rfl⟩ ⟨_, p2, rfl⟩ noFill_list_add seq_list_add PySem.F.slot_list_add PySem.F.entry_list_add (PySem.F.args_list_add_2 _ _)
    (PyProof.Rows.list_addW a b its.toArray its2.toArray n1 n2 none none s1 s2 (by simp only [List.size_toArray]; rw [← r1.length, ← r2.length]; exact hz)) ⟨p1, p2, ?_⟩
  rw [eq]
  exact ⟨.ref _, _, I.lnew (t' := s.toks) (r1.append r2) (by rw [List.length_append]; exact hz), rfl, q _ I.fresh⟩
theorem od_catL {mk : MkR} (hm : MkOk mk) : OpZ X (binaryOp .Add) (rCatL mk) := ⟨_, op_catL (X := X), fun x y v w M H Qd Q R rx ry ⟨l, m, nx, ny, hx, hy, z, q⟩ k => by
  obtain ⟨a, vs, ev, r1, h1⟩ := sq_of R rx hx
  obtain ⟨b, ws, ew, r2, h2⟩ := sq_of R ry hy
  subst ev; subst ew
  rcases h1 with ⟨e, _⟩ | ⟨_, h1⟩
  · exact absurd e (nx l)
  rcases h2 with ⟨e, _⟩ | ⟨_, h2⟩
  · exact absurd e (ny m)
  exact ⟨a, b, vs, ws, rfl, rfl, h1.l, h2.l, by rw [← r1.len, ← r2.len]; exact z, fun p n => hm.new R n trivial (o := .lst (l ++ m)) ⟨_, upd_same, (r1.app r2).ev (Ev.new (M := M) n)⟩ q k⟩⟩
theorem OpZ.or {f : Value → Value → Sem Value} {r r' : RD2} (h : OpZ X f r) (h' : OpZ X f r') : OpZ X f (fun x y M Q => r x y M Q ∨ r' x y M Q) := by
  obtain ⟨a, h1, h2⟩ := h
  obtain ⟨b, h3, h4⟩ := h'
  refine ⟨_, h1.or h3, fun x y v w M H Qd Q R rx ry q k => ?_⟩
  rcases q with q | q
  · exact .inl (h2 x y v w M H Qd Q R rx ry q k)
  · exact .inr (h4 x y v w M H Qd Q R rx ry q k)
theorem OpZ.imp {f : Value → Value → Sem Value} {r r' : RD2} (h : OpZ X f r) (i : ∀ x y M Q, r' x y M Q → r x y M Q) : OpZ X f r' := by
  obtain ⟨a, h1, h2⟩ := h
  exact ⟨a, h1, fun x y v w M H Qd Q R rx ry q k => h2 x y v w M H Qd Q R rx ry (i _ _ _ _ q) k⟩
/-- a rule for all continuations serves the ones that lock, too -/
theorem OpD.z {f : Value → Value → Sem Value} {r : RD2} (h : OpD X f r) : OpZ X f r := by
  obtain ⟨a, h1, h2⟩ := h
  exact ⟨a, h1, fun x y v w M H Qd Q R rx ry q k => h2 x y v w M H Qd (frzQ Q) R rx ry q fun z d M' H' e R r q => .inl (k z d M' H' e R r q)⟩
theorem od_catS : OpD X (binaryOp .Add) rCatS := ⟨_, op_add_str, fun x y v w M H Qd Q R rx ry ⟨i, j, ex, ey, c, q⟩ k => by
  subst ex; subst ey
  exact ⟨i, j, rx, ry, c, k _ (.str (i ++ j)) M H .refl R rfl q⟩⟩
theorem od_plus {mk : MkR} (hm : MkOk mk) : OpZ X (binaryOp .Add) (rPlus mk) := (od_add.z.or (od_catT.z.or (od_catS.z.or (od_catL hm)))).imp fun x y M Q q => by
  unfold rPlus at q
  split at q
  · exact .inl ⟨_, _, rfl, rfl, trivial, q⟩
  · exact .inr (.inl ⟨_, _, rfl, rfl, q.1, q.2⟩)
  · exact .inr (.inr (.inl ⟨_, _, rfl, rfl, q.1, q.2⟩))
  · exact .inr (.inr (.inr q))
def rRepD : RD2 := fun x y M Q => ∃ l k, x = .tup l ∧ y = .int k ∧ l ≠ [] ∧ 2 ≤ k ∧ k ≤ 1000 ∧ l.length ≤ 1000 ∧ Q (.tup (List.replicate k.toNat l).flatten) M
theorem Reps.rep {K : PySem.W.Frag} {M : MB} {H : Hp} {l : List D} {vs : List V} (r : Reps K M H l vs) : ∀ n : Nat, Reps K M H (List.replicate n l).flatten (List.replicate n vs).flatten
  | 0 => rfl
  | n + 1 => by rw [List.replicate_succ, List.replicate_succ, List.flatten_cons, List.flatten_cons]; exact r.app (Reps.rep r n)
theorem od_rep : OpD X (binaryOp .Mult) rRepD := ⟨_, op_repT (X := X), fun x y v w M H Qd Q R rx ry ⟨l, n, ex, ey, h1, h2, h3, h4, q⟩ k => by
  subst ex; subst ey
  obtain ⟨p, vs, ev, ht, r⟩ := rx
  subst ev; cases ry
  exact ⟨p, n, vs, rfl, rfl, ht, fun z => h1 (r.ne.mpr z), h2, h3, by rw [← r.len]; exact h4, fun a na => k _ (.tup (List.replicate n.toNat l).flatten) M _ (.new na) (R.new na) ⟨a, _, rfl, sq_new, (r.rep _).ev (Ev.new (M := M) na)⟩ q⟩⟩
theorem od_mul : OpD X (binaryOp .Mult) rMul := (od_mulI.or od_rep).imp fun x y M Q q => by
  unfold rMul at q
  split at q
  · exact .inl ⟨_, _, rfl, rfl, q.1, q.2⟩
  · exact .inr ⟨_, _, rfl, rfl, q⟩
  · exact q.elim
theorem de_globI {x : Str} {i : Int} {pos : Pos} (h : ∃ t, X.mg x = some (.int i t)) (hg : Gl X x := by rfl) (hd : (x == ("__debug__" : Str)) = false := by decide) : PEd X (.Name x pos) (dC (.int i)) := by
  obtain ⟨t, e⟩ := h
  exact de_const (pe_glob (v := .int i) hg e ⟨t, rfl⟩ hd) fun _ _ => rfl
/-- d[k] -/
theorem ix_dict (hu : X.A.units + 1 < cLine) : IxR X (fun x y H Q => ∃ a v, x = .ref a ∧ DGet H a y (some v) ∧ Q v H) := by
  intro value slice pins s σ H x y v u Q I rx ry ⟨a, w, ex, g, q⟩ hs
  subst ex; cases rx
  have hT := dict_typeIs I g
  have core : wpAny (model X.prog X.w) X.A (getItem (.ref a) u) (EP X pins σ Q) X.xe s := d_getItem hu I g ry fun w' s3 I3 rw' => ⟨w, H, I3, rw', q⟩
  unfold PyProof.Rows.subscriptTail
  refine wpAny_bind ?_
  rw [getitemInPython_of_ne hT.not_modules]
  refine wpAny_bind (wpAny_specialOf hT PySem.F.slot_dict_getitem.lookup ?_)
  have last : wpAny (model X.prog X.w) X.A (subscripted slice false (.ref a) u) (fun r s₃ => wpAny (model X.prog X.w) X.A (letTemporaryGo value (.ref a) r >>= fun _ => pure r) (EP X pins σ Q) X.xe s₃) X.xe s := by
    rw [hs]
    exact wpAny_operating (wpAny_mono core (fun r s₃ h₃ => wpAny_bind (wpAny_letTemporaryGo (wpAny_pure h₃))) fun _ _ x => x)
  first
    | exact wpAny_pure (wpAny_bind last)
    | exact wpAny_bind (wpAny_pure (wpAny_bind last))
    | exact wpAny_bind last
theorem RepKV.val {κ : Type} [DecidableEq κ] {K : PySem.W.Frag} {M : MB} {H : Hp} {k : κ} : ∀ {l : List (κ × D)} {ks : List (κ × V)}, RepKV K M H l ks → (∀ d, lookD l k = some d → ∃ v, valV ks k = some v ∧ Rep K M H d v) ∧ (lookD l k = none → valV ks k = none)
  | [], _, h => by cases h; exact ⟨fun d e => by simp [lookD] at e, fun _ => rfl⟩
  | (j, d) :: l, _, ⟨v, r, e, h1, h2⟩ => by
    subst e
    by_cases hj : j = k
    · refine ⟨fun d' e => ?_, fun e => ?_⟩
      · simp [lookD, List.find?_cons, hj] at e
        subst e
        exact ⟨v, by simp [valV, List.find?_cons, hj], h1⟩
      · simp [lookD, List.find?_cons, hj] at e
    · have ih := RepKV.val (k := k) h2
      refine ⟨fun d' e => ?_, fun e => ?_⟩
      · simp [lookD, List.find?_cons, hj] at e
        obtain ⟨v', e1, r1⟩ := ih.1 d' (by simp [lookD]; exact e)
        exact ⟨v', by simpa [valV, List.find?_cons, hj] using e1, r1⟩
      · simp [lookD, List.find?_cons, hj] at e
        simpa [valV, List.find?_cons, hj] using ih.2 (by simp [lookD]; exact e)
theorem key_rep {K : PySem.W.Frag} {M : MB} {H : Hp} {d : D} {k : Key} {v : V} (h : d.key = some k) (r : Rep K M H d v) : v = kV k := by
  cases d <;> simp [D.key] at h <;> subst h <;> cases r <;> rfl
theorem kv_zip {K : PySem.W.Frag} {M : MB} {H : Hp} : ∀ {ks : List Key} {ds : List D} {vs : List V}, ks.length = ds.length → Reps K M H ds vs → RepKV K M H (ks.zip ds) (ks.zip vs)
  | [], _, _, _, _ => rfl
  | k :: ks, [], _, h, _ => nomatch h
  | k :: ks, d :: ds, _, h, ⟨v, r, e, h1, h2⟩ => by subst e; exact ⟨v, _, rfl, h1, kv_zip (by simpa using h) h2⟩
theorem dicD_ref {M : MH} {k : Nat} {l : List (Key × D)} (h : dicD M (.ref k) = some l) : M[k]? = some (some (.dic l)) := by
  have h' : (match M[k]? with
    | some (some (.dic l)) => some l
    | _ => none) = some l := h
  split at h'
  · cases h'; assumption
  · cases h'
theorem dic_rd {K : PySem.W.Frag} {mg : Str → Option Value} {M : MB} {H : Hp} {x : D} {v : V} {l : List (Key × D)} (R : MR K mg M H) (r : Rep K M H x v) (h : dicD M.m x = some l) : ∃ a ks, v = .ref a ∧ Rd H a (.dK ks) ∧ RepKV K M H l ks := by
  cases x with
  | ref k =>
    obtain ⟨a, ha, e⟩ := r
    obtain ⟨ks, h1, h2⟩ := R.at_ _ _ _ ha (dicD_ref h)
    exact ⟨a, ks, e, .inl h1, h2⟩
  | dct js ds =>
    cases h
    obtain ⟨p, vs, o, e, h1, hl, h2⟩ := r
    exact ⟨p, _, e, .inr ⟨o, h1⟩, kv_zip hl h2⟩
  | _ => cases h
theorem xd_any (hu : X.A.units + 1 < cLine) : IxD X rItem := by
  obtain ⟨r', h1, h2⟩ := xd_seq (X := X)
  refine ⟨_, h1.or (ix_dict hu), fun x y v w M H Qd Q R rx ry q k => ?_⟩
  rcases q with q | ⟨l, j, d, hm, ek, hd, q⟩
  · exact .inl (h2 x y v w M H Qd Q R rx ry q k)
  · obtain ⟨a, ks, e, h3, h4⟩ := dic_rd R rx hm
    subst e
    obtain ⟨u, h5, h6⟩ := (h4.val (k := j)).1 d hd
    exact .inr ⟨a, u, rfl, .inl ⟨ks, j, h3, key_rep ek ry, h5.symm⟩, k _ d M H .refl R h6 q⟩

/-! ### a list, a dict that nobody writes to from now on -/
theorem de_frz {e : Expr} {te : DE} (h : PEd X e te) : PEd X e (dUn rFrz te) := peI (pe_frz h) fun σ H Q ⟨ρ, M, E, Qd, S, R, q, xo, k⟩ => ⟨ρ, M, E, _, S, R, q, xo, fun v d M1 H1 e1 R1 r1 ⟨j, o, d', ed, em, f, q1⟩ => by
  subst ed
  obtain ⟨a, ha, ev⟩ := r1
  subst ev
  obtain ⟨u, g1, g2, g3⟩ := frz_rep (R1.at_ _ _ _ ha em) f
  refine .inr ⟨a, u, rfl, g1, g2, fun ob => ?_⟩
  have E := Ev.put (M := M1) (k := j) (v := none) (u := .frz ob u) ha g1 g2
  exact k (.ref a) d' (M1.put j none) _ (e1.trans E) (R1.lock ha g1 g2) (g3 ob _ _ E.sq upd_same) q1⟩
end
end DM

/-! DM: statements, loops, comprehensions. -/
namespace DM
open PySem PySem.Spec L2
section
variable {X : Cx} {e a b c : Expr} {es : List Expr} {ta tb tc te : DE} {tA : DT} {t u : DS} {pos : Pos} {st : Stmt} {rest : List Stmt}

theorem ds_nil : PSsd X [] dNext := pssI pss_nil fun D σ H ⟨ρ, M, De, S, R, q, k⟩ => k.nx σ H ρ M .refl S R q
theorem ds_cons (h1 : PSd X st t) (h2 : PSsd X rest u) : PSsd X (st :: rest) (dSeq t u) := pssI (pss_cons h1 h2) fun D σ H ⟨ρ, M, De, S, R, q, k⟩ =>
  ⟨ρ, M, _, S, R, q, ⟨fun σ1 H1 ρ1 M1 e1 S1 R1 q1 => ⟨ρ1, M1, De, S1, R1, q1, k.later e1⟩, k.rt, k.bk, k.ct, k.ex⟩⟩
theorem ds_cut (h1 : PSd X st t) (h2 : PSsd X rest u) : PSsd X (st :: rest) (dCut t u) := pssI (pss_cons h1 h2) fun D σ H ⟨ρ, M, De, S, R, ⟨J, q, hj⟩, k⟩ =>
  ⟨ρ, M, _, S, R, q, ⟨fun σ1 H1 ρ1 M1 e1 S1 R1 q1 => ⟨ρ1, M1, De, S1, R1, hj ρ1 M1.m q1, k.later e1⟩, k.rt, k.bk, k.ct, k.ex⟩⟩
theorem ds_one (h1 : PSd X st t) : PSsd X [st] t := pss_one h1
theorem ds_pass : PSd X (.Pass pos) dNext := psI ps_pass fun D σ H ⟨ρ, M, De, S, R, q, k⟩ => k.nx σ H ρ M .refl S R q
theorem ds_break : PSd X (.Break pos) dBreak := psI ps_break fun D σ H ⟨ρ, M, De, S, R, q, k⟩ => k.bk σ H ρ M .refl S R q
theorem ds_continue : PSd X (.Continue pos) dCont := psI ps_continue fun D σ H ⟨ρ, M, De, S, R, q, k⟩ => k.ct σ H ρ M .refl S R q
theorem ds_expr (he : PEd X e te) (hs : swapsWith e none pos.line X.env = pure false := by rfl) : PSd X (.Expr e pos) (dDrop te) := psI (ps_expr he hs) fun D σ H ⟨ρ, M, De, S, R, q, k⟩ =>
  ⟨ρ, M, _, _, S, R, q, k.xok S, fun v d M1 H1 e1 R1 r1 q1 => k.nx σ H1 ρ M1 e1 (S.ev e1) R1 q1⟩
theorem ds_ret (he : PEd X e te) : PSd X (.Return (some e) pos) (dRet te) := psI (ps_ret he) fun D σ H ⟨ρ, M, De, S, R, q, k⟩ =>
  ⟨ρ, M, _, _, S, R, q, k.xok S, fun v d M1 H1 e1 R1 r1 q1 => k.rt v d M1 H1 e1 R1 r1 q1⟩
theorem ds_retN : PSd X (.Return none pos) dRetN := psI ps_retN fun D σ H ⟨ρ, M, De, S, R, q, k⟩ => k.rt .non .non M H .refl R rfl q
theorem ds_if {c : Expr} {a b : List Stmt} (hc : PTd X c tA) (ha : PSsd X a t) (hb : PSsd X b u) : PSd X (.If c a b pos) (dIfS tA t u) := psI (ps_if hc ha hb) fun D σ H ⟨ρ, M, De, S, R, q, k⟩ =>
  ⟨ρ, M, _, _, S, R, q, k.xok S, fun c M1 H1 e1 R1 q1 => by
    cases c with
    | true => exact ⟨ρ, M1, De, S.ev e1, R1, q1, k.later e1⟩
    | false => exact ⟨ρ, M1, De, S.ev e1, R1, q1, k.later e1⟩⟩

/-! ### targets -/
mutual
/-- a target's reading below -/
def LG (K : PySem.W.Frag) : Tg → TG
  | .nm i => gName i
  | .tp ts => gTup K ts.length (LGs K ts)
def LGs (K : PySem.W.Frag) : List Tg → TGs
  | [] => gNil
  | t :: ts => gCons (LG K t) (LGs K ts)
end
mutual
theorem LG_ok {K : PySem.W.Frag} {M : MB} {H : Hp} : ∀ (g : Tg) {d : D} {v : V} {ρ : DSt} {σ : L2.St} {Qd : DSt → Prop} {Q : L2.St → Hp → Prop}, Rep K M H d v → Slots K M H ρ σ → g.store d ρ Qd → (∀ ρ' σ', Slots K M H ρ' σ' → Qd ρ' → Q σ' H) → LG K g v σ H Q
  | .nm i, _, _, _, _, _, _, r, S, q, k => by rw [LG]; exact k _ _ (S.set r) (by rw [Tg.store] at q; exact q)
  | .tp ts, _, _, _, _, _, _, r, S, q, k => by
    rw [Tg.store] at q
    rw [LG]
    obtain ⟨l, e, hl, q⟩ := q
    subst e
    obtain ⟨p, vs, ev, ht, rs⟩ := r
    subst ev
    exact ⟨p, vs, rfl, ht, by rw [← rs.len, hl], LGs_ok ts rs hl S q k⟩
theorem LGs_ok {K : PySem.W.Frag} {M : MB} {H : Hp} : ∀ (ts : List Tg) {l : List D} {vs : List V} {ρ : DSt} {σ : L2.St} {Qd : DSt → Prop} {Q : L2.St → Hp → Prop}, Reps K M H l vs → l.length = ts.length → Slots K M H ρ σ → Tg.stores ts l ρ Qd → (∀ ρ' σ', Slots K M H ρ' σ' → Qd ρ' → Q σ' H) → LGs K ts vs σ H Q
  | [], l, vs, _, _, _, _, r, hl, S, q, k => by
    have : l = [] := by cases l with | nil => rfl | cons _ _ => simp at hl
    subst this
    cases r
    rw [LGs]
    rw [Tg.stores] at q
    · exact ⟨rfl, k _ _ S q⟩
    · intro _ _ _ _ h; cases h
  | t :: ts, l, vs, _, _, _, _, r, hl, S, q, k => by
    cases l with
    | nil => simp at hl
    | cons d l =>
      obtain ⟨v, vr, ev, h1, h2⟩ := r
      subst ev
      rw [Tg.stores] at q
      rw [LGs]
      exact ⟨v, vr, rfl, LG_ok t h1 S q fun ρ' σ' S' q' => LGs_ok ts h2 (by simpa using hl) S' q' k⟩
end
structure PGd (X : Cx) (tg : Expr) (g : Tg) : Prop where
  of : PG X tg (LG X.K g)
structure PGsd (X : Cx) (tgs : List Expr) (gs : List Tg) : Prop where
  of : PGs X tgs (LGs X.K gs)
theorem dg_nm (i : Nat) {x : Str} {pos : Pos} (hN : X.N.Nodup) (hi : X.N[i]? = some x := by rfl) (hx : Loc X.env.scope x := by first | exact Or.inl rfl | exact Or.inr rfl) (hf : X.fn x = true ∨ X.env.scope.names.lookup x = some .local := by first | exact .inl rfl | exact .inr rfl | assumption) : PGd X (.Name x pos) (.nm i) :=
  ⟨by rw [LG]; exact pg_name hN hi hx hf⟩
theorem dgs_nil : PGsd X [] [] := ⟨by rw [LGs]; exact pgs_nil⟩
theorem dgs_cons {g : Tg} {gs : List Tg} (h1 : PGd X e g) (h2 : PGsd X es gs) (hs : (assignEach (e :: es) X.env).map (·.2) = assign e X.env :: (assignEach es X.env).map (·.2) := by rfl) : PGsd X (e :: es) (g :: gs) :=
  ⟨by rw [LGs]; exact pgs_cons h1.of h2.of hs⟩
theorem dg_tp {gs : List Tg} {k : Nat} (hc : X.calm = true) (h : PGsd X es gs) (hn : (assignEach es X.env).length = gs.length := by rfl) (hst : (assignEach es X.env).findIdx? (·.1) = none := by rfl) : PGd X (.Tuple es k pos) (.tp gs) :=
  ⟨by rw [LG]; exact pg_tup hc h.of hn hst⟩
theorem ds_set {i : Nat} {x : Str} {pos' : Pos} (hN : X.N.Nodup) (he : PEd X e te) (hi : X.N[i]? = some x := by rfl) (hx : Loc X.env.scope x := by first | exact Or.inl rfl | exact Or.inr rfl) (hs : swapsWith e (some (.Name x pos')) pos.line X.env = pure false := by rfl) (hf : X.fn x = true ∨ X.env.scope.names.lookup x = some .local := by first | exact .inl rfl | exact .inr rfl | assumption) :
    PSd X (.Assign [.Name x pos'] e pos) (dAsg te (.nm i)) := psI (ps_set hN hi hx he hs hf) fun D σ H ⟨ρ, M, De, S, R, q, k⟩ =>
  ⟨ρ, M, _, _, S, R, q, k.xok S, fun v d M1 H1 e1 R1 r1 q1 => k.nx _ H1 _ M1 e1 ((S.ev e1).set r1) R1 (by simpa only [Tg.store] using q1)⟩
theorem ds_asg {tg : Expr} {g : Tg} (he : PEd X e te) (hg : PGd X tg g) (hs : swapsWithSole [tg] e pos.line X.env = pure false := by rfl) (hw : swappedStores [tg] e X.env = pure none := by rfl) (h1 : (assignEach [tg] X.env).map (·.2) = [assign tg X.env] := by rfl) :
    PSd X (.Assign [tg] e pos) (dAsg te g) := psI (ps_asg he hg.of hs hw h1) fun D σ H ⟨ρ, M, De, S, R, q, k⟩ =>
  ⟨ρ, M, _, _, S, R, q, k.xok S, fun v d M1 H1 e1 R1 r1 q1 => LG_ok g r1 (S.ev e1) q1 fun ρ' σ' S' q' => k.nx σ' H1 ρ' M1 e1 S' R1 q'⟩
theorem ds_par {i j : Nat} {x y : Str} {a b : Expr} {t : DA} {px py pt : Pos} {kt k2 pt2} (hc : X.calm = true) (hN : X.N.Nodup) (ha : PAd X [a, b] t) (hi : X.N[i]? = some x := by rfl) (hj : X.N[j]? = some y := by rfl) (hij : i ≠ j := by decide)
    (hx : X.env.scope.names.lookup x = some .local := by rfl) (hy : X.env.scope.names.lookup y = some .local := by rfl)
    (hw : swappedStores [.Tuple [.Name x px, .Name y py] kt pt] (.Tuple [a, b] k2 pt2) X.env = pure (some [x, y]) := by rfl)
    (hs : swapsWithSole [.Tuple [.Name x px, .Name y py] kt pt] (.Tuple [a, b] k2 pt2) pos.line X.env = pure false := by rfl) :
    PSd X (.Assign [.Tuple [.Name x px, .Name y py] kt pt] (.Tuple [a, b] k2 pt2) pos) (dPar i j t) := psI (ps_par hc hN hi hj hij hx hy ha hw hs) fun D σ H ⟨ρ, M, De, S, R, q, k⟩ =>
  ⟨ρ, M, _, _, S, R, q, k.xok S, fun vs ds M1 H1 e1 R1 r1 ⟨x, y, ed, q1⟩ => by
    subst ed
    obtain ⟨v, w, ev, rv, rw'⟩ := r1.two'
    subst ev
    exact ⟨v, w, rfl, k.nx _ H1 _ M1 e1 (((S.ev e1).set rv).set rw') R1 q1⟩⟩
/-- o[i] = e -/
theorem RepKV.put {κ : Type} [DecidableEq κ] {K : PySem.W.Frag} {M : MB} {H : Hp} {k : κ} {d : D} {v : V} (r : Rep K M H d v) {l : List (κ × D)} {ks : List (κ × V)} (h : RepKV K M H l ks) : RepKV K M H (putD l k d) (putK ks k v) := by
  have h1 : ∀ {l : List (κ × D)} {ks : List (κ × V)}, RepKV K M H l ks → (l.any fun p => decide (p.1 = k)) = (ks.any fun p => decide (p.1 = k)) ∧ RepKV K M H (l.map fun p => if p.1 = k then (p.1, d) else p) (ks.map fun p => if p.1 = k then (p.1, v) else p) ∧ RepKV K M H (l ++ [(k, d)]) (ks ++ [(k, v)]) := by
    intro l
    induction l with
    | nil => intro ks h; cases h; exact ⟨rfl, rfl, ⟨v, [], rfl, r, rfl⟩⟩
    | cons x l ih =>
      intro ks h
      obtain ⟨j, e⟩ := x
      obtain ⟨w, ws, eq, h1, h2⟩ := h
      subst eq
      obtain ⟨i1, i2, i3⟩ := ih h2
      refine ⟨by simp [i1], ?_, ⟨w, _, rfl, h1, i3⟩⟩
      by_cases hj : j = k
      · simp only [List.map_cons, hj, if_true]; exact ⟨v, _, rfl, r, i2⟩
      · simp only [List.map_cons, hj, if_false]; exact ⟨w, _, rfl, h1, i2⟩
  obtain ⟨a, b, c⟩ := h1 h
  unfold putD putK
  rw [a]
  split
  · exact b
  · exact c
theorem ds_setIx {o i e : Expr} {to ti te : DE} {tpos : Pos} (hu : X.A.units + 1 < cLine) (he : PEd X e te) (ho : PEd X o to) (hi : PEd X i ti)
    (ha : ∀ v, assign (.Subscript o i tpos) X.env v = (do
      let ov ← holding [v] (eval o X.env)
      let iv ← holding [v, ov] (eval i X.env)
      standAt tpos
      holding [v, ov, iv] (setItem ov iv v)
      release [v, ov, iv] []) := by intro _; rfl)
    (hs : swapsWithSole [.Subscript o i tpos] e pos.line X.env = pure false := by rfl) (hw : swappedStores [.Subscript o i tpos] e X.env = pure none := by rfl) (h1 : (assignEach [.Subscript o i tpos] X.env).map (·.2) = [assign (.Subscript o i tpos) X.env] := by rfl) :
    PSd X (.Assign [.Subscript o i tpos] e pos) (dSetIx te to ti) := by
  have both : PSet X (fun o i v H Q => L2.rSetL o i v H Q ∨ rSetD o i v H Q) := by
    intro pins s σ H o i v ov iv u Q I ro ri rv h
    rcases h with h | h
    · exact set_list pins s σ H o i v ov iv u Q I ro ri rv h
    · exact set_dict hu pins s σ H o i v ov iv u Q I ro ri rv h
  exact psI (ps_asg he (pg_sub ho hi both ha) hs hw h1) fun D σ H ⟨ρ, M, De, S, R, q, k⟩ =>
  ⟨ρ, M, _, _, S, R, q, k.xok S, fun v d M1 H1 e1 R1 r1 q1 => ⟨ρ, M1, _, _, S.ev e1, R1, q1, (k.xok S).later e1, fun w d2 M2 H2 e2 R2 r2 q2 => ⟨ρ, M2, _, _, S.ev (e1.trans e2), R2, q2, (k.xok S).later (e1.trans e2), fun z d3 M3 H3 e3 R3 r3 ⟨c, ec, q3⟩ => by
    subst ec
    obtain ⟨a, hca, ew⟩ := r2.ev e3
    subst ew
    rcases q3 with ⟨l, n, hm, en, j, hj, q3⟩ | ⟨l, n, hm, en, hz, q3⟩
    · subst en; cases r3
      obtain ⟨vs, g1, g2⟩ := R3.at_ _ _ _ hca hm
      refine .inl ⟨a, vs, n, j, rfl, rfl, g1, by rw [← g2.len]; exact (ixN_D hj).1, ?_⟩
      have E := Ev.put (M := M3) (H := H3) (k := c) (v := some (.lst (l.set j d))) (u := .lst (vs.set j v)) hca g1 trivial
      exact k.nx _ _ ρ (M3.put c (some (.lst (l.set j d)))) (((e1.trans e2).trans e3).trans E) (S.ev (((e1.trans e2).trans e3).trans E)) (R3.put hca g1 trivial ⟨_, upd_same, (g2.set ((r1.ev e2).ev e3) j).ev E⟩) q3
    · obtain ⟨vs, g1, g2⟩ := R3.at_ _ _ _ hca hm
      have E := Ev.put (M := M3) (H := H3) (k := c) (v := some (.dic (putD l n d))) (u := .dK (putK vs n v)) hca g1 trivial
      have hl : l.length = vs.length := by
        have : ∀ {l : List (Key × DM.D)} {ks : List (Key × V)}, RepKV X.K M3 H3 l ks → l.length = ks.length := by
          intro l
          induction l with
          | nil => intro ks h; cases h; rfl
          | cons x l ih => intro ks h; obtain ⟨j, e⟩ := x; obtain ⟨w, ws, eq, h1, h2⟩ := h; subst eq; simp [ih h2]
        exact this g2
      refine .inr ⟨a, upd H3 a (.dK (putK vs n v)), rfl, ?_, ?_⟩
      · rw [key_rep en r3]; exact DPut.k g1 (by rw [← hl]; exact hz)
      · exact k.nx _ _ ρ (M3.put c (some (.dic (putD l n d)))) (((e1.trans e2).trans e3).trans E) (S.ev (((e1.trans e2).trans e3).trans E)) (R3.put hca g1 trivial ⟨_, upd_same, (g2.put ((r1.ev e2).ev e3)).ev E⟩) q3⟩⟩⟩
/-- x op= e of a name -/
def IpD (X : Cx) (op : Operator) (r : RD2) : Prop := ∃ r' : TIp, PIp X op r' ∧ ∀ (x y : D) (v w : V) (M : MB) (H : Hp) (Qd : DQ) (Q : VK), MR X.K X.mg M H → Rep X.K M H x v → Rep X.K M H y w → r x y M.m Qd →
  (∀ z d M' H', Ev M H M' H' → MR X.K X.mg M' H' → Rep X.K M' H' d z → Qd d M'.m → Q z H') → r' v w H Q
theorem pd_add : IpD X .Add rAdd := ⟨_, ip_add, fun x y v w M H Qd Q R rx ry ⟨i, j, ex, ey, c, q⟩ k => by
  subst ex; subst ey
  exact ⟨i, j, rx, ry, k _ (.int (i + j)) M H .refl R rfl q⟩⟩
theorem pd_sub : IpD X .Sub rSub := ⟨_, ip_sub, fun x y v w M H Qd Q R rx ry ⟨i, j, ex, ey, c, q⟩ k => by
  subst ex; subst ey
  exact ⟨i, j, rx, ry, k _ (.int (i - j)) M H .refl R rfl q⟩⟩
theorem pip_mul : PIp X .Mult (fun x y H Q => ∃ i j, x = .int i ∧ y = .int j ∧ CMul i j ∧ Q (.int (i * j)) H) := fun pins s σ H x y v u Q I r1 r2 h => iop_mul pins s σ H x y v u Q I r1 r2 h
theorem pd_mul : IpD X .Mult rMulI := ⟨_, pip_mul, fun x y v w M H Qd Q R rx ry ⟨i, j, ex, ey, c, q⟩ k => by
  subst ex; subst ey
  exact ⟨i, j, rx, ry, (by rcases c with c | c <;> first | exact .inl (nat64 c) | exact .inr (nat64 c)), k _ (.int (i * j)) M H .refl R rfl q⟩⟩
theorem ds_aug {i : Nat} {x : Str} {op : Operator} {r : RD2} {pos' : Pos} (hN : X.N.Nodup) (ho : IpD X op r) (he : PEd X e te) (hi : X.N[i]? = some x := by rfl) (hx : Loc X.env.scope x := by first | exact Or.inl rfl | exact Or.inr rfl) (hf : X.fn x = true ∨ X.env.scope.names.lookup x = some .local := by first | exact .inl rfl | exact .inr rfl | assumption) :
    PSd X (.AugAssign (.Name x pos') op e pos) (dAug i r te) := by
  obtain ⟨r', h1, h2⟩ := ho
  exact psI (ps_aug hN hi hx he h1 hf) fun D σ H ⟨ρ, M, De, S, R, ⟨x, ex, q⟩, k⟩ => by
    obtain ⟨v, ev, rv⟩ := S.2 i x ex
    exact ⟨v, ev, ρ, M, _, _, S, R, q, k.xok S, fun w d M1 H1 e1 R1 r1 q1 => h2 x d v w M1 H1 _ _ R1 (rv.ev e1) r1 q1 fun z dz M2 H2 e2 R2 r2 q2 => k.nx _ H2 _ M2 (e1.trans e2) ((S.ev (e1.trans e2)).set r2) R2 q2⟩

/-! ### methods of lists -/
def MtD (X : Cx) (id : String) (r : D → BD) : Prop := ∃ r', MtM X id r' ∧ ∀ (x : D) (ds : List D) (v : V) (vs : List V) (M : MB) (H : Hp) (Qd : DQ) (Q : VK), MR X.K X.mg M H → Rep X.K M H x v → Reps X.K M H ds vs → r x ds M.m Qd →
  (∀ z d M' H', Ev M H M' H' → MR X.K X.mg M' H' → Rep X.K M' H' d z → Qd d M'.m → Q z H') → r' v vs H Q
def TyD (X : Cx) (T : String) (ty : MH → D → Prop) : Prop := ∀ x v M H, MR X.K X.mg M H → Rep X.K M H x v → ty M.m x → tyV X.K T v H
theorem ty_lst {X : Cx} : TyD X "list" isLst := fun x v M H R r ⟨a, l, e, hm⟩ => by
  subst e
  obtain ⟨b, hb, e⟩ := r
  subst e
  obtain ⟨vs, h1, _⟩ := R.at_ _ _ _ hb hm
  exact .inl ⟨rfl, _, .inl (.inl h1)⟩
theorem de_meth {o e : Expr} {es : List Expr} {to : DE} {t : DA} {name : Str} {apos cpos : Pos} {T id : String} {r : D → BD} {ty : MH → D → Prop} (pa : PlainAttrs T) (slot : Slot T name id) (hty : typeOf (.builtin id) = pure (.type "method_descriptor")) (hm : MtD X id r) (hT : TyD X T ty) (ho : PEd X o to) (ha : PAd X (e :: es) t)
    (hbase : attributeBase o name X.env (eval o X.env) = eval o X.env := by rfl)
    (hfew : ((backTo cpos (starEach (e :: es) X.env)).all (fun x => !x.1) && (backToKw cpos (keywordEach [] X.env)).all (fun x => x.1.isSome)
      && decide ((e :: es).length + ([] : List Keyword).length + (if ([] : List Keyword).isEmpty then 0 else 1) < 30)) = true := by rfl)
    (hline : (apos.endLine == cpos.line) = true := by rfl) (hs : starEach (e :: es) X.env = (false, eval e X.env) :: starEach es X.env := by rfl) (hplain : (backTo cpos (starEach es X.env)).any (·.1) = false := by rfl) :
    PEd X (.Call (.Attribute o name apos) (e :: es) [] cpos) (dMeth ty r to t) := by
  obtain ⟨r', h1, h2⟩ := hm
  exact peI (pe_bm pa slot hty h1 ho ha hbase hfew hline hs hplain) fun σ H Q ⟨ρ, M, E, Qd, S, R, q, xo, k⟩ => ⟨ρ, M, E, _, S, R, q, xo, fun v d M1 H1 e1 R1 r1 ⟨q0, q1⟩ => ⟨hT d v M1 H1 R1 r1 q0, ρ, M1, E, _, S.ev e1, R1, q1, xo.later e1, fun vs ds M2 H2 e2 R2 r2 q2 =>
    h2 d ds v vs M2 H2 Qd Q R2 (r1.ev e2) r2 q2 fun z d M' H' e' R' r' q' => k z d M' H' ((e1.trans e2).trans e') R' r' q'⟩⟩
theorem md_append : MtD X "list.append" mAppend := ⟨_, mt_append, fun x ds v vs M H Qd Q R rx rs ⟨c, l, d, ex, ed, hm, hz, q⟩ k => by
  subst ex; subst ed
  obtain ⟨a, hc, ev⟩ := rx
  subst ev
  obtain ⟨w, ew, rw'⟩ := rs.one'
  subst ew
  obtain ⟨us, h1, h2⟩ := R.at_ _ _ _ hc hm
  have E := Ev.put (M := M) (H := H) (k := c) (v := some (.lst (l ++ [d]))) (u := .lst (us ++ [w])) hc h1 trivial
  exact ⟨a, us, w, rfl, rfl, h1, by rw [← h2.len]; exact hz, k _ .non (M.put c (some (.lst (l ++ [d])))) _ E (R.put hc h1 trivial ⟨_, upd_same, (h2.app (.one rw')).ev E⟩) rfl q⟩⟩
/-- xs.extend(ys) of any list -/
theorem mt_extendE : MtM X "list.extend" (fun x vs H Q => ∃ l b xs zs, x = .ref l ∧ vs = [.ref b] ∧ H l = some (.lst xs) ∧ SqE X.K H b zs ∧ xs.length + zs.length ≤ sizeLine ∧ Q .non (upd H l (.lst (xs ++ zs)))) := by
  intro pins s σ H x vs v us Q I rx rv ⟨l, b, xs, zs, ex, evs, hH, hB, hz, q⟩
  subst ex; subst evs
  cases rx
  obtain ⟨u, rfl, ru⟩ := rv.one
  cases ru
  obtain ⟨z, its, n, r, hl, e⟩ := I.lstM hH
  obtain ⟨its2, n2, r2, z2, e2⟩ := hB.at I
  have hl2 := r2.length
  refine call_meets F.slot_list_extend ⟨_, e, rfl⟩ F.entry_list_extend (F.args_list_extend_2 _ _)
    (AutoSeq1.list_extend_list_list_0 l its.toArray n b its2.toArray n2 ?_ (by rw [List.size_toArray]; omega) (by simp only [List.size_toArray]; omega)) ⟨e, e2, ?_⟩
  · rw [notLongL (by rw [List.size_toArray, List.size_toArray]; omega), Bool.and_false]; exact Bool.false_ne_true
  · exact ⟨.non, _, I.lset (its' := its ++ its2) hH e (by simp) (r.append r2) (by rw [List.length_append]; omega), rfl, q⟩
theorem md_extend : MtD X "list.extend" mExtend := ⟨_, mt_extendE, fun x ds v vs M H Qd Q R rx rs ⟨c, l, y, m, ex, ed, hm, hy, nt, hz, q⟩ k => by
  subst ex; subst ed
  obtain ⟨a, hc, ev⟩ := rx
  subst ev
  obtain ⟨w, ew, rw'⟩ := rs.one'
  subst ew
  obtain ⟨us, h1, h2⟩ := R.at_ _ _ _ hc hm
  obtain ⟨b, ws, eb, g2, g1⟩ := sq_of R rw' hy
  subst eb
  rcases g1 with ⟨z, _⟩ | ⟨_, g1⟩
  · exact absurd z (nt _)
  have E := Ev.put (M := M) (H := H) (k := c) (v := some (.lst (l ++ m))) (u := .lst (us ++ ws)) hc h1 trivial
  exact ⟨a, b, us, ws, rfl, rfl, h1, g1, by rw [← h2.len, ← g2.len]; exact hz, k _ .non (M.put c (some (.lst (l ++ m)))) _ E (R.put hc h1 trivial ⟨_, upd_same, (h2.app g2).ev E⟩) rfl q⟩⟩
end
end DM

/-! DM: loops, comprehensions. -/
namespace DM
open PySem PySem.Spec L2
/-- an iterator yields the items xs while G stands -/
structure Snd (K : PySem.W.Frag) (mg : Str → Option Value) (M0 : MB) (H0 : Hp) (J : It) (xs : List D) (G : MH → Prop) : Prop where
  go : ∀ i x M H, KeepT K M0 H0 M H → MR K mg M H → G M.m → xs[i]? = some x → J.go i H
  yld : ∀ i x M H v H', KeepT K M0 H0 M H → MR K mg M H → G M.m → xs[i]? = some x → J.yld i H v H' → Ev M H M H' ∧ MR K mg M H' ∧ Rep K M H' x v
  stop : ∀ M H, KeepT K M0 H0 M H → MR K mg M H → G M.m → J.stop xs.length H
def PId (X : Cx) (tg iter : Expr) (ti : DI) : Prop := ∃ wi, PI X tg iter wi ∧ ∀ (σ : L2.St) (H : Hp) (R : It → Hp → Prop) (ρ : DSt) (M : MB) (E : XQ) (Rd : List D → (MH → Prop) → MH → Prop), Slots X.K M H ρ σ → MR X.K X.mg M H → ti ρ M.m E Rd → XOk X M σ H E →
  (∀ J xs G M' H', Ev M H M' H' → MR X.K X.mg M' H' → Snd X.K X.mg M' H' J xs G → Rd xs G M'.m → R J H') → wi σ H R
theorem KeepT.refl {K : PySem.W.Frag} {M : MB} {H : Hp} : KeepT K M H M H := ⟨fun _ _ h => h, fun _ _ h => h, fun _ _ _ h => h, fun _ _ h => h⟩
theorem KeepT.trans {K : PySem.W.Frag} {M M1 M2 : MB} {H H1 H2 : Hp} (a : KeepT K M H M1 H1) (b : KeepT K M1 H1 M2 H2) : KeepT K M H M2 H2 := ⟨fun x y h => b.t x y (a.t x y h), fun x y h => b.f x y (a.f x y h), fun x y z h => b.z x y z (a.z x y z h), fun k x h => b.r k x (a.r k x h)⟩
section
variable {X : Cx} {tg iter : Expr} {pos : Pos}
/-- over a tuple, a list -/
def itAny (K : PySem.W.Frag) (tl : TE) : TI := fun σ H R => tl σ H fun x H1 => ∃ a, x = .ref a ∧ ((∃ xs, SqT K H1 a xs ∧ R (Itt K a) H1) ∨ (∃ xs, SqL K H1 a xs ∧ R (Itl K a) H1))
theorem pi_seq {l : Expr} {tl : TE} (hl : PE X l tl) : PI X tg l (itAny X.K tl) := by
  refine ⟨fun pins s σ H R I h => ?_⟩
  refine thn (hl.run pins s σ H _ I h) fun v s1 ⟨x, H1, I1, r1, a, e, q⟩ => ?_
  subst e
  cases r1
  have step : ∀ {o : Obj} {J : It} {tn : Nat → Heap → Prop}, Turn X.prog X.w X.K tg J [s1.heap.objs.size] s1.heap.objs.size tn → tn 0 (s1.heap.push o) → R J H1 →
      PIE X pins σ tg R (.ref s1.heap.objs.size) { s1 with heap := s1.heap.push o } := fun {o J tn} T t0 q => by
    refine ⟨s1.heap.objs.size, [s1.heap.objs.size], _, _, H1, rfl, I1.kept (t' := s1.toks) fun b o e => Heap.get?_push_of_some _ e, T, t0, fun b hb => ?_, q⟩
    have e : b = s1.heap.objs.size := by simpa using hb
    subst e
    exact I1.fpOk (Nat.le_refl _) (I1.hok.fresh (Nat.le_refl _))
  rcases q with ⟨xs, hq, q⟩ | ⟨xs, hq, q⟩
  · obtain ⟨its, rv, p, hz⟩ := I1.tuple hq
    exact wpAny_pyIter_tuple (show s1.heap.IsTuple a its.toArray from p) (step (turn_tuple a _) ⟨_, Heap.get?_push_size _ rfl, rfl, rfl⟩ q)
  · obtain ⟨its, rv, p, hz⟩ := I1.list hq
    exact wpAny_pyIter_list p.isList (step (turn_list a _) ⟨_, Heap.get?_push_size _ rfl, rfl, rfl⟩ q)
theorem Snd.t {K : PySem.W.Frag} {mg : Str → Option Value} {M : MB} {H : Hp} {a : Addr} {vs : List V} {xs : List D} (h : SqT K H a vs) (r : Reps K M H xs vs) : Snd K mg M H (Itt K a) xs (fun _ => True) where
  go := fun i x M H' k R g e => by
    obtain ⟨v, e1, _⟩ := r.get e
    exact ⟨vs, v, k.t _ _ h, e1⟩
  yld := fun i x M H' v H'' k R g e y => by
    obtain ⟨e0, y⟩ := y
    subst e0
    obtain ⟨v', e1, r1⟩ := r.get e
    have := y vs (k.t _ _ h)
    rw [e1] at this; cases this
    exact ⟨.refl, R, r1.mono k⟩
  stop := fun M H' k R g => ⟨vs, k.t _ _ h, Nat.le_of_eq r.len.symm⟩
theorem Snd.f {K : PySem.W.Frag} {mg : Str → Option Value} {M : MB} {H : Hp} {a : Addr} {vs : List V} {xs : List D} (h : SqF K H a vs) (r : Reps K M H xs vs) : Snd K mg M H (Itl K a) xs (fun _ => True) where
  go := fun i x M H' k R g e => by
    obtain ⟨v, e1, _⟩ := r.get e
    exact ⟨vs, v, (k.f _ _ h).e.l, e1⟩
  yld := fun i x M H' v H'' k R g e y => by
    obtain ⟨e0, y⟩ := y
    subst e0
    obtain ⟨v', e1, r1⟩ := r.get e
    have := y vs (k.f _ _ h).e.l
    rw [e1] at this; cases this
    exact ⟨.refl, R, r1.mono k⟩
  stop := fun M H' k R g => ⟨vs, (k.f _ _ h).e.l, Nat.le_of_eq r.len.symm⟩
theorem Snd.l {K : PySem.W.Frag} {mg : Str → Option Value} {M : MB} {H : Hp} {p : Nat} {a : Addr} {xs : List D} (ha : M.i[p]? = some a) : Snd K mg M H (Itl K a) xs (fun M => M[p]? = some (some (.lst xs))) where
  go := fun i x M H' k R g e => by
    obtain ⟨vs, h1, r⟩ := R.at_ _ _ _ (k.r _ _ ha) g
    obtain ⟨v, e1, _⟩ := r.get e
    exact ⟨vs, v, .of h1, e1⟩
  yld := fun i x M H' v H'' k R g e y => by
    obtain ⟨e0, y⟩ := y
    subst e0
    obtain ⟨vs, h1, r⟩ := R.at_ _ _ _ (k.r _ _ ha) g
    obtain ⟨v', e1, r1⟩ := r.get e
    have := y vs (.of h1)
    rw [e1] at this; cases this
    exact ⟨.refl, R, r1⟩
  stop := fun M H' k R g => by
    obtain ⟨vs, h1, r⟩ := R.at_ _ _ _ (k.r _ _ ha) g
    exact ⟨vs, .of h1, Nat.le_of_eq r.len.symm⟩
theorem rangeD_get : ∀ (n : Nat) (lo : Int) (i : Nat), i < n → (rangeD lo n)[i]? = some (.int (lo + i))
  | 0, _, _, h => by omega
  | n + 1, lo, 0, _ => by simp [rangeD]
  | n + 1, lo, i + 1, h => by
    rw [rangeD, List.getElem?_cons_succ, rangeD_get n (lo + 1) i (by omega)]
    congr 2
    push_cast
    omega
theorem rangeD_len : ∀ (n : Nat) (lo : Int), (rangeD lo n).length = n
  | 0, _ => rfl
  | n + 1, lo => by rw [rangeD, List.length_cons, rangeD_len n]
theorem Snd.r {K : PySem.W.Frag} {mg : Str → Option Value} {M : MB} {H : Hp} {lo : Int} {n : Nat} : Snd K mg M H (Itr lo n) (rangeD lo n) (fun _ => True) where
  go := fun i x M H' k R g e => by
    have := (List.getElem?_eq_some_iff.mp e).1
    rw [rangeD_len] at this
    exact this
  yld := fun i x M H' v H'' k R g e y => by
    obtain ⟨e0, y⟩ := y
    subst e0; subst y
    have h := (List.getElem?_eq_some_iff.mp e).1
    rw [rangeD_len] at h
    rw [rangeD_get n lo i h] at e
    cases e
    exact ⟨.refl, R, rfl⟩
  stop := fun M H' k R g => by
    show n ≤ (rangeD lo n).length
    rw [rangeD_len]; exact Nat.le_refl _
/-- what seqI walks -/
theorem seqI_ok {M1 : MB} {H1 : Hp} {d : D} {v : V} {Rd : List D → (MH → Prop) → MH → Prop} (R1 : MR X.K X.mg M1 H1) (r1 : Rep X.K M1 H1 d v) (q : seqI d M1.m Rd) : ∃ a xs G, v = .ref a ∧ Rd xs G M1.m ∧ ((∃ vs, SqT X.K H1 a vs ∧ Snd X.K X.mg M1 H1 (Itt X.K a) xs G) ∨ ∃ vs, SqL X.K H1 a vs ∧ Snd X.K X.mg M1 H1 (Itl X.K a) xs G) := by
  cases d with
  | tup l => obtain ⟨a, vs, ev, h1, h2⟩ := r1; exact ⟨a, l, _, ev, q, .inl ⟨vs, h1, .t h1 h2⟩⟩
  | lis l => obtain ⟨a, vs, ev, h1, h2⟩ := r1; exact ⟨a, l, _, ev, q, .inr ⟨vs, h1.e.l, .f h1 h2⟩⟩
  | ref p =>
    obtain ⟨l, hm, q⟩ := q
    obtain ⟨a, ha, ev⟩ := r1
    obtain ⟨vs, h1, h2⟩ := R1.at_ _ _ _ ha hm
    exact ⟨a, l, _, ev, q, .inr ⟨vs, .of h1, .l ha⟩⟩
  | _ => exact q.elim
theorem di_seq {e : Expr} {te : DE} (he : PEd X e te) : PId X tg e (iSeq te) := ⟨_, pi_seq he, fun σ H R ρ M E Rd S Rm q xo k => ⟨ρ, M, E, _, S, Rm, q, xo, fun v d M1 H1 e1 R1 r1 q1 => by
  obtain ⟨a, xs, G, ev, qd, h⟩ := seqI_ok R1 r1 q1
  refine ⟨a, ev, ?_⟩
  rcases h with ⟨vs, h1, sn⟩ | ⟨vs, h1, sn⟩
  · exact .inl ⟨vs, h1, k _ xs G M1 H1 e1 R1 sn qd⟩
  · exact .inr ⟨vs, h1, k _ xs G M1 H1 e1 R1 sn qd⟩⟩⟩
theorem di_range1 {a : Expr} {ta : DA} {p pos : Pos} (hm : X.mg "range" = none) (ha : PAd X [a] ta) (hg : Gl X "range" := by rfl) (hs : starEach [a] X.env = [(false, eval a X.env)] := by rfl) : PId X tg (.Call (.Name "range" p) [a] [] pos) (iRange1 ta) :=
  ⟨_, pi_range1 hg hm ha hs, fun σ H R ρ M E Rd S Rm q xo k => ⟨ρ, M, E, _, S, Rm, q, xo, fun vs ds M1 H1 e1 R1 r1 ⟨x, ed, j, ej, h1, h2, q1⟩ => by
    subst ed; subst ej
    obtain ⟨v, ev, rv⟩ := r1.one'
    subst ev; cases rv
    exact ⟨j, rfl, h2, h1, k _ _ _ M1 H1 e1 R1 .r q1⟩⟩⟩
theorem di_range2 {a b : Expr} {ta : DA} {p pos : Pos} (hm : X.mg "range" = none) (ha : PAd X [a, b] ta) (hg : Gl X "range" := by rfl) (hs : starEach [a, b] X.env = [(false, eval a X.env), (false, eval b X.env)] := by rfl) (hs2 : starEach [b] X.env = [(false, eval b X.env)] := by rfl) :
    PId X tg (.Call (.Name "range" p) [a, b] [] pos) (iRange2 ta) :=
  ⟨_, pi_range2 hg hm ha hs hs2, fun σ H R ρ M E Rd S Rm q xo k => ⟨ρ, M, E, _, S, Rm, q, xo, fun vs ds M1 H1 e1 R1 r1 ⟨x, y, ed, i, ei, j, ej, ⟨h1, h2, h3, h4⟩, q1⟩ => by
    subst ed; subst ei; subst ej
    obtain ⟨v, w, ev, rv, rw'⟩ := r1.two'
    subst ev; cases rv; cases rw'
    exact ⟨i, j, rfl, ⟨h1, h2, h4, h3⟩, k _ _ _ M1 H1 e1 R1 .r q1⟩⟩⟩

/-! ### for -/
theorem drop_get {α : Type} {xs : List α} {i : Nat} (h : i < xs.length) : xs.drop i = xs[i] :: xs.drop (i + 1) := List.drop_eq_getElem_cons h
/-- forgetting, below -/
theorem wk_ok {K : PySem.W.Frag} {mg : Str → Option Value} {M1 M5 : MB} {H1 H5 : Hp} {P : DSt → MH → Prop} {ρ5 : DSt} {σ5 : L2.St} (R1 : MR K mg M1 H1) (e : Ev M1 H1 M5 H5) (S : Slots K M5 H5 ρ5 σ5) (R : MR K mg M5 H5) (w : Wk M1.m.length P ρ5 M5.m) :
    ∃ ρ6 M6, Ev M1 H1 M6 H5 ∧ Slots K M6 H5 ρ6 σ5 ∧ MR K mg M6 H5 ∧ P ρ6 M6.m := by
  obtain ⟨ρ6, m6, l6, s6, hb, q6⟩ := w
  have hn : M1.i.length ≤ m6.length := by rw [← R1.len]; exact s6.ge (by rw [R1.len, R.len]; exact pre_len e.pre)
  exact ⟨ρ6, M5.less m6, e.less hn, S.cut R l6 hb, R.less s6, q6⟩
theorem wkM_ok {K : PySem.W.Frag} {mg : Str → Option Value} {M1 M5 : MB} {H1 H5 : Hp} {P : MH → Prop} (R1 : MR K mg M1 H1) (e : Ev M1 H1 M5 H5) (R : MR K mg M5 H5) (w : WkM M1.m.length P M5.m) :
    ∃ M6, Ev M1 H1 M6 H5 ∧ MR K mg M6 H5 ∧ P M6.m ∧ (∀ a ∈ M6.i, a ∈ M5.i) := by
  obtain ⟨m6, s6, q6⟩ := w
  have hn : M1.i.length ≤ m6.length := by rw [← R1.len]; exact s6.ge (by rw [R1.len, R.len]; exact pre_len e.pre)
  exact ⟨M5.less m6, e.less hn, R.less s6, q6, fun a h => List.mem_of_mem_take h⟩
theorem wkL_ok {K : PySem.W.Frag} {mg : Str → Option Value} {M1 M5 : MB} {H1 H5 : Hp} {P : List D → MH → Prop} {l : List D} {vs : List V} (R1 : MR K mg M1 H1) (e : Ev M1 H1 M5 H5) (S : Reps K M5 H5 l vs) (R : MR K mg M5 H5) (w : WkL M1.m.length P l M5.m) :
    ∃ M6, Ev M1 H1 M6 H5 ∧ Reps K M6 H5 l vs ∧ MR K mg M6 H5 ∧ P l M6.m ∧ (∀ a ∈ M6.i, a ∈ M5.i) := by
  obtain ⟨m6, s6, hb, q6⟩ := w
  have hn : M1.i.length ≤ m6.length := by rw [← R1.len]; exact s6.ge (by rw [R1.len, R.len]; exact pre_len e.pre)
  exact ⟨M5.less m6, e.less hn, S.less R hb, R.less s6, q6, fun a h => List.mem_of_mem_take h⟩
theorem wkD_ok {K : PySem.W.Frag} {mg : Str → Option Value} {M1 M5 : MB} {H1 H5 : Hp} {P : D → MH → Prop} {d : D} {v : V} (R1 : MR K mg M1 H1) (e : Ev M1 H1 M5 H5) (S : Rep K M5 H5 d v) (R : MR K mg M5 H5) (w : WkD M1.m.length P d M5.m) :
    ∃ M6, Ev M1 H1 M6 H5 ∧ Rep K M6 H5 d v ∧ MR K mg M6 H5 ∧ P d M6.m := by
  obtain ⟨m6, s6, hb, q6⟩ := w
  have hn : M1.i.length ≤ m6.length := by rw [← R1.len]; exact s6.ge (by rw [R1.len, R.len]; exact pre_len e.pre)
  exact ⟨M5.less m6, e.less hn, S.less R hb, R.less s6, q6⟩
theorem ds_for {body : List Stmt} {ti : DI} {g : Tg} {tb : DS} (hp : PassesOwn (model X.prog X.w) X.A X.env X.xe) (hc : X.calm = true) (hi : PId X tg iter ti) (hg : PGd X tg g) (hb : PSsd X body tb)
    (hs : ∀ x, foldedSetIterable iter X.env x = pure x := by intro _; rfl) : PSd X (.For tg iter body [] pos) (dFor ti g tb) := by
  obtain ⟨wi, h1, h2⟩ := hi
  refine psI (ps_for hp hc h1 hg.of hb hs) fun D σ H ⟨ρ, M, De, S, R, q, k⟩ => h2 σ H _ ρ M _ _ S R q (k.xok S) fun J xs G M1 H1 e1 R1 sn ⟨T, f, m, I, i0, it, il⟩ => ?_
  obtain ⟨ρ0, M0, e0, S0, R0, q0⟩ := wk_ok R1 .refl (S.ev e1) R1 i0.wk
  refine ⟨fun i k σ' H' => ∃ t M', k = xs.length - i ∧ i ≤ xs.length ∧ M'.m = m t ∧ Slots X.K M' H' (f t) σ' ∧ MR X.K X.mg M' H' ∧ Ev M1 H1 M' H' ∧ I i t, ?_, ?_⟩
  · obtain ⟨t, e, em, q0⟩ := q0
    subst e
    exact ⟨_, t, M0, rfl, Nat.zero_le _, em, S0, R0, e0, q0⟩
  rintro i k' σ2 H2 ⟨t, M2, rfl, hi, em, S2, R2, e2, q2⟩
  have E2 : EndsOk X M2 H2 De D := k.later (e1.trans e2)
  by_cases hlt : i < xs.length
  · have ex : xs[i]? = some xs[i] := List.getElem?_eq_getElem hlt
    obtain ⟨g2, q2⟩ := it i _ t ex q2
    rw [← em] at g2 q2
    refine .inr ⟨sn.go i _ M2 H2 e2.sq R2 g2 ex, fun σ' H' => ∃ t M', i + 1 ≤ xs.length ∧ M'.m = m t ∧ Slots X.K M' H' (f t) σ' ∧ MR X.K X.mg M' H' ∧ Ev M1 H1 M' H' ∧ I (i + 1) t,
      fun σ' H' ⟨t', M', h, r⟩ => ⟨xs.length - (i + 1), by omega, t', M', rfl, h, r⟩, fun x H3 y => ?_⟩
    obtain ⟨e3, R3, r3⟩ := sn.yld i _ M2 H2 x H3 e2.sq R2 g2 ex y
    refine LG_ok g r3 (S2.ev e3) q2 fun ρ4 σ4 S4 q4 => ⟨ρ4, M2, _, S4, R3, q4, ?_⟩
    have E3 := E2.later e3
    have again : ∀ σ5 H5 ρ5 M5, Ev M2 H3 M5 H5 → Slots X.K M5 H5 ρ5 σ5 → MR X.K X.mg M5 H5 → nxP M1.m.length (I (i + 1)) f m ρ5 M5.m → ∃ t M', i + 1 ≤ xs.length ∧ M'.m = m t ∧ Slots X.K M' H5 (f t) σ5 ∧ MR X.K X.mg M' H5 ∧ Ev M1 H1 M' H5 ∧ I (i + 1) t := fun σ5 H5 ρ5 M5 e5 S5 R5 w => by
      obtain ⟨ρ6, M6, e6, S6, R6, t6, er, em6, q6⟩ := wk_ok R1 ((e2.trans e3).trans e5) S5 R5 w.wk
      subst er
      exact ⟨t6, M6, hlt, em6, S6, R6, e6, q6⟩
    exact ⟨again, E3.rt, E3.nx, again, E3.ex⟩
  · have e : i = xs.length := by omega
    subst e
    obtain ⟨g2, q2⟩ := il t q2
    rw [← em] at g2 q2
    exact .inl ⟨sn.stop M2 H2 e2.sq R2 g2, E2.nx _ _ _ _ .refl S2 R2 q2⟩

/-! ### while -/
theorem ds_while {c : Expr} {body : List Stmt} {tc : DT} {tb : DS} (hp : PassesOwn (model X.prog X.w) X.A X.env X.xe) (hc : PTd X c tc) (hb : PSsd X body tb) : PSd X (.While c body [] pos) (dWhile tc tb) :=
  psI (ps_while hp hc hb) fun D σ H ⟨ρ, M, De, S, R, ⟨T, f, m, I, ⟨n, i0⟩, it⟩, k⟩ => by
    refine ⟨fun j σ' H' => ∃ t M', M'.m = m t ∧ Slots X.K M' H' (f t) σ' ∧ MR X.K X.mg M' H' ∧ Ev M H M' H' ∧ I j t, ?_, ?_⟩
    · obtain ⟨ρ0, M0, e0, S0, R0, t, e, em, q0⟩ := wk_ok R .refl S R i0.wk
      subst e
      exact ⟨n, t, M0, em, S0, R0, e0, q0⟩
    rintro j σ2 H2 ⟨t, M2, em, S2, R2, e2, q2⟩
    have E2 : EndsOk X M2 H2 De D := k.later e2
    have q2 := it j t q2
    rw [← em] at q2
    refine ⟨f t, M2, _, _, S2, R2, q2, E2.xok S2, fun b M3 H3 e3 R3 q3 => ?_⟩
    have E3 := E2.later e3
    cases b with
    | false => exact E3.nx _ _ _ _ .refl (S2.ev e3) R3 q3
    | true =>
      refine ⟨fun σ' H' => ∃ j', j' < j ∧ ∃ t M', M'.m = m t ∧ Slots X.K M' H' (f t) σ' ∧ MR X.K X.mg M' H' ∧ Ev M H M' H' ∧ I j' t, fun σ' H' h => h, f t, M3, _, S2.ev e3, R3, q3, ?_⟩
      have again : ∀ σ5 H5 ρ5 M5, Ev M3 H3 M5 H5 → Slots X.K M5 H5 ρ5 σ5 → MR X.K X.mg M5 H5 → nxP M.m.length (fun t => ∃ j', j' < j ∧ I j' t) f m ρ5 M5.m → ∃ j', j' < j ∧ ∃ t M', M'.m = m t ∧ Slots X.K M' H5 (f t) σ5 ∧ MR X.K X.mg M' H5 ∧ Ev M H M' H5 ∧ I j' t := fun σ5 H5 ρ5 M5 e5 S5 R5 w => by
        obtain ⟨ρ6, M6, e6, S6, R6, t6, er, em6, j', hj, q6⟩ := wk_ok R ((e2.trans e3).trans e5) S5 R5 w.wk
        subst er
        exact ⟨j', hj, t6, M6, em6, S6, R6, e6, q6⟩
      exact ⟨again, E3.rt, E3.nx, again, E3.ex⟩

/-! ### [.. for .. in .. if ..] -/
def PTsd (X : Cx) (ifs : List Expr) (t : DT) : Prop := PTs X ifs (LT X t)
theorem dts_nil : PTsd X [] tYesD := ⟨fun pins s σ H Q I ⟨ρ, M, E, Qd, S, R, q, xo, k⟩ => pts_nil.run pins s σ H Q I (k true M H .refl R q)⟩
theorem dts_one {c : Expr} {t : DT} (h : PTd X c t) : PTsd X [c] t := pts_one h
theorem wipe_eq {K : PySem.W.Frag} {M : MB} {H : Hp} {ρ : DSt} {σ : L2.St} (S : Slots K M H ρ σ) : ∀ vs : List Nat, Slots K M H (wipeD ρ vs) (wipe σ vs)
  | [] => S
  | v :: vs => by
    have h := wipe_eq S vs
    unfold wipeD wipe
    refine ⟨by simp [h.1], fun i d e => ?_⟩
    by_cases hi : v = i
    · subst hi
      by_cases hl : v < (wipeD ρ vs).length
      · rw [List.getElem?_set_self hl] at e; cases e
      · rw [List.getElem?_eq_none (by simp; omega)] at e; cases e
    · rw [List.getElem?_set_ne hi] at e
      obtain ⟨w, e1, r⟩ := h.2 i d e
      exact ⟨w, by rw [List.getElem?_set_ne hi]; exact e1, r⟩
mutual
/-- the slots that a target stores -/
def Tg.slots : Tg → List Nat
  | .nm i => [i]
  | .tp ts => Tg.slotss ts
def Tg.slotss : List Tg → List Nat
  | [] => []
  | t :: ts => t.slots ++ Tg.slotss ts
end
theorem wipe_set {σ : L2.St} {v : Option V} {i : Nat} : ∀ {vs : List Nat}, i ∈ vs → wipe (σ.set i v) vs = wipe σ vs
  | w :: vs, h => by
    unfold wipe
    by_cases hi : i ∈ vs
    · rw [wipe_set hi]
    · have : w = i := by
        rcases List.mem_cons.mp h with z | z
        · exact z.symm
        · exact absurd z hi
      subst this
      have aux : ∀ us : List Nat, w ∉ us → wipe (σ.set w v) us = (wipe σ us).set w v := fun us => by
        induction us with
        | nil => intro _; rfl
        | cons u us ih =>
          intro hn
          unfold wipe
          rw [ih (fun z => hn (List.mem_cons_of_mem _ z))]
          exact List.set_comm _ _ (fun z => hn (by rw [z]; exact List.mem_cons_self))
      rw [aux vs hi, List.set_set]
mutual
theorem LG_wipe {K : PySem.W.Frag} {M : MB} {H : Hp} (vs : List Nat) : ∀ (g : Tg) {d : D} {v : V} {ρ : DSt} {σ : L2.St} {Qd : DSt → Prop} {Q : L2.St → Hp → Prop}, (∀ i ∈ g.slots, i ∈ vs) → Rep K M H d v → Slots K M H ρ σ → g.store d ρ Qd →
    (∀ ρ' σ', Slots K M H ρ' σ' → wipe σ' vs = wipe σ vs → Qd ρ' → Q σ' H) → LG K g v σ H Q
  | .nm i, _, _, _, _, _, _, hs, r, S, q, k => by
    rw [LG]
    rw [Tg.store] at q
    exact k _ _ (S.set r) (wipe_set (hs i (by simp [Tg.slots]))) q
  | .tp ts, _, _, _, _, _, _, hs, r, S, q, k => by
    rw [Tg.store] at q
    rw [LG]
    obtain ⟨l, e, hl, q⟩ := q
    subst e
    obtain ⟨p, us, ev, ht, rs⟩ := r
    subst ev
    exact ⟨p, us, rfl, ht, by rw [← rs.len, hl], LGs_wipe vs ts (fun i h => hs i (by simpa [Tg.slots] using h)) rs hl S q k⟩
theorem LGs_wipe {K : PySem.W.Frag} {M : MB} {H : Hp} (ws : List Nat) : ∀ (ts : List Tg) {l : List D} {vs : List V} {ρ : DSt} {σ : L2.St} {Qd : DSt → Prop} {Q : L2.St → Hp → Prop}, (∀ i ∈ Tg.slotss ts, i ∈ ws) → Reps K M H l vs → l.length = ts.length → Slots K M H ρ σ → Tg.stores ts l ρ Qd →
    (∀ ρ' σ', Slots K M H ρ' σ' → wipe σ' ws = wipe σ ws → Qd ρ' → Q σ' H) → LGs K ts vs σ H Q
  | [], l, vs, _, _, _, _, hs, r, hl, S, q, k => by
    have : l = [] := by cases l with | nil => rfl | cons _ _ => simp at hl
    subst this
    cases r
    rw [LGs]
    rw [Tg.stores] at q
    · exact ⟨rfl, k _ _ S rfl q⟩
    · intro _ _ _ _ h; cases h
  | t :: ts, l, vs, _, _, _, _, hs, r, hl, S, q, k => by
    cases l with
    | nil => simp at hl
    | cons d l =>
      obtain ⟨v, vr, ev, h1, h2⟩ := r
      subst ev
      rw [Tg.stores] at q
      rw [LGs]
      exact ⟨v, vr, rfl, LG_wipe ws t (fun i h => hs i (by rw [Tg.slotss]; exact List.mem_append_left _ h)) h1 S q fun ρ' σ' S' w' q' =>
        LGs_wipe ws ts (fun i h => hs i (by rw [Tg.slotss]; exact List.mem_append_right _ h)) h2 (by simpa using hl) S' q' fun ρ2 σ2 S2 w2 q2 => k ρ2 σ2 S2 (w2.trans w') q2⟩
end
theorem wipe_get (σ : L2.St) (j : Nat) : ∀ vs : List Nat, (wipe σ vs)[j]? = if j ∈ vs ∧ j < σ.length then some none else σ[j]?
  | [] => by simp [wipe]
  | v :: vs => by
    unfold wipe
    by_cases hj : v = j
    · subst hj
      by_cases hl : v < σ.length
      · rw [List.getElem?_set_self (by rw [wipe_length]; exact hl)]; simp [hl]
      · rw [List.getElem?_eq_none (by simp [wipe_length]; omega)]
        have : ¬ v < σ.length := hl
        simp [this]
    · rw [List.getElem?_set_ne hj, wipe_get σ j vs]
      simp only [List.mem_cons, Ne.symm hj, false_or]
theorem wipe_wipe (σ : L2.St) (vs : List Nat) : wipe (wipe σ vs) vs = wipe σ vs := by
  apply List.ext_getElem?
  intro j
  rw [wipe_get, wipe_length, wipe_get]
  split <;> rfl
theorem lift_lc {mk : MkR} (hmk : MkOk mk) {wi : TI} {ti : DI} {g : Tg} {tt : DT} {te : DE} {vs : List Nat} {tt' : TT} {te' : TE} (hg : ∀ i ∈ g.slots, i ∈ vs)
    (h2 : ∀ (σ : L2.St) (H : Hp) (R : It → Hp → Prop) (ρ : DSt) (M : MB) (E : XQ) (Rd : List D → (MH → Prop) → MH → Prop), Slots X.K M H ρ σ → MR X.K X.mg M H → ti ρ M.m E Rd → XOk X M σ H E → (∀ J xs G M' H', Ev M H M' H' → MR X.K X.mg M' H' → Snd X.K X.mg M' H' J xs G → Rd xs G M'.m → R J H') → wi σ H R)
    (htt : ∀ σ H Q ρ M Qd, Slots X.K M H ρ σ → MR X.K X.mg M H → tt ρ M.m noX Qd → (∀ b M' H', Ev M H M' H' → MR X.K X.mg M' H' → Qd b M'.m → Q b H') → tt' σ H Q)
    (hte : ∀ σ H Q ρ M Qd, Slots X.K M H ρ σ → MR X.K X.mg M H → te ρ M.m noX Qd → (∀ v d M' H', Ev M H M' H' → MR X.K X.mg M' H' → Rep X.K M' H' d v → Qd d M'.m → Q v H') → te' σ H Q)
    (σ : L2.St) (H : Hp) (Q Q' : VK) (hQ : ∀ v H, frzQ Q v H → Q' v H) : LE X (dLC mk ti g tt te vs) σ H Q → tLc wi (LG X.K g) tt' te' vs σ H Q' := fun ⟨ρ, M, E, Qd, S, R, q, xo, k⟩ => by
  refine h2 σ H _ ρ M E _ S R q xo fun J xs G M1 H1 e1 R1 sn ⟨hz, g1, Rl, it, il⟩ => fun D nD => ?_
  have mD : D ∉ M1.i := R1.mem nD
  -- between two turns
  let W : Nat → Nat → Hp → Prop := fun i m H' => ∃ (M' : MB) (ys : List (Option DM.D)) (av : List V), m = xs.length - i ∧ i ≤ xs.length ∧ ys.length = i ∧ Ev M1 H1 M' H' ∧ MR X.K X.mg M' H' ∧ D ∉ M'.i ∧ H' D = some (.lst av) ∧ Reps X.K M' H' (ys.filterMap id) av ∧ M'.m = M1.m ∧ ∀ (k : Nat) x y, xs[k]? = some x → ys[k]? = some y → Rl k x y
  refine ⟨W, ⟨_, M1, [], [], rfl, Nat.zero_le _, rfl, .new nD, R1.new nD, mD, upd_same, .nil, rfl, fun k x y _ h => by simp at h⟩, ?_⟩
  rintro i m H2 ⟨M2, ys, av, rfl, hi, hl, E12, R2, n2, hD, ra, em, q2⟩
  have g2 : G M2.m := by rw [em]; exact g1
  by_cases hlt : i < xs.length
  · have ex : xs[i]? = some xs[i] := List.getElem?_eq_getElem hlt
    have q3 := it i _ ex
    rw [← em] at q3
    have add : ∀ y, Rl i xs[i] y → ∀ (k : Nat) x z, xs[k]? = some x → (ys ++ [y])[k]? = some z → Rl k x z := fun y hy k x z hx hz => by
      by_cases hk : k < i
      · rw [List.getElem?_append_left (by omega)] at hz; exact q2 k x z hx hz
      · have : k = i := by
          have := (List.getElem?_eq_some_iff.mp hz).1
          simp at this; omega
        subst this
        rw [List.getElem?_append_right (by omega), hl] at hz
        simp at hz; subst hz
        rw [ex] at hx; cases hx
        exact hy
    refine .inr ⟨sn.go i _ M2 H2 E12.sq R2 g2 ex, fun H' => W (i + 1) (xs.length - (i + 1)) H', fun H' w => ⟨_, by omega, w⟩, fun x H3 y => ?_⟩
    obtain ⟨e3, R3, r3⟩ := sn.yld i _ M2 H2 x H3 E12.sq R2 g2 ex y
    refine LG_wipe vs g hg r3 ((wipe_eq S vs).ev (e1.trans (E12.trans e3))) q3 fun ρ4 σ4 S4 w4 q4 => ⟨by rw [w4, wipe_wipe], htt _ _ _ ρ4 M2 _ S4 R3 q4 fun b M5 H5 e5 R5 q5 => ?_⟩
    have E35 := e3.trans e5
    have n5 : D ∉ M5.i := fun z => by have := E35.dom D z n2; rw [hD] at this; cases this
    have hD5 := E35.frame D _ hD n2
    have lenM : M2.m.length = M1.m.length := by rw [em]
    have bA : DM.D.bels M1.m.length (ys.filterMap id) = true := by rw [← lenM, R2.len]; exact ra.is_bel
    cases b with
    | false =>
      obtain ⟨bk, hr⟩ := q5
      have w : WkL M1.m.length (fun _ m => m = M1.m) (ys.filterMap id) M5.m := by
        rw [em] at bk
        rcases bk with bk | ⟨L, bk, hb⟩
        · exact .of bk
        · exact ⟨M1.m, ⟨by rw [bk]; exact lessP_of (by simp), .inr ⟨Nat.le_refl _, by rw [bk]; simp, hb⟩⟩, .inr bA, rfl⟩
      obtain ⟨M6, e6, ra6, R6, q6, hM6⟩ := wkL_ok R1 (E12.trans E35) (ra.ev E35) R5 w
      exact ⟨M6, ys ++ [none], av, rfl, hlt, by simp [hl], e6, R6, fun z => n5 (hM6 D z), hD5, by simpa using ra6, q6, add none hr⟩
    | true =>
      refine hte _ _ _ ρ4 M5 _ (S4.ev e5) R5 q5 fun v d M6 H6 e6 R6 r6 ⟨bk, hr⟩ => ?_
      have n6 : D ∉ M6.i := fun z => by have := e6.dom D z n5; rw [hD5] at this; cases this
      have hD6 := e6.frame D _ hD5 n5
      have ra6 := (ra.ev (E35.trans e6)).app (.one r6)
      have w : WkL M1.m.length (fun _ m => m = M1.m) (ys.filterMap id ++ [d]) M6.m := by
        rw [em] at bk
        rcases bk with bk | ⟨⟨L, bk, hb⟩, hd⟩
        · exact .of bk
        · refine ⟨M1.m, ⟨by rw [bk]; exact lessP_of (by simp), .inr ⟨Nat.le_refl _, by rw [bk]; simp, hb⟩⟩, .inr ?_, rfl⟩
          have : ∀ {l : List DM.D}, DM.D.bels M1.m.length l = true → DM.D.bels M1.m.length (l ++ [d]) = true := fun {l} => by
            induction l with
            | nil => intro _; simp [DM.D.bels, hd]
            | cons x l ih => intro h; simp [DM.D.bels] at h ⊢; exact ⟨h.1, by simpa using ih h.2⟩
          exact this bA
      obtain ⟨M7, e7, ra7, R7, q7, hM7⟩ := wkL_ok R1 (E12.trans (E35.trans e6)) ra6 R6 w
      have n7 : D ∉ M7.i := fun z => n6 (hM7 D z)
      have lb : (ys.filterMap id).length ≤ ys.length := List.length_filterMap_le _ _
      refine ⟨av, hD6, ?_, M7, ys ++ [some d], av ++ [v], rfl, hlt, by simp [hl], e7.hid nD, R7.hid hD6 trivial n7, n7, upd_same, by simpa using ra7.mono (KeepT.lock hD6 trivial), q7, add (some d) hr⟩
      rw [← ra.len]; omega
  · have e : i = xs.length := by omega
    subst e
    have q3 := il ys hl q2
    rw [← em] at q3
    exact .inl ⟨sn.stop M2 H2 E12.sq R2 g2, hQ _ _ (hmk.of (o := .lst (ys.filterMap id)) (M0 := M1) (H0 := H1) E12 nD mD n2 hD trivial R2 ⟨av, hD, ra⟩ q3 fun v d M' H' e' R' r' q' => k v d M' H' (e1.trans e') R' r' q')⟩
theorem blkC_by {N N' : List Str} {sc sc' scope : Scope} {own : List (Str × Nat)} (h1 : N = N') (h2 : sc = sc') (h : blkC N' sc' scope own = true) : blkC N sc scope own = true := by subst h1; subst h2; exact h
abbrev blkE (X : Cx) (scope : Scope) (s : Shared) (H : Hp) (C : Addr) (cl : List (Str × Addr)) (fp : List Addr) : Cx := X.blk s H scope (compEnvC scope cl C X.env) fp
/-- .. where nothing is raised -/
def LT0 (K : PySem.W.Frag) (mg : Str → Option Value) (t : DT) : TT := fun σ H Q => ∃ ρ M Qd, Slots K M H ρ σ ∧ MR K mg M H ∧ t ρ M.m noX Qd ∧ ∀ b M' H', Ev M H M' H' → MR K mg M' H' → Qd b M'.m → Q b H'
def LE0 (K : PySem.W.Frag) (mg : Str → Option Value) (t : DE) : TE := fun σ H Q => ∃ ρ M Qd, Slots K M H ρ σ ∧ MR K mg M H ∧ t ρ M.m noX Qd ∧ ∀ v d M' H', Ev M H M' H' → MR K mg M' H' → Rep K M' H' d v → Qd d M'.m → Q v H'
theorem pts0 {X : Cx} {ifs : List Expr} {t : DT} (h : PTsd X ifs t) : PTs X ifs (LT0 X.K X.mg t) := ⟨fun pins s σ H Q I ⟨ρ, M, Qd, S, R, q, k⟩ => h.run pins s σ H Q I ⟨ρ, M, noX, Qd, S, R, q, .no, k⟩⟩
theorem pe0 {X : Cx} {e : Expr} {t : DE} (h : PEd X e t) : PE X e (LE0 X.K X.mg t) := peI h fun σ H Q ⟨ρ, M, Qd, S, R, q, k⟩ => ⟨ρ, M, noX, Qd, S, R, q, .no, k⟩
theorem de_lc {mk : MkR} (hmk : MkOk mk) {elt : Expr} {ifs : List Expr} {scope : Scope} {own : List (Str × Nat)} {ti : DI} {g : Tg} {tt : DT} {te : DE} (hc : X.calm = true) (hN : X.N.Nodup) (hi : PId X tg iter ti) (ok : blkC X.N X.env.scope scope own = true)
    (hg : ∀ s H C cl fp, PGd (blkE X scope s H C cl fp) tg g) (ht : ∀ s H C cl fp, PTsd (blkE X scope s H C cl fp) ifs tt) (he : ∀ s H C cl fp, PEd (blkE X scope s H C cl fp) elt te)
    (hv : ∀ i ∈ g.slots, i ∈ own.map (·.2) := by decide) (hs : ∀ x, foldedSetIterable iter X.env x = pure x := by intro _; rfl) :
    PEd X (.ListComp elt [⟨tg, iter, ifs, 0⟩] scope pos) (dLC mk ti g tt te (own.map (·.2))) := by
  obtain ⟨wi, h1, h2⟩ := hi
  exact peI (pe_frz (pe_lc (tt := LT0 X.K X.mg tt) (te := LE0 X.K X.mg te) hc hN h1 (blkOk_by ok) (fun s H C cl fp => (hg s H C cl fp).of) (fun s H C cl fp => pts0 (ht s H C cl fp)) (fun s H C cl fp => pe0 (he s H C cl fp)) hs))
    fun σ H Q => lift_lc hmk hv h2 (fun σ H Q ρ M Qd S R q k => ⟨ρ, M, Qd, S, R, q, k⟩) (fun σ H Q ρ M Qd S R q k => ⟨ρ, M, Qd, S, R, q, k⟩) σ H Q (frzQ Q) fun _ _ h => h
/-- a statement behind which something may be locked -/
def frzN (D : Ends) : Ends := { D with nx := fun σ' H' => D.nx σ' H' ∨ ∃ a u, H' a = some u ∧ Mut (some u) ∧ ∀ o, D.nx σ' (upd H' a (.frz o u)) }
theorem ps_frz {st : Stmt} {t : TS} (h : PS X st t) : PS X st (fun D σ H => t (frzN D) σ H) := by
  refine ⟨fun pins s σ H D I q => ?_⟩
  refine wpAny_mono (h.run pins s σ H (frzN D) I q) (fun f s1 hs => ?_) fun e s1 he => he
  cases f with
  | next =>
    obtain ⟨σ', H', J, q⟩ := hs
    rcases q with q | ⟨a, u, ea, mu, q⟩
    · exact ⟨σ', H', J, q⟩
    · obtain ⟨od, J'⟩ := J.lock ea mu
      exact ⟨σ', _, J', q od⟩
  | brk => exact hs
  | cont => exact hs
  | ret u => exact hs
theorem ds_setLc {mk : MkR} (hmk : MkOk mk) {i : Nat} {y : Str} {py spos : Pos} {elt : Expr} {ifs : List Expr} {scope : Scope} {own : List (Str × Nat)} {ti : DI} {g : Tg} {tt : DT} {te : DE} (hc : X.calm = true) (hN : X.N.Nodup) (hsw : swapsWith (.ListComp elt [⟨tg, iter, ifs, 0⟩] scope pos) (some (.Name y py)) spos.line X.env = pure true)
    (hi : PId X tg iter ti) (ok : blkC X.N X.env.scope scope own = true)
    (hg : ∀ s H C cl fp, PGd (blkE X scope s H C cl fp) tg g) (ht : ∀ s H C cl fp, PTsd (blkE X scope s H C cl fp) ifs tt) (he : ∀ s H C cl fp, PEd (blkE X scope s H C cl fp) elt te) (hy : X.N[i]? = some y := by rfl) (hyl : X.env.scope.names.lookup y = some .local := by rfl)
    (hv : ∀ i ∈ g.slots, i ∈ own.map (·.2) := by decide) (hs : ∀ x, foldedSetIterable iter X.env x = pure x := by intro _; rfl) :
    PSd X (.Assign [.Name y py] (.ListComp elt [⟨tg, iter, ifs, 0⟩] scope pos) spos) (dAsg (dLC mk ti g tt te (own.map (·.2))) (.nm i)) := by
  obtain ⟨wi, h1, h2⟩ := hi
  refine psI (ps_frz (ps_setLc (g := LG X.K g) (tt := LT0 X.K X.mg tt) (te := LE0 X.K X.mg te) hc hN hy hyl hsw h1 (blkOk_by ok) (fun s H C cl fp => (hg s H C cl fp).of) (fun s H C cl fp => pts0 (ht s H C cl fp)) (fun s H C cl fp => pe0 (he s H C cl fp)) hs)) fun D σ H ⟨ρ, M, De, S, R, q, k⟩ => ?_
  refine lift_lc hmk hv h2 (fun σ H Q ρ M Qd S R q k => ⟨ρ, M, Qd, S, R, q, k⟩) (fun σ H Q ρ M Qd S R q k => ⟨ρ, M, Qd, S, R, q, k⟩) σ H (fun v H1 => D.nx (σ.set i (some v)) H1) _ (fun v H1 h => ?_) ⟨ρ, M, _, _, S, R, q, k.xok S, fun v d M1 H1 e1 R1 r1 q1 => k.nx _ H1 _ M1 e1 ((S.ev e1).set r1) R1 (by simpa only [Tg.store] using q1)⟩
  show (frzN D).nx (σ.set i (some v)) H1
  rcases h with h | ⟨a, u, _, ea, mu, q⟩
  · exact .inl h
  · exact .inr ⟨a, u, ea, mu, q⟩
end
end DM

/-! DM: enumerate over tuples and lists, zip. -/
namespace DM
open PySem PySem.Spec PyProof.Rows L2
/-- enumerate(v) of anything whose iterator is known: one argument -/
theorem enum_new1 {v : Value} {ob : Obj} {Hh : Heap → Prop} (B : Begins v ob Hh) : Meets (Builtin.«enumerate.__new__» ⟨[.type "enumerate", v], []⟩) (fun _ R s => Hh s.heap ∧ R (.ok (.ret (.ref (s.heap.push ob).objs.size)))
    { s with heap := (s.heap.push ob).push { cls := .type "enumerate", data := .fields #[.none, .bool false, .ref s.heap.objs.size, rawInt 0, .none, .none] } }) := .of_wp fun prog w A R ss hh => by
  obtain ⟨hp, gg, dd, tt, oo⟩ := ss
  obtain ⟨z1, z2⟩ := hh
  have hsub := sub_enumerate
  have begin1 : ∀ {A2 : Around} {E2 Q2 : Value → Shared → Prop}, Q2 (.ref hp.objs.size) ⟨hp.push ob, gg, dd, tt, oo⟩ → wpAny (model prog w) A2 (pyIter v) Q2 E2 ⟨hp, gg, dd, tt, oo⟩ := fun qq => B.iter prog w _ _ ⟨hp, gg, dd, tt, oo⟩ _ z1 qq
  wp_walk using begin1
  refine wpAny_stack_any fun _ => wpAny_pure ?_
  split
  case h_1 c _ _ _ _ _ =>
    cases (c == Value.type "enumerate") <;> (wp_walk using begin1; exact ⟨_, rfl, z2⟩)
  all_goals (wp_walk using begin1; exact ⟨_, rfl, z2⟩)
section
variable {prog : Program} {w : World} {A : Around} {E : Value → Shared → Prop} {s : Shared}
theorem enum_call1 {v : Value} {ob : Obj} {Hh : Heap → Prop} {Q : Value → Shared → Prop} (B : Begins v ob Hh) (z1 : Hh s.heap)
    (k : ∀ h', IsEnum h' (s.heap.objs.size + 1) s.heap.objs.size 0 .none → h'.get? s.heap.objs.size = some ob → h'.objs.size = s.heap.objs.size + 2 → (∀ b o, s.heap.get? b = some o → h'.get? b = some o) → Q (.ref (s.heap.objs.size + 1)) { s with heap := h' }) :
    wpAny (model prog w) A (call (.type "enumerate") [v]) Q E s := by
  refine callType_new F.called_enumerate (by decide) (F.typeCall_enumerate_1 _) (F.newCall_enumerate_1 _) (fun o2 => F.args_object_init_2 o2 _) F.entry_enumerate_new (enum_new1 B) ⟨z1, ?_⟩
  have sz : (s.heap.push ob).objs.size = s.heap.objs.size + 1 := Heap.size_push ..
  show _ ∧ _
  rw [sz]
  have at1 := Heap.get?_push_size (s.heap.push ob) (o := { cls := .type "enumerate", data := .fields #[.none, .bool false, .ref s.heap.objs.size, rawInt 0, .none, .none] }) rfl
  rw [sz] at at1
  exact ⟨⟨_, at1, rfl⟩, k _ at1 (Heap.get?_push_of_some _ (Heap.get?_push_size _ B.free)) (by rw [Heap.size_push, sz]) fun b o x => Heap.get?_push_of_some _ (Heap.get?_push_of_some _ x)⟩
end
/-- the tuple at a, each item with its place in a new pair -/
def IteT (K : PySem.W.Frag) (a : Addr) : It where
  go := fun i H => ∃ (xs : List V) (x : V), SqT K H a xs ∧ xs[i]? = some x
  yld := fun i H v H' => ∃ T x, v = .ref T ∧ H T = none ∧ H' = upd H T (.tup [.int (i : Nat), x]) ∧ ∀ xs, SqT K H a xs → xs[i]? = some x
  stop := fun i H => ∃ xs : List V, SqT K H a xs ∧ xs.length = i
theorem turn_enumT {P : Program} {w : World} {K : PySem.W.Frag} {elts : List Expr} {kk : Nat} {tpos : Pos} (a e it : Addr) :
    Turn P w K (.Tuple elts kk tpos) (IteT K a) [e, it] e (fun i h => (∃ old, IsEnum h e it ((i : Nat) : Int) old) ∧ h.IsTupleIter it a i ∧ e ≠ it ∧ e ≠ a ∧ a ≠ it) where
  mem := by simp
  obj := fun i h ⟨⟨_, he⟩, ⟨o, ho, _, hd⟩, _⟩ b hb => by
    rcases (show b = e ∨ b = it by simpa using hb) with rfl | rfl
    · exact ⟨_, he, fun v q => nomatch q⟩
    · exact ⟨o, ho, fun v q => by rw [hd] at q; cases q⟩
  keep := fun i h h' ⟨⟨old, he⟩, hi, hne⟩ k => ⟨⟨old, k e (by simp) _ he⟩, hi.at fun o q => k it (by simp) o q, hne⟩
  item := by
    intro X hP hw hK hc i pins s σ H E I hf ⟨⟨old, he⟩, hit, hne, hea, hai⟩ ⟨xs, x, hq, hx⟩
    subst hP hw hK
    obtain ⟨its, rv, p, hz⟩ := I.tuple hq
    obtain ⟨u, hu, ru⟩ := rv.get hx
    have hT0 : s.heap.IsTuple a its.toArray := p
    have hel := Heap.lt_size he
    have hil : it < s.heap.objs.size := by obtain ⟨_, q, _⟩ := hit; exact Heap.lt_size q
    have hi' : i < its.toArray.size := by
      have := (List.getElem?_eq_some_iff.mp hu).1
      simpa using this
    refine wpAny_pyNext_enum_itemD (Draws.tuple (A := X.A.in1) (I.ok.hd hc) it a hai its.toArray) he ⟨hit, hT0⟩ hi' hne (by simp [hne, hea]) fun y h' tk hy ho hs' hT hsz hk => ?_
    have eu : y = u := by
      have : its[i]? = some y := by simpa using hy
      rw [hu] at this; cases this; rfl
    subst eu
    refine ⟨_, rfl, wpAny_letOwnedTupleGo_enum (s := { s with heap := h', toks := tk + 1 }) ho fun h'' he' sb => ?_⟩
    have hT2 : h''.get? s.heap.objs.size = some { cls := .type "tuple", data := .seq #[.int i tk, y] } := (sb.2 _ (Nat.ne_of_gt hel)).trans hT
    have made : ObjOk X.prog X.w (upd H s.heap.objs.size (.tup [.int (i : Nat), x])) h'' s.heap.objs.size (.tup [.int (i : Nat), x]) := ⟨by show 2 ≤ sizeLine; decide, [.int i tk, y], .cons ⟨_, rfl⟩ (.cons ru .nil), ⟨_, hT2, rfl, _, rfl⟩⟩
    have I1 : Inv X pins σ (upd H s.heap.objs.size (.tup [.int (i : Nat), x])) { s with heap := h'', toks := tk + 1 } :=
      I.turnedNew (ch := [e, it]) (fun b ob hb q => (sb.2 b fun z => hb (by simp [z])).trans (hk b ob (fun z => hb (by simp [z])) (fun z => hb (by simp [z])) q)) hf (Nat.le_refl _) made
    have ic : (((i + 1 : Nat) : Nat) : Int) = (i : Int) + 1 := by omega
    refine ⟨.ref s.heap.objs.size, _, I1, rfl, ⟨_, x, rfl, I.hok.fresh (Nat.le_refl _), rfl, fun ys hy => by rw [I.tuple_inj hy hq]; exact hx⟩, ⟨⟨y, by rw [ic]; exact he'⟩, hs'.1.at fun o q => (sb.2 it (Ne.symm hne)).trans q, hne, hea, hai⟩, fun b hb => ?_⟩
    have hb' : b < s.heap.objs.size := by
      rcases (show b = e ∨ b = it by simpa using hb) with rfl | rfl
      · exact hel
      · exact hil
    rw [upd_ne (Nat.ne_of_lt hb')]
    exact (hf b hb).1
  done := by
    intro X hP hw hK hc i pins s σ H E I hf ⟨⟨old, he⟩, hit, hne, hea, hai⟩ ⟨xs, hq, hx⟩
    subst hP hw hK
    obtain ⟨its, rv, p, hz⟩ := I.tuple hq
    obtain ⟨f0, f1, f2, f3, f4, f5⟩ := hf it (by simp)
    have hl := rv.length
    have hT0 : s.heap.IsTuple a its.toArray := p
    have ei : i = its.toArray.size := by simp; omega
    rw [ei] at hit
    exact wpAny_pyNext_enum_endD (Draws.tuple (A := X.A.in1) (I.ok.hd hc) it a hai its.toArray) he ⟨hit, hT0⟩ fun h' eb => ⟨rfl, I.turned (t' := s.toks) (fun b o hb q => eb b o hb q) f0 f1 f3 f4 f5⟩
  self := fun A i s Q E ⟨⟨_, he⟩, _⟩ h => wpAny_pyIter_enum he h
section
variable {X : Cx} {tg : Expr} {pos : Pos}
def itEnum (K : PySem.W.Frag) (ta : TA) : TI := fun σ H R => ta σ H fun vs H1 => ∃ a xs, vs = [.ref a] ∧ ((SqL K H1 a xs ∧ R (Ite K a) H1) ∨ (SqT K H1 a xs ∧ R (IteT K a) H1))
theorem pi_enumA {e : Expr} {ta : TA} {p tpos : Pos} {elts : List Expr} {kk : Nat} (hg : Gl X "enumerate") (hm : X.mg "enumerate" = none) (ha : PA X [e] ta) (hs : starEach [e] X.env = [(false, eval e X.env)] := by rfl) :
    PI X (.Tuple elts kk tpos) (.Call (.Name "enumerate" p) [e] [] pos) (itEnum X.K ta) := by
  refine ⟨fun pins s σ H R I h => Call_ (ld_blt I hg hm boot_enumerate (PyProof.Rows.callWith_type1 (thn (ha.run pos pins s σ H _ I h) fun us s1 ⟨vs, H1, I1, r1, a, xs, ex, q⟩ => ?_) hs rfl))⟩
  subst ex
  cases r1 with
  | cons r rr =>
    cases rr
    cases r
    have fp : ∀ b, b ∈ [s1.heap.objs.size + 1, s1.heap.objs.size] → FpOk X pins H1 b := fun b hb => by
      have hle : s1.heap.objs.size ≤ b := by
        rcases (show b = s1.heap.objs.size + 1 ∨ b = s1.heap.objs.size by simpa using hb) with z | z <;> rw [z] <;> omega
      exact I1.fpOk hle (I1.hok.fresh hle)
    rcases q with ⟨hq, q⟩ | ⟨hq, q⟩
    · obtain ⟨its, rv, p', hz⟩ := I1.list hq
      refine call_enumerate_list p'.isList fun h' he hit hsz hk => wpAny_pyIter_enum he ?_
      exact ⟨s1.heap.objs.size + 1, _, _, _, H1, rfl, I1.kept (t' := s1.toks) hk, turn_enum a (s1.heap.objs.size + 1) s1.heap.objs.size, ⟨⟨.none, he⟩, hit, Nat.succ_ne_self _⟩, fp, q⟩
    · obtain ⟨its, rv, p', hz⟩ := I1.tuple hq
      have hT0 : s1.heap.IsTuple a its.toArray := p'
      have hal : a < s1.heap.objs.size := by obtain ⟨_, z, _⟩ := hT0; exact Heap.lt_size z
      refine enum_call1 (begins_tuple a its.toArray) hT0 fun h' he ho hsz hk => wpAny_pyIter_enum he ?_
      exact ⟨s1.heap.objs.size + 1, _, _, _, H1, rfl, I1.kept (t' := s1.toks) hk, turn_enumT a (s1.heap.objs.size + 1) s1.heap.objs.size, ⟨⟨.none, he⟩, ⟨_, ho, rfl, rfl⟩, Nat.succ_ne_self _, Nat.ne_of_gt (Nat.lt_succ_of_lt hal), Nat.ne_of_lt hal⟩, fp, q⟩
theorem enumD_get : ∀ (xs : List D) (k : Int) (i : Nat) (x : D), xs[i]? = some x → (enumD k xs)[i]? = some (.tup [.int (k + i), x])
  | [], _, _, _, h => by simp at h
  | y :: r, k, 0, x, h => by simp at h; simp [enumD, h]
  | y :: r, k, i + 1, x, h => by
    rw [enumD, List.getElem?_cons_succ, enumD_get r (k + 1) i x (by simpa using h)]
    congr 4
    push_cast
    omega
theorem enumD_len : ∀ (xs : List D) (k : Int), (enumD k xs).length = xs.length
  | [], _ => rfl
  | y :: r, k => by rw [enumD, List.length_cons, List.length_cons, enumD_len r]
theorem enumD_inv {xs : List D} {k : Int} {i : Nat} {z : D} (h : (enumD k xs)[i]? = some z) : ∃ x, xs[i]? = some x ∧ z = .tup [.int (k + i), x] := by
  have hl := (List.getElem?_eq_some_iff.mp h).1
  rw [enumD_len] at hl
  have := enumD_get xs k i xs[i] (by simp [hl])
  rw [h] at this
  exact ⟨xs[i], by simp [hl], by cases this; rfl⟩
/-- a new pair is a tuple of values -/
theorem pair_made {K : PySem.W.Frag} {mg : Str → Option Value} {M : MB} {H : Hp} {T : Addr} {d e : D} {v u : V} (n : H T = none) (R : MR K mg M H) (r : Rep K M H d v) (r' : Rep K M H e u) :
    Ev M H M (upd H T (.tup [v, u])) ∧ MR K mg M (upd H T (.tup [v, u])) ∧ Rep K M (upd H T (.tup [v, u])) (.tup [d, e]) (.ref T) :=
  have rs : Reps K M H [d, e] [v, u] := ⟨_, _, rfl, r, _, _, rfl, r', rfl⟩
  ⟨.new n, R.new n, T, _, rfl, sq_new, Reps.ev rs (Ev.new (M := M) n)⟩
theorem Snd.et {K : PySem.W.Frag} {mg : Str → Option Value} {M : MB} {H : Hp} {a : Addr} {vs : List V} {xs : List D} (h : SqT K H a vs) (r : Reps K M H xs vs) : Snd K mg M H (IteT K a) (enumD 0 xs) (fun _ => True) where
  go := fun i z M H' k R g e => by
    obtain ⟨x, ex, ez⟩ := enumD_inv e
    obtain ⟨v, e1, _⟩ := r.get ex
    exact ⟨vs, v, k.t _ _ h, e1⟩
  yld := fun i z M H' v H'' k R g e y => by
    obtain ⟨x, ex, rfl⟩ := enumD_inv e
    obtain ⟨T, u, rfl, n, rfl, y⟩ := y
    obtain ⟨v', e1, r1⟩ := r.get ex
    have := y vs (k.t _ _ h)
    rw [e1] at this; cases this
    have ei : (0 : Int) + (i : Nat) = (i : Nat) := by omega
    rw [ei]
    exact pair_made n R rfl (r1.mono k)
  stop := fun M H' k R g => ⟨vs, k.t _ _ h, by rw [enumD_len]; exact r.len.symm⟩
/-- over a list: by what iterates the list -/
theorem Snd.el {K : PySem.W.Frag} {mg : Str → Option Value} {M : MB} {H : Hp} {a : Addr} {xs : List D} {G : MH → Prop} (s : Snd K mg M H (Itl K a) xs G) : Snd K mg M H (Ite K a) (enumD 0 xs) G where
  go := fun i z M H' k R g e => by
    obtain ⟨x, ex, ez⟩ := enumD_inv e
    exact s.go i x M H' k R g ex
  yld := fun i z M H' v H'' k R g e y => by
    obtain ⟨x, ex, rfl⟩ := enumD_inv e
    obtain ⟨T, u, rfl, n, rfl, y⟩ := y
    obtain ⟨_, _, r1⟩ := s.yld i x M H' u H' k R g ex ⟨rfl, y⟩
    have ei : (0 : Int) + (i : Nat) = (i : Nat) := by omega
    rw [ei]
    exact pair_made n R rfl r1
  stop := fun M H' k R g => by rw [enumD_len]; exact s.stop M H' k R g
theorem di_enum {e : Expr} {ta : DA} {p tpos : Pos} {elts : List Expr} {kk : Nat} (hm : X.mg "enumerate" = none) (ha : PAd X [e] ta) (hg : Gl X "enumerate" := by rfl) (hs : starEach [e] X.env = [(false, eval e X.env)] := by rfl) :
    PId X (.Tuple elts kk tpos) (.Call (.Name "enumerate" p) [e] [] pos) (iEnum ta) := ⟨_, pi_enumA hg hm ha hs, fun σ H R ρ M E Rd S Rm q xo k => ⟨ρ, M, E, _, S, Rm, q, xo, fun vs ds M1 H1 e1 R1 r1 q1 => by
  obtain ⟨x, ed, q1⟩ := q1
  subst ed
  obtain ⟨v, ev, r⟩ := r1.one'
  subst ev
  cases x with
  | tup l => obtain ⟨a, vs, ev, h1, h2⟩ := r; subst ev; exact ⟨a, vs, rfl, .inr ⟨h1, k _ _ _ M1 H1 e1 R1 (.et h1 h2) q1⟩⟩
  | lis l => obtain ⟨a, vs, ev, h1, h2⟩ := r; subst ev; exact ⟨a, vs, rfl, .inl ⟨h1.e.l, k _ _ _ M1 H1 e1 R1 (.el (.f h1 h2)) q1⟩⟩
  | ref p =>
    obtain ⟨l, hm, q⟩ := q1
    obtain ⟨a, ha, ev⟩ := r
    subst ev
    obtain ⟨vs, h1, h2⟩ := R1.at_ _ _ _ ha hm
    exact ⟨a, vs, rfl, .inl ⟨.of h1, k _ _ _ M1 H1 e1 R1 (.el (.l ha)) q⟩⟩
  | _ => exact q1.elim⟩⟩
/-! ### zip -/
theorem zipD_inv {l m : List D} {i : Nat} {z : D} (h : (zipD l m)[i]? = some z) : ∃ x y, l[i]? = some x ∧ m[i]? = some y ∧ z = .tup [x, y] := by
  unfold zipD at h
  rw [List.getElem?_map] at h
  cases e : (l.zip m)[i]? with
  | none => rw [e] at h; cases h
  | some q =>
    rw [e] at h
    rw [List.getElem?_zip_eq_some] at e
    cases h
    exact ⟨q.1, q.2, e.1, e.2, rfl⟩
theorem zipD_len {l m : List D} : (zipD l m).length = min l.length m.length := by simp [zipD]
theorem Snd.zt {K : PySem.W.Frag} {mg : Str → Option Value} {M : MB} {H : Hp} {a b : Addr} {vs us : List V} {l m : List D} (h : SqT K H a vs) (h' : SqT K H b us) (r : Reps K M H l vs) (r' : Reps K M H m us) : Snd K mg M H (RZ.ItzT K a b) (zipD l m) (fun _ => True) where
  go := fun i z M H' k R g e => by
    obtain ⟨x, y, ex, ey, rfl⟩ := zipD_inv e
    obtain ⟨v, e1, _⟩ := r.get ex
    obtain ⟨u, e2, _⟩ := r'.get ey
    exact ⟨vs, us, v, u, k.t _ _ h, k.t _ _ h', e1, e2⟩
  yld := fun i z M H' v H'' k R g e q => by
    obtain ⟨x, y, ex, ey, rfl⟩ := zipD_inv e
    obtain ⟨T, v1, u1, rfl, n, rfl, q1, q2⟩ := q
    obtain ⟨v2, e1, r1⟩ := r.get ex
    obtain ⟨u2, e2, r2⟩ := r'.get ey
    have t1 := q1 vs (k.t _ _ h)
    have t2 := q2 us (k.t _ _ h')
    rw [e1] at t1; cases t1
    rw [e2] at t2; cases t2
    exact pair_made n R (r1.mono k) (r2.mono k)
  stop := fun M H' k R g => ⟨vs, us, k.t _ _ h, k.t _ _ h', by
    have l1 := r.len
    have l2 := r'.len
    rw [zipD_len]; omega⟩
theorem di_zip {e e2 : Expr} {ta : DA} {p tpos : Pos} {elts : List Expr} {kk : Nat} (hm : X.mg "zip" = none) (ha : PAd X [e, e2] ta) (hg : Gl X "zip" := by rfl) (hs : starEach [e, e2] X.env = (false, eval e X.env) :: starEach [e2] X.env := by rfl)
    (hpl : (backTo pos (starEach [e2] X.env)).any (·.1) = false := by rfl) : PId X (.Tuple elts kk tpos) (.Call (.Name "zip" p) [e, e2] [] pos) (iZip ta) :=
  ⟨_, RZ.pi_zipA hg hm ha hs hpl, fun σ H R ρ M E Rd S Rm q xo k => ⟨ρ, M, E, _, S, Rm, q, xo, fun vs ds M1 H1 e1 R1 r1 q1 => by
    obtain ⟨x, y, ed, l, m, ex, ey, q1⟩ := q1
    subst ed
    obtain ⟨v, w, ev, rv, rw'⟩ := r1.two'
    subst ev
    subst ex; subst ey
    obtain ⟨a, xs, ev, t1, s1⟩ := rv
    obtain ⟨b, ys, ew, t2, s2⟩ := rw'
    subst ev; subst ew
    exact ⟨a, b, xs, ys, rfl, .inr ⟨t1, t2, k _ _ _ M1 H1 e1 R1 (.zt t1 t2 s1 s2) q1⟩⟩⟩⟩
end
end DM

/-! DM: defs by their promises over data, what they raise. -/
namespace DM
open PySem PySem.Spec L2
open PyProof.Rows (envOfC)
/-- what is raised, below -/
def XLo (K : PySem.W.Frag) (mg : Str → Option Value) (M : MB) (H : Hp) (Xd : XQ) (E : XK) : Prop := ∀ c fs C d M' H', Ev M H M' H' → MR K mg M' H' → XC K mg c C → XRep K M' H' fs d → Xd c fs M'.m → E (.ref C) d H'
/-- a promise over data, below -/
def liftSp (K : PySem.W.Frag) (mg : Str → Option Value) (sp : SpD) (vs : List V) (H : Hp) (Q : VK) (E : XK) : Prop := ∃ ds M Xd Qd, Reps K M H ds vs ∧ MR K mg M H ∧ sp ds M.m Xd Qd ∧ XLo K mg M H Xd E ∧ ∀ v d M' H', Ev M H M' H' → MR K mg M' H' → Rep K M' H' d v → Qd d M'.m → Q v H'
/-- the function object at f keeps the promise, where no repr is under way -/
structure FnD (P : Program) (w : World) (K : PySem.W.Frag) (mg : Str → Option Value) (base : Heap) (k : Nat) (f : Addr) (fd : FuncData) (ps : List Str) (sp : SpD) : Prop where
  len : ∀ ds M X Q, sp ds M X Q → ds.length = ps.length
  run : ∀ (A : Around) (outer : List Env) (s : Shared) (H : Hp) (args : Args) (us : List Value) (vs : List V) (Q : VK) (E : XK), Room k A → A.guards = some [] → Env0 P w K mg base A outer s H → BindsTo s fd args (ps.zip us) → Vals vs us → liftSp K mg sp vs H Q E →
    codeAny (model P w) A (.call (.ref f) args) (CR (L2.CX P w) outer P w H s Q E) s
theorem FnD.mono {P : Program} {w : World} {K : PySem.W.Frag} {mg : Str → Option Value} {base : Heap} {j k : Nat} {f : Addr} {fd : FuncData} {ps : List Str} {sp : SpD} (F : FnD P w K mg base j f fd ps sp) (l : j ≤ k) : FnD P w K mg base k f fd ps sp :=
  ⟨F.len, fun A outer s H args us vs Q E hr => F.run A outer s H args us vs Q E (hr.mono l)⟩
theorem FnD.imp {P : Program} {w : World} {K : PySem.W.Frag} {mg : Str → Option Value} {base : Heap} {k : Nat} {f : Addr} {fd : FuncData} {ps : List Str} {sp sp' : SpD} (F : FnD P w K mg base k f fd ps sp) (i : ∀ ds M X Q, sp' ds M X Q → sp ds M X Q) : FnD P w K mg base k f fd ps sp' :=
  ⟨fun ds M X Q h => F.len ds M X Q (i _ _ _ _ h), fun A outer s H args us vs Q E hr hg e0 hb r ⟨ds, M, Xd, Qd, a, b, c, d⟩ => F.run A outer s H args us vs Q E hr hg e0 hb r ⟨ds, M, Xd, Qd, a, b, i _ _ _ _ c, d⟩⟩
/-- a def of the module, by its name; every parameter is given -/
structure Known (P : Program) (w : World) (K : PySem.W.Frag) (mg : Str → Option Value) (base : Heap) (k : Nat) (x : Str) (sp : SpD) : Prop where
  ex : ∃ f fd ps, mg x = some (.ref f) ∧ PySem.W.keepIn K (.ref f) = true ∧ FnD P w K mg base k f fd ps sp ∧ Binds K fd ps []
theorem Known.mono {P : Program} {w : World} {K : PySem.W.Frag} {mg : Str → Option Value} {base : Heap} {j k : Nat} {x : Str} {sp : SpD} (h : Known P w K mg base j x sp) (l : j ≤ k) : Known P w K mg base k x sp := by
  obtain ⟨f, fd, ps, h1, h2, h3, h4⟩ := h.ex
  exact ⟨f, fd, ps, h1, h2, h3.mono l, h4⟩
theorem Known.imp {P : Program} {w : World} {K : PySem.W.Frag} {mg : Str → Option Value} {base : Heap} {k : Nat} {x : Str} {sp sp' : SpD} (h : Known P w K mg base k x sp) (i : ∀ ds M X Q, sp' ds M X Q → sp ds M X Q) : Known P w K mg base k x sp' := by
  obtain ⟨f, fd, ps, h1, h2, h3, h4⟩ := h.ex
  exact ⟨f, fd, ps, h1, h2, h3.imp i, h4⟩
section
variable {X : Cx} {k : Nat} {f : Addr} {fd : FuncData} {ps : List Str} {sp : SpD} {pos p : Pos}
/-- .. called -/
theorem run_keepsB {pins : List (Addr × Obj)} {σ : L2.St} {H : Hp} {s : Shared} {Q : VK} {us us' : List Value} {kw : List (Str × Value)} {vs : List V} (F : FnD X.prog X.w X.K X.mg X.base k f fd ps sp) (hr : Room k X.A) (hg : X.A.guards = some []) (I : Inv X pins σ H s) (hb : BindsTo s fd ⟨us, kw⟩ (ps.zip us')) (r : Vals vs us')
    (h : liftSp X.K X.mg sp vs H Q fun cls d H' => Wx X cls d σ H') : wpAny (model X.prog X.w) X.A (call (.ref f) us kw) (EP X pins σ Q) X.xe s := by
  refine wpAny_call (codeAny_mono (F.run X.A X.stack s H ⟨us, kw⟩ us' vs Q _ hr hg I.env0 hb r h) fun r s' hq => ?_)
  cases r with
  | error e => exact takes_Wx X e s' (XE.of_call I (fun _ _ _ z => z) hq)
  | ok fl => cases fl <;> first | exact I.after hq | exact False.elim hq
theorem run_keeps {pins : List (Addr × Obj)} {σ : L2.St} {H : Hp} {s : Shared} {Q : VK} {us : List Value} {vs : List V} (F : FnD X.prog X.w X.K X.mg X.base k f fd ps sp) (hb : Binds X.K fd ps []) (hr : Room k X.A) (hg : X.A.guards = some []) (I : Inv X pins σ H s) (r : Vals vs us)
    (h : liftSp X.K X.mg sp vs H Q fun cls d H' => Wx X cls d σ H') : wpAny (model X.prog X.w) X.A (call (.ref f) us) (EP X pins σ Q) X.xe s := by
  have hl : us.length = ps.length := by
    obtain ⟨ds, M, Xd, Qd, rs, R, q, _⟩ := h
    rw [← F.len _ _ _ _ q, rs.len, r.length]
  have b := hb s us I.kIn (by rw [List.append_nil]; exact hl)
  rw [List.append_nil] at b
  exact run_keepsB F hr hg I b r h
theorem lift_call {t : DA} (σ : L2.St) (H : Hp) (Q : VK) : LE X (dCall sp t) σ H Q → LA X t σ H (fun vs H1 => liftSp X.K X.mg sp vs H1 Q fun cls d H' => Wx X cls d σ H') := fun ⟨ρ, M, E, Qd, S, R, q, xo, k⟩ =>
  ⟨ρ, M, E, _, S, R, q, xo, fun vs ds M1 H1 e1 R1 r1 q1 => ⟨ds, M1, E, Qd, r1, R1, q1, xo.later e1, fun v d M' H' e' R' r' q' => k v d M' H' (e1.trans e') R' r' q'⟩⟩
theorem de_call {x : Str} {e : Expr} {es : List Expr} {t : DA} (F : Known X.prog X.w X.K X.mg X.base k x sp) (hr : Room k X.A) (hgd : X.A.guards = some []) (ha : PAd X (e :: es) t) (hg : Gl X x := by rfl)
    (hdb : (x == ("__debug__" : Str)) = false := by decide) (he : starEach (e :: es) X.env = (false, eval e X.env) :: starEach es X.env := by rfl) (hpl : (backTo pos (starEach es X.env)).any (·.1) = false := by rfl) :
    PEd X (.Call (.Name x p) (e :: es) [] pos) (dCall sp t) := by
  obtain ⟨f, fd, ps, hm, hk, F, hb⟩ := F.ex
  refine ⟨fun pins s σ H Q I h => ?_⟩
  refine wpAny_Call_Name_kw (ld_glob I hg hm ?_ hdb)
  refine PySem.W.callWith_K (h₀ := X.base) I.ok.mod.kin hk (thn (ha.run pos pins s σ H _ I (lift_call σ H Q h)) fun us s1 ⟨vs, H1, I1, r, q⟩ => ⟨I1.kIn, ?_⟩) he hpl
  exact run_keeps F hb hr hgd I1 r q
theorem de_call0 {x : Str} (F : Known X.prog X.w X.K X.mg X.base k x sp) (hr : Room k X.A) (hgd : X.A.guards = some []) (hg : Gl X x := by rfl) (hdb : (x == ("__debug__" : Str)) = false := by decide) :
    PEd X (.Call (.Name x p) [] [] pos) (dCall sp dNil) := by
  obtain ⟨f, fd, ps, hm, hk, F, hb⟩ := F.ex
  refine ⟨fun pins s σ H Q I ⟨ρ, M, E, Qd, S, R, q, xo, k⟩ => ?_⟩
  refine wpAny_Call_Name_kw (ld_glob I hg hm ?_ hdb)
  exact PySem.W.callWith_K0 I.kIn hk (run_keeps (us := []) (vs := []) F hb hr hgd I .nil ⟨[], M, E, Qd, .nil, R, q, xo, k⟩)
end
/-- a def's body, at its entry -/
abbrev Xf (P : Program) (w : World) (K : PySem.W.Frag) (mg : Str → Option Value) (base : Heap) (N : List Str) (qual : Str) (sc : Scope) (f : Addr) (cdv : Value) (A : Around) (outer : List Env) (s : Shared) (H : Hp) (E : XK) : Cx :=
  cxOf (L2.CX P w) P w K mg base N qual sc f cdv A outer s H E
theorem start_slots {K : PySem.W.Frag} {M : MB} {H : Hp} {N : List Str} {ds : List D} {vs : List V} (r : Reps K M H ds vs) (hl : ds.length ≤ N.length) : Slots K M H (startD N.length ds) (L2.start N vs) := by
  refine ⟨by unfold startD L2.start; simp [r.len], fun i d e => ?_⟩
  unfold startD at e
  unfold L2.start
  by_cases hi : i < ds.length
  · rw [List.getElem?_append_left (by simpa using hi), List.getElem?_map] at e
    rw [List.getElem?_append_left (by simpa [← r.len] using hi), List.getElem?_map]
    cases q : ds[i]? with
    | none => rw [q] at e; cases e
    | some x =>
      rw [q] at e
      cases e
      obtain ⟨v, h1, h2⟩ := r.get q
      exact ⟨v, by rw [h1]; rfl, h2⟩
  · rw [List.getElem?_append_right (by simpa using hi), List.getElem?_replicate] at e
    split at e <;> cases e
theorem xrep_cut {K : PySem.W.Frag} {mg : Str → Option Value} {M1 M5 : MB} {H1 H5 : Hp} {P : MH → Prop} {fs : Fs} {d : Option Addr} (R1 : MR K mg M1 H1) (e : Ev M1 H1 M5 H5) (S : XRep K M5 H5 fs d) (R : MR K mg M5 H5) (w : WkL M1.m.length (fun _ m => P m) (fs.map (·.2)) M5.m) :
    ∃ M6, Ev M1 H1 M6 H5 ∧ XRep K M6 H5 fs d ∧ MR K mg M6 H5 ∧ P M6.m := by
  obtain ⟨m6, s6, hb, q6⟩ := w
  have hn : M1.i.length ≤ m6.length := by rw [← R1.len]; exact s6.ge (by rw [R1.len, R.len]; exact pre_len e.pre)
  refine ⟨M5.less m6, e.less hn, ?_, R.less s6, q6⟩
  rcases S with S | ⟨dd, gs, h1, h2, h3, S⟩
  · exact .inl S
  · refine .inr ⟨dd, gs, h1, h2, fun z => h3 (List.mem_of_mem_take z), ?_⟩
    rcases hb with hb | hb
    · exact S.bel (n := M5.i.length) (fun k a hk q => take_pre q (by rw [hb, R.len]; exact hk)) S.is_bel
    · exact S.bel (fun k a hk q => take_pre q hk) hb
theorem opens_ok {K : PySem.W.Frag} {mg : Str → Option Value} {M : MB} {H : Hp} {B : MH → Prop} (R : MR K mg M H) (h : Opens M.m B) : ∃ M', M'.i = M.i ∧ MR K mg M' H ∧ B M'.m := by
  rcases h with h | ⟨p, e, h⟩
  · exact ⟨M, rfl, R, h⟩
  · obtain ⟨a, ha, l, vs, hl, h1, h2⟩ := R.get e
    refine ⟨M.put p (some (.lst l)), rfl, ⟨by simp [MB.put, R.len], R.nd, R.tr, fun j b x g g' => ?_⟩, h l hl⟩
    have g : M.i[j]? = some b := g
    have g' : (M.m.set p (some (.lst l)))[j]? = some (some x) := g'
    have kt : KeepT K M H (M.put p (some (.lst l))) H := ⟨fun _ _ q => q, fun _ _ q => q, fun _ _ _ q => q, fun _ _ q => q⟩
    by_cases z : p = j
    · subst z
      rw [ha] at g; cases g
      rw [List.getElem?_set_self (by rw [R.len]; exact lt_of_get ha)] at g'; cases g'
      exact ⟨vs, h1, h2.mono kt⟩
    · rw [List.getElem?_set_ne z] at g'
      exact (R.at_ j b x g g').keep kt fun _ q => q
section
variable {P : Program} {w : World} {K : PySem.W.Frag} {mg : Str → Option Value} {base : Heap}
theorem fnD_of {x qual : Str} {params : Arguments} {body : List Stmt} {scope : Scope} {f : Addr} {fd : FuncData} {N ps : List Str} {k : Nat} {sp : SpD} {t : DS}
    (lk : ∃ (oc : Value) (od : Option Addr) (dV kV doc pm : Value) (an : Option Addr) (cdv ct : Value) (osl : Array (Option Value)), fd = PySem.W.fnOf x qual params body scope dV kV doc pm an cdv ct ∧ K.lookup f = some ⟨oc, od, .func fd, osl⟩ ∧ PySem.W.codeIn K cdv qual = true)
    (S : FnScope N ps scope)
    (hbody : ∀ (cdv : Value) (A : Around) (outer : List Env) (s : Shared) (H : Hp) (E : XK), Room k (A.deeper (envOfC qual scope s.heap.objs.size f cdv)) → (A.deeper (envOfC qual scope s.heap.objs.size f cdv)).guards = some [] →
      PSsd (Xf P w K mg base N qual scope f cdv A outer s H E) body t)
    (spec : ∀ ds M X Q, sp ds M X Q → ds.length = ps.length ∧ (belM M.length M = true → D.bels M.length ds = true → Opens M fun M' => t (ends M.length X Q) (startD N.length ds) M')) : FnD P w K mg base (k + 1) f fd ps sp := by
  refine ⟨fun ds M X Q h => (spec ds M X Q h).1, ?_⟩
  obtain ⟨oc, od, dV, kV, doc, pm, an, cdv, ct, osl, rfl, lk, hcd⟩ := lk
  intro A outer s H args us vs Q E hr hg e0 hb rv ⟨ds, M, Xd, Qd, rs, R, hsp, hx, kk⟩
  obtain ⟨hl, hq⟩ := spec ds M.m Xd Qd hsp
  have hq := hq R.is_bel (by rw [R.len]; exact rs.is_bel)
  have hlv : vs.length = ps.length := by rw [← rs.len]; exact hl
  obtain ⟨Mo, hMo, Ro, hq⟩ := opens_ok R hq
  have evo : Ev M H Mo H := ⟨fun _ _ h => h, fun _ _ _ h => h, fun _ _ h _ => h, fun k a h => by rw [hMo]; exact h, fun a h g => absurd (by rw [← hMo]; exact h) g⟩
  have leno : M.m.length = Mo.m.length := by rw [R.len, Ro.len, hMo]
  rw [leno] at hq
  have KX : K.In s.heap := e0.mod.kin.keeps fun b o e => (e0.bs b o e).1
  have lim : s.heap.NoLimit := e0.mod.nolimit.keeps fun b o e => (e0.bs b o e).1
  have hpl : ps.length ≤ N.length := by have := congrArg List.length S.pre; rw [List.length_take] at this; omega
  have kinds : ∀ y ∈ ps.zip us, scope.names.lookup y.1 = some .local ∨ (scope.names.lookup y.1 = some .cell ∧ ((cellsFrom (s.heap.objs.size + 1) scope.names []).lookup y.1).isSome = true) := by
    rintro ⟨n, v⟩ hy
    have hn := (List.of_mem_zip hy).1
    rcases S.par n hn with q | q
    · left; exact q
    · right; exact ⟨q, PySem.W.cellsFrom_some _ _ _ (.inl q)⟩
  refine codeAny_call_function hr.depth (KX _ _ lk) rfl S.co S.gen rfl (PySem.W.codeRec_of KX hcd) (hb _ _ _ _ ?_)
  refine wpAny_newFunctionEnv_cells S.kind kinds fun env he s1 x => ?_
  subst he
  refine ⟨lim.keeps x.toInCall.keep, codeAny_func ?_⟩
  have I0 : Inv (Xf P w K mg base N qual scope f cdv A outer s H E) [] (L2.start N vs) H s1 := inv_start S hr.hd e0 hlv rv x
  have B := hbody cdv A outer s H E (hr.deeper _) hg
  have tk : Takes (Xf P w K mg base N qual scope f cdv A outer s H E) (fun cls d _ H => E cls d H) := takes_of rfl rfl rfl rfl
  refine wpAny_mono (B.run [] s1 (L2.start N vs) H { nx := fun _ H' => Q .non H', rt := Q } I0 ⟨startD N.length ds, Mo, ends Mo.m.length Xd Qd, start_slots (rs.ev evo) (by omega), Ro, hq, ?_, ?_, ?_, ?_, ?_⟩)
    (fun fl s' hs => ?_) fun e s' hs => hs
  · intro σ' H' ρ' M' e' S' R' w
    obtain ⟨M6, e6, r6, R6, q6⟩ := wkD_ok (d := .non) (v := .non) Ro e' rfl R' w
    exact kk .non .non M6 H' (evo.trans e6) R6 r6 q6
  · intro v d M' H' e' R' r' w
    obtain ⟨M6, e6, r6, R6, q6⟩ := wkD_ok Ro e' r' R' w
    exact kk v d M6 H' (evo.trans e6) R6 r6 q6
  · intro σ' H' ρ' M' e' S' R' q'; exact q'.elim
  · intro σ' H' ρ' M' e' S' R' q'; exact q'.elim
  · intro c fs C d σ' H' ρ' M' e' S' R' hc r' w
    obtain ⟨M6, e6, r6, R6, q6⟩ := xrep_cut Ro e' r' R' w
    exact wx_of tk (hx c fs C d M6 H' (evo.trans e6) R6 hc r6 q6)
  · have last : ∀ {σ' : L2.St} {H' : Hp} {v : V} {u : Value}, Inv (Xf P w K mg base N qual scope f cdv A outer s H E) [] σ' H' s' → RelV v u → Q v H' → CE outer P w H s Q u s' :=
      fun {σ' H' v u} J ru q => ⟨v, H', J.os, J.bare, J.base, J.hok, ru, q⟩
    cases fl
    all_goals first
      | (obtain ⟨v, σ', H', J, ru, q⟩ := hs; exact last J ru q)
      | (obtain ⟨σ', H', J, q⟩ := hs; exact last (v := V.non) (u := Value.none) J rfl q)
      | (obtain ⟨_, _, _, q⟩ := hs; exact False.elim q)
theorem lk_of {K : PySem.W.Frag} {x qual : Str} {params : Arguments} {body : List Stmt} {scope : Scope} {dvs : List V} {kws : List (Str × V)} {f : Addr} {fd : FuncData} (F : FunD K x qual params body scope dvs kws f fd) :
    ∃ (oc : Value) (od : Option Addr) (dV kV doc pm : Value) (an : Option Addr) (cdv ct : Value) (osl : Array (Option Value)), fd = PySem.W.fnOf x qual params body scope dV kV doc pm an cdv ct ∧ K.lookup f = some ⟨oc, od, .func fd, osl⟩ ∧ PySem.W.codeIn K cdv qual = true := by
  obtain ⟨a1, a2, a3, a4, a5, a6, a7, a8, a9, a10, h1, h2, h3, _⟩ := F.ex
  exact ⟨a1, a2, a3, a4, a5, a6, a7, a8, a9, a10, h1, h2, h3⟩
/-- what nobody asks -/
theorem FnD.never {k : Nat} {f : Addr} {fd : FuncData} {ps : List Str} {sp : SpD} (h : ∀ ds M X Q, sp ds M X Q → False) : FnD P w K mg base k f fd ps sp :=
  ⟨fun ds M X Q q => (h ds M X Q q).elim, fun _ _ _ _ _ _ _ _ _ _ _ _ _ _ ⟨ds, M, Xd, Qd, _, _, q, _⟩ => (h ds M.m Xd Qd q).elim⟩
end
end DM

/-! DM: the law's own call. -/
namespace DM
open PySem PySem.Spec L2
open PyProof.Rows (IntsAre AllBare)
/-- the promise of a law: a list of ints, nobody writes to it; True comes out -/
theorem reps_ints {K : PySem.W.Frag} {M : MB} {H : Hp} : ∀ ns : List Int, Reps K M H (ns.map D.int) (ns.map V.int)
  | [] => rfl
  | n :: ns => ⟨_, _, rfl, rfl, reps_ints ns⟩
theorem law_callD {P : Program} {w : World} {K : PySem.W.Frag} {mg mb : Str → Option Value} {k n : Nat} {fa a : Addr} {s₁ : Shared} {vs : List Value} {ns : List Int}
    (KX : K.In s₁.heap) (hns : s₁.heap.Ns mainGlobals mg) (hb : s₁.heap.Ns builtinsNs mb) (hbb : ∀ x : Str, x ≠ "__name__" → mb x = bootBuiltins x) (hlim : s₁.heap.NoLimit) (hg : s₁.gens = #[])
    (ha : s₁.heap.get? a = some { cls := .type "list", data := .seq vs.toArray }) (hi : IntsAre vs ns) (hl : ns.length ≤ sizeLine) (hn : ns.length ≤ n) (hr : Room k callerA)
    (F : ∀ base : Heap, K.In base → base.Ns mainGlobals mg → (∃ fd ps, FnD P w K mg base k fa fd ps (spLaw n) ∧ Binds K fd ps [])) :
    codeAny (model P w) callerA (.call (.ref fa) ⟨[.ref a], []⟩) (fun r s' => r = .ok (.ret (.bool true)) ∧ OldK s₁.heap s'.heap ∧ s'.os = s₁.os ∧ AllBare s'.gens) s₁ := by
  have rv := vals_ints hi
  have lenV := hi.length
  have main : ∀ H : Hp, Only H → SqF K H a (ns.map V.int) → HOk P w H s₁.heap → (∀ b, H b ≠ none → b = a) → (H a ≠ none → K.lookup a = none) →
      codeAny (model P w) callerA (.call (.ref fa) ⟨[.ref a], []⟩) (fun r s' => r = .ok (.ret (.bool true)) ∧ OldK s₁.heap s'.heap ∧ s'.os = s₁.os ∧ AllBare s'.gens) s₁ := by
    intro H hO hS hok hA hK
    have at_ : ∀ {b : Addr}, H b ≠ none → s₁.heap.get? b = some { cls := .type "list", data := .seq vs.toArray } := fun z => by rw [hA _ z]; exact ha
    have free : ∀ {b : Addr} {o : Obj} {es : Array DictEntry} {ep : Nat}, s₁.heap.get? b = some o → o.data = .dict es ep → H b = none := by
      intro b o es ep e d
      cases q : H b with
      | none => rfl
      | some u =>
        rw [at_ (b := b) (by rw [q]; simp)] at e
        cases e; cases d
    have nsK : ∀ {b : Addr} {m : Str → Option Value}, s₁.heap.Ns b m → (hidT s₁.heap H).Ns b m := by
      intro b m ⟨o, es, ep, e, d, r⟩
      exact ⟨o, es, ep, hidT_get e (free e d), d, r⟩
    have hKb : K.In (hidT s₁.heap H) := by
      intro b o e
      refine hidT_get (KX b o e) ?_
      cases q : H b with
      | none => rfl
      | some u =>
        have z : H b ≠ none := by rw [q]; simp
        have := hA b z
        subst this
        rw [hK z] at e; cases e
    have hM : Mod K mg (hidT s₁.heap H) := by
      obtain ⟨mc, l1, l2⟩ := hlim
      exact ⟨hKb, nsK hns, ⟨mb, nsK hb, hbb⟩, ⟨mc, nsK l1, l2⟩⟩
    have e0 : Env0 P w K mg (hidT s₁.heap H) callerA [] s₁ H := by
      refine ⟨rfl, hM, fun b o e => of_hidT e, Nat.le_of_eq (hidT_size _ _), trivial, fun b hb => ?_, hok, .of_eq hg⟩
      exact absurd (show b ∈ ([] : List Addr) from hb) (by simp)
    have start : liftSp K mg (spLaw n) [.ref a] H (fun v _ => v = .bl true) E0 := by
      refine ⟨[.lis (ns.map D.int)], ⟨[], []⟩, noX, fun d _ => d = .bl true, .one ⟨a, _, rfl, hS, reps_ints ns⟩, ⟨rfl, .nil, (fun _ h => nomatch h), fun k a o e => by simp at e⟩, ⟨ns, rfl, hn, rfl, fun _ => rfl⟩, (fun c fs C d M' H' _ _ _ _ q => q.elim), ?_⟩
      intro v d M' H' _ _ r e
      subst e
      exact r
    obtain ⟨fd, ps, F1, hbi⟩ := F _ hKb (nsK hns)
    have hps : ps.length = 1 := (F1.len _ _ noX (fun d _ => d = .bl true) ⟨ns, rfl, hn, rfl, fun _ => rfl⟩).symm
    have KX' : K.In s₁.heap := KX
    have hbt : BindsTo s₁ fd ⟨[.ref a], []⟩ (ps.zip [.ref a]) := by
      have := hbi s₁ [.ref a] KX' (by simp [hps])
      simpa using this
    refine codeAny_mono (F1.run callerA [] s₁ H ⟨[.ref a], []⟩ [.ref a] [.ref a] _ _ hr rfl e0 hbt (.cons rfl .nil) start) fun r s' h => ?_
    cases r with
    | error e => obtain ⟨_, _, _, _, _, _, _, _, _, _, _, _, z⟩ := h; exact False.elim z
    | ok fl =>
      cases fl with
      | ret u =>
        obtain ⟨v, H', os, bare, un, hok', r', q⟩ := h
        have q' : v = .bl true := q
        subst q'
        have eu : u = Value.bool true := r'
        subst eu
        refine ⟨rfl, OldK.of_keep fun b o e => ?_, os, bare⟩
        cases q2 : H b with
        | none => exact un.keep b o e q2 (fun z => absurd (show b ∈ ([] : List Addr) from z) (by simp)) (by simp)
        | some u2 =>
          rcases hO b with z | ⟨ob, xs, z⟩
          · rw [q2] at z; cases z
          · obtain ⟨g1, _⟩ := hok b _ z
            obtain ⟨g2, _⟩ := hok' b _ (un.frzs b ob _ z)
            rw [e] at g1; cases g1
            exact g2
      | next => exact False.elim h
      | brk => exact False.elim h
      | cont => exact False.elim h
  cases hk : K.lookup a with
  | some o =>
    have e := KX a o hk
    rw [ha] at e
    cases e
    refine main (fun _ => none) (fun _ => .inl rfl) (.inr ⟨vs.toArray, _, hk, ?_, by simpa using rv⟩) (fun b u z => ?_) (fun b z => absurd rfl z) fun z => absurd rfl z
    · rw [List.size_toArray, lenV]; exact hl
    · have z' : (none : Option HO) = some u := z
      cases z'
  | none =>
    let ho : HO := .frz { cls := .type "list", data := .seq vs.toArray } (.lst (ns.map V.int))
    refine main (fun b => if b = a then some ho else none) (fun b => ?_) (.inl ⟨{ cls := .type "list", data := .seq vs.toArray }, if_pos rfl⟩) (fun b u z => ?_) (fun b z => ?_) fun _ => hk
    · by_cases hb : b = a
      · exact .inr ⟨_, _, if_pos hb⟩
      · exact .inl (if_neg hb)
    · by_cases hb : b = a
      · have z' := (if_pos hb).symm.trans z
        cases z'
        subst hb
        exact ⟨ha, by rw [List.length_map]; exact hl, vs, _, rv, ha⟩
      · have z' := (if_neg hb).symm.trans z
        cases z'
    · by_cases hb : b = a
      · exact hb
      · exact absurd (if_neg hb) z
/-- the goal that a head leaves -/
theorem walk_D {l : PySem.W.OpenLaw} {n k : Nat} {q : Program} {loose : List Str} {XP : (Str → Option Value) → Heap → Prop} {YP : World → Heap → Prop} {d : DefRec}
    (hn : l.most = some n) (hn2 : n ≤ sizeLine) (hdf : d.params.defaults = []) (hr : Room k callerA)
    (F : ∀ (w : World) (mg : Str → Option Value) (fa : Addr) (h : Heap), YP w h → h.Ns mainGlobals mg → mg d.name = some (.ref fa) →
      ∃ K : PySem.W.Frag, K.In h ∧ ∀ base : Heap, K.In base → base.Ns mainGlobals mg → (∃ fd ps, FnD l.prog w K mg base k fa fd ps (spLaw n) ∧ Binds K fd ps [])) :
    PySem.W.WalkO q loose XP YP l.row.toRowW d [] (fun f vs => PySem.call f vs) := by
  refine Att.attach_call hn hdf
    fun w s₀ s₁ mg mb fa o pm cd doc a vs ns G Y ho hd hcd hmg hobj hints hlen hg => ?_
  obtain ⟨K, KX, hF⟩ := F w mg fa _ Y G.T.g hmg
  exact law_callD KX G.T.g G.T.b G.T.builtins G.T.nolimit hg hobj hints (Nat.le_trans hlen hn2) hlen hr hF
end DM

/-! DM: own classes of errors over built-in ones, raise, try. -/
namespace DM
open PySem PySem.Spec L2
open PyProof.Rows (envOfC)
/-- a built-in class of errors, as the base of an own one -/
structure EB (B newId initId : String) (tl : List Value) : Prop where
  F : ExcBaseFacts B newId initId tl
  pass : ∀ self c, refuseLoop self "__setattr__" (.ref c :: tl) = pure ()
  ob : tl.contains (.type "object") = true
  ty : typeOf (.type B) = pure (.type "type")
  st : Manifest.isStub B = false
  hd : PySem.W.handedIn (.builtin initId) = true
  fi : ∀ K : PySem.W.Frag, PySem.W.findCls K (.type B) (.type "type") "__init__" = some (.val (.builtin initId))
abbrev tlV : List Value := [.type "ValueError", .type "Exception", .type "BaseException", .type "object"]
abbrev tlL : List Value := [.type "LookupError", .type "Exception", .type "BaseException", .type "object"]
abbrev tlR : List Value := [.type "RuntimeError", .type "Exception", .type "BaseException", .type "object"]
abbrev tlO : List Value := [.type "OverflowError", .type "ArithmeticError", .type "Exception", .type "BaseException", .type "object"]
theorem ebV : EB "ValueError" "ValueError.__new__" "ValueError.__init__" tlV := ⟨PySem.F.excBase_ValueError, fun _ _ => by first | rfl | kernel_rfl, by decide +kernel, by kernel_rfl, by decide +kernel, rfl, fun _ => by kernel_rfl⟩
theorem ebL : EB "LookupError" "LookupError.__new__" "LookupError.__init__" tlL := ⟨PySem.F.excBase_LookupError, fun _ _ => by first | rfl | kernel_rfl, by decide +kernel, by kernel_rfl, by decide +kernel, rfl, fun _ => by kernel_rfl⟩
theorem ebR : EB "RuntimeError" "RuntimeError.__new__" "RuntimeError.__init__" tlR := ⟨PySem.F.excBase_RuntimeError, fun _ _ => by first | rfl | kernel_rfl, by decide +kernel, by kernel_rfl, by decide +kernel, rfl, fun _ => by kernel_rfl⟩
theorem ebO : EB "OverflowError" "OverflowError.__new__" "OverflowError.__init__" tlO := ⟨PySem.F.excBase_OverflowError, fun _ _ => by first | rfl | kernel_rfl, by decide +kernel, by kernel_rfl, by decide +kernel, rfl, fun _ => by kernel_rfl⟩
/-- the class at C of the text: its base, its parts -/
structure OexB (K : PySem.W.Frag) (C : Addr) (newId : String) (tl : List Value) : Prop where
  cls : ∃ nm q N bs sn sub ab col dd k0 k1 k2 k3 k5, K.lookup C = some (excClassObj nm q C N bs tl true sn sub ab col dd k0 k1 k2 k3 k5 newId)
  sa : PySem.W.findIn K (.ref C) "__setattr__" = some (some (.builtin "object.__setattr__"))
  exC : PySem.W.subIn K (.ref C) (.type "BaseException") = some true
  tyC : PySem.W.typeIn K (.ref C) = some (.type "type")
  kC : PySem.W.keepIn K (.ref C) = true
section
open PySem.W PySem.Calls PyProof.Rows PySem.HandSPX Builtin Builtin.ObjectAttr
variable {prog : Program} {w : World} {A : Around} {R : Result → Shared → Prop} {hp : Heap} {g : Array GenState} {d : Drawn} {t : Nat} {os : OsState}
/-- the first field of an exception of such a class: its dict is made -/
theorem osa_first {K : PySem.W.Frag} {B newId initId : String} {tl : List Value} (eb : EB B newId initId tl) {f : Str} {tk : Tok} {v : Value} {x C : Addr} {fv : Array Value} {cd : ClassData} (hK : K.In hp)
    (at_x : hp.get? x = some { cls := .ref C, data := .fields fv }) (at_C : W.clsIn K C = some cd) (mro : cd.mro = .ref C :: tl) (has : cd.hasDict = true) (no : W.findIn K (.ref C) f = some none)
    (fin : ∀ h' tk' dx, (∀ b o, b ≠ x → hp.get? b = some o → h'.get? b = some o) → hp.objs.size ≤ dx → dx ≠ x → h'.get? x = some { cls := .ref C, dict := some dx, data := .fields fv } →
      h'.Ns1 dx (fun y => if y = f then some v else none) → R (.ok (.ret .none)) ⟨h', g, d, tk', os⟩) :
    codeAny (model prog w) A (.call (.builtin "object.__setattr__") ⟨[.ref x, .str f tk, v], []⟩) R ⟨hp, g, d, t, os⟩ := by
  have J : W.InstAt hp x { cls := .ref C, data := .fields fv } C none := ⟨at_x, rfl, rfl, trivial⟩
  have S := PySem.F.store_object
  have xne : x ≠ hp.objs.size := Nat.ne_of_lt (Heap.lt_size at_x)
  have isO : W.Looks (model prog w) hp (isInstance (.ref x) (.type "object")) true :=
    J.type.andThen (W.looks_mroIn hK (by unfold W.mroIn; rw [at_C, Option.bind_some, mro, if_neg (by simp [List.isEmpty])]; rw [List.contains_cons, eb.ob, Bool.or_true]))
  have mroL : W.Looks (model prog w) hp (mroOf (.ref C)) cd.mro := (W.looks_clsIn hK at_C).andThen .now
  have noTaker : W.Looks (model prog w) hp (storeTaker? none) none := .now
  have clsL : W.Looks (model prog w) hp (classData C) cd := W.looks_clsIn hK at_C
  refine codeAny_call_builtin S.slot.plain S.entry (@W.check_slot (model prog w) _ _ ⟨hp, g, d, t, os⟩ "object.__setattr__" "object" "__setattr__" (.ref x) [.str f tk, v] [] _ S.kind S.split isO (S.args (.ref x) (.str f tk) v) ?_)
  rw [W.osa_eq, refuse_eq]; refine wpAny_bind (wpAny_bind (J.type.at (wpAny_bind (mroL.at ?_))))
  rw [mro, eb.pass]; refine wpAny_pure (wpAny_bind (J.type.at (wpAny_bind ((W.looks_findIn hK no).at (wpAny_bind (noTaker.at ?_))))))
  show wpAny _ _ (storeInOwnDict (.ref x) (.ref C) (.str f tk) f v false) _ _ _
  obtain ⟨c1, c2, c3, c4, c5, c6, c7, c8, c9, c10, c11⟩ := cd
  dsimp only at has; subst has
  unfold storeInOwnDict ownDictForStores
  repeat (first | with_reducible refine store_in_new ?_ ?_ | with_reducible refine wpAny_loadPart_at at_x ?_ | with_reducible refine clsL.at ?_ | wp_step)
  · exact ⟨_, #[], _, (Heap.get?_update_ne _ _ _ _ xne.symm).trans (Heap.get?_push_at rfl rfl), rfl, fun e he => absurd he (by simp), fun _ => rfl⟩
  · intro h' tk' made same
    have old : (hp.push { cls := .type "dict", data := .dict #[] }).get? x = some { cls := .ref C, data := .fields fv } := Heap.get?_push_of_some _ at_x
    exact fin h' tk' hp.objs.size (fun b o hb ho => (same.2 b (Nat.ne_of_lt (Heap.lt_size ho))).trans ((Heap.get?_update_ne _ _ _ _ hb).trans (Heap.get?_push_of_some _ ho))) (Nat.le_refl _) xne.symm
      ((same.2 x xne).trans (Heap.get?_update_self _ old rfl)) made
end
section
variable {X : Cx} {pins : List (Addr × Obj)} {σ : L2.St} {H : Hp} {s : Shared} {a C : Addr} {f : Str} {y : V} {u : Value} {E : Value → Shared → Prop} {A : Around} {B newId initId : String} {tl : List Value}
theorem oex_cls {K : PySem.W.Frag} (T : OexB K C newId tl) : ∃ cd, PySem.W.clsIn K C = some cd ∧ cd.mro = .ref C :: tl ∧ cd.hasDict = true := by
  obtain ⟨nm, q, N, bs, sn, sub, ab, col, dd, k0, k1, k2, k3, k5, hC⟩ := T.cls
  exact ⟨{ name := nm, bases := bs, mro := .ref C :: tl, ns := N, qualname := q, hasDict := true, slotNames := sn, subclasses := sub, abstract := ab, collection := col, hasDel := false }, by unfold PySem.W.clsIn; rw [hC] <;> rfl, rfl, rfl⟩
/-- self.f = y on an exception that is being made -/
theorem ost_first {Q : Unit → Shared → Prop} (eb : EB B newId initId tl) (T : OexB X.K C newId tl) (I : Inv X pins σ H s) (e : H a = some (exo a C none)) (hno : PySem.W.findIn X.K (.ref C) f = some none) (ry : RelV y u)
    (h : ∀ dx s', H dx = none → dx ≠ a → Inv X pins σ (upd (upd H dx (exd dx [(f, y)])) a (exo a C (some dx))) s' → Q () s') : wpAny (model X.prog X.w) A (setAttr (.ref a) f u) Q E s := by
  obtain ⟨cd, hcl, hm, hd⟩ := oex_cls T
  obtain ⟨t1, ho⟩ := exo_at I.hok e
  obtain ⟨hp, g, dr, t, os⟩ := s
  refine PySem.W.set_plain I.kIn (ox := { cls := .ref C, dict := none, data := .fields #[.ref t1, .none, .none, .none, .bool false, .none] }) (od := none) ⟨ho, rfl, rfl, trivial⟩ T.sa (osa_first eb I.kIn ho hcl hm hd hno fun h' tk' dx k dn dne hx hn => ?_)
  have hnd : H dx = none := I.hok.fresh dn
  have nd : ∀ {b : Addr} {o : Obj}, hp.get? b = some o → b ≠ dx := fun {b o} q => Nat.ne_of_lt (Nat.lt_of_lt_of_le (Heap.lt_size q) dn)
  have na : ∀ {b : Addr}, H b = none → b ≠ a := fun {b} n z => by subst z; rw [e] at n; cases n
  have un : Un X.fs [] H (upd (upd H dx (exd dx [(f, y)])) a (exo a C (some dx))) hp h' :=
    ⟨fun b o q n _ _ => k b o (na n) q, fun b o q n _ _ => ⟨o.slots, k b o (na n) q⟩, fun b o q n _ => by rw [upd_ne (na n), upd_ne (nd q)]; exact n,
     fun b o q _ => (Decidable.em (b = a)).elim (fun hb => by subst hb; exact ⟨_, hx⟩) (fun hb => ⟨o, k b o hb q⟩), fun b xs q => by rw [upd_ne (at_ne e q exo_tup), upd_ne (ne_of_none q hnd)]; exact q,
     fun b o v q => by rw [upd_ne (at_ne e q exo_frz), upd_ne (ne_of_none q hnd)]; exact q, fun b ps q => ⟨#[], by rw [upd_ne (at_ne e q exo_tbl), upd_ne (ne_of_none q hnd), q]; simp⟩⟩
  refine h dx _ hnd dne (I.un (t' := tk') un fun b o q => ?_)
  by_cases hb : b = a
  · subst hb; rw [upd_same] at q; cases q; exact exo_ok hx
  rw [upd_ne hb] at q
  by_cases hd : b = dx
  · subst hd; rw [upd_same] at q; cases q; exact exd_ok hn (relO_put (fs := []) ry fun g => True.intro)
  rw [upd_ne hd] at q
  refine (I.hok b o q).stay (fun c v hc z => k c v ?_ z) (fun c hc => by rw [upd_ne (at_ne e hc exo_own), upd_ne (ne_of_none hc hnd)]; exact hc) fun c xs hc => by rw [upd_ne (at_ne e hc exo_tup), upd_ne (ne_of_none hc hnd)]; exact hc
  rcases hc with hc | hc
  · rw [hc]; exact hb
  · exact at_ne e hc exo_own
/-- B.__init__(self, ..): nothing of it is told -/
theorem binit_ok {us : List Value} {Q : Value → Shared → Prop} (eb : EB B newId initId tl) (T : OexB X.K C newId tl) (I : Inv X pins σ H s) (e : H a = some (exo a C none)) (hl : us.length ≤ sizeLine) (h : ∀ s', Inv X pins σ H s' → Q .none s') :
    wpAny (model X.prog X.w) A (call (.builtin initId) (.ref a :: us)) Q E s := by
  obtain ⟨nm, q, N, bs, sn, sub, ab, col, dd, k0, k1, k2, k3, k5, hC⟩ := T.cls
  obtain ⟨t1, ho⟩ := exo_at I.hok e
  obtain ⟨hp, g, dr, t, os⟩ := s
  refine wpAny_call (PySem.HandSPX.init_base eb.F (fun _ => rfl) (I.kIn _ _ hC) ho hl fun h' t2 k hx => ?_)
  have J := I.write (t' := t) (x := a) (e := a) (o := exo a C none) (by rw [e]; exact True.intro) (.inl rfl) k ⟨_, hx⟩ (exo_ok hx)
  have eu : upd H a (exo a C none) = H := funext fun b => (Decidable.em (b = a)).elim (fun hb => by rw [hb, upd_same, e]) fun hb => by rw [upd_ne hb]
  rw [eu] at J
  exact h _ J
end
/-! ### the __init__ of such a class: its base's, one field or none -/
section
variable {X : Cx} {o e : Expr} {es : List Expr} {to te : TE} {ta : TA} {f : Str} {p p' p1 p2 pos : Pos} {B newId initId : String} {tl : List Value}
/-- B.__init__(self, 'm') -/
def tBi (K : PySem.W.Frag) (newId : String) (tl : List Value) (ta : TA) : TE := fun σ H Q => ta σ H fun vs H1 => ∃ (a C : Addr) (ws : List V), vs = .ref a :: ws ∧ ws.length ≤ 1000 ∧ OexB K C newId tl ∧ H1 a = some (exo a C none) ∧ Q .non H1
theorem pe_binit {x : Str} {pl : Sem Bool} (eb : EB B newId initId tl) (hx : bootBuiltins x = some (.type B)) (hg : Gl X x) (hm : X.mg x = none) (ha : PA X (e :: es) ta) (h1 : x ≠ "__name__") (h2 : (x == ("__debug__" : Str)) = false)
    (hB : (Value.type B == Value.builtin "builtin_function_or_method") = false)
    (hc : eval (.Call (.Attribute (.Name x p1) "__init__" p2) (e :: es) [] pos) X.env = (do
      let ov ← eval (.Name x p1) X.env
      standAt p2.atName
      let (f, first) ← holding [ov] (getMethod ov "__init__" pl)
      callWith pos f first (backTo pos (starEach (e :: es) X.env)) (backToKw pos (keywordEach [] X.env))) := by rfl)
    (he : starEach (e :: es) X.env = (false, eval e X.env) :: starEach es X.env := by rfl) (hpl : (backTo pos (starEach es X.env)).any (·.1) = false := by rfl) :
    PE X (.Call (.Attribute (.Name x p1) "__init__" p2) (e :: es) [] pos) (tBi X.K newId tl ta) := by
  refine ⟨fun pins s σ H Q I h => ?_⟩
  refine PySem.W.methodCall_KW (ld_blt I hg hm hx ?_ h1 h2) hc
  obtain ⟨m, fr⟩ := I.fr
  refine PySem.W.method_type fr I.ok.mod.kin eb.ty eb.st (eb.fi _) eb.hd ?_
  show wpAny _ _ (callWith pos (Value.builtin initId) [] (backTo pos (starEach (e :: es) X.env)) []) _ _ _
  refine PyProof.Rows.callWith_method1 (thn (ha.run pos pins _ σ H _ (I.tok _) h) fun us s1 ⟨vs, H1, I1, r1, a, C, ws, ev, hl, T, ea, q⟩ => ?_) he hpl
  subst ev
  cases r1 with
  | @cons _ u0 _ ur ra rw' =>
    obtain rfl : u0 = Value.ref a := ra
    exact binit_ok eb T I1 ea (by rw [← Paired.length rw', sizeLine_eq]; omega) fun s' J => ⟨.non, H1, J, rfl, q⟩
/-- self.f = e, the only one -/
def tOst1 (K : PySem.W.Frag) (newId : String) (tl : List Value) (f : Str) (to te : TE) : TS := fun D σ H => te σ H fun y H1 => to σ H1 fun x H2 => ∃ a C : Addr, x = .ref a ∧ OexB K C newId tl ∧ PySem.W.findIn K (.ref C) f = some none ∧
  H2 a = some (exo a C none) ∧ ∀ dx, H2 dx = none → dx ≠ a → D.nx σ (upd (upd H2 dx (exd dx [(f, y)])) a (exo a C (some dx)))
theorem ps_ost1 (eb : EB B newId initId tl) (ho : PE X o to) (he : PE X e te) (hs : swapsWith e (some (.Attribute o f p')) pos.line X.env = pure false := by rfl) : PS X (.Assign [.Attribute o f p'] e pos) (tOst1 X.K newId tl f to te) := by
  refine ⟨fun pins s σ H D I h => ?_⟩
  refine plainObj_wpAny_Assign_Attribute (thn (he.run pins s σ H _ I h) fun v s1 ⟨y, H1, I1, r1, q1⟩ => thn (ho.run pins s1 σ H1 _ I1 q1) fun u s2 ⟨x, H2, I2, r2, a, C, ex, T, hno, ea, q⟩ => ?_) hs
  subst ex
  obtain rfl : u = Value.ref a := r2
  exact ost_first eb T I2 ea hno r1 fun dx s' n ne J => ⟨σ, _, J, q dx n ne⟩
end
/-! ### the making -/
/-- what the __init__ of such a class keeps: one field, or none -/
def spX1 (K : PySem.W.Frag) (newId : String) (tl : List Value) (f : Str) : Sp := fun vs H Q _ => ∃ (a C : Addr) (y : V), vs = [.ref a, y] ∧ OexB K C newId tl ∧ PySem.W.findIn K (.ref C) f = some none ∧ H a = some (exo a C none) ∧ ∀ dx, H dx = none → dx ≠ a → Q .non (upd (upd H dx (exd dx [(f, y)])) a (exo a C (some dx)))
def spX0 (K : PySem.W.Frag) (newId : String) (tl : List Value) : Sp := fun vs H Q _ => ∃ (a C : Addr), vs = [.ref a] ∧ OexB K C newId tl ∧ H a = some (exo a C none) ∧ Q .non H
section
variable {X : Cx} {B newId initId : String} {tl : List Value} {x f : Str} {C fI : Addr} {k : Nat} {fd : FuncData} {ps : List Str} {p pos : Pos}
/-- C(e) -/
theorem pmk_x1 {e : Expr} {ta : TA} (eb : EB B newId initId tl) (T : OexB X.K C newId tl) (no : PySem.W.findIn X.K (.ref C) f = some none) (iC : PySem.W.findIn X.K (.ref C) "__init__" = some (some (.ref fI))) (tI : PySem.W.typeIn X.K (.ref fI) = some (.type "function"))
    (F1 : FnOk X.prog X.w X.K X.mg X.base (L2.CX X.prog X.w) k fI fd ps (spX1 X.K newId tl f)) (hr : Room (k + 1) X.A) (hb : Binds X.K fd ps []) (hg : Gl X x) (hm : X.mg x = some (.ref C)) (ha : PA X [e] ta)
    (hdb : (x == ("__debug__" : Str)) = false := by decide) (he : starEach [e] X.env = (false, eval e X.env) :: starEach [] X.env := by rfl) (hpl : (backTo pos (starEach [] X.env)).any (·.1) = false := by rfl) :
    PMk X (.Call (.Name x p) [e] [] pos) (fun σ H Q => ta σ H fun vs H1 => ∃ y, vs = [y] ∧ ∀ d, H1 d = none → Q (.ref C) (some d) (upd H1 d (.xd [(f, y)]))) := by
  intro pins s σ H Q I h
  obtain ⟨nm, q, N, bs, sn, sub, ab, col, dd, k0, k1, k2, k3, k5, hC⟩ := T.cls
  refine wpAny_Call_Name_kw (ld_glob I hg hm ?_ hdb)
  refine PySem.W.callWith_K (h₀ := X.base) I.ok.mod.kin T.kC (thn (ha.run pos pins s σ H _ I h) fun us s1 ⟨vs, H1, I1, r1, y, ev, q1⟩ => ⟨I1.kIn, ?_⟩) he hpl
  subst ev
  show wpAny _ _ (call (.ref C) us) _ _ _
  obtain ⟨hp, g, dr, tk, os⟩ := s1
  let a := hp.objs.size + 1
  have hsz : hp.objs.size ≤ a := Nat.le_succ _
  have hn : H1 a = none := I1.hok.fresh hsz
  have kk : ∀ b o, hp.get? b = some o → ((hp.push (PySem.W.kdv_tup us)).push (PySem.HandSPX.excO C hp.objs.size)).get? b = some o := fun b o e => Heap.get?_push_of_some _ (Heap.get?_push_of_some _ e)
  have hget : ((hp.push (PySem.W.kdv_tup us)).push (PySem.HandSPX.excO C hp.objs.size)).get? (hp.objs.size + 1) = some (PySem.HandSPX.excO C hp.objs.size) := by heap_get
  have I2 : Inv X pins σ (upd H1 a (exo a C none)) ⟨(hp.push (PySem.W.kdv_tup us)).push (PySem.HandSPX.excO C hp.objs.size), g, dr, tk, os⟩ :=
    I1.laid (t' := tk) (a := a) (o := exo a C none) (h' := (hp.push (PySem.W.kdv_tup us)).push (PySem.HandSPX.excO C hp.objs.size)) kk hsz (exo_ok hget)
  have r2 : Vals (V.ref a :: [y]) (Value.ref a :: us) := .cons rfl r1
  have hus : us.length = 1 := by rw [← Paired.length r1]; rfl
  let E0' : XK := fun _ _ _ => False
  have hq : spX1 X.K newId tl f (V.ref a :: [y]) (upd H1 a (exo a C none)) (fun v H2 => v = .non ∧ ∃ d, H2 a = some (exo a C (some d)) ∧ H2 d = some (exd d [(f, y)]) ∧ H1 d = none ∧ upd (del H2 a) d (.xd [(f, y)]) = upd H1 d (.xd [(f, y)])) E0' := by
    refine ⟨a, C, y, rfl, T, no, upd_same, fun dx n ne => ⟨rfl, dx, upd_same, by rw [upd_ne ne, upd_same], by rw [upd_ne ne] at n; exact n, ?_⟩⟩
    rw [upd_ne ne] at n
    funext b
    by_cases h1 : b = dx
    · subst h1; rw [upd_same, upd_same]
    · rw [upd_ne h1, upd_ne h1]
      by_cases h2 : b = a
      · subst h2; rw [del_same, hn]
      · rw [del_ne h2, upd_ne h2, upd_ne h1, upd_ne h2]
  have hl : (Value.ref a :: us).length = ps.length := by
    have e := r2.length
    rw [F1.len _ _ _ _ hq] at e
    exact e.symm
  have hb' := hb ⟨(hp.push (PySem.W.kdv_tup us)).push (PySem.HandSPX.excO C hp.objs.size), g, dr, tk, os⟩ (Value.ref a :: us) I2.kIn (by rw [List.append_nil]; exact hl)
  rw [List.append_nil] at hb'
  refine wpAny_call (PySem.HandSPX.call_own eb.F (fun _ => rfl) (I1.kIn _ _ hC) (PySem.W.looks_findIn I1.kIn iC) (fun self => PySem.W.bind_fn I1.kIn self tI) (by rw [hus, sizeLine_eq]; omega)
    (codeAny_mono (F1.run _ X.stack _ _ ⟨Value.ref a :: us, []⟩ (Value.ref a :: us) _ _ E0' (hr.make C us []) (I2.env0.make C us []) hb' r2 hq) fun r s' hq' => ?_))
  cases r with
  | error er => obtain ⟨_, _, _, _, _, _, _, _, _, _, _, _, z⟩ := hq'; exact z.elim
  | ok fl =>
    cases fl with
    | ret u =>
      obtain ⟨v, H2, os2, bare2, un2, hok2, rv, ev, d, ea, ed, hd1, eq⟩ := hq'
      subst ev
      obtain ⟨h2, g2, d2, t2, os'⟩ := s'
      exact ⟨rv, mk_end (raises_own T.exC T.tyC) I1 hsz kk un2 hok2 os2 bare2 ea ed hd1 (by rw [eq]; exact q1 d hd1)⟩
    | next => exact False.elim hq'
    | brk => exact False.elim hq'
    | cont => exact False.elim hq'
end
/-! ### raise -/
/-- the class named c: made with its fields f -/
structure KnownX (P : Program) (w : World) (K : PySem.W.Frag) (mg : Str → Option Value) (base : Heap) (k : Nat) (c f : Str) : Prop where
  ex : ∃ (B newId initId : String) (tl : List Value) (C fI : Addr) (fd : FuncData) (ps : List Str), XC K mg c C ∧ EB B newId initId tl ∧ OexB K C newId tl ∧ PySem.W.findIn K (.ref C) f = some none ∧ PySem.W.findIn K (.ref C) "__init__" = some (some (.ref fI)) ∧
    PySem.W.typeIn K (.ref fI) = some (.type "function") ∧ FnOk P w K mg base (L2.CX P w) k fI fd ps (spX1 K newId tl f) ∧ Binds K fd ps []
theorem ds_raise1 {X : Cx} {k : Nat} {c f : Str} {e : Expr} {t : DA} {p cpos pos : Pos} (hc : X.calm = true) (hx : KnownX X.prog X.w X.K X.mg X.base k c f) (hr : Room (k + 1) X.A) (ha : PAd X [e] t) (hg : Gl X c := by rfl)
    (hdb : (c == ("__debug__" : Str)) = false := by decide) (he : starEach [e] X.env = (false, eval e X.env) :: starEach [] X.env := by rfl) (hpl : (backTo cpos (starEach [] X.env)).any (·.1) = false := by rfl) :
    PSd X (.Raise (some (.Call (.Name c p) [e] [] cpos)) none pos) (dRaise c [f] t) := by
  obtain ⟨B, newId, initId, tl, C, fI, fd, ps, hm, eb, T, no, iC, tI, F1, hb⟩ := hx.ex
  refine psI (ps_raise hc (takes_Wx X) (pmk_x1 eb T no iC tI F1 hr hb hg hm.at_ ha hdb he hpl)) fun D σ H ⟨ρ, M, De, S, R, q, k⟩ => ⟨ρ, M, _, _, S, R, q, k.xok S, fun vs ds M1 H1 e1 R1 r1 ⟨hl, q1⟩ => ?_⟩
  match ds, hl, r1, q1 with
  | [d], _, r1, q1 =>
    obtain ⟨y, ey, ry⟩ := r1.one'
    exact ⟨y, ey, fun dd n => k.ex c [(f, d)] C (some dd) σ _ ρ M1 (e1.trans (.new n)) (S.ev (e1.trans (.new n))) (R1.new n) hm (.inr ⟨dd, [(f, y)], rfl, upd_same, R1.mem n, y, [], rfl, ry.ev (Ev.new n), rfl⟩) q1⟩

/-! ### try -/
/-- the ends of an except suite -/
def sufN (D : Ends) : Option Nat → Ends
  | none => D
  | some i => { nx := fun σ' H' => D.nx (σ'.set i none) H', rt := D.rt, bk := fun σ' H' => D.bk (σ'.set i none) H', ct := fun σ' H' => D.ct (σ'.set i none) H' }
def sufS (σ : L2.St) (a : Addr) : Option Nat → L2.St
  | none => σ
  | some i => σ.set i (some (.ref a))
abbrev HdL : Type := List (Value × Option Nat × (Addr → Value → Option Addr → TS))
/-- what the clauses wish of what the body raises -/
def wGen (K : PySem.W.Frag) (out : WX) (D : Ends) : HdL → WX
  | [] => out
  | (c, i, ts) :: r => fun cls d σ H => ∃ b, PySem.W.exmOne K cls c = some b ∧ (b = true → ∀ a, H a = none → ts a cls d (sufN D i) (sufS σ a i) H) ∧ (b = false → wGen K out D r cls d σ H)
/-- how a clause names what it caught -/
def NmOk (X : Cx) (n : Option Str) (i : Option Nat) : Prop := (n = none ∧ i = none) ∨ ∃ x j, n = some x ∧ i = some j ∧ X.N[j]? = some x ∧ X.env.kindOf x = some .local
inductive HdsG (X : Cx) : List ExceptHandler → HdL → Prop
  | nil : HdsG X [] []
  | cons {x : Str} {c : Value} {n : Option Str} {i : Option Nat} {ts : Addr → Value → Option Addr → TS} {b₀ : Stmt} {suite : List Stmt} {np pos' : Pos} {hds : List ExceptHandler} {l : HdL} (hc : Names X x c) (hn : NmOk X n i)
      (hsu : ∀ (a : Addr) (oe : Obj) (cls : Value) (d : Option Addr) (pn : List (Addr × Obj)), Zc cls d oe → (∃ vs, oe.data = .fields vs) → PSs (X.suite a ((a, oe) :: pn)) (b₀ :: suite) (ts a cls d)) (r : HdsG X hds l) :
      HdsG X (.ExceptHandler (some (.Name x np)) n (b₀ :: suite) pos' :: hds) ((c, i, ts) :: l)
section
variable {X : Cx} {body : List Stmt} {h₀ : ExceptHandler} {hds : List ExceptHandler} {l : HdL} {pos : Pos} {tb : WX → TS} {out : WX}
/-- a caught exception at a: one clause behind another -/
theorem clauses {pins : List (Addr × Obj)} {σ' : L2.St} {H' : Hp} {sI s' : Shared} {h3 B : Heap} {cls : Value} {d : Option Addr} {a : Addr} {D : Ends} (hN : X.N.Nodup) (hs : X.stack = X.env :: X.outer) (hf : X.env.frame = some X.env.locals) (tk : Takes X out) (ok : X.Ok)
    (J : Inv X pins σ' H' sI) (nb : ∀ b o, sI.heap.get? b = some o → b ∉ frs X.stack → B.get? b = some o) (up : sI.heap.UpToSlots h3) (os : s'.os = sI.os) (ag : PyProof.Rows.AllBare s'.gens) (na : H' a = none) (fl : HandSPX.FlyingZ B (X.env :: X.outer) a (Zc cls d) h3) :
    ∀ {hds : List ExceptHandler} {l : HdL}, HdsG X hds l → wGen X.K out D l cls d σ' H' → wpAny (model X.prog X.w) X.A (handleBy (.ref a) X.env hds) (SP X pins D) X.xe { s' with heap := h3 } := by
  have land : ∀ {h : Heap}, HandSPX.FlyingZ B (X.env :: X.outer) a (Zc cls d) h → sI.heap.UpToSlots h → ∃ oe, h.get? a = some oe ∧ Zc cls d oe ∧ (∃ vs, oe.data = .fields vs) ∧ Inv (X.suite a ((a, oe) :: (X.pn ++ pins))) [] σ' H' { s' with heap := h } := fun {h} fl u => by
    have J3 : Inv X pins σ' H' { s' with heap := h } := J.landed nb fl.1 u os ag
    obtain ⟨oe, vs, he, hz, hd⟩ := fl.there
    have nfr : a ∉ frs (X.env :: X.outer) := fun hm => by
      obtain ⟨_, o', e', hnf⟩ := fl.2.2.1.mem hm
      rw [he] at e'; cases e'; exact hnf _ hd
    refine ⟨oe, he, hz, ⟨vs, hd⟩, J3.suite he hd na (fun z => nfr (List.mem_filterMap.mpr ⟨X.env, List.mem_cons_self, by rw [hf, z]⟩)) fun hm => ?_⟩
    obtain ⟨e, he', q⟩ := List.mem_filterMap.mp hm
    exact nfr (List.mem_filterMap.mpr ⟨e, List.mem_cons_of_mem _ he', q⟩)
  obtain ⟨oe3, he3, hz3, ⟨vs3, hd3⟩, S3⟩ := land fl up
  have J3 : Inv X pins σ' H' { s' with heap := h3 } := J.landed nb fl.1 up os ag
  intro hds l hk
  induction hk with
  | nil =>
    intro w
    refine wpAny_handleBy_nil ?_
    obtain ⟨_, _, _, oe, vs, T, oT, ts', he, hz, hd, h1, hr⟩ := id fl
    unfold PySem.passOn
    refine wpAny_bind (wpAny_field he hd h1 ?_)
    rw [if_neg (show ¬ ((Value.ref T == Value.none) = true) from by simp)]
    have fin : wpAny (model X.prog X.w) X.A (setFlight (.ref a) X.env.frame) (fun _ s4 => wpAny (model X.prog X.w) X.A (throw (.ref a) : Sem Flow) (SP X pins D) X.xe s4) X.xe { s' with heap := h3 } := by
      rw [hf]
      exact HandSPX.setFlight_upZ fl fun h4 hh4 up4 => wpAny_throw (tk _ _ ⟨a, B, sI, pins, σ', H', cls, d, rfl, J, nb, up.trans up4, .inr (.inr (by rw [hs]; exact hh4)), na, os, ag, w⟩)
    first
      | exact wpAny_bind (wpAny_pure (wpAny_bind fin))
      | exact wpAny_bind fin
  | @cons x c n i ts b₀ suite np pos' hds2 l2 hc hn hsu r ih =>
    intro ⟨b, hb1, yes, no⟩
    refine wpAny_handleBy_cons (codeAny_handlers_test ?_) (by intro q; cases q)
    have ty : PySem.W.Looks (model X.prog X.w) h3 (typeOf (.ref a)) cls := fun A Q E s k q => wpAny_typeOf_ref (k _ _ he3) (by rw [hz3.1]; exact q)
    have fit := PySem.W.exm_one (M := model X.prog X.w) J3.kIn ty hb1
    have test : ∀ {Q : Value → Shared → Prop} {E : Value → Shared → Prop}, Q c { s' with heap := h3 } → wpAny (model X.prog X.w) (X.A.mark (some (.ref a))) (eval (.Name x np) X.env) Q E { s' with heap := h3 } := fun {Q E} q => by
      rcases hc with ⟨hg, hdbg, hm | ⟨hm, hv, hnn⟩⟩
      · exact ld_glob (X := X.suite a ((a, oe3) :: (X.pn ++ pins))) S3 hg hm q hdbg
      · exact ld_blt (X := X.suite a ((a, oe3) :: (X.pn ++ pins))) S3 hg hm hv q hnn hdbg
    refine test (fit.here ?_)
    cases b with
    | false => exact ih (no rfl)
    | true =>
      have y := yes rfl a na
      rcases hn with ⟨e1, e2⟩ | ⟨y1, j, e1, e2, hi, hln⟩
      · subst e1; subst e2
        refine codeAny_handlers_suite (HandSPX.lands_againZ fl fun h4 fl4 up4 => ?_)
        obtain ⟨oe4, he4, hz4, hd4, S4⟩ := land fl4 (up.trans up4)
        refine wpAny_mono ((hsu a oe4 cls d (X.pn ++ pins) hz4 hd4).run [] _ _ H' _ S4 y) (fun f s6 hsp => ?_) (fun _ _ z => False.elim z)
        cases f with
        | ret u => obtain ⟨v6, σ6, H6, S6, r6, q6⟩ := hsp; exact ⟨_, _, _, S6.unsuite ok, r6, q6⟩
        | next => obtain ⟨σ6, H6, S6, q6⟩ := hsp; exact ⟨_, _, S6.unsuite ok, q6⟩
        | brk => obtain ⟨σ6, H6, S6, q6⟩ := hsp; exact ⟨_, _, S6.unsuite ok, q6⟩
        | cont => obtain ⟨σ6, H6, S6, q6⟩ := hsp; exact ⟨_, _, S6.unsuite ok, q6⟩
      · subst e1; subst e2
        refine codeAny_handlers_suite_as (HandSPX.lands_againZ fl fun h4 fl4 up4 => ?_)
        obtain ⟨oe4, he4, hz4, hd4, S4⟩ := land fl4 (up.trans up4)
        refine store_ok (X := X.suite a ((a, oe4) :: (X.pn ++ pins))) (v := .ref a) S4 hN hi (.inl hln) rfl (fun s5 S5 => ?_) (.inr hln)
        refine wpAny_mono ((hsu a oe4 cls d (X.pn ++ pins) hz4 hd4).run [] s5 _ H' _ S5 y) (fun f s6 hsp => ?_) (fun _ _ z => False.elim z)
        have away : ∀ {σ6 : L2.St} {H6 : Hp} {Q : Shared → Prop}, Inv (X.suite a ((a, oe4) :: (X.pn ++ pins))) [] σ6 H6 s6 → (∀ s7, Inv X pins (σ6.set j none) H6 s7 → Q s7) →
            wpAny (model X.prog X.w) X.A (do bindName X.env y1 .none; unbindBehindTheSuite X.env y1 pos') (fun _ s7 => Q s7) X.xe s6 := fun {σ6 H6 Q} S6 hq => gone_ok (S6.unsuite ok) hN hi hln hq
        cases f with
        | ret u => obtain ⟨v6, σ6, H6, S6, r6, q6⟩ := hsp; exact away S6 fun s7 J7 => ⟨_, _, _, J7, r6, q6⟩
        | next => obtain ⟨σ6, H6, S6, q6⟩ := hsp; exact away S6 fun s7 J7 => ⟨_, _, J7, q6⟩
        | brk => obtain ⟨σ6, H6, S6, q6⟩ := hsp; exact away S6 fun s7 J7 => ⟨_, _, J7, q6⟩
        | cont => obtain ⟨σ6, H6, S6, q6⟩ := hsp; exact away S6 fun s7 J7 => ⟨_, _, J7, q6⟩
theorem ps_try_gen (hs : X.stack = X.env :: X.outer) (hf : X.env.frame = some X.env.locals) (hN : X.N.Nodup) (tk : Takes X out)
    (hb : ∀ (W : WX) (pn : List (Addr × Obj)) (xe : Value → Shared → Prop), Takes (X.tr pn xe) W → PassesOwn (model X.prog X.w) X.A X.env xe → PSs (X.tr pn xe) body (tb W))
    (hh : HdsG X (h₀ :: hds) l) : PS X (.Try body (h₀ :: hds) [] [] pos) (fun D σ H => tb (wGen X.K out D l) D σ H) := by
  refine ⟨fun pins s σ H D I h => ?_⟩
  have ok := I.ok
  have hfr : X.A.frames = some (X.env :: X.outer) := by rw [ok.frames, hs]
  refine wpAny_Try_except (wpAny_mono ((hb (wGen X.K out D l) (X.pn ++ pins) (fun e s₁ => wpAny (model X.prog X.w) X.A (noteFrame e X.env) (fun _ s₂ => wpAny (model X.prog X.w) X.A (setFlight e none) (fun _ s₃ =>
    wpAny (model X.prog X.w) X.A (handleBy e X.env (h₀ :: hds)) (SP X pins D) X.xe s₃) X.xe s₂) X.xe s₁) (fun u s' xx => ?_) PassesOwn.looking).run [] s σ H D (I.toTry _) h) (fun f s1 hsp => ?_) (fun e s1 he => he))
  · obtain ⟨a, B, sI, pins', σ', H', cls, d, rfl, J', nb, up, sky, na, os, ag, w⟩ := xx
    show wpAny (model X.prog X.w) X.A (noteFrame (.ref a) X.env) _ _ _
    exact Sky.land Zc.steady hfr hf (by rw [← hs]; exact sky) fun h3 fl3 up3 => clauses hN hs hf tk ok (J'.ofTry ok) nb (up.trans up3) os ag na fl3 hh w
  · cases f with
    | ret u => obtain ⟨v, σ', H', J', r, q⟩ := hsp; exact ⟨v, σ', H', J'.ofTry ok, r, q⟩
    | next => obtain ⟨σ', H', J', q⟩ := hsp; exact wpAny_execs_nil ⟨σ', H', J'.ofTry ok, q⟩
    | brk => obtain ⟨σ', H', J', q⟩ := hsp; exact ⟨σ', H', J'.ofTry ok, q⟩
    | cont => obtain ⟨σ', H', J', q⟩ := hsp; exact ⟨σ', H', J'.ofTry ok, q⟩
end
/-! ### except suites over data -/
theorem XRep.ev {K : PySem.W.Frag} {M M' : MB} {H H' : Hp} {fs : Fs} {d : Option Addr} (h : XRep K M H fs d) (e : Ev M H M' H') : XRep K M' H' fs d := by
  rcases h with h | ⟨dd, gs, h1, h2, h3, h4⟩
  · exact .inl h
  · exact .inr ⟨dd, gs, h1, e.frame dd _ h2 h3, (fun z => by have w := e.dom dd z h3; rw [h2] at w; cases w), h4.ev e⟩
structure EndsN (K : PySem.W.Frag) (mg : Str → Option Value) (M : MB) (H : Hp) (De : DEnds) (D : Ends) : Prop where
  nx : ∀ σ' H' ρ' M', Ev M H M' H' → Slots K M' H' ρ' σ' → MR K mg M' H' → De.nx ρ' M'.m → D.nx σ' H'
  rt : ∀ v d M' H', Ev M H M' H' → MR K mg M' H' → Rep K M' H' d v → De.rt d M'.m → D.rt v H'
  bk : ∀ σ' H' ρ' M', Ev M H M' H' → Slots K M' H' ρ' σ' → MR K mg M' H' → De.bk ρ' M'.m → D.bk σ' H'
  ct : ∀ σ' H' ρ' M', Ev M H M' H' → Slots K M' H' ρ' σ' → MR K mg M' H' → De.ct ρ' M'.m → D.ct σ' H'
theorem EndsN.later {K : PySem.W.Frag} {mg : Str → Option Value} {M M1 : MB} {H H1 : Hp} {De : DEnds} {D : Ends} (h : EndsN K mg M H De D) (e : Ev M H M1 H1) : EndsN K mg M1 H1 De D :=
  ⟨fun σ H ρ M f => h.nx σ H ρ M (e.trans f), fun v d M H f => h.rt v d M H (e.trans f), fun σ H ρ M f => h.bk σ H ρ M (e.trans f), fun σ H ρ M f => h.ct σ H ρ M (e.trans f)⟩
/-- nothing is raised from here -/
def noE (E : DEnds) : DEnds := { E with ex := fun _ _ _ _ => False }
theorem EndsN.ok {X : Cx} {M : MB} {H : Hp} {De : DEnds} {D : Ends} (h : EndsN X.K X.mg M H De D) : EndsOk X M H (noE De) D := ⟨h.nx, h.rt, h.bk, h.ct, fun _ _ _ _ _ _ _ _ _ _ _ _ _ q => q.elim⟩
/-- what was caught: the object, its slot, its fields, its dict -/
structure Cau where
  a : Addr
  i : Option Nat
  fs : Fs
  d : Option Addr
def Cau.Ok (K : PySem.W.Frag) (c : Cau) (M : MB) (H : Hp) (σ : L2.St) : Prop := XRep K M H c.fs c.d ∧ ∀ j, c.i = some j → j < σ.length → σ[j]? = some (some (V.ref c.a))
theorem Cau.Ok.ev {K : PySem.W.Frag} {c : Cau} {M M' : MB} {H H' : Hp} {σ : L2.St} (h : c.Ok K M H σ) (e : Ev M H M' H') : c.Ok K M' H' σ := ⟨h.1.ev e, h.2⟩
/-- in a suite: an exception with the dict d, the fields fs was caught -/
def LSX (K : PySem.W.Frag) (mg : Str → Option Value) (c : Cau) (t : DS) : TS := fun D σ H => ∃ ρ M De, Slots K M H ρ σ ∧ MR K mg M H ∧ c.Ok K M H σ ∧ t (noE De) ρ M.m ∧ EndsN K mg M H De D
def LEX (K : PySem.W.Frag) (mg : Str → Option Value) (c : Cau) (t : DE) : TE := fun σ H Q => ∃ ρ M Qd, Slots K M H ρ σ ∧ MR K mg M H ∧ c.Ok K M H σ ∧ t ρ M.m noX Qd ∧ ∀ v d M' H', Ev M H M' H' → MR K mg M' H' → Rep K M' H' d v → Qd d M'.m → Q v H'
def LAX (K : PySem.W.Frag) (mg : Str → Option Value) (c : Cau) (t : DA) : TA := fun σ H Q => ∃ ρ M Qd, Slots K M H ρ σ ∧ MR K mg M H ∧ c.Ok K M H σ ∧ t ρ M.m noX Qd ∧ ∀ vs ds M' H', Ev M H M' H' → MR K mg M' H' → Reps K M' H' ds vs → Qd ds M'.m → Q vs H'
section
variable {X : Cx} {e : Expr} {es : List Expr} {st : Stmt} {b : List Stmt} {c : Cau} {te : DE} {ta : DA} {t u : DS} {pos : Pos}
abbrev PEx (X : Cx) (c : Cau) (e : Expr) (t : DE) : Prop := PE X e (LEX X.K X.mg c t)
abbrev PAx (X : Cx) (c : Cau) (e : List Expr) (t : DA) : Prop := PA X e (LAX X.K X.mg c t)
abbrev PSx (X : Cx) (c : Cau) (e : Stmt) (t : DS) : Prop := PS X e (LSX X.K X.mg c t)
abbrev PSsx (X : Cx) (c : Cau) (e : List Stmt) (t : DS) : Prop := PSs X e (LSX X.K X.mg c t)
theorem xe_of (h : PEd X e te) : PEx X c e te := peI h fun σ H Q ⟨ρ, M, Qd, S, R, _, q, k⟩ => ⟨ρ, M, noX, Qd, S, R, q, .no, k⟩
theorem xs_of (h : PSd X st t) : PSx X c st t := psI h fun D σ H ⟨ρ, M, De, S, R, _, q, k⟩ => ⟨ρ, M, _, S, R, q, k.ok⟩
theorem xa_nil : PAx X c [] dNil := paI pa_nil fun σ H Q ⟨ρ, M, Qd, S, R, _, q, k⟩ => k [] [] M H .refl R .nil q
theorem xa_cons (ha : PEx X c e te) (hr : PAx X c es ta) (hs : starEach (e :: es) X.env = (false, eval e X.env) :: starEach es X.env := by rfl) : PAx X c (e :: es) (dCons te ta) :=
  paI (pa_cons ha hr hs) fun σ H Q ⟨ρ, M, Qd, S, R, z, q, k⟩ => ⟨ρ, M, _, S, R, z, q, fun v d M1 H1 e1 R1 r1 q1 =>
    ⟨ρ, M1, _, S.ev e1, R1, z.ev e1, q1, fun vs ds M2 H2 e2 R2 r2 q2 => k _ _ M2 H2 (e1.trans e2) R2 (.cons (r1.ev e2) r2) q2⟩⟩
theorem xe_tup {x1} (h : PAx X c es ta) : PEx X c (.Tuple es x1 pos) (dTup ta) := peI (pe_tup h) fun σ H Q ⟨ρ, M, Qd, S, R, z, q, k⟩ =>
  ⟨ρ, M, _, S, R, z, q, fun vs ds M1 H1 e1 R1 r1 ⟨hz, q1⟩ => ⟨by rw [← r1.len]; exact hz, fun p n =>
    k (.ref p) (.tup ds) M1 (upd H1 p (.tup vs)) (e1.trans (.new n)) (R1.new n) ⟨p, vs, rfl, sq_new, r1.ev (Ev.new (M := M1) n)⟩ q1⟩⟩
theorem xs_ret (he : PEx X c e te) : PSx X c (.Return (some e) pos) (dRet te) := psI (ps_ret he) fun D σ H ⟨ρ, M, De, S, R, z, q, k⟩ =>
  ⟨ρ, M, _, S, R, z, q, fun v d M1 H1 e1 R1 r1 q1 => k.rt v d M1 H1 e1 R1 r1 q1⟩
theorem xs_set {i : Nat} {x : Str} {pos' : Pos} (hN : X.N.Nodup) (he : PEx X c e te) (hi : X.N[i]? = some x := by rfl) (hx : Loc X.env.scope x := by first | exact Or.inl rfl | exact Or.inr rfl) (hs : swapsWith e (some (.Name x pos')) pos.line X.env = pure false := by rfl) (hf : X.fn x = true ∨ X.env.scope.names.lookup x = some .local := by first | exact .inl rfl | exact .inr rfl | assumption) :
    PSx X c (.Assign [.Name x pos'] e pos) (dAsg te (.nm i)) := psI (ps_set hN hi hx he hs hf) fun D σ H ⟨ρ, M, De, S, R, z, q, k⟩ =>
  ⟨ρ, M, _, S, R, z, q, fun v d M1 H1 e1 R1 r1 q1 => k.nx _ H1 _ M1 e1 ((S.ev e1).set r1) R1 (by simpa only [Tg.store, noE] using q1)⟩
theorem xs_one (h : PSx X c st t) : PSsx X c [st] t := pss_one h
/-- e.f of what was caught -/
theorem lookF_rep {K : PySem.W.Frag} {M : MB} {H : Hp} {f : Str} : ∀ {fs : Fs} {gs : List (Str × V)} {d : D}, RepF K M H fs gs → lookF fs f = some d → ∃ v, gs.lookup f = some v ∧ Rep K M H d v
  | [], _, _, _, e => by simp [lookF] at e
  | (g, x) :: r, _, d, ⟨v, ws, e, h1, h2⟩, q => by
    subst e
    by_cases h : f = g
    · subst h
      simp [lookF] at q
      subst q
      exact ⟨v, by simp, h1⟩
    · have hb : (f == g) = false := by simpa using h
      unfold lookF at q
      rw [List.lookup, hb] at q
      obtain ⟨w, e1, r1⟩ := lookF_rep h2 q
      exact ⟨w, by rw [List.lookup, hb]; exact e1, r1⟩
theorem xe_fld {C : Addr} {oe : Obj} {pn : List (Addr × Obj)} {i : Nat} {x f : Str} {p : Pos} (T : XfC X.K C) (no : PySem.W.findIn X.K (.ref C) f = some none) (hz : Zc (.ref C) c.d oe) (hf : ∃ vs, oe.data = .fields vs) (hi : c.i = some i)
    (hN : (X.suite c.a ((c.a, oe) :: pn)).N[i]? = some x := by rfl) (hv : Vis (X.suite c.a ((c.a, oe) :: pn)).env.scope x := by first | exact Or.inl rfl | exact Or.inr (Or.inl rfl) | exact Or.inr (Or.inr rfl))
    (hd : (x == ("__debug__" : Str)) = false := by decide) (hcd : (x == ("__classdict__" : Str)) = false := by decide)
    (hb : attributeBase (.Name x p) f (X.suite c.a ((c.a, oe) :: pn)).env (eval (.Name x p) (X.suite c.a ((c.a, oe) :: pn)).env) = eval (.Name x p) (X.suite c.a ((c.a, oe) :: pn)).env := by rfl) : PEx (X.suite c.a ((c.a, oe) :: pn)) c (.Attribute (.Name x p) f pos) (dXf c.fs f) :=
  ⟨fun pins s σ H Q I ⟨ρ, M, Qd, S, R, z, ⟨y, hy, q⟩, k⟩ => (pe_xf T no hz hf (pe_var (i := i) hN hv hd hcd) hb).run pins s σ H Q I <| by
    refine ⟨.ref c.a, z.2 i hi (by rw [I.len]; exact lt_of_get hN), rfl, rfl, ?_⟩
    rcases z.1 with ⟨e1, e2⟩ | ⟨dd, gs, e1, e2, e3, e4⟩
    · rw [e1] at hy; simp [lookF] at hy
    · obtain ⟨v, g1, g2⟩ := lookF_rep e4 hy
      exact ⟨dd, gs, v, e1, e2, g1, k v y M H .refl R g2 q⟩⟩
end
/-! ### try over data -/
theorem Slots.none {K : PySem.W.Frag} {M : MB} {H : Hp} {ρ : DSt} {σ : L2.St} (S : Slots K M H ρ σ) (j : Nat) (v : Option V) : Slots K M H (ρ.set j none) (σ.set j v) := by
  refine ⟨by simp [S.1], fun i d e => ?_⟩
  by_cases h : j = i
  · subst h
    by_cases hl : j < ρ.length
    · rw [List.getElem?_set_self hl] at e; cases e
    · rw [List.getElem?_eq_none (by simp; omega)] at e; cases e
  · rw [List.getElem?_set_ne h] at e
    obtain ⟨w, e1, r⟩ := S.2 i d e
    exact ⟨w, by rw [List.getElem?_set_ne h]; exact e1, r⟩
/-- the clauses of a try: the class, the slot of its name, the suite's reading by the fields -/
abbrev HsL : Type := List (Str × Option Nat × (Fs → DS))
inductive HdsD (X : Cx) : List ExceptHandler → HsL → Prop
  | nil : HdsD X [] []
  | cons {x : Str} {C : Addr} {n : Option Str} {i : Option Nat} {u : Fs → DS} {b₀ : Stmt} {suite : List Stmt} {np pos' : Pos} {hds : List ExceptHandler} {l : HsL} (hm : X.mg x = some (.ref C)) (hg : Gl X x) (hdb : (x == ("__debug__" : Str)) = false) (hx : x ∈ xcs) (hn : NmOk X n i)
      (hsu : ∀ (c : Cau) (oe : Obj) (pn : List (Addr × Obj)), c.i = i → Zc (.ref C) c.d oe → (∃ vs, oe.data = .fields vs) → PSsx (X.suite c.a ((c.a, oe) :: pn)) c (b₀ :: suite) (u c.fs)) (r : HdsD X hds l) :
      HdsD X (.ExceptHandler (some (.Name x np)) n (b₀ :: suite) pos' :: hds) ((x, i, u) :: l)
/-- .. below -/
def loHd (K : PySem.W.Frag) (mg : Str → Option Value) : HsL → HdL
  | [] => []
  | (x, i, u) :: l => (((mg x).getD .none), i, fun a cls d D σ H => ∃ fs, cls = (mg x).getD .none ∧ LSX K mg ⟨a, i, fs, d⟩ (u fs) D σ H) :: loHd K mg l
theorem HdsD.lo {X : Cx} : ∀ {hds : List ExceptHandler} {l : HsL}, HdsD X hds l → HdsG X hds (loHd X.K X.mg l)
  | _, _, .nil => .nil
  | _, _, .cons (C := C) hm hg hdb hx hn hsu r => by
    refine .cons (c := (X.mg _).getD .none) ⟨hg, hdb, .inl (by rw [hm]; rfl)⟩ hn (fun a oe cls d pn hz hf => ⟨fun pins s σ H D I ⟨fs, e, q⟩ => ?_⟩) (HdsD.lo r)
    rw [hm] at e
    cases (show cls = .ref C from e)
    exact (hsu ⟨a, _, fs, d⟩ oe pn rfl hz hf).run pins s σ H D I q
/-- the body's readings, its exceptions by a wish -/
def LSW (X : Cx) (W : WX) (t : DS) : TS := fun D σ H => ∃ ρ M De, Slots X.K M H ρ σ ∧ MR X.K X.mg M H ∧ t De ρ M.m ∧ EndsN X.K X.mg M H De D ∧
  ∀ c fs C d σ' H' ρ' M', Ev M H M' H' → Slots X.K M' H' ρ' σ' → MR X.K X.mg M' H' → XC X.K X.mg c C → XRep X.K M' H' fs d → De.ex c fs ρ' M'.m → W (.ref C) d σ' H'
theorem ds_try {X : Cx} {body : List Stmt} {h₀ : ExceptHandler} {hds : List ExceptHandler} {l : HsL} {pos : Pos} {t : DS} (hs : X.stack = X.env :: X.outer) (hf : X.env.frame = some X.env.locals) (hN : X.N.Nodup)
    (hb : ∀ (W : WX) (pn : List (Addr × Obj)) (xe : Value → Shared → Prop), PassesOwn (model X.prog X.w) X.A X.env xe → PSsd (X.tr pn xe) body t) (hh : HdsD X (h₀ :: hds) l) : PSd X (.Try body (h₀ :: hds) [] [] pos) (dTry t l) := by
  refine psI (ps_try_gen (tb := fun W => LSW X W t) hs hf hN (takes_Wx X) (fun W pn xe tk hp => pssI (hb W pn xe hp) fun D σ H ⟨ρ, M, De, S, R, q, k, kx⟩ => ⟨ρ, M, De, S, R, q, k.nx, k.rt, k.bk, k.ct, fun c fs C d σ' H' ρ' M' e S' R' hc r q' => wx_of tk (kx c fs C d σ' H' ρ' M' e S' R' hc r q')⟩) hh.lo) fun D σ H ⟨ρ, M, De, S, R, q, k⟩ => ?_
  refine ⟨ρ, M, _, S, R, q, ⟨k.nx, k.rt, k.bk, k.ct⟩, fun c fs C d σ' H' ρ' M' e S' R' hc r q' => ?_⟩
  have go : ∀ {hds : List ExceptHandler} {l : HsL}, HdsD X hds l → (match l.lookup c with | some u => u.2 fs (sufE De u.1) (setN ρ' u.1) M'.m | none => De.ex c fs ρ' M'.m) → wGen X.K (Wx X) D (loHd X.K X.mg l) (.ref C) d σ' H' := by
    intro hds l hh
    induction hh with
    | nil => intro q; exact k.ex c fs C d σ' H' ρ' M' e S' R' hc r q
    | @cons x C2 n i u b₀ suite np pos' hds l hm hg hdb hx hn hsu r2 ih =>
      intro q
      refine ⟨decide (c = x), by rw [hm]; exact hc.own x hx C2 hm, fun y a na => ?_, fun y => ih ?_⟩
      · have y : c = x := of_decide_eq_true y
        subst y
        rw [List.lookup_cons_self] at q
        have eC : C2 = C := by have := hm.symm.trans hc.at_; cases this; rfl
        subst eC
        refine ⟨fs, by rw [hm]; rfl, setN ρ' i, M', sufE De i, ?_, R', ⟨r, fun j ej => ?_⟩, q, ?_⟩
        · cases i with
          | none => exact S'
          | some j => exact S'.none j _
        · cases (show i = some j from ej)
          rcases hn with ⟨_, z⟩ | ⟨x1, j1, _, z, hi, _⟩
          · cases z
          · cases z
            exact fun hl => List.getElem?_set_self (by simpa [sufS] using hl)
        · have E := k.later e
          cases i with
          | none => exact ⟨E.nx, E.rt, E.bk, E.ct⟩
          | some j => exact ⟨fun σ5 H5 ρ5 M5 e5 S5 R5 q5 => E.nx _ _ _ _ e5 (S5.none j none) R5 q5, E.rt, fun σ5 H5 ρ5 M5 e5 S5 R5 q5 => E.bk _ _ _ _ e5 (S5.none j none) R5 q5, fun σ5 H5 ρ5 M5 e5 S5 R5 q5 => E.ct _ _ _ _ e5 (S5.none j none) R5 q5⟩
      · have y : ¬ c = x := of_decide_eq_false y
        rw [List.lookup_cons, show (c == x) = false from by simpa using y] at q
        exact q
  exact go hh q'
end DM

/-! DM: what a head reads more: the own classes of errors. -/
namespace DM
open PySem PySem.Spec L2
open PyProof.Rows (envOfC)
/-! ### a Hook with more facts -/
abbrev ObM : Type := He.AlD × Bool
abbrev FbL : Type := List (PySem.W.Frag → Bool)
def fragM (n : Nat) (g : Addr → Option Obj) : PySem.W.Frag := He.frG g (He.asD g n)
def obsM (n : Nat) (fa : List He.Fa) (fn : List He.DefD) (fb : FbL) (g : Addr → Option Obj) : ObM := (He.obsD fa fn (fragM n g), fb.all fun t => t (fragM n g))
def hookM (n : Nat) (fa : List He.Fa) (fn : List He.DefD) (fb : FbL) : PySem.W.Hook :=
  { α := ObM, obs := fun s => obsM n fa fn fb s.heap.get?, val := fun _ => (He.valD fn, true), says := fun _ h => ∃ K : PySem.W.Frag, K.In h ∧ (He.SaysD fa fn K ∧ fb.all (fun t => t K) = true),
    of := fun w s e => ⟨fragM n s.heap.get?, He.frG_in, congrArg (fun z : ObM => z.1) e, congrArg (fun z : ObM => z.2) e⟩,
    keeps := fun w h h' q k => by obtain ⟨K, i, c⟩ := q; exact ⟨K, PySem.W.Frag.In.keeps i k, c⟩ }
theorem obsM_eq {n : Nat} {fa : List He.Fa} {fn : List He.DefD} {fb : FbL} {g : Addr → Option Obj} {s : Shared} (h : ∀ a, g a = s.heap.get? a) : obsM n fa fn fb g = (hookM n fa fn fb).obs s := by
  rw [show g = s.heap.get? from funext h] <;> rfl
theorem fb_at {fb : FbL} {K : PySem.W.Frag} (h : fb.all (fun t => t K) = true) (i : Nat) {t : PySem.W.Frag → Bool} (e : fb[i]? = some t := by rfl) : t K = true := List.all_eq_true.mp h t (List.mem_of_getElem? e)
/-- what a class statement holds -/
def clsOf : Stmt → List Stmt
  | .ClassDef _ _ _ b _ _ _ _ _ _ _ => b
  | _ => []
/-! ### own classes of errors -/
def fldsX : List Str := ["place", "position", "number", "source", "limit"]
/-- the class at C over the base tl -/
def oexB (newId : String) (tl : List Value) (c : Str) (K : PySem.W.Frag) : Bool := (match K.lookup (He.ga K c) with
    | some ⟨.type "type", _, .cls cd, sl⟩ => (match cd.mro, sl.toList with
      | .ref C' :: bm, [_, _, _, _, some (.builtin n), _] => C' == He.ga K c && (n == newId && (!cd.hasDel && (cd.hasDict && bm == tl)))
      | _, _ => false)
    | _ => false) && (decide (PySem.W.findIn K (.ref (He.ga K c)) "__setattr__" = some (some (.builtin "object.__setattr__"))) && (decide (PySem.W.subIn K (.ref (He.ga K c)) (.type "BaseException") = some true) &&
    (decide (PySem.W.typeIn K (.ref (He.ga K c)) = some (.type "type")) && PySem.W.keepIn K (.ref (He.ga K c)))))
theorem oexB_ok {newId : String} {tl : List Value} {c : Str} {K : PySem.W.Frag} (h : oexB newId tl c K = true) : OexB K (He.ga K c) newId tl := by
  obtain ⟨q, h⟩ := He.ba h
  obtain ⟨h1, h⟩ := He.ba h
  obtain ⟨h2, h⟩ := He.ba h
  obtain ⟨h3, h4⟩ := He.ba h
  refine ⟨?_, of_decide_eq_true h1, of_decide_eq_true h2, of_decide_eq_true h3, h4⟩
  split at q
  · rename_i dd cd sl ho
    split at q
    · rename_i C' bm k0 k1 k2 k3 n k5 hm hs
      simp only [Bool.and_eq_true, beq_iff_eq, Bool.not_eq_true'] at q
      obtain ⟨e1, e2, hdel, hdc, e3⟩ := q
      obtain ⟨nm, bs, mro, ns, qn, hd, sn, sub, ab, col, del⟩ := cd
      dsimp only at hm hdel hdc
      subst hm hdel hdc e2 e3
      have hsl : sl = #[k0, k1, k2, k3, some (.builtin n), k5] := by
        obtain ⟨l⟩ := sl
        simp only at hs
        rw [hs]
      subst hsl
      rw [e1] at ho
      exact ⟨nm, qn, ns, bs, sn, sub, ab, col, dd, k0, k1, k2, k3, k5, ho⟩
    · cases q
  · cases q
/-- it is caught by its own name alone -/
def xcB (c : Str) (K : PySem.W.Frag) : Bool := xcs.all fun y => match PySem.W.nsIn K mainGlobals y with
  | some none => true
  | some (some (.ref Y)) => decide (PySem.W.exmOne K (.ref (He.ga K c)) (.ref Y) = some (decide (c = y)))
  | _ => false
theorem xcB_ok {c : Str} {K : PySem.W.Frag} {h : Heap} {mg : Str → Option Value} (X : K.In h) (G : h.Ns mainGlobals mg) (e : xcB c K = true) (hm : mg c = some (.ref (He.ga K c))) : XC K mg c (He.ga K c) := by
  refine ⟨hm, fun y hy Y hY => ?_⟩
  have q := List.all_eq_true.mp e y hy
  cases e2 : PySem.W.nsIn K mainGlobals y with
  | none => rw [e2] at q; cases q
  | some o =>
    rw [e2] at q
    cases o with
    | none =>
      have := PySem.W.mg_none_of X G e2
      rw [hY] at this; cases this
    | some v =>
      have := PySem.W.mg_of X G e2
      rw [hY] at this; cases this
      exact of_decide_eq_true q
/-- what a clause reads of it -/
structure CaughtX (K : PySem.W.Frag) (mg : Str → Option Value) (c : Str) : Prop where
  at_ : mg c = some (.ref (He.ga K c))
  xf : XfC K (He.ga K c)
  all : (fldsX.all fun f => decide (PySem.W.findIn K (.ref (He.ga K c)) f = some none)) = true
theorem CaughtX.no {K : PySem.W.Frag} {mg : Str → Option Value} {c : Str} (h : CaughtX K mg c) (f : Str) (hf : f ∈ fldsX) : PySem.W.findIn K (.ref (He.ga K c)) f = some none := of_decide_eq_true (List.all_eq_true.mp h.all f hf)
def caB (c : Str) (K : PySem.W.Frag) : Bool := xfB K (He.ga K c) && fldsX.all fun f => decide (PySem.W.findIn K (.ref (He.ga K c)) f = some none)
theorem caB_ok {c : Str} {K : PySem.W.Frag} {mg : Str → Option Value} (e : caB c K = true) (hm : mg c = some (.ref (He.ga K c))) : CaughtX K mg c := ⟨hm, xfB_ok (He.ba e).1, (He.ba e).2⟩
/-- its __init__: found, a function -/
def inB (c : Str) (K : PySem.W.Frag) : Bool := decide (PySem.W.findIn K (.ref (He.ga K c)) "__init__" = some (some (.ref (He.ma K (He.ga K c) "__init__")))) && decide (PySem.W.typeIn K (.ref (He.ma K (He.ga K c) "__init__")) = some (.type "function"))
/-- all of it -/
def exB (newId : String) (tl : List Value) (c : Str) (K : PySem.W.Frag) : Bool := oexB newId tl c K && (xcB c K && (caB c K && inB c K))
section
variable {P : Program} {w : World} {K : PySem.W.Frag} {mg : Str → Option Value} {base h : Heap} {c f : Str} {B newId initId : String} {tl : List Value} {k : Nat} {fd : FuncData} {ps : List Str}
theorem exB_caught (e : exB newId tl c K = true) (hm : mg c = some (.ref (He.ga K c))) : CaughtX K mg c := caB_ok (He.ba (He.ba (He.ba e).2).2).1 hm
theorem exB_known1 (X : K.In h) (G : h.Ns mainGlobals mg) (eb : EB B newId initId tl) (e : exB newId tl c K = true) (hm : mg c = some (.ref (He.ga K c))) (hf : f ∈ fldsX)
    (F : FnOk P w K mg base (L2.CX P w) k (He.ma K (He.ga K c) "__init__") fd ps (spX1 K newId tl f)) (hb : Binds K fd ps []) : KnownX P w K mg base k c f := by
  obtain ⟨e1, e2⟩ := He.ba e
  obtain ⟨e2, e3⟩ := He.ba e2
  obtain ⟨e3, e4⟩ := He.ba e3
  obtain ⟨e5, e6⟩ := He.ba e4
  exact ⟨B, newId, initId, tl, _, _, fd, ps, xcB_ok X G e2 hm, eb, oexB_ok e1, (caB_ok (mg := mg) e3 hm).no f hf, of_decide_eq_true e5, of_decide_eq_true e6, F, hb⟩
end
/-- the reading of such an __init__ keeps its promise -/
theorem init1_says {K : PySem.W.Frag} {newId : String} {tl : List Value} {f x : Str} {vs : List V} {H : Hp} {Q : VK} {E : XK} (h : spX1 K newId tl f vs H Q E) :
    tSeq (tDrop (tBi K newId tl (tCons (tVar 0) (tCons (tC (.str x)) tNil)))) (tOst1 K newId tl f (tVar 0) (tVar 1)) { nx := fun _ H' => Q .non H', rt := Q } (L2.start ["self", f] vs) H := by
  obtain ⟨a, C, y, rfl, T, no, e, k⟩ := h
  refine ⟨_, rfl, a, C, [.str x], rfl, (show 1 ≤ 1000 by decide), T, e, ?_⟩
  exact ⟨_, rfl, _, rfl, a, C, rfl, T, no, e, fun dx n ne => k dx n ne⟩
theorem init0_says {K : PySem.W.Frag} {newId : String} {tl : List Value} {x : Str} {vs : List V} {H : Hp} {Q : VK} {E : XK} (h : spX0 K newId tl vs H Q E) :
    tDrop (tBi K newId tl (tCons (tVar 0) (tCons (tC (.str x)) tNil))) { nx := fun _ H' => Q .non H', rt := Q } (L2.start ["self"] vs) H := by
  obtain ⟨a, C, rfl, T, e, k⟩ := h
  exact ⟨_, rfl, a, C, [.str x], rfl, (show 1 ≤ 1000 by decide), T, e, k⟩
section
variable {P : Program} {w : World} {K : PySem.W.Frag} {mg : Str → Option Value} {base : Heap} {B newId initId : String} {tl : List Value} {qual f x : Str} {params : Arguments} {scope : Scope} {fI : Addr} {fd : FuncData} {p1 p2 p3 p4 p5 p6 p7 p8 p9 p10 : Pos} {xB : Str} {j : Option Str}
theorem init1_ok {body : List Stmt} (F : FunD K "__init__" qual params body scope [] [] fI fd) (S : FnScope ["self", f] ["self", f] scope)
    (hbody : ∀ (cdv : Value) (A : Around) (outer : List Env) (s : Shared) (H : Hp) (E : XK), PSs (cxOf (L2.CX P w) P w K mg base ["self", f] qual scope fI cdv A outer s H E) body (tSeq (tDrop (tBi K newId tl (tCons (tVar 0) (tCons (tC (.str x)) tNil)))) (tOst1 K newId tl f (tVar 0) (tVar 1)))) :
    FnOk P w K mg base (L2.CX P w) 1 fI fd ["self", f] (spX1 K newId tl f) :=
  F.ok S (fun vs H Q E ⟨_, _, _, e, _⟩ => by rw [e]; rfl) fun cdv A outer s H vs Q E hr h => ⟨_, hbody cdv A outer s H E, init1_says h⟩
theorem init0_ok {body : List Stmt} (F : FunD K "__init__" qual params body scope [] [] fI fd) (S : FnScope ["self"] ["self"] scope)
    (hbody : ∀ (cdv : Value) (A : Around) (outer : List Env) (s : Shared) (H : Hp) (E : XK), PSs (cxOf (L2.CX P w) P w K mg base ["self"] qual scope fI cdv A outer s H E) body (tDrop (tBi K newId tl (tCons (tVar 0) (tCons (tC (.str x)) tNil))))) :
    FnOk P w K mg base (L2.CX P w) 1 fI fd ["self"] (spX0 K newId tl) :=
  F.ok S (fun vs H Q E ⟨_, _, e, _⟩ => by rw [e]; rfl) fun cdv A outer s H vs Q E hr h => ⟨_, hbody cdv A outer s H E, init0_says h⟩
end
end DM

/-! DM: instances of the text's own classes. -/
namespace DM
open PySem PySem.Spec L2
open PyProof.Rows (envOfC)
/-- the classes cs have no class attribute of the names fl -/
def FldX (K : PySem.W.Frag) (mg : Str → Option Value) (cs : List Str) (f : Str) : Prop := ∀ c ∈ cs, ∃ C, mg c = some (.ref C) ∧ Cls K C ∧ NoAttr K C f
/-- the methods named m -/
def MethX (P : Program) (w : World) (K : PySem.W.Frag) (mg : Str → Option Value) (base : Heap) (k : Nat) (m : Str) (tbl : List (Str × SpD)) : Prop := ∀ c sp, tbl.lookup c = some sp → ∃ C f fd ps, mg c = some (.ref C) ∧ Cls K C ∧ Meth K C m f ∧ FnD P w K mg base k f fd ps sp ∧ Binds K fd ps []
/-- a class that is called -/
def NewX (P : Program) (w : World) (K : PySem.W.Frag) (mg : Str → Option Value) (base : Heap) (k : Nat) (c : Str) (sp : SpD) : Prop := ∃ C f fd ps, mg c = some (.ref C) ∧ Mk K C f ∧ FnD P w K mg base k f fd ps sp ∧ Binds K fd ps []
section
variable {K : PySem.W.Frag} {mg : Str → Option Value} {M : MB} {H : Hp} {c f : Str} {fs : Fs} {gs : List (Str × V)} {d : D} {v : V}
theorem ins_at (R : MR K mg M H) (r : Rep K M H d v) (e : insD M.m d = some (c, fs)) : ∃ k a C dx gs, d = .ref k ∧ M.i[k]? = some a ∧ v = .ref a ∧ M.m[k]? = some (some (.ins c fs)) ∧ mg c = some (.ref C) ∧ H a = some (.ins C dx gs) ∧ RepF K M H fs gs := by
  cases d with
  | ref k =>
    obtain ⟨a, ha, rfl⟩ := r
    cases hm : M.m[k]? with
    | none => simp [insD, hm] at e
    | some o =>
      cases o with
      | none => simp [insD, hm] at e
      | some u =>
        cases u with
        | ins c' fs' =>
          simp [insD, hm] at e
          obtain ⟨rfl, rfl⟩ := e
          obtain ⟨C, dx, gs, h0, h1, h2⟩ := R.at_ k a _ ha hm
          exact ⟨k, a, C, dx, gs, rfl, ha, rfl, hm, h0, h1, h2⟩
        | _ => simp [insD, hm] at e
  | _ => cases e
theorem lookF_no : ∀ {fs : Fs} {gs : List (Str × V)}, RepF K M H fs gs → lookF fs f = none → gs.lookup f = none
  | [], _, h, _ => by cases h; rfl
  | (g, x) :: r, _, ⟨v, ws, e, h1, h2⟩, q => by
    subst e
    unfold lookF at q
    rw [List.lookup_cons] at q
    rw [List.lookup_cons]
    cases h : f == g with
    | true => rw [h] at q; cases q
    | false => rw [h] at q; exact lookF_no h2 q
theorem RepF.ln : ∀ {fs : Fs} {gs : List (Str × V)}, RepF K M H fs gs → fs.length = gs.length
  | [], _, h => by cases h; rfl
  | (_, _) :: r, _, ⟨v, ws, e, h1, h2⟩ => by subst e; simp [RepF.ln h2]
theorem RepF.put (rd : Rep K M H d v) : ∀ {fs : Fs} {gs : List (Str × V)}, RepF K M H fs gs → RepF K M H (putA f d fs) (L2.putF f v gs)
  | [], _, h => by cases h; exact ⟨v, [], rfl, rd, rfl⟩
  | (g, x) :: r, _, ⟨u, ws, e, h1, h2⟩ => by
    subst e
    unfold putA L2.putF
    by_cases h : g = f
    · rw [if_pos h, if_pos h]; exact ⟨v, ws, rfl, rd, h2⟩
    · rw [if_neg h, if_neg h]; exact ⟨u, _, rfl, h1, RepF.put rd h2⟩
end
section
variable {X : Cx} {o e value : Expr} {es : List Expr} {cs : List Str} {f m c : Str} {to te : DE} {t : DA} {pos pos' tpos apos p : Pos} {k : Nat} {sp : SpD} {tbl : List (Str × SpD)}
/-- o.f -/
theorem de_fld (h : FldX X.K X.mg cs f) (he : PEd X e te) (hb : attributeBase e f X.env (eval e X.env) = eval e X.env := by rfl) : PEd X (.Attribute e f pos) (dUn (rAttr cs f) te) :=
  peI (pe_fld he hb) fun σ H Q ⟨ρ, M, E, Qd, S, R, q, xo, k⟩ => ⟨ρ, M, E, _, S, R, q, xo, fun v d M1 H1 e1 R1 r1 ⟨c, fs, y, hi, hc, hl, q1⟩ => by
    obtain ⟨j, a, C, dx, gs, ed, ha, ev, hm, hC, hH, hF⟩ := ins_at R1 r1 hi
    obtain ⟨C', hC', cl, no⟩ := h c hc
    rw [hC] at hC'; cases hC'
    obtain ⟨u, hu, ru⟩ := lookF_rep hF hl
    exact ⟨a, C, dx, gs, u, ev, hH, cl, no, hu, k u y M1 H1 e1 R1 ru q1⟩⟩
theorem set_end {Dn : Ends} {M M2 : MB} {H H2 : Hp} {De : DEnds} {ρ : DSt} {σ : L2.St} {j : Nat} {a C dx : Addr} {fs : Fs} {gs : List (Str × V)} {y : D} {w : V} (k : EndsOk X M H De Dn) (S : Slots X.K M H ρ σ) (e2 : Ev M H M2 H2) (R2 : MR X.K X.mg M2 H2) (ha : M2.i[j]? = some a) (hm : M2.m[j]? = some (some (.ins c fs)))
    (hC : X.mg c = some (.ref C)) (hH : H2 a = some (.ins C dx gs)) (hF : RepF X.K M2 H2 fs gs) (rw' : Rep X.K M2 H2 y w) (q : De.nx ρ (M2.m.set j (some (.ins c (putA f y fs))))) : Dn.nx σ (upd H2 a (.ins C dx (L2.putF f w gs))) := by
  have ev := Ev.put (M := M2) (H := H2) (k := j) (v := some (.ins c (putA f y fs))) (u := .ins C dx (L2.putF f w gs)) ha hH trivial
  exact k.nx σ _ ρ (M2.put j (some (.ins c (putA f y fs)))) (e2.trans ev) (S.ev (e2.trans ev)) (R2.put ha hH trivial ⟨C, dx, _, hC, upd_same, (hF.put rw').ev ev⟩) q
/-- o.f = e -/
theorem ds_setF (h : FldX X.K X.mg cs f) (ho : PEd X o to) (hv : PEd X value te) (hs : swapsWith value (some (.Attribute o f pos')) pos.line X.env = pure false := by rfl) : PSd X (.Assign [.Attribute o f pos'] value pos) (dSetF cs f te to) :=
  psI (ps_fld ho hv hs) fun D σ H ⟨ρ, M, De, S, R, q, k⟩ => ⟨ρ, M, _, _, S, R, q, k.xok S, fun w y M1 H1 e1 R1 r1 q1 => ⟨ρ, M1, _, _, S.ev e1, R1, q1, (k.xok S).later e1, fun v d M2 H2 e2 R2 r2 ⟨j, c, fs, ed, hm, hc, hl, q2⟩ => by
    subst ed
    obtain ⟨a, ha, ev⟩ := r2
    obtain ⟨C, dx, gs, hC, hH, hF⟩ := R2.at_ _ _ _ ha hm
    obtain ⟨C', hC', cl, no⟩ := h c hc
    rw [hC] at hC'; cases hC'
    exact ⟨a, C, dx, gs, ev, hH, cl, no, by rw [← hF.ln]; omega, set_end k S (e1.trans e2) R2 ha hm hC hH hF (r1.ev e2) q2⟩⟩⟩
/-- a method's table, read -/
theorem MethX.mono {P : Program} {w : World} {K : PySem.W.Frag} {mg : Str → Option Value} {base : Heap} {i j : Nat} (h : MethX P w K mg base i m tbl) (l : i ≤ j) : MethX P w K mg base j m tbl := fun c sp e => by
  obtain ⟨C, f, fd, ps, h1, h2, h3, h4, h5⟩ := h c sp e
  exact ⟨C, f, fd, ps, h1, h2, h3, h4.mono l, h5⟩
/-- o.m(e, ..) -/
theorem de_callM {pl : Sem Bool} (T : MethX X.prog X.w X.K X.mg X.base k m tbl) (hr : Room k X.A) (hgd : X.A.guards = some []) (ho : PEd X o to) (ha : PAd X (e :: es) t)
    (hst : starEach (e :: es) X.env = (false, eval e X.env) :: starEach es X.env := by rfl) (hpl : (backTo pos (starEach es X.env)).any (·.1) = false := by rfl)
    (ht : eval (.Call (.Attribute o m apos) (e :: es) [] pos) X.env = (do
      let ov ← eval o X.env
      standAt apos.atName
      let (f, first) ← holding [ov] (getMethod ov m pl)
      callWith pos f first (backTo pos (starEach (e :: es) X.env)) (backToKw pos (keywordEach [] X.env))) := by rfl) :
    PEd X (.Call (.Attribute o m apos) (e :: es) [] pos) (dCallM tbl m to t) := by
  refine ⟨fun pins s σ H Q I ⟨ρ, M, E, Qd, S, R, q, xo, kk⟩ => ?_⟩
  refine PySem.W.methodCall_KW (pl := pl) (thn (ho.run pins s σ H (fun x H1 => ∃ d M1, Ev M H M1 H1 ∧ MR X.K X.mg M1 H1 ∧ Rep X.K M1 H1 d x ∧ ∃ c fs sp, insD M1.m d = some (c, fs) ∧ tbl.lookup c = some sp ∧ lookF fs m = none ∧ t ρ M1.m E fun ds M2 => sp (d :: ds) M2 E Qd) I
    ⟨ρ, M, E, _, S, R, q, xo, fun v d M1 H1 e1 R1 r1 q1 => ⟨d, M1, e1, R1, r1, q1⟩⟩) fun u s1 ⟨x, H1, I1, rx, d, M1, e1, R1, r1, c, fs, sp, hi, hsp, hl, q1⟩ => ?_) ht
  obtain ⟨j, a, C, dx, gs, ed, hja, ev, hm, hC, hH, hF⟩ := ins_at R1 r1 hi
  obtain ⟨C', f, fd, ps, hC', cl, me, F, hb⟩ := T c sp hsp
  rw [hC] at hC'; cases hC'
  subst ev
  obtain rfl : u = Value.ref a := rx
  refine getmeth_ok I1 hH cl me (lookF_no hF hl) ?_
  refine PySem.W.callWith_K (first := [.ref a]) (h₀ := X.base) I1.ok.mod.kin me.kp (thn (ha.run pos pins s1 σ H1 (fun vs H2 => liftSp X.K X.mg sp (.ref a :: vs) H2 Q fun cls d H' => Wx X cls d σ H') I1
    ⟨ρ, M1, E, _, S.ev e1, R1, q1, xo.later e1, fun vs ds M2 H2 e2 R2 r2 q2 => ⟨d :: ds, M2, E, Qd, .cons (r1.ev e2) r2, R2, q2, (xo.later e1).later e2, fun v d' M' H' e' R' r' q' => kk v d' M' H' ((e1.trans e2).trans e') R' r' q'⟩⟩) fun us s2 ⟨vs, H2, I2, r, q2⟩ => ⟨I2.kIn, ?_⟩) hst hpl
  exact run_keeps (us := .ref a :: us) (vs := .ref a :: vs) F hb hr hgd I2 (.cons rfl r) q2
/-- o.m() -/
theorem de_callM0 {pl : Sem Bool} (T : MethX X.prog X.w X.K X.mg X.base k m tbl) (hr : Room k X.A) (hgd : X.A.guards = some []) (ho : PEd X o to)
    (ht : eval (.Call (.Attribute o m apos) [] [] pos) X.env = (do
      let ov ← eval o X.env
      standAt apos.atName
      let (f, first) ← holding [ov] (getMethod ov m pl)
      callWith pos f first (backTo pos (starEach [] X.env)) (backToKw pos (keywordEach [] X.env))) := by rfl) :
    PEd X (.Call (.Attribute o m apos) [] [] pos) (dCallM tbl m to dNil) := by
  refine ⟨fun pins s σ H Q I ⟨ρ, M, E, Qd, S, R, q, xo, kk⟩ => ?_⟩
  refine PySem.W.methodCall_KW (pl := pl) (thn (ho.run pins s σ H (fun x H1 => ∃ d M1, Ev M H M1 H1 ∧ MR X.K X.mg M1 H1 ∧ Rep X.K M1 H1 d x ∧ ∃ c fs sp, insD M1.m d = some (c, fs) ∧ tbl.lookup c = some sp ∧ lookF fs m = none ∧ sp [d] M1.m E Qd) I
    ⟨ρ, M, E, _, S, R, q, xo, fun v d M1 H1 e1 R1 r1 q1 => ⟨d, M1, e1, R1, r1, q1⟩⟩) fun u s1 ⟨x, H1, I1, rx, d, M1, e1, R1, r1, c, fs, sp, hi, hsp, hl, q1⟩ => ?_) ht
  obtain ⟨j, a, C, dx, gs, ed, hja, ev, hm, hC, hH, hF⟩ := ins_at R1 r1 hi
  obtain ⟨C', f, fd, ps, hC', cl, me, F, hb⟩ := T c sp hsp
  rw [hC] at hC'; cases hC'
  subst ev
  obtain rfl : u = Value.ref a := rx
  refine getmeth_ok I1 hH cl me (lookF_no hF hl) ?_
  exact PySem.W.callWith_K0 (first := [.ref a]) I1.kIn me.kp (run_keeps (us := [.ref a]) (vs := [.ref a]) F hb hr hgd I1 (.cons rfl .nil) ⟨[d], M1, E, Qd, .one r1, R1, q1, xo.later e1, fun v d' M' H' e' R' r' q' => kk v d' M' H' (e1.trans e') R' r' q'⟩)
theorem make_guards {A : Around} {C : Addr} {us : List Value} {kw : List (Str × Value)} (h : A.guards = some []) : (A.under (.builtin "type.__call__" ⟨.ref C :: us, kw⟩)).guards = some [] := by
  first | exact h | simpa [Around.under, Code.isGuard, guardIds] using h
/-- the class is called -/
theorem run_new {pins : List (Addr × Obj)} {σ : L2.St} {H : Hp} {s : Shared} {Q : VK} {us : List Value} {vs : List V} {C fI : Addr} {fd : FuncData} {ps : List Str} (Y : Mk X.K C fI) (F : FnD X.prog X.w X.K X.mg X.base k fI fd ps sp) (hr : Room (k + 1) X.A) (hgd : X.A.guards = some []) (hb : Binds X.K fd ps []) (I : Inv X pins σ H s) (r : Vals vs us)
    (h : ∀ x dx, H x = none → H dx = none → dx ≠ x → liftSp X.K X.mg sp (.ref x :: vs) (upd (upd H dx (.own x)) x (.ins C dx [])) (fun v H2 => v = .non ∧ Q (.ref x) H2) fun cls d H' => Wx X cls d σ H') :
    wpAny (model X.prog X.w) X.A (call (.ref C) us) (EP X pins σ Q) X.xe s := by
  have hq := h (s.heap.objs.size + 1) s.heap.objs.size (I.hok.fresh (Nat.le_succ _)) (I.hok.fresh (Nat.le_refl _)) (Nat.ne_of_lt (Nat.lt_succ_self _))
  have I2 := Inv.made (C := C) I
  have r2 : Vals (V.ref (s.heap.objs.size + 1) :: vs) (Value.ref (s.heap.objs.size + 1) :: us) := .cons rfl r
  have hl : (Value.ref (s.heap.objs.size + 1) :: us ++ []).length = ps.length := by
    obtain ⟨ds, M, Xd, Qd, rs, R, q, _⟩ := hq
    rw [← F.len _ _ _ _ q, rs.len, List.append_nil]
    exact r2.length.symm
  have b := hb _ (Value.ref (s.heap.objs.size + 1) :: us) I2.kIn hl
  rw [List.append_nil] at b
  refine wpAny_call (make_map (f := fI) I.kIn Y.makes Y.init (beq_iff_eq.mp Y.fn) (codeAny_mono (F.run _ X.stack _ _ ⟨Value.ref (s.heap.objs.size + 1) :: us, []⟩ (Value.ref (s.heap.objs.size + 1) :: us) _ _ _ (hr.make C us []) (make_guards hgd)
    (I2.env0.make C us []) b r2 hq) fun r s' hq' => ?_))
  cases r with
  | error e => exact takes_Wx X e s' (XE.of_call I2 (fun _ _ _ z => z) hq')
  | ok fl =>
    cases fl with
    | ret u =>
      obtain ⟨v, H', I3, rv, ev, q3⟩ := I2.after hq'
      subst ev
      exact ⟨rv, ⟨V.ref (s.heap.objs.size + 1), H', I3, rfl, q3⟩⟩
    | next => exact False.elim hq'
    | brk => exact False.elim hq'
    | cont => exact False.elim hq'
/-- C(e, ..) -/
theorem de_new (Y : NewX X.prog X.w X.K X.mg X.base k c sp) (hr : Room (k + 1) X.A) (hgd : X.A.guards = some []) (ha : PAd X (e :: es) t) (hg : Gl X c := by rfl)
    (hdb : (c == ("__debug__" : Str)) = false := by decide) (he : starEach (e :: es) X.env = (false, eval e X.env) :: starEach es X.env := by rfl) (hpl : (backTo pos (starEach es X.env)).any (·.1) = false := by rfl) :
    PEd X (.Call (.Name c p) (e :: es) [] pos) (dNew c sp t) := by
  obtain ⟨C, fI, fd, ps, hm, mk, F, hb⟩ := Y
  refine ⟨fun pins s σ H Q I ⟨ρ, M, E, Qd, S, R, q, xo, kk⟩ => ?_⟩
  refine wpAny_Call_Name_kw (ld_glob I hg hm ?_ hdb)
  refine PySem.W.callWith_K (h₀ := X.base) I.ok.mod.kin mk.kp (thn (ha.run pos pins s σ H (fun vs H1 => ∀ x dx, H1 x = none → H1 dx = none → dx ≠ x → liftSp X.K X.mg sp (.ref x :: vs) (upd (upd H1 dx (.own x)) x (.ins C dx [])) (fun v H2 => v = .non ∧ Q (.ref x) H2) fun cls d H' => Wx X cls d σ H') I
    ⟨ρ, M, E, _, S, R, q, xo, fun vs ds M1 H1 e1 R1 r1 q1 x dx nx nd ne => ?_⟩) fun us s1 ⟨vs, H1, I1, r, q2⟩ => ⟨I1.kIn, run_new mk F hr hgd hb I1 r q2⟩) he hpl
  have n2 : upd H1 dx (.own x) x = none := by rw [upd_ne (Ne.symm ne)]; exact nx
  have eA : Ev M1 H1 M1 (upd H1 dx (.own x)) := .new nd
  have RA := R1.new (o := .own x) nd
  have eB : Ev M1 (upd H1 dx (.own x)) (M1.add x (.ins c [])) (upd (upd H1 dx (.own x)) x (.ins C dx [])) := .made n2
  have RB : MR X.K X.mg (M1.add x (.ins c [])) (upd (upd H1 dx (.own x)) x (.ins C dx [])) := RA.made n2 ⟨C, dx, [], hm, upd_same, rfl⟩
  have eAB := eA.trans eB
  refine ⟨.ref M1.m.length :: ds, M1.add x (.ins c []), E, _, .cons (rep_last R1) (r1.ev eAB), RB, q1, (xo.later e1).later eAB, fun v d M' H' e' R' r' ⟨ed, q'⟩ => ?_⟩
  subst ed
  exact ⟨r', kk (.ref x) (.ref M1.m.length) M' H' ((e1.trans eAB).trans e') R' ((rep_last (u := .ins c []) R1).ev e') q'⟩
/-- o.f op= e of ints -/
theorem ds_augF {op : Operator} {g : Int → Int → Int} (hop : InOp X op fun x y H Q => ∃ i j, x = V.int i ∧ y = V.int j ∧ Q (.int (g i j)) H) (h : FldX X.K X.mg cs f) (ho : PEd X o to) (hv : PEd X value te) : PSd X (.AugAssign (.Attribute o f tpos) op value pos) (dAugF cs f (rI (fun _ _ => True) fun i j => .int (g i j)) to te) :=
  psI (ps_fldaug ho hv hop) fun D σ H ⟨ρ, M, De, S, R, q, k⟩ => ⟨ρ, M, _, _, S, R, q, k.xok S, fun v d M1 H1 e1 R1 r1 ⟨c, fs, y, hi, hc, hl, q1⟩ => by
    obtain ⟨j, a, C, dx, gs, ed, ha, ev, hm, hC, hH, hF⟩ := ins_at R1 r1 hi
    obtain ⟨C', hC', cl, no⟩ := h c hc
    rw [hC] at hC'; cases hC'
    obtain ⟨u, hu, ru⟩ := lookF_rep hF hl
    exact ⟨a, C, dx, gs, u, ev, hH, cl, no, hu, ρ, M1, _, _, S.ev e1, R1, q1, (k.xok S).later e1, fun w d2 M2 H2 e2 R2 r2 ⟨i, i2, ey, ey2, _, q2⟩ => by
      subst ey; subst ey2
      obtain ⟨j', fs', ed', hm', hl', q3⟩ := q2
      subst ed
      cases ed'
      obtain ⟨C2, dx2, gs2, hC2, hH2, hF2⟩ := R2.at_ _ _ _ (e2.pre _ _ ha) hm'
      rw [hC] at hC2; cases hC2
      exact ⟨i, i2, ru.ev e2, r2, dx2, gs2, hH2, by rw [← hF2.ln]; omega, set_end k S (e1.trans e2) R2 (e2.pre _ _ ha) hm' hC hH2 hF2 (y := .int (g i i2)) rfl q3⟩⟩⟩
theorem MethX.nil {P : Program} {w : World} {K : PySem.W.Frag} {mg : Str → Option Value} {base : Heap} : MethX P w K mg base k m [] := fun c sp e => nomatch e
theorem MethX.cons {P : Program} {w : World} {K : PySem.W.Frag} {mg : Str → Option Value} {base : Heap} {C fa : Addr} {fd : FuncData} {ps : List Str} (h1 : mg c = some (.ref C)) (h2 : Cls K C) (h3 : Meth K C m fa) (h4 : FnD P w K mg base k fa fd ps sp ∧ Binds K fd ps []) (r : MethX P w K mg base k m tbl) :
    MethX P w K mg base k m ((c, sp) :: tbl) := fun c' sp' e => by
  rw [List.lookup_cons] at e
  cases h : c' == c with
  | true =>
    rw [h] at e
    cases e
    rw [beq_iff_eq] at h
    subst h
    exact ⟨C, fa, fd, ps, h1, h2, h3, h4.1, h4.2⟩
  | false => rw [h] at e; exact r c' sp' e
theorem FldX.nil {K : PySem.W.Frag} {mg : Str → Option Value} : FldX K mg [] f := fun c h => nomatch h
theorem FldX.cons {K : PySem.W.Frag} {mg : Str → Option Value} {C : Addr} (h1 : mg c = some (.ref C)) (h2 : Cls K C) (h3 : NoAttr K C f) (r : FldX K mg cs f) : FldX K mg (c :: cs) f := fun c' h => by
  rcases List.mem_cons.mp h with e | h
  · subst e; exact ⟨C, h1, h2, h3⟩
  · exact r c' h
end
end DM

/-! DM: dicts, members, sums: readings and their evaluation. Plain Lean. -/
namespace DM
open PySem L2
def flatD : D → Bool
  | .non => true
  | .bl _ => true
  | .int _ => true
  | .str _ => true
  | _ => false
def eqD : D → D → Bool
  | .non, y => y.isN
  | .bl a, y => (match y with
    | .bl b => a == b
    | .int b => (if a then 1 else 0) == b
    | _ => false)
  | .int a, y => (match y with
    | .bl b => a == (if b then 1 else 0)
    | .int b => a == b
    | _ => false)
  | .str a, y => (match y with
    | .str b => a == b
    | _ => false)
  | _, _ => false
def memD (x : D) (l : List D) : Bool := l.any fun y => eqD y x
/-- x in y -/
def rIn : RD2 := fun x y M Q => (∃ l k, dicD M y = some l ∧ x.key = some k ∧ Q (.bl (lookD l k).isSome) M) ∨ ∃ l, seqD M y = some l ∧ flatD x = true ∧ l.all flatD = true ∧ Q (.bl (memD x l)) M
def rNotIn : RD2 := fun x y M Q => (∃ l k, dicD M y = some l ∧ x.key = some k ∧ Q (.bl (!(lookD l k).isSome)) M) ∨ ∃ l, seqD M y = some l ∧ flatD x = true ∧ l.all flatD = true ∧ Q (.bl (!memD x l)) M
/-- x.get(y, z) -/
def dGet2 (a b c : DE) : DE := fun ρ M E Q => a ρ M E fun x M1 => (∃ l, dicD M1 x = some l) ∧ b ρ M1 E fun y M2 => c ρ M2 E fun z M3 => ∃ l k, dicD M3 x = some l ∧ y.key = some k ∧ Q ((lookD l k).getD z) M3
def dGet1 (a b : DE) : DE := fun ρ M E Q => a ρ M E fun x M1 => (∃ l, dicD M1 x = some l) ∧ b ρ M1 E fun y M2 => ∃ l k, dicD M2 x = some l ∧ y.key = some k ∧ Q ((lookD l k).getD .non) M2
def dropD (l : List (Key × D)) (k : Key) : List (Key × D) := l.filter fun p => decide (p.1 ≠ k)
/-- x.pop(y), of what is there -/
def dPop1 (a b : DE) : DE := fun ρ M E Q => a ρ M E fun x M1 => (∃ l, dicD M1 x = some l) ∧ b ρ M1 E fun y M2 => ∃ p l k v, x = .ref p ∧ M2[p]? = some (some (.dic l)) ∧ y.key = some k ∧ lookD l k = some v ∧ Q v (M2.set p (some (.dic (dropD l k))))
/-- {} -/
def dDic0 (mk : MkR) : DE := fun _ M _ Q => mk M (.dic []) Q
def noTup (x : D) : Prop := ∀ l, x ≠ .tup l
/-- list(x) of a dict that is written to -/
def cListD (mk : MkR) : BD := fun ds M Q => as1 ds fun x => ∃ p l, x = .ref p ∧ M[p]? = some (some (.dic l)) ∧ mk M (.lst (l.map fun p => kD p.1)) Q
def cList2 (mk : MkR) : BD := fun ds M Q => cList mk ds M Q ∨ cListD mk ds M Q
/-- sorted(x) of a list of ints, of strings -/
def cSortI (mk : MkR) : BD := fun ds M Q => as1 ds fun x => ∃ ns : List Int, noTup x ∧ seqD M x = some (ns.map D.int) ∧ ns.length < 64 ∧ ∀ ns' : List Int, ns'.Perm ns → ns'.Pairwise (· ≤ ·) → mk M (.lst (ns'.map D.int)) Q
def cAll : BD := fun ds M Q => as1 ds fun x => ∃ bs : List Bool, noTup x ∧ seqD M x = some (bs.map D.bl) ∧ Q (.bl (bs.all id)) M
def cAny : BD := fun ds M Q => as1 ds fun x => ∃ bs : List Bool, noTup x ∧ seqD M x = some (bs.map D.bl) ∧ Q (.bl (bs.any id)) M
def cSum : BD := fun ds M Q => as1 ds fun x => ∃ ns : List Int, noTup x ∧ seqD M x = some (ns.map D.int) ∧ Q (.int ns.sum) M
def pairD (p : Key × D) : D := .tup [kD p.1, p.2]
def mergeD (l m : List (Key × D)) : List (Key × D) := m.foldl (fun acc p => putD acc p.1 p.2) l
/-- {k: v for ..}: the pairs as a comprehension gives them -/
def dPairE (tk tv : DE) : DE := fun ρ M E Q => tk ρ M E fun y M1 => tv ρ M1 E fun z M2 => ∃ k, y.key = some k ∧ Q (.tup [kD k, z]) M2
def dDC (mk : MkR) (w : DI) (g : Tg) (tt : DT) (tk tv : DE) (vs : List Nat) : DE := fun ρ M E Q => w ρ M E fun xs G M1 => xs.length < sizeLine ∧ compD G g tt (dPairE tk tv) (wipeD ρ vs) xs M1 fun acc M2 => ∃ kvs : List (Key × D), acc = kvs.map pairD ∧ mk M2 (.dic (mergeD [] kvs)) Q
/-- {k: v, ..} -/
def dPairs : List (DE × DE) → DSt → MH → XQ → (List (D × D) → MH → Prop) → Prop
  | [], _, M, _, Q => Q [] M
  | p :: r, ρ, M, E, Q => p.1 ρ M E fun x M1 => p.2 ρ M1 E fun y M2 => dPairs r ρ M2 E fun l M3 => Q ((x, y) :: l) M3
def dDisp (mk : MkR) (l : List (DE × DE)) : DE := fun ρ M E Q => dPairs l ρ M E fun ps M1 => ∃ kvs : List (Key × D), ps = kvs.map (fun p => (kD p.1, p.2)) ∧ kvs.length ≤ 15 ∧ mk M1 (.dic (mergeD [] kvs)) Q
/-! ### evaluation -/
section
variable {M : MH} {Q : DQ} {X : XQ} {ρ : DSt} {x y d : D} {l : List D} {n : Nat} {mk : MkR} {k : Key} {a b c : DE}
@[simp ↓] theorem dGet2_ : dGet2 a b c ρ M X Q ↔ a ρ M X (hold (fun x M1 => (∃ l, dicD M1 x = some l) ∧ b ρ M1 X (hold (fun y M2 => c ρ M2 X (hold (fun z M3 => ∃ l k, dicD M3 x = some l ∧ y.key = some k ∧ Q ((lookD l k).getD z) M3) ⟨⟩)) ⟨⟩)) ⟨⟩) := Iff.rfl
@[simp ↓] theorem dGet1_ : dGet1 a b ρ M X Q ↔ a ρ M X (hold (fun x M1 => (∃ l, dicD M1 x = some l) ∧ b ρ M1 X (hold (fun y M2 => ∃ l k, dicD M2 x = some l ∧ y.key = some k ∧ Q ((lookD l k).getD .non) M2) ⟨⟩)) ⟨⟩) := Iff.rfl
@[simp ↓] theorem dPop1_ : dPop1 a b ρ M X Q ↔ a ρ M X (hold (fun x M1 => (∃ l, dicD M1 x = some l) ∧ b ρ M1 X (hold (fun y M2 => ∃ p l k v, x = .ref p ∧ M2[p]? = some (some (.dic l)) ∧ y.key = some k ∧ lookD l k = some v ∧ Q v (M2.set p (some (.dic (dropD l k))))) ⟨⟩)) ⟨⟩) := Iff.rfl
@[simp ↓] theorem dDic0_ : dDic0 mk ρ M X Q ↔ mk M (.dic []) Q := Iff.rfl
@[simp] theorem key_int {i : Int} : D.key (.int i) = some (.inl i) := rfl
@[simp] theorem key_str {s : Str} : D.key (.str s) = some (.inr s) := rfl
@[simp] theorem dicD_dct {ks : List Key} : dicD M (.dct ks l) = some (ks.zip l) := rfl
@[simp] theorem dicD_cell {m : List (Key × D)} (h : M[n]? = some (some (.dic m))) : dicD M (.ref n) = some m := dicD_at h
@[simp] theorem dicD_lst {m : List D} (h : M[n]? = some (some (.lst m))) : dicD M (.ref n) = none := dicD_no h
@[simp] theorem seqD_dct {ks : List Key} : seqD M (.dct ks l) = none := rfl
@[simp] theorem seqD_lst {m : List D} (h : M[n]? = some (some (.lst m))) : seqD M (.ref n) = some m := seqD_at h
@[simp] theorem seqD_dic {m : List (Key × D)} (h : M[n]? = some (some (.dic m))) : seqD M (.ref n) = none := seqD_no h
@[simp] theorem rIn_tup : rIn x (.tup l) M Q ↔ flatD x = true ∧ l.all flatD = true ∧ Q (.bl (memD x l)) M := by simp [rIn]
@[simp] theorem rIn_lis : rIn x (.lis l) M Q ↔ flatD x = true ∧ l.all flatD = true ∧ Q (.bl (memD x l)) M := by simp [rIn]
@[simp] theorem rIn_dct {ks : List Key} : rIn x (.dct ks l) M Q ↔ ∃ k, x.key = some k ∧ Q (.bl (lookD (ks.zip l) k).isSome) M := by simp [rIn]
@[simp] theorem rIn_dic {m : List (Key × D)} (h : M[n]? = some (some (.dic m))) : rIn x (.ref n) M Q ↔ ∃ k, x.key = some k ∧ Q (.bl (lookD m k).isSome) M := by simp [rIn, h]
@[simp] theorem rIn_lst {m : List D} (h : M[n]? = some (some (.lst m))) : rIn x (.ref n) M Q ↔ flatD x = true ∧ m.all flatD = true ∧ Q (.bl (memD x m)) M := by simp [rIn, h]
@[simp] theorem rNotIn_tup : rNotIn x (.tup l) M Q ↔ flatD x = true ∧ l.all flatD = true ∧ Q (.bl (!memD x l)) M := by simp [rNotIn]
@[simp] theorem rNotIn_lis : rNotIn x (.lis l) M Q ↔ flatD x = true ∧ l.all flatD = true ∧ Q (.bl (!memD x l)) M := by simp [rNotIn]
@[simp] theorem rNotIn_dct {ks : List Key} : rNotIn x (.dct ks l) M Q ↔ ∃ k, x.key = some k ∧ Q (.bl (!(lookD (ks.zip l) k).isSome)) M := by simp [rNotIn]
@[simp] theorem rNotIn_dic {m : List (Key × D)} (h : M[n]? = some (some (.dic m))) : rNotIn x (.ref n) M Q ↔ ∃ k, x.key = some k ∧ Q (.bl (!(lookD m k).isSome)) M := by simp [rNotIn, h]
@[simp] theorem rNotIn_lst {m : List D} (h : M[n]? = some (some (.lst m))) : rNotIn x (.ref n) M Q ↔ flatD x = true ∧ m.all flatD = true ∧ Q (.bl (!memD x m)) M := by simp [rNotIn, h]
@[simp] theorem noTup_lis : noTup (.lis l) ↔ True := iff_true_intro fun _ e => nomatch e
@[simp] theorem noTup_ref : noTup (.ref n) ↔ True := iff_true_intro fun _ e => nomatch e
@[simp] theorem cSortI_ : cSortI mk [x] M Q ↔ ∃ ns : List Int, noTup x ∧ seqD M x = some (ns.map D.int) ∧ ns.length < 64 ∧ ∀ ns' : List Int, ns'.Perm ns → ns'.Pairwise (· ≤ ·) → mk M (.lst (ns'.map D.int)) Q := by simp [cSortI]
@[simp] theorem cList2_dic {m : List (Key × D)} (h : M[n]? = some (some (.dic m))) : cList2 mk [.ref n] M Q ↔ mk M (.lst (m.map fun p => kD p.1)) Q := by simp [cList2, cList, cListD, h]
@[simp] theorem cList2_lst {m : List D} (h : M[n]? = some (some (.lst m))) : cList2 mk [.ref n] M Q ↔ mk M (.lst m) Q := by simp [cList2, cList, cListD, h]
@[simp] theorem cList2_tup : cList2 mk [.tup l] M Q ↔ mk M (.lst l) Q := by simp [cList2, cList, cListD]
@[simp] theorem cList2_lis : cList2 mk [.lis l] M Q ↔ mk M (.lst l) Q := by simp [cList2, cList, cListD]
end
theorem bl_inj : ∀ {a b : List Bool}, a.map D.bl = b.map D.bl → a = b := fun h => (List.map_inj_right fun _ _ e => by cases e; rfl).mp h
theorem int_inj : ∀ {a b : List Int}, a.map D.int = b.map D.int → a = b := fun h => (List.map_inj_right fun _ _ e => by cases e; rfl).mp h
section
variable {M : MH} {Q : DQ} {bs : List Bool} {ns : List Int} {mk : MkR}
@[simp] theorem cAll_lis : cAll [.lis (bs.map D.bl)] M Q ↔ Q (.bl (bs.all id)) M := by
  simp only [cAll, as1_, noTup_lis, true_and, seqD_lis, Option.some.injEq]
  exact ⟨fun ⟨b, e, q⟩ => by rw [bl_inj e]; exact q, fun q => ⟨bs, rfl, q⟩⟩
@[simp] theorem cAny_lis : cAny [.lis (bs.map D.bl)] M Q ↔ Q (.bl (bs.any id)) M := by
  simp only [cAny, as1_, noTup_lis, true_and, seqD_lis, Option.some.injEq]
  exact ⟨fun ⟨b, e, q⟩ => by rw [bl_inj e]; exact q, fun q => ⟨bs, rfl, q⟩⟩
@[simp] theorem cSum_lis : cSum [.lis (ns.map D.int)] M Q ↔ Q (.int ns.sum) M := by
  simp only [cSum, as1_, noTup_lis, true_and, seqD_lis, Option.some.injEq]
  exact ⟨fun ⟨b, e, q⟩ => by rw [int_inj e]; exact q, fun q => ⟨ns, rfl, q⟩⟩
end
section
variable {M : MH} {Q : DQ} {α : Type} {l : List α} {p : α → Bool} {f : α → Int} {mk : MkR}
@[simp] theorem cAll_map : cAll [.lis (l.map fun x => D.bl (p x))] M Q ↔ Q (.bl (l.all p)) M := by
  have e : (l.map fun x => D.bl (p x)) = (l.map p).map D.bl := by simp
  rw [e, cAll_lis]; simp [List.all_map]
@[simp] theorem cAny_map : cAny [.lis (l.map fun x => D.bl (p x))] M Q ↔ Q (.bl (l.any p)) M := by
  have e : (l.map fun x => D.bl (p x)) = (l.map p).map D.bl := by simp
  rw [e, cAny_lis]; simp [List.any_map]
@[simp] theorem cSum_map : cSum [.lis (l.map fun x => D.int (f x))] M Q ↔ Q (.int (l.map f).sum) M := by
  have e : (l.map fun x => D.int (f x)) = (l.map f).map D.int := by simp
  rw [e, cSum_lis]
end
@[simp] theorem wipe_nil {ρ : DSt} : wipeD ρ [] = ρ := rfl
@[simp] theorem wipe_cons {ρ : DSt} {v : Nat} {vs : List Nat} : wipeD ρ (v :: vs) = (wipeD ρ vs).set v none := rfl
@[simp] theorem get_set1 {M : MH} {q : Nat} {x v : Option MO} (h : M[q]? = some x) : (M.set q v)[q]? = some v := List.getElem?_set_self (List.getElem?_eq_some_iff.mp h).1
@[simp] theorem get_set2 {M : MH} {q p : Nat} {v : Option MO} (h : q ≠ p) : (M.set q v)[p]? = M[p]? := List.getElem?_set_ne h
@[simp] theorem set_old {M l : MH} {q : Nat} {x v : Option MO} (h : M[q]? = some x) : (M ++ l).set q v = M.set q v ++ l := List.set_append_left q v (List.getElem?_eq_some_iff.mp h).1
theorem set_same {M : MH} {q : Nat} {x : Option MO} (h : M[q]? = some x) : M.set q x = M := by
  apply List.ext_getElem?
  intro i
  by_cases e : q = i
  · subst e; rw [List.getElem?_set_self (List.getElem?_eq_some_iff.mp h).1, h]
  · rw [List.getElem?_set_ne e]
/-! ### instances -/
def insQ (M : MH) (x : D) (R : Str → Fs → Prop) : Prop := ∃ c fs, insD M x = some (c, fs) ∧ R c fs
def tblQ (tbl : List (Str × SpD)) (c : Str) (R : SpD → Prop) : Prop := ∃ sp, tbl.lookup c = some sp ∧ R sp
def insO : Option (Option MO) → Option (Str × Fs)
  | some (some (.ins c fs)) => some (c, fs)
  | _ => none
@[simp] theorem ofS_inj {a b : String} : Str.ofString a = Str.ofString b ↔ a = b := by
  constructor
  · intro h
    rw [Str.ofString_eq_toList, Str.ofString_eq_toList] at h
    have h2 := congrArg (fun z : Str => z.cps.toList) h
    simp only at h2
    have h3 := (List.map_inj_right fun x y e => Char.ext (UInt32.toNat_inj.mp e)).mp h2
    exact String.toList_inj.mp h3
  · rintro rfl; rfl
section
variable {cs : List Str} {f c : Str} {e o : DE} {a : DA} {E : DEnds} {ρ : DSt} {M : MH} {Q : DQ} {X : XQ} {v : D} {k : Nat} {fs : Fs} {sp : SpD} {tbl : List (Str × SpD)} {m : Str} {r : RD2} {mk : MkR}
@[simp ↓] theorem dSetF_ : dSetF cs f e o E ρ M ↔ e ρ M (xAt E ρ) (hold (fun v M1 => o ρ M1 (xAt E ρ) (hold (fun x M2 => rSetF cs f x v M2 (hold (fun M3 => E.nx ρ M3) ⟨⟩)) ⟨⟩)) ⟨⟩) := Iff.rfl
@[simp ↓] theorem dAugF_ : dAugF cs f r o e E ρ M ↔ o ρ M (xAt E ρ) (hold (fun x M1 => ∃ c fs v, insD M1 x = some (c, fs) ∧ c ∈ cs ∧ lookF fs f = some v ∧ e ρ M1 (xAt E ρ) (hold (fun y M3 => r v y M3 (hold (fun z M4 => ∃ k fs', x = .ref k ∧ M4[k]? = some (some (.ins c fs')) ∧ fs'.length < 900 ∧ E.nx ρ (M4.set k (some (.ins c (putA f z fs'))))) ⟨⟩)) ⟨⟩)) ⟨⟩) := Iff.rfl
@[simp ↓] theorem dCallM_ : dCallM tbl m o a ρ M X Q ↔ o ρ M X (hold (fun x M1 => insQ M1 x (hold (fun c fs => lookF fs m = none ∧ tblQ tbl c (hold (fun sp => a ρ M1 X (hold (fun ds M2 => sp (x :: ds) M2 X Q) ⟨⟩)) ⟨⟩)) ⟨⟩)) ⟨⟩) := by
  have e : ∀ (x : D) (M1 : MH), (∃ c fs sp, insD M1 x = some (c, fs) ∧ tbl.lookup c = some sp ∧ lookF fs m = none ∧ a ρ M1 X fun ds M2 => sp (x :: ds) M2 X Q) ↔ insQ M1 x fun c fs => lookF fs m = none ∧ tblQ tbl c fun sp => a ρ M1 X fun ds M2 => sp (x :: ds) M2 X Q := fun x M1 =>
    ⟨fun ⟨c, fs, sp, h1, h2, h3, h4⟩ => ⟨c, fs, h1, h3, sp, h2, h4⟩, fun ⟨c, fs, h1, h3, sp, h2, h4⟩ => ⟨c, fs, sp, h1, h2, h3, h4⟩⟩
  show o ρ M X (fun x M1 => ∃ c fs sp, insD M1 x = some (c, fs) ∧ tbl.lookup c = some sp ∧ lookF fs m = none ∧ a ρ M1 X fun ds M2 => sp (x :: ds) M2 X Q) ↔ _
  simp only [e]
  exact Iff.rfl
@[simp ↓] theorem dNew_ : dNew c sp a ρ M X Q ↔ a ρ M X (hold (fun ds M1 => sp (.ref M1.length :: ds) (M1 ++ [some (.ins c [])]) X (hold (fun d M2 => d = .non ∧ Q (.ref M1.length) M2) ⟨⟩)) ⟨⟩) := Iff.rfl
@[simp ↓] theorem dDC_ {w : DI} {g : Tg} {tt : DT} {tk tv : DE} {vs : List Nat} : dDC mk w g tt tk tv vs ρ M X Q ↔ w ρ M X (hold (fun xs G M1 => xs.length < sizeLine ∧ compD G g tt (dPairE tk tv) (wipeD ρ vs) xs M1 (hold (fun acc M2 => ∃ kvs : List (Key × D), acc = kvs.map pairD ∧ mk M2 (.dic (mergeD [] kvs)) Q) ⟨⟩)) ⟨⟩) := Iff.rfl
@[simp ↓] theorem dPairE_ {tk tv : DE} : dPairE tk tv ρ M X Q ↔ tk ρ M X (hold (fun y M1 => tv ρ M1 X (hold (fun z M2 => ∃ k, y.key = some k ∧ Q (.tup [kD k, z]) M2) ⟨⟩)) ⟨⟩) := Iff.rfl
@[simp ↓] theorem dDisp_ {l : List (DE × DE)} : dDisp mk l ρ M X Q ↔ dPairs l ρ M X (hold (fun ps M1 => ∃ kvs : List (Key × D), ps = kvs.map (fun p => (kD p.1, p.2)) ∧ kvs.length ≤ 15 ∧ mk M1 (.dic (mergeD [] kvs)) Q) ⟨⟩) := Iff.rfl
@[simp ↓] theorem dPairs_nil {Z : List (D × D) → MH → Prop} : dPairs [] ρ M X Z ↔ Z [] M := Iff.rfl
@[simp ↓] theorem dPairs_cons {p : DE × DE} {l : List (DE × DE)} {Z : List (D × D) → MH → Prop} : dPairs (p :: l) ρ M X Z ↔ p.1 ρ M X (hold (fun x M1 => p.2 ρ M1 X (hold (fun y M2 => dPairs l ρ M2 X (hold (fun l M3 => Z ((x, y) :: l) M3) ⟨⟩)) ⟨⟩)) ⟨⟩) := Iff.rfl
@[simp] theorem insO_ins : insO (some (some (.ins c fs))) = some (c, fs) := rfl
@[simp] theorem insD_ref : insD M (.ref k) = insO M[k]? := by
  unfold insD insO
  rfl
@[simp] theorem insQ_at {p : Str × Fs} {R : Str → Fs → Prop} (h : insO M[k]? = some p) : insQ M (.ref k) R ↔ R p.1 p.2 := by
  unfold insQ
  rw [insD_ref, h]
  exact ⟨fun ⟨_, _, e, q⟩ => by cases e; exact q, fun q => ⟨p.1, p.2, rfl, q⟩⟩
@[simp] theorem tblQ_cons {R : SpD → Prop} {c' : Str} : tblQ ((c', sp) :: tbl) c R ↔ if c = c' then R sp else tblQ tbl c R := by
  unfold tblQ
  rw [List.lookup_cons]
  by_cases h : c = c'
  · subst h; simp
  · rw [show (c == c') = false from by simpa using h, if_neg h]
@[simp] theorem rAttr_at {p : Str × Fs} (h : insO M[k]? = some p) : rAttr cs f (.ref k) M Q ↔ p.1 ∈ cs ∧ ∃ d, lookF p.2 f = some d ∧ Q d M := by
  unfold rAttr
  rw [insD_ref, h]
  exact ⟨fun ⟨_, _, d, e, hc, hl, q⟩ => by cases e; exact ⟨hc, d, hl, q⟩, fun ⟨hc, d, hl, q⟩ => ⟨p.1, p.2, d, rfl, hc, hl, q⟩⟩
@[simp] theorem rSetF_at {P : MH → Prop} {p : Str × Fs} (h : insO M[k]? = some p) : rSetF cs f (.ref k) v M P ↔ p.1 ∈ cs ∧ p.2.length < 900 ∧ P (M.set k (some (.ins p.1 (putA f v p.2)))) := by
  unfold rSetF
  constructor
  · rintro ⟨_, _, _, e, hm, hc, hl, q⟩
    cases e
    rw [hm] at h
    cases h
    exact ⟨hc, hl, q⟩
  · rintro ⟨hc, hl, q⟩
    refine ⟨k, p.1, p.2, rfl, ?_, hc, hl, q⟩
    unfold insO at h
    split at h
    · rename_i e; cases h; exact e
    · cases h
@[simp] theorem lookF_nil : lookF [] f = none := rfl
@[simp] theorem lookF_cons {g : Str} : lookF ((g, v) :: fs) f = if f = g then some v else lookF fs f := by
  unfold lookF
  rw [List.lookup_cons]
  by_cases h : f = g
  · simp [h]
  · rw [show (f == g) = false from by simpa using h, if_neg h]
@[simp] theorem putA_nil : putA f v [] = [(f, v)] := rfl
@[simp] theorem putA_cons {p : Str × D} : putA f v (p :: fs) = if p.1 = f then (p.1, v) :: fs else p :: putA f v fs := rfl
end
end DM

/-! DM: dicts, members, sums: rules. -/
namespace DM
open PySem PySem.Spec L2
section
variable {X : Cx}
theorem op_inDic (hu : X.A.units + 1 < cLine) : OpR X (compareOp .In) (fun x y H Q => ∃ a o, y = V.ref a ∧ DGet H a x o ∧ Q (.bl o.isSome) H) := by
  intro pins s σ H x y v u Q I rx ry h
  obtain ⟨a, o, rfl, g, q⟩ := h
  obtain rfl : u = Value.ref a := ry
  exact d_in hu I g rx fun s3 I3 => ⟨.bl o.isSome, H, I3, rfl, q⟩
theorem op_notinDic (hu : X.A.units + 1 < cLine) : OpR X (compareOp .NotIn) (fun x y H Q => ∃ a o, y = V.ref a ∧ DGet H a x o ∧ Q (.bl (!o.isSome)) H) := by
  intro pins s σ H x y v u Q I rx ry h
  obtain ⟨a, o, rfl, g, q⟩ := h
  obtain rfl : u = Value.ref a := ry
  exact d_notIn hu I g rx fun s3 I3 => ⟨.bl (!o.isSome), H, I3, rfl, q⟩
theorem dget_of {K : PySem.W.Frag} {mg : Str → Option Value} {M : MB} {H : Hp} {x y : D} {v w : V} {l : List (Key × D)} {k : Key} (R : MR K mg M H) (rx : Rep K M H x v) (ry : Rep K M H y w) (h : dicD M.m x = some l) (e : y.key = some k) :
    ∃ a o, v = .ref a ∧ DGet H a w o ∧ o.isSome = (lookD l k).isSome ∧ ∀ z u, Rep K M H z u → Rep K M H ((lookD l k).getD z) (o.getD u) := by
  obtain ⟨a, ks, ev, hr, kv⟩ := dic_rd R rx h
  have ew := key_rep e ry
  refine ⟨a, valV ks k, ev, .inl ⟨ks, k, hr, ew, rfl⟩, ?_⟩
  cases hl : lookD l k with
  | none =>
    have := (RepKV.val (k := k) kv).2 hl
    rw [this]
    exact ⟨rfl, fun z u r => r⟩
  | some d =>
    obtain ⟨u, hu, ru⟩ := (RepKV.val (k := k) kv).1 d hl
    rw [hu]
    exact ⟨rfl, fun z u r => ru⟩
theorem flat_rep {K : PySem.W.Frag} {M : MB} {H : Hp} {x : D} {v : V} (r : Rep K M H x v) (f : flatD x = true) : flatV v = true ∧ ∀ y w, Rep K M H y w → flatD y = true → eqV w v = eqD y x := by
  cases x with
  | non => cases r; exact ⟨rfl, fun y w ry fy => by cases y <;> first | (cases ry; rfl) | cases fy⟩
  | bl b => cases r; exact ⟨rfl, fun y w ry fy => by cases y <;> first | (cases ry; rfl) | cases fy⟩
  | int i => cases r; exact ⟨rfl, fun y w ry fy => by cases y <;> first | (cases ry; rfl) | cases fy⟩
  | str s => cases r; exact ⟨rfl, fun y w ry fy => by cases y <;> first | (cases ry; rfl) | cases fy⟩
  | _ => cases f
theorem mem_rep {K : PySem.W.Frag} {M : MB} {H : Hp} {x : D} {v : V} (r : Rep K M H x v) (f : flatD x = true) : ∀ {l : List D} {vs : List V}, Reps K M H l vs → l.all flatD = true → vs.all flatV = true ∧ inV v vs = memD x l
  | [], _, h, _ => by cases h; exact ⟨rfl, rfl⟩
  | y :: l, _, ⟨w, ws, e, h1, h2⟩, a => by
    subst e
    rw [List.all_cons, Bool.and_eq_true] at a
    obtain ⟨i1, i2⟩ := mem_rep r f h2 a.2
    unfold inV memD at i2 ⊢
    rw [List.all_cons, List.any_cons, List.any_cons, (flat_rep h1 a.1).1, i1, i2, (flat_rep r f).2 y w h1 a.1]
    exact ⟨rfl, rfl⟩
theorem od_in (hu : X.A.units + 1 < cLine) : OpD X (compareOp .In) rIn := by
  refine OpD.or (r := fun x y M Q => ∃ l k, dicD M y = some l ∧ x.key = some k ∧ Q (.bl (lookD l k).isSome) M) ⟨_, op_inDic hu, ?_⟩ ⟨_, op_in_seq, ?_⟩
  · intro x y v w M H Qd Q R rx ry ⟨l, k, h, e, q⟩ kk
    obtain ⟨a, o, ev, g, es, _⟩ := dget_of R ry rx h e
    exact ⟨a, o, ev, g, kk _ (.bl (lookD l k).isSome) M H .refl R (by rw [es]; rfl) q⟩
  · intro x y v w M H Qd Q R rx ry ⟨l, h, f, a, q⟩ kk
    obtain ⟨p, vs, ev, rs, hs⟩ := sq_of R ry h
    obtain ⟨i1, i2⟩ := mem_rep rx f rs a
    exact ⟨p, vs, ev, hs.symm.imp (·.2.l) (·.2), (flat_rep rx f).1, i1, kk _ (.bl (memD x l)) M H .refl R (by rw [i2]; rfl) q⟩
theorem od_notin (hu : X.A.units + 1 < cLine) : OpD X (compareOp .NotIn) rNotIn := by
  refine OpD.or (r := fun x y M Q => ∃ l k, dicD M y = some l ∧ x.key = some k ∧ Q (.bl (!(lookD l k).isSome)) M) ⟨_, op_notinDic hu, ?_⟩ ⟨_, op_notIn_seq, ?_⟩
  · intro x y v w M H Qd Q R rx ry ⟨l, k, h, e, q⟩ kk
    obtain ⟨a, o, ev, g, es, _⟩ := dget_of R ry rx h e
    exact ⟨a, o, ev, g, kk _ (.bl (!(lookD l k).isSome)) M H .refl R (by rw [es]; rfl) q⟩
  · intro x y v w M H Qd Q R rx ry ⟨l, h, f, a, q⟩ kk
    obtain ⟨p, vs, ev, rs, hs⟩ := sq_of R ry h
    obtain ⟨i1, i2⟩ := mem_rep rx f rs a
    exact ⟨p, vs, ev, hs.symm.imp (·.2.l) (·.2), (flat_rep rx f).1, i1, kk _ (.bl (!memD x l)) M H .refl R (by rw [i2]; rfl) q⟩
end
section
variable {X : Cx} {o e f : Expr} {apos cpos pos : Pos} {to te tf : DE} {mk : MkR}
theorem isd_of {K : PySem.W.Frag} {mg : Str → Option Value} {M : MB} {H : Hp} {x : D} {v : V} (R : MR K mg M H) (rx : Rep K M H x v) (h : ∃ l, dicD M.m x = some l) : ∃ a, v = .ref a ∧ IsD H a := by
  obtain ⟨l, h⟩ := h
  obtain ⟨a, ks, ev, hr, kv⟩ := dic_rd R rx h
  exact ⟨a, ev, .inl ⟨ks, hr⟩⟩
theorem de_get2 (hu : X.A.units + 1 < cLine) (ho : PEd X o to) (he : PEd X e te) (hf : PEd X f tf) (m : M2 X o "get" apos e f cpos := by exact ⟨rfl, rfl, rfl, rfl⟩) : PEd X (.Call (.Attribute o "get" apos) [e, f] [] cpos) (dGet2 to te tf) :=
  peI (pe_dget2 hu ho he hf m) fun σ H Q ⟨ρ, M, E, Qd, S, R, q, xo, k⟩ => ⟨ρ, M, E, _, S, R, q, xo, fun v d M1 H1 e1 R1 r1 ⟨hd, q1⟩ => by
    obtain ⟨a, ev, isd⟩ := isd_of R1 r1 hd
    exact ⟨a, ev, isd, ρ, M1, E, _, S.ev e1, R1, q1, xo.later e1, fun w d2 M2 H2 e2 R2 r2 q2 => ⟨ρ, M2, E, _, S.ev (e1.trans e2), R2, q2, xo.later (e1.trans e2), fun z d3 M3 H3 e3 R3 r3 ⟨l, kk, hl, hk, q3⟩ => by
      obtain ⟨a', o, ev', g, es, fin⟩ := dget_of R3 ((r1.ev e2).ev e3) (r2.ev e3) hl hk
      rw [ev] at ev'; cases ev'
      exact ⟨o, g, k _ _ M3 H3 ((e1.trans e2).trans e3) R3 (fin d3 z r3) q3⟩⟩⟩⟩
theorem de_get1 (hu : X.A.units + 1 < cLine) (ho : PEd X o to) (he : PEd X e te) (m : M1 X o "get" apos e cpos := by exact ⟨rfl, rfl, rfl, rfl⟩) : PEd X (.Call (.Attribute o "get" apos) [e] [] cpos) (dGet1 to te) :=
  peI (pe_dget1 hu ho he m) fun σ H Q ⟨ρ, M, E, Qd, S, R, q, xo, k⟩ => ⟨ρ, M, E, _, S, R, q, xo, fun v d M1 H1 e1 R1 r1 ⟨hd, q1⟩ => by
    obtain ⟨a, ev, isd⟩ := isd_of R1 r1 hd
    exact ⟨a, ev, isd, ρ, M1, E, _, S.ev e1, R1, q1, xo.later e1, fun w d2 M2 H2 e2 R2 r2 ⟨l, kk, hl, hk, q2⟩ => by
      obtain ⟨a', o, ev', g, es, fin⟩ := dget_of R2 (r1.ev e2) r2 hl hk
      rw [ev] at ev'; cases ev'
      exact ⟨o, g, k _ _ M2 H2 (e1.trans e2) R2 (fin .non .non rfl) q2⟩⟩⟩
theorem RepKV.drop {K : PySem.W.Frag} {M : MB} {H : Hp} {k : Key} : ∀ {l : List (Key × D)} {ks : List (Key × V)}, RepKV K M H l ks → RepKV K M H (dropD l k) (dropK ks k)
  | [], _, h => by cases h; rfl
  | (j, d) :: l, _, ⟨v, r, e, h1, h2⟩ => by
    subst e
    have ih := RepKV.drop (k := k) h2
    unfold dropD dropK at ih ⊢
    by_cases hj : j = k
    · simp [hj] at ih ⊢; exact ih
    · simp [hj] at ih ⊢; exact ⟨v, _, rfl, h1, ih⟩
theorem de_pop1 (ho : PEd X o to) (he : PEd X e te) (m : M1 X o "pop" apos e cpos := by exact ⟨rfl, rfl, rfl, rfl⟩) : PEd X (.Call (.Attribute o "pop" apos) [e] [] cpos) (dPop1 to te) :=
  peI (pe_dpop1 ho he m) fun σ H Q ⟨ρ, M, E, Qd, S, R, q, xo, k⟩ => ⟨ρ, M, E, _, S, R, q, xo, fun v d M1 H1 e1 R1 r1 ⟨hd, q1⟩ => by
    obtain ⟨a, ev, isd⟩ := isd_of R1 r1 hd
    exact ⟨a, ev, isd, ρ, M1, E, _, S.ev e1, R1, q1, xo.later e1, fun w d2 M2 H2 e2 R2 r2 ⟨p, l, kk, y, ed, hm, hk, hl, q2⟩ => by
      subst ed
      obtain ⟨a', ha, ev'⟩ := r1.ev e2
      rw [ev] at ev'; cases ev'
      obtain ⟨ks, h1, h2⟩ := R2.at_ _ _ _ ha hm
      obtain ⟨u, hu, ru⟩ := (RepKV.val (k := kk) h2).1 y hl
      have E := Ev.put (M := M2) (H := H2) (k := p) (v := some (.dic (dropD l kk))) (u := .dK (dropK ks kk)) ha h1 trivial
      exact ⟨ks, kk, u, h1, key_rep hk r2, hu, k u y (M2.put p (some (.dic (dropD l kk)))) _ ((e1.trans e2).trans E) (R2.put ha h1 trivial ⟨_, upd_same, h2.drop.ev E⟩) (ru.ev E) q2⟩⟩⟩
theorem de_dic0 (hm : MkOk mk) : PEd X (.Dict [] [] pos) (dDic0 mk) := peI (pe_frz pe_dnewK) fun σ H Q ⟨ρ, M, E, Qd, S, R, q, xo, k⟩ => fun p n =>
  hm.new R n trivial (o := .dic []) ⟨[], upd_same, rfl⟩ q fun v d M' H' e' R' r' q' => k v d M' H' e' R' r' q'
theorem keys_rep {K : PySem.W.Frag} {M : MB} {H : Hp} : ∀ {l : List (Key × D)} {ks : List (Key × V)}, RepKV K M H l ks → Reps K M H (l.map fun p => kD p.1) (ks.map fun p => kV p.1)
  | [], _, h => by cases h; rfl
  | (j, d) :: l, _, ⟨v, r, e, h1, h2⟩ => by
    subst e
    refine ⟨kV j, _, rfl, ?_, keys_rep h2⟩
    cases j <;> rfl
theorem cd_listD (hc : X.calm = true) (hm : MkOk mk) : CallZ X (.type "list") (cListD mk) := ⟨_, call_list_dK hc, fun ds vs M H Qd Q R rs ⟨x, e, p, l, ex, hp, q⟩ k => by
  subst e; subst ex
  obtain ⟨v, ev, a, ha, ea⟩ := rs.one'
  subst ev; subst ea
  obtain ⟨ks, h1, h2⟩ := R.at_ _ _ _ ha hp
  exact ⟨a, ks, rfl, h1, fun b n => hm.new R n trivial (o := .lst (l.map fun p => kD p.1)) ⟨_, upd_same, (keys_rep h2).ev (Ev.new (M := M) n)⟩ q k⟩⟩
theorem CallZ.or {f : Value} {r1 r2 : BD} (h1 : CallZ X f r1) (h2 : CallZ X f r2) : CallZ X f (fun ds M Q => r1 ds M Q ∨ r2 ds M Q) := by
  obtain ⟨s1, a1, b1⟩ := h1
  obtain ⟨s2, a2, b2⟩ := h2
  refine ⟨fun vs H Q => s1 vs H Q ∨ s2 vs H Q, fun pins s σ H vs us Q I r h => ?_, fun ds vs M H Qd Q R rs q k => ?_⟩
  · rcases h with h | h
    · exact a1 pins s σ H vs us Q I r h
    · exact a2 pins s σ H vs us Q I r h
  · rcases q with q | q
    · exact .inl (b1 ds vs M H Qd Q R rs q k)
    · exact .inr (b2 ds vs M H Qd Q R rs q k)
theorem cd_list2 (hc : X.calm = true) (hm : MkOk mk) : CallZ X (.type "list") (cList2 mk) := CallZ.or (cd_list hm) (cd_listD hc hm)
theorem reps_int {K : PySem.W.Frag} {M : MB} {H : Hp} : ∀ {ns : List Int} {vs : List V}, Reps K M H (ns.map D.int) vs → vs = ns.map V.int
  | [], _, h => by cases h; rfl
  | n :: ns, _, ⟨v, r, e, h1, h2⟩ => by subst e; cases h1; rw [reps_int h2]; rfl
theorem reps_bl {K : PySem.W.Frag} {M : MB} {H : Hp} : ∀ {ns : List Bool} {vs : List V}, Reps K M H (ns.map D.bl) vs → vs = ns.map V.bl
  | [], _, h => by cases h; rfl
  | n :: ns, _, ⟨v, r, e, h1, h2⟩ => by subst e; cases h1; rw [reps_bl h2]; rfl
theorem reps_of_int {K : PySem.W.Frag} {M : MB} {H : Hp} : ∀ ns : List Int, Reps K M H (ns.map D.int) (ns.map V.int)
  | [] => rfl
  | n :: ns => ⟨_, _, rfl, rfl, reps_of_int ns⟩
theorem cd_sortI (hm : MkOk mk) : CallZ X (.builtin "sorted") (cSortI mk) := ⟨_, cr_sorted, fun ds vs M H Qd Q R rs ⟨x, e, ns, nt, h, h64, q⟩ k => by
  subst e
  obtain ⟨v, ev, rv⟩ := rs.one'
  subst ev
  obtain ⟨p, us, ep, ru, hs⟩ := sq_of R rv h
  subst ep
  have := reps_int ru
  subst this
  rcases hs with ⟨et, _⟩ | ⟨_, hs⟩
  · exact (nt _ et).elim
  · exact ⟨p, ns, rfl, hs.l, h64, fun ns' a pm pw n => hm.new R n trivial (o := .lst (ns'.map D.int)) ⟨_, upd_same, reps_of_int ns'⟩ (q ns' pm pw) k⟩⟩
theorem cd_all (hc : X.calm = true) : CallD X (.builtin "all") cAll := ⟨_, cr_all hc, fun ds vs M H Qd Q R rs ⟨x, e, bs, nt, h, q⟩ k => by
  subst e
  obtain ⟨v, ev, rv⟩ := rs.one'
  subst ev
  obtain ⟨p, us, ep, ru, hs⟩ := sq_of R rv h
  subst ep
  have := reps_bl ru
  subst this
  rcases hs with ⟨et, _⟩ | ⟨_, hs⟩
  · exact (nt _ et).elim
  · exact ⟨p, bs, rfl, hs.l, k _ (.bl (bs.all id)) M H .refl R rfl q⟩⟩
theorem cd_any (hc : X.calm = true) : CallD X (.builtin "any") cAny := ⟨_, cr_any hc, fun ds vs M H Qd Q R rs ⟨x, e, bs, nt, h, q⟩ k => by
  subst e
  obtain ⟨v, ev, rv⟩ := rs.one'
  subst ev
  obtain ⟨p, us, ep, ru, hs⟩ := sq_of R rv h
  subst ep
  have := reps_bl ru
  subst this
  rcases hs with ⟨et, _⟩ | ⟨_, hs⟩
  · exact (nt _ et).elim
  · exact ⟨p, bs, rfl, hs.l, k _ (.bl (bs.any id)) M H .refl R rfl q⟩⟩
theorem cd_sum (hc : X.calm = true) : CallD X (.builtin "sum") cSum := ⟨_, cr_sum hc, fun ds vs M H Qd Q R rs ⟨x, e, ns, nt, h, q⟩ k => by
  subst e
  obtain ⟨v, ev, rv⟩ := rs.one'
  subst ev
  obtain ⟨p, us, ep, ru, hs⟩ := sq_of R rv h
  subst ep
  have := reps_int ru
  subst this
  rcases hs with ⟨et, _⟩ | ⟨_, hs⟩
  · exact (nt _ et).elim
  · exact ⟨p, ns, rfl, hs.l, k _ (.int ns.sum) M H .refl R rfl q⟩⟩
theorem de_callZ {x : Str} {p pos : Pos} {e : Expr} {es : List Expr} {t : DA} {id : String} {r : BD} (hc : CallZ X (.builtin id) r) (hm : X.mg x = none) (ha : PAd X (e :: es) t) (hv : bootBuiltins x = some (.builtin id) := by decide +kernel) (hg : Gl X x := by rfl)
    (hn : x ≠ "__name__" := by decide) (hdb : (x == ("__debug__" : Str)) = false := by decide) (he : starEach (e :: es) X.env = (false, eval e X.env) :: starEach es X.env := by rfl) (hpl : (backTo pos (starEach es X.env)).any (·.1) = false := by rfl) :
    PEd X (.Call (.Name x p) (e :: es) [] pos) (dCallB r t) := by
  obtain ⟨r', h1, h2⟩ := hc
  exact peI (pe_frz (pe_callB h1 hg hm hv ha hn hdb he hpl)) fun σ H Q ⟨ρ, M, E, Qd, S, R, q, xo, k⟩ => ⟨ρ, M, E, _, S, R, q, xo, fun vs ds M1 H1 e1 R1 r1 q1 => h2 ds vs M1 H1 Qd Q R1 r1 q1 fun z d M' H' e' R' r' q' => k z d M' H' (e1.trans e') R' r' q'⟩
end
section
variable {K : PySem.W.Frag} {M M' : MB} {H H' : Hp}
theorem kv_vals : ∀ {l : List (Key × D)} {ks : List (Key × V)}, RepKV K M H l ks → Reps K M H (l.map (·.2)) (ks.map (·.2)) ∧ ks.map (·.1) = l.map (·.1)
  | [], _, h => by cases h; exact ⟨rfl, rfl⟩
  | (j, d) :: l, _, ⟨v, r, e, h1, h2⟩ => by
    subst e
    obtain ⟨a, b⟩ := kv_vals h2
    exact ⟨⟨v, _, rfl, h1, a⟩, by simp [b]⟩
theorem kv_of : ∀ {l : List (Key × D)} {ks : List (Key × V)}, Reps K M H (l.map (·.2)) (ks.map (·.2)) → ks.map (·.1) = l.map (·.1) → RepKV K M H l ks
  | [], ks, h, e => by cases ks with
    | nil => rfl
    | cons x r => cases e
  | (j, d) :: l, ks, h, e => by
    cases ks with
    | nil => cases e
    | cons x r =>
      obtain ⟨v, ws, e1, h1, h2⟩ := h
      simp at e1 e
      obtain ⟨e1, e2⟩ := e1
      exact ⟨v, r, by rw [← e1, ← e.1], h1, kv_of (by rw [e2]; exact h2) e.2⟩
theorem merge_app {l m : List (Key × D)} {p : Key × D} : mergeD l (m ++ [p]) = putD (mergeD l m) p.1 p.2 := by simp [mergeD]
theorem put_len {l : List (Key × D)} {k : Key} {d : D} : (putD l k d).length ≤ l.length + 1 := by
  unfold putD
  split <;> simp
theorem merge_len : ∀ {m l : List (Key × D)}, (mergeD l m).length ≤ l.length + m.length
  | [], l => by simp [mergeD]
  | p :: m, l => by
    have h1 := merge_len (m := m) (l := putD l p.1 p.2)
    have h2 := put_len (l := l) (k := p.1) (d := p.2)
    simp [mergeD] at h1 ⊢
    omega
end
theorem bels_put {n : Nat} {k : Key} {z : D} (hz : z.bel n = true) : ∀ {l : List (Key × D)}, D.bels n (l.map (·.2)) = true → D.bels n ((putD l k z).map (·.2)) = true := fun {l} h => by
  have h1 : ∀ {l : List (Key × D)}, D.bels n (l.map (·.2)) = true → D.bels n ((l.map fun p => if p.1 = k then (p.1, z) else p).map (·.2)) = true ∧ D.bels n ((l ++ [(k, z)]).map (·.2)) = true := by
    intro l
    induction l with
    | nil => intro _; exact ⟨rfl, by simp [D.bels, hz]⟩
    | cons x l ih =>
      intro h
      simp only [List.map_cons, D.bels, Bool.and_eq_true, List.cons_append] at h ⊢
      obtain ⟨i1, i2⟩ := ih h.2
      refine ⟨⟨?_, i1⟩, h.1, i2⟩
      by_cases e : x.1 = k
      · simp [e, hz]
      · simp [e, h.1]
  unfold putD
  split
  · exact (h1 h).1
  · exact (h1 h).2
theorem lift_dc {X : Cx} {mk : MkR} (hmk : MkOk mk) {wi : TI} {ti : DI} {g : Tg} {tt : DT} {tk tv : DE} {vs : List Nat} (hg : ∀ i ∈ g.slots, i ∈ vs)
    (h2 : ∀ (σ : L2.St) (H : Hp) (R : It → Hp → Prop) (ρ : DSt) (M : MB) (E : XQ) (Rd : List D → (MH → Prop) → MH → Prop), Slots X.K M H ρ σ → MR X.K X.mg M H → ti ρ M.m E Rd → XOk X M σ H E → (∀ J xs G M' H', Ev M H M' H' → MR X.K X.mg M' H' → Snd X.K X.mg M' H' J xs G → Rd xs G M'.m → R J H') → wi σ H R)
    (σ : L2.St) (H : Hp) (Q : VK) : LE X (dDC mk ti g tt tk tv vs) σ H Q → tDc wi (LG X.K g) (LT0 X.K X.mg tt) (LE0 X.K X.mg tk) (LE0 X.K X.mg tv) vs σ H (frzQ Q) := fun ⟨ρ, M, E, Qd, S, R, q, xo, k⟩ => by
  refine h2 σ H _ ρ M E _ S R q xo fun J xs G M1 H1 e1 R1 sn ⟨hz, g1, Rl, it, il⟩ => fun D nD => ?_
  have mD : D ∉ M1.i := R1.mem nD
  let W : Nat → Nat → Hp → Prop := fun i m H' => ∃ (M' : MB) (ys : List (Option DM.D)) (kds : List (Key × DM.D)) (av : List (Key × V)), m = xs.length - i ∧ i ≤ xs.length ∧ ys.length = i ∧ Ev M1 H1 M' H' ∧ MR X.K X.mg M' H' ∧ D ∉ M'.i ∧ H' D = some (.dK av) ∧ ys.filterMap id = kds.map pairD ∧ RepKV X.K M' H' (mergeD [] kds) av ∧ M'.m = M1.m ∧ ∀ (k : Nat) x y, xs[k]? = some x → ys[k]? = some y → Rl k x y
  refine ⟨W, ⟨_, M1, [], [], [], rfl, Nat.zero_le _, rfl, .new nD, R1.new nD, mD, upd_same, rfl, rfl, rfl, fun k x y _ h => by simp at h⟩, ?_⟩
  rintro i m H2 ⟨M2, ys, kds, av, rfl, hi, hl, E12, R2, n2, hD, ek, ra, em, q2⟩
  have g2 : G M2.m := by rw [em]; exact g1
  by_cases hlt : i < xs.length
  · have ex : xs[i]? = some xs[i] := List.getElem?_eq_getElem hlt
    have q3 := it i _ ex
    rw [← em] at q3
    have add : ∀ y, Rl i xs[i] y → ∀ (k : Nat) x z, xs[k]? = some x → (ys ++ [y])[k]? = some z → Rl k x z := fun y hy k x z hx hz => by
      by_cases hk : k < i
      · rw [List.getElem?_append_left (by omega)] at hz; exact q2 k x z hx hz
      · have : k = i := by
          have := (List.getElem?_eq_some_iff.mp hz).1
          simp at this; omega
        subst this
        rw [List.getElem?_append_right (by omega), hl] at hz
        simp at hz; subst hz
        rw [ex] at hx; cases hx
        exact hy
    refine .inr ⟨sn.go i _ M2 H2 E12.sq R2 g2 ex, fun H' => W (i + 1) (xs.length - (i + 1)) H', fun H' w => ⟨_, by omega, w⟩, fun x H3 y => ?_⟩
    obtain ⟨e3, R3, r3⟩ := sn.yld i _ M2 H2 x H3 E12.sq R2 g2 ex y
    refine LG_wipe vs g hg r3 ((wipe_eq S vs).ev (e1.trans (E12.trans e3))) q3 fun ρ4 σ4 S4 w4 q4 => ⟨by rw [w4, wipe_wipe], ρ4, M2, _, S4, R3, q4, fun b M5 H5 e5 R5 q5 => ?_⟩
    have E35 := e3.trans e5
    have n5 : D ∉ M5.i := fun z => by have := E35.dom D z n2; rw [hD] at this; cases this
    have hD5 := E35.frame D _ hD n2
    have lenM : M2.m.length = M1.m.length := by rw [em]
    have bA : DM.D.bels M1.m.length ((mergeD [] kds).map (·.2)) = true := by rw [← lenM, R2.len]; exact ra.is_bel
    cases b with
    | false =>
      obtain ⟨bk, hr⟩ := q5
      have w : WkL M1.m.length (fun _ m => m = M1.m) ((mergeD [] kds).map (·.2)) M5.m := by
        rw [em] at bk
        rcases bk with bk | ⟨L, bk, hb⟩
        · exact .of bk
        · exact ⟨M1.m, ⟨by rw [bk]; exact lessP_of (by simp), .inr ⟨Nat.le_refl _, by rw [bk]; simp, hb⟩⟩, .inr bA, rfl⟩
      have ra5 := ra.ev E35
      obtain ⟨M6, e6, ra6, R6, q6, hM6⟩ := wkL_ok R1 (E12.trans E35) (kv_vals ra5).1 R5 w
      exact ⟨M6, ys ++ [none], kds, av, rfl, hlt, by simp [hl], e6, R6, fun z => n5 (hM6 D z), hD5, by simpa using ek, kv_of ra6 (kv_vals ra5).2, q6, add none hr⟩
    | true =>
      refine ⟨ρ4, M5, _, S4.ev e5, R5, q5, fun y dy M6 H6 e6 R6 r6 q6 => ⟨ρ4, M6, _, S4.ev (e5.trans e6), R6, q6, fun v d M7 H7 e7 R7 r7 ⟨kk, hkk, bk, hr⟩ => ?_⟩⟩
      have E37 := (E35.trans e6).trans e7
      have n7 : D ∉ M7.i := fun z => by have := E37.dom D z n2; rw [hD] at this; cases this
      have hD7 := E37.frame D _ hD n2
      have ra7 := (ra.ev E37).put (k := kk) r7
      rw [← merge_app (p := (kk, d))] at ra7
      have w : WkL M1.m.length (fun _ m => m = M1.m) ((mergeD [] (kds ++ [(kk, d)])).map (·.2)) M7.m := by
        rw [em] at bk
        rcases bk with bk | ⟨⟨L, bk, hb⟩, hd⟩
        · exact .of bk
        · refine ⟨M1.m, ⟨by rw [bk]; exact lessP_of (by simp), .inr ⟨Nat.le_refl _, by rw [bk]; simp, hb⟩⟩, .inr ?_, rfl⟩
          rw [merge_app]
          refine bels_put ?_ bA
          simp [DM.D.bel, DM.D.bels] at hd
          exact hd.2
      obtain ⟨M8, e8, ra8, R8, q8, hM8⟩ := wkL_ok R1 (E12.trans E37) (kv_vals ra7).1 R7 w
      have n8 : D ∉ M8.i := fun z => n7 (hM8 D z)
      have rb8 := kv_of ra8 (kv_vals ra7).2
      have lb : kds.length ≤ ys.length := by
        have h1 := congrArg List.length ek
        have h2 : (ys.filterMap id).length ≤ ys.length := List.length_filterMap_le _ _
        simp at h1; omega
      have lm := merge_len (m := kds) (l := [])
      have la : (mergeD [] kds).length = av.length := by
        have := congrArg List.length (kv_vals ra).2
        simp at this; exact this.symm
      rw [merge_app] at rb8
      refine ⟨av, kk, key_rep hkk (r6.ev e7), hD7, ?_, M8, ys ++ [some (.tup [kD kk, d])], kds ++ [(kk, d)], putK av kk v, rfl, hlt, by simp [hl], e8.hid nD, R8.hid hD7 trivial n8, n8, upd_same, by simp [ek, pairD], ?_, q8, add _ hr⟩
      · simp at lm; omega
      · rw [merge_app]
        exact rb8.mono (KeepT.lock hD7 trivial)
  · have e : i = xs.length := by omega
    subst e
    have q3 := il ys hl q2
    rw [← em, ek] at q3
    obtain ⟨kvs, ekv, q3⟩ := q3
    have inj : kds = kvs := (List.map_inj_right fun a b e => by
      obtain ⟨a1, a2⟩ := a
      obtain ⟨b1, b2⟩ := b
      simp [pairD] at e
      obtain ⟨e1, e2⟩ := e
      subst e2
      cases a1 <;> cases b1 <;> simp [kD] at e1 <;> simp [e1]).mp ekv
    subst inj
    exact .inl ⟨sn.stop M2 H2 E12.sq R2 g2, hmk.of (o := .dic (mergeD [] kds)) (M0 := M1) (H0 := H1) E12 nD mD n2 hD trivial R2 ⟨av, hD, ra⟩ q3 fun v d M' H' e' R' r' q' => k v d M' H' (e1.trans e') R' r' q'⟩
theorem de_dc {X : Cx} {mk : MkR} (hmk : MkOk mk) {tg iter kx vx : Expr} {pos : Pos} {ifs : List Expr} {scope : Scope} {own : List (Str × Nat)} {ti : DI} {g : Tg} {tt : DT} {tk tv : DE} (hc : X.calm = true) (hN : X.N.Nodup) (hi : PId X tg iter ti) (ok : blkC X.N X.env.scope scope own = true)
    (hg : ∀ s H C cl fp, PGd (blkE X scope s H C cl fp) tg g) (ht : ∀ s H C cl fp, PTsd (blkE X scope s H C cl fp) ifs tt) (hk : ∀ s H C cl fp, PEd (blkE X scope s H C cl fp) kx tk) (he : ∀ s H C cl fp, PEd (blkE X scope s H C cl fp) vx tv)
    (hv : ∀ i ∈ g.slots, i ∈ own.map (·.2) := by decide) (hs : ∀ x, foldedSetIterable iter X.env x = pure x := by intro _; rfl) :
    PEd X (.DictComp kx vx [⟨tg, iter, ifs, 0⟩] scope pos) (dDC mk ti g tt tk tv (own.map (·.2))) := by
  obtain ⟨wi, h1, h2⟩ := hi
  exact peI (pe_frz (pe_dc (tt := LT0 X.K X.mg tt) (tk := LE0 X.K X.mg tk) (tv := LE0 X.K X.mg tv) hc hN h1 (blkOk_by ok) (fun s H C cl fp => (hg s H C cl fp).of) (fun s H C cl fp => pts0 (ht s H C cl fp)) (fun s H C cl fp => pe0 (hk s H C cl fp)) (fun s H C cl fp => pe0 (he s H C cl fp)) hs))
    fun σ H Q => lift_dc hmk hv h2 σ H Q
/-! ### displays -/
def RepPP (K : PySem.W.Frag) (M : MB) (H : Hp) : List (D × D) → List (V × V) → Prop
  | [], vs => vs = []
  | p :: l, vs => ∃ v w r, vs = (v, w) :: r ∧ Rep K M H p.1 v ∧ Rep K M H p.2 w ∧ RepPP K M H l r
theorem lift_pairs {X : Cx} : ∀ (l : List (DE × DE)) {σ : L2.St} {H : Hp} {Q : List (V × V) → Hp → Prop} {ρ : DSt} {M : MB} {E : XQ} {Qd : List (D × D) → MH → Prop}, Slots X.K M H ρ σ → MR X.K X.mg M H → dPairs l ρ M.m E Qd → XOk X M σ H E →
    (∀ ds vs M' H', Ev M H M' H' → MR X.K X.mg M' H' → RepPP X.K M' H' ds vs → Qd ds M'.m → Q vs H') → tPairs (l.map fun p => (LE X p.1, LE X p.2)) σ H Q
  | [], σ, H, Q, ρ, M, E, Qd, S, R, q, xo, k => k [] [] M H .refl R rfl q
  | p :: l, σ, H, Q, ρ, M, E, Qd, S, R, q, xo, k => ⟨ρ, M, E, _, S, R, q, xo, fun v d M1 H1 e1 R1 r1 q1 => ⟨ρ, M1, E, _, S.ev e1, R1, q1, xo.later e1, fun w d2 M2 H2 e2 R2 r2 q2 =>
      lift_pairs l (S.ev (e1.trans e2)) R2 q2 (xo.later (e1.trans e2)) fun ds vs M' H' e' R' r' q' => k ((d, d2) :: ds) ((v, w) :: vs) M' H' ((e1.trans e2).trans e') R' ⟨v, w, vs, rfl, (r1.ev e2).ev e', r2.ev e', r'⟩ q'⟩⟩
theorem pp_kv {K : PySem.W.Frag} {M : MB} {H : Hp} : ∀ {l : List (Key × D)} {vs : List (V × V)}, RepPP K M H (l.map fun p => (kD p.1, p.2)) vs → ∃ ks : List (Key × V), vs = ks.map (fun p => (kV p.1, p.2)) ∧ RepKV K M H l ks
  | [], _, h => by cases h; exact ⟨[], rfl, rfl⟩
  | (k, d) :: l, _, ⟨v, w, r, e, h1, h2, h3⟩ => by
    subst e
    obtain ⟨ks, e2, h4⟩ := pp_kv h3
    subst e2
    have : v = kV k := by cases k <;> exact h1
    subst this
    exact ⟨(k, w) :: ks, rfl, w, ks, rfl, h2, h4⟩
theorem RepKV.merge {K : PySem.W.Frag} {M : MB} {H : Hp} : ∀ {m : List (Key × D)} {n : List (Key × V)} {l : List (Key × D)} {ks : List (Key × V)}, RepKV K M H l ks → RepKV K M H m n → RepKV K M H (mergeD l m) (mergeK ks n)
  | [], _, _, _, h, h2 => by cases h2; exact h
  | (k, d) :: m, _, l, ks, h, ⟨v, r, e, h1, h2⟩ => by
    subst e
    exact (show RepKV K M H (mergeD (putD l k d) m) (mergeK (putK ks k v) r) from RepKV.merge (RepKV.put (k := k) h1 h) h2)
theorem kv_len {K : PySem.W.Frag} {M : MB} {H : Hp} {l : List (Key × D)} {ks : List (Key × V)} (h : RepKV K M H l ks) : ks.length = l.length := by
  have := congrArg List.length (kv_vals h).2
  simpa using this
structure PPd (X : Cx) (pos : Pos) (keys : List (Option Expr)) (values : List Expr) (l : List (DE × DE)) : Prop where
  of : PPs X pos keys values (l.map fun p => (LE X p.1, LE X p.2))
theorem dp_nil {X : Cx} {pos : Pos} : PPd X pos [] [] [] := ⟨pps_nil⟩
theorem dp_cons {X : Cx} {pos : Pos} {k v : Expr} {ks : List (Option Expr)} {vs : List Expr} {tk tv : DE} {l : List (DE × DE)} (hk : PEd X k tk) (hv : PEd X v tv) (hr : PPd X pos ks vs l) : PPd X pos (some k :: ks) (v :: vs) ((tk, tv) :: l) := ⟨pps_cons hk hv hr.of⟩
theorem de_disp {X : Cx} {mk : MkR} (hm : MkOk mk) {pos : Pos} {keys : List (Option Expr)} {values : List Expr} {l : List (DE × DE)} (h : PPd X pos keys values l) (hall : keys.all (·.isSome) = true := by rfl) (hl : keys.length = values.length := by rfl) (h0 : keys ≠ [] := by exact fun h => nomatch h)
    (h15 : keys.length ≤ 15 := by decide) : PEd X (.Dict keys values pos) (dDisp mk l) :=
  peI (pe_frz (pe_disp h.of hall hl h0 h15)) fun σ H Q ⟨ρ, M, E, Qd, S, R, q, xo, k⟩ => fun p n => by
    have e1 : Ev M H M (upd H p (.dK [])) := .new n
    refine lift_pairs l (S.ev e1) (R.new n) q (xo.later e1) fun ds vs M2 H2 e2 R2 r2 ⟨kvs, ek, h15, q2⟩ => ?_
    subst ek
    obtain ⟨ks, ev, kv⟩ := pp_kv r2
    have n1 : p ∉ M.i := R.mem n
    have hp : H2 p = some (.dK []) := e2.frame p _ upd_same n1
    have n2 : p ∉ M2.i := fun z => by have := e2.dom p z n1; rw [upd_same] at this; cases this
    refine ⟨hp, ks, ev, by rw [kv_len kv]; exact h15, ?_⟩
    have kt : KeepT X.K M2 H2 M2 (upd H2 p (.dK (mergeK [] ks))) := .lock hp trivial
    exact hm.of (o := .dic (mergeD [] kvs)) (M0 := M) (H0 := H) ((e1.trans e2).hid n) n n1 n2 upd_same trivial (R2.hid hp trivial n2) ⟨_, upd_same, (RepKV.merge (l := []) (ks := []) rfl kv).mono kt⟩ q2 fun v d M' H' e' R' r' q' => k v d M' H' e' R' r' q'
end DM

/-! DM: ranges as lists, stores at targets of any form: readings and their evaluation. Plain Lean. -/
namespace DM
open PySem L2
@[simp] theorem flat_int {i : Int} : flatD (.int i) = true := rfl
@[simp] theorem flat_str {i : Str} : flatD (.str i) = true := rfl
@[simp] theorem flat_bl {i : Bool} : flatD (.bl i) = true := rfl
@[simp] theorem flat_non : flatD .non = true := rfl
@[simp] theorem bels_ints {n : Nat} {l : List Int} : D.bels n (l.map D.int) = true := bels_map fun _ _ => rfl
@[simp] theorem bels_nats {n : Nat} {l : List Nat} : D.bels n (l.map fun i : Nat => D.int i) = true := bels_map fun _ _ => rfl
theorem rNe_ref {a : Nat} {l : List D} {y : D} {M : MH} {Q : DQ} (h : M[a]? = some (some (.lst l))) (hx : D.plains l = true) (hy : y.plain = true) (k : PyData.depthAll (D.pys l) ≤ 50) (q : Q (.bl (!PyData.eqv (D.lis l).py y.py)) M) : rNe (.ref a) y M Q :=
  ⟨_, _, .lst h (SeesL.pys M l hx), .py M y hy, plain_py (.lis l) hx, plain_py y hy, by show PyData.depth (.list (D.pys l)) ≤ 60; rw [PyData.depth]; omega, q⟩
theorem rEq_ref {a : Nat} {l : List D} {y : D} {M : MH} {Q : DQ} (h : M[a]? = some (some (.lst l))) (hx : D.plains l = true) (hy : y.plain = true) (k : PyData.depthAll (D.pys l) ≤ 50) (q : Q (.bl (PyData.eqv (D.lis l).py y.py)) M) : rEq (.ref a) y M Q :=
  ⟨_, _, .lst h (SeesL.pys M l hx), .py M y hy, plain_py (.lis l) hx, plain_py y hy, by show PyData.depth (.list (D.pys l)) ≤ 60; rw [PyData.depth]; omega, q⟩
@[simp] theorem eqv_nil {l : List D} : PyData.eqv (D.lis l).py (D.lis []).py = l.isEmpty := by cases l <;> simp [D.py, D.pys, PyData.eqv, PyData.eqvAll]
@[simp] theorem eqv_tnil {l : List D} : PyData.eqv (D.tup l).py (D.tup []).py = l.isEmpty := by cases l <;> simp [D.py, D.pys, PyData.eqv, PyData.eqvAll]
@[simp] theorem rRev_tup {l : List D} {mk : MkR} {M : MH} {Q : DQ} : rRev mk (.tup l) M Q ↔ Q (.tup l.reverse) M := by simp [rRev]
@[simp] theorem rRev_lis {l : List D} {mk : MkR} {M : MH} {Q : DQ} : rRev mk (.lis l) M Q ↔ mk M (.lst l.reverse) Q := by simp [rRev]
@[simp] theorem rRev_at {l : List D} {k : Nat} {mk : MkR} {M : MH} {Q : DQ} (h : M[k]? = some (some (.lst l))) : rRev mk (.ref k) M Q ↔ mk M (.lst l.reverse) Q := by simp [rRev, h]
@[simp] theorem rPlus_at {l m : List D} {k : Nat} {mk : MkR} {M : MH} {Q : DQ} (h : M[k]? = some (some (.lst l))) : rPlus mk (.ref k) (.lis m) M Q ↔ (l.length + m.length ≤ sizeLine ∧ mk M (.lst (l ++ m)) Q) := by
  show (∃ a b, _) ↔ _
  constructor
  · rintro ⟨a, b, _, _, e, e', h1⟩
    rw [seqD_at h] at e; cases e; cases e'; exact h1
  · intro h1; exact ⟨l, m, by simp, by simp, seqD_at h, rfl, h1⟩
@[simp] theorem ofS_beq {a b : String} : (Str.ofString a == Str.ofString b) = (a == b) := by
  by_cases h : a = b
  · subst h; simp
  · have h2 : Str.ofString a ≠ Str.ofString b := fun z => h (ofS_inj.mp z)
    rw [beq_eq_false_iff_ne.mpr h, beq_eq_false_iff_ne.mpr h2]
theorem plains_of : ∀ {l : List D}, (∀ x ∈ l, x.plain = true) → D.plains l = true
  | [], _ => rfl
  | x :: l, h => by rw [D.plains, h x (by simp), plains_of fun y hy => h y (by simp [hy])]; rfl
theorem deps_of {c : Nat} : ∀ {l : List D}, (∀ x ∈ l, x.py.depth ≤ c) → PyData.depthAll (D.pys l) ≤ c
  | [], _ => Nat.zero_le _
  | x :: l, h => by
    have h1 := h x (by simp)
    have h2 := deps_of (l := l) fun y hy => h y (by simp [hy])
    rw [D.pys, PyData.depthAll]; omega
theorem ne_lnil {l : List D} {M : MH} {Q : DQ} (hx : D.plains l = true) (k : PyData.depthAll (D.pys l) ≤ 50) (q : Q (.bl (!l.isEmpty)) M) : rNe (.lis l) (.lis []) M Q := by
  refine rNe_of hx rfl (by rw [D.py, PyData.depth]; omega) ?_
  rw [eqv_nil]; exact q
abbrev DRg := DSt → MH → XQ → (Int → Int → MH → Prop) → Prop
def dRg1 (a : DE) : DRg := fun ρ M E Q => a ρ M E fun x M1 => asI x fun j => Q 0 j M1
def dRg2 (a b : DE) : DRg := fun ρ M E Q => a ρ M E fun x M1 => b ρ M1 E fun y M2 => asI x fun i => asI y fun j => Q i j M2
def rgOk (i j : Int) : Prop := -(2 ^ 62) ≤ i ∧ i < 2 ^ 62 ∧ -(2 ^ 62) ≤ j ∧ j < 2 ^ 62 ∧ (j - i).toNat ≤ 2 ^ 24
/-- list(range(..)), tuple(range(..)) -/
def dLstRg (mk : MkR) (r : DRg) : DE := fun ρ M E Q => r ρ M E fun i j M1 => rgOk i j ∧ mk M1 (.lst (rangeD i (j - i).toNat)) Q
def dTupRg (r : DRg) : DE := fun ρ M E Q => r ρ M E fun i j M1 => rgOk i j ∧ Q (.tup (rangeD i (j - i).toNat)) M1
/-- targets of any form -/
abbrev GD := D → DSt → MH → XQ → (DSt → MH → Prop) → Prop
abbrev GDs := List D → DSt → MH → XQ → (DSt → MH → Prop) → Prop
def gdTg (g : Tg) : GD := fun d ρ M _ Q => g.store d ρ fun ρ' => Q ρ' M
def gdIx (o i : DE) : GD := fun v ρ M E Q => o ρ M E fun x M1 => i ρ M1 E fun k M2 => rSet x k v M2 fun M3 => Q ρ M3
def gdNil : GDs := fun ds ρ M _ Q => ds = [] ∧ Q ρ M
def gdCons (g : GD) (r : GDs) : GDs := fun ds ρ M E Q => ∃ d l, ds = d :: l ∧ g d ρ M E fun ρ1 M1 => r l ρ1 M1 E Q
def gdTup (n : Nat) (g : GDs) : GD := fun d ρ M E Q => ∃ l, d = .tup l ∧ l.length = n ∧ g l ρ M E Q
def dAsgG (e : DE) (g : GD) : DS := fun E ρ M => e ρ M (xAt E ρ) fun x M1 => g x ρ M1 noX fun ρ' M2 => E.nx ρ' M2
def as3 (ds : List D) (B : D → D → D → Prop) : Prop := ∃ x y z, ds = [x, y, z] ∧ B x y z
@[simp] theorem as3_ {x y z : D} {B : D → D → D → Prop} : as3 [x, y, z] B ↔ B x y z := ⟨fun ⟨_, _, _, e, h⟩ => by cases e; exact h, fun h => ⟨x, y, z, rfl, h⟩⟩
/-- a, b, c = e1, e2, e3 -/
def dPar3 (i j l : Nat) (a : DA) : DS := fun E ρ M => a ρ M (xAt E ρ) fun ds M1 => as3 ds fun x y z => E.nx (((ρ.set i (some x)).set j (some y)).set l (some z)) M1
/-! ### dicts whose keys are tuples -/
def keysD : List D → Option (List Key)
  | [] => some []
  | d :: l => match d.key, keysD l with
    | some k, some r => some (k :: r)
    | _, _ => none
def ditD (M : MH) : D → Option (List (List Key × D))
  | .ref k => match M[k]? with
    | some (some (.dit l)) => some l
    | _ => none
  | _ => none
def ditQ (M : MH) (x : D) (ds : List D) (R : List (List Key × D) → List Key → Prop) : Prop := ∃ l k, ditD M x = some l ∧ keysD ds = some k ∧ R l k
def dDicT : DE := fun _ M _ Q => newD M (.dit []) Q
def dItemT (a : DE) (A : DA) : DE := fun ρ M E Q => a ρ M E fun x M1 => A ρ M1 E fun ds M2 => ds.length ≤ sizeLine ∧ ditQ M2 x ds fun l k => ∃ d, lookD l k = some d ∧ Q d M2
def dInT (neg : Bool) (A : DA) (b : DE) : DE := fun ρ M E Q => A ρ M E fun ds M1 => ds.length ≤ sizeLine ∧ b ρ M1 E fun x M2 => ditQ M2 x ds fun l k => Q (.bl ((lookD l k).isSome != neg)) M2
def dGetT2 (a : DE) (A : DA) (c : DE) : DE := fun ρ M E Q => a ρ M E fun x M1 => (∃ l, ditD M1 x = some l) ∧ A ρ M1 E fun ds M2 => ds.length ≤ sizeLine ∧ c ρ M2 E fun z M3 => ditQ M3 x ds fun l k => Q ((lookD l k).getD z) M3
def dSetT (e a : DE) (A : DA) : DS := fun E ρ M => e ρ M (xAt E ρ) fun v M1 => a ρ M1 (xAt E ρ) fun x M2 => A ρ M2 (xAt E ρ) fun ds M3 => ds.length ≤ sizeLine ∧ ∃ p, x = .ref p ∧ ditQ M3 x ds fun l k => l.length < sizeLine ∧ E.nx ρ (M3.set p (some (.dit (putD l k v))))
section
variable {ρ : DSt} {M : MH} {X : XQ} {Q : DQ} {d : D} {a b e o i : DE} {E : DEnds} {g : GD} {gs : GDs} {l : List D} {n : Nat} {mk : MkR} {r : DRg} {R : DSt → MH → Prop} {t : Tg} {Z : Int → Int → MH → Prop}
@[simp ↓] theorem dRg1_ : dRg1 a ρ M X Z ↔ a ρ M X (hold (fun x M1 => asI x (hold (fun j => Z 0 j M1) ⟨⟩)) ⟨⟩) := Iff.rfl
@[simp ↓] theorem dRg2_ : dRg2 a b ρ M X Z ↔ a ρ M X (hold (fun x M1 => b ρ M1 X (hold (fun y M2 => asI x (hold (fun i => asI y (hold (fun j => Z i j M2) ⟨⟩)) ⟨⟩)) ⟨⟩)) ⟨⟩) := Iff.rfl
@[simp ↓] theorem dLstRg_ : dLstRg mk r ρ M X Q ↔ r ρ M X (hold (fun i j M1 => rgOk i j ∧ mk M1 (.lst (rangeD i (j - i).toNat)) Q) ⟨⟩) := Iff.rfl
@[simp ↓] theorem dTupRg_ : dTupRg r ρ M X Q ↔ r ρ M X (hold (fun i j M1 => rgOk i j ∧ Q (.tup (rangeD i (j - i).toNat)) M1) ⟨⟩) := Iff.rfl
@[simp ↓] theorem dPar3_ {i j l : Nat} {A : DA} : dPar3 i j l A E ρ M ↔ A ρ M (xAt E ρ) (hold (fun ds M1 => as3 ds (hold (fun x y z => E.nx (((ρ.set i (some x)).set j (some y)).set l (some z)) M1) ⟨⟩)) ⟨⟩) := Iff.rfl
@[simp ↓] theorem dDicT_ : dDicT ρ M X Q ↔ newD M (.dit []) Q := Iff.rfl
@[simp ↓] theorem dItemT_ {A : DA} : dItemT a A ρ M X Q ↔ a ρ M X (hold (fun x M1 => A ρ M1 X (hold (fun ds M2 => ds.length ≤ sizeLine ∧ ditQ M2 x ds fun l k => ∃ d, lookD l k = some d ∧ Q d M2) ⟨⟩)) ⟨⟩) := Iff.rfl
@[simp ↓] theorem dInT_ {A : DA} {neg : Bool} : dInT neg A b ρ M X Q ↔ A ρ M X (hold (fun ds M1 => ds.length ≤ sizeLine ∧ b ρ M1 X (hold (fun x M2 => ditQ M2 x ds fun l k => Q (.bl ((lookD l k).isSome != neg)) M2) ⟨⟩)) ⟨⟩) := Iff.rfl
@[simp ↓] theorem dGetT2_ {A : DA} : dGetT2 a A b ρ M X Q ↔ a ρ M X (hold (fun x M1 => (∃ l, ditD M1 x = some l) ∧ A ρ M1 X (hold (fun ds M2 => ds.length ≤ sizeLine ∧ b ρ M2 X (hold (fun z M3 => ditQ M3 x ds fun l k => Q ((lookD l k).getD z) M3) ⟨⟩)) ⟨⟩)) ⟨⟩) := Iff.rfl
@[simp ↓] theorem dSetT_ {A : DA} : dSetT e a A E ρ M ↔ e ρ M (xAt E ρ) (hold (fun v M1 => a ρ M1 (xAt E ρ) (hold (fun x M2 => A ρ M2 (xAt E ρ) (hold (fun ds M3 => ds.length ≤ sizeLine ∧ ∃ p, x = .ref p ∧ ditQ M3 x ds fun l k => l.length < sizeLine ∧ E.nx ρ (M3.set p (some (.dit (putD l k v))))) ⟨⟩)) ⟨⟩)) ⟨⟩) := Iff.rfl
@[simp] theorem ditD_at {k : Nat} {l : List (List Key × D)} (h : M[k]? = some (some (.dit l))) : ditD M (.ref k) = some l := by simp [ditD, h]
theorem ditQ_at {k : Nat} {l : List (List Key × D)} {ks : List Key} {ds : List D} {R : List (List Key × D) → List Key → Prop} (h : M[k]? = some (some (.dit l))) (hk : keysD ds = some ks) : ditQ M (.ref k) ds R ↔ R l ks :=
  ⟨fun ⟨l', k', e1, e2, q⟩ => by rw [ditD_at h] at e1; cases e1; rw [hk] at e2; cases e2; exact q, fun q => ⟨l, ks, ditD_at h, hk, q⟩⟩
@[simp ↓] theorem gdTg_ : gdTg t d ρ M X R ↔ t.store d ρ (hold (fun ρ' => R ρ' M) ⟨⟩) := Iff.rfl
@[simp ↓] theorem gdIx_ : gdIx o i d ρ M X R ↔ o ρ M X (hold (fun x M1 => i ρ M1 X (hold (fun k M2 => rSet x k d M2 (hold (fun M3 => R ρ M3) ⟨⟩)) ⟨⟩)) ⟨⟩) := Iff.rfl
@[simp ↓] theorem gdNil_ : gdNil [] ρ M X R ↔ R ρ M := ⟨fun h => h.2, fun h => ⟨rfl, h⟩⟩
@[simp ↓] theorem gdCons_ : gdCons g gs (d :: l) ρ M X R ↔ g d ρ M X (hold (fun ρ1 M1 => gs l ρ1 M1 X R) ⟨⟩) := ⟨fun ⟨_, _, e, h⟩ => by cases e; exact h, fun h => ⟨d, l, rfl, h⟩⟩
@[simp ↓] theorem gdTup_ : gdTup n gs (.tup l) ρ M X R ↔ l.length = n ∧ gs l ρ M X R := ⟨fun ⟨_, e, h⟩ => by cases e; exact h, fun h => ⟨l, rfl, h⟩⟩
@[simp ↓] theorem dAsgG_ : dAsgG e g E ρ M ↔ e ρ M (xAt E ρ) (hold (fun x M1 => g x ρ M1 noX (hold (fun ρ' M2 => E.nx ρ' M2) ⟨⟩)) ⟨⟩) := Iff.rfl
end
end DM

/-! DM: x[::-1] of lists and tuples. -/
namespace DM
open PySem PySem.Spec L2
section
open PyProof.Rows
variable {prog : Program} {w : World} {A : Around} {E : Value → Shared → Prop} {s : Shared}
theorem rv_applied {sl : Addr} {a b c : Value} {n : Nat} {Q : Int × Int × Nat → Shared → Prop} (hs : s.heap.IsSliceOf sl a b c) (pa : IsPart a none) (pb : IsPart b none) (pc : IsPart c (some (-1)))
    (h : Q ((n : Int) - 1, -1, n) s) : wpAny (model prog w) A (Builtin.Slice.sliceApplied (.ref sl) (pure (n : Int))) Q E s := by
  obtain ⟨o, h1, h2, h3⟩ := id hs
  unfold Builtin.Slice.sliceApplied Builtin.Slice.sliceFields
  refine wpAny_bind (wpAny_bind ?_)
  refine wpAny_field h1 h3 (x := a) rfl (wpAny_bind ?_)
  refine wpAny_field h1 h3 (x := b) rfl (wpAny_bind ?_)
  refine wpAny_field h1 h3 (x := c) rfl (wpAny_pure ?_)
  refine wpAny_bind ?_
  refine HT.slicePart_ pc ?_
  have z : ¬ (((some (-1 : Int)).getD 1 == 0) = true) := by decide
  show wpAny _ _ (if ((-1 : Int) == 0) = true then _ else _) _ _ s
  rw [if_neg (by decide)]
  refine wpAny_bind ?_
  refine HT.slicePart_ pa (wpAny_bind ?_)
  refine HT.slicePart_ pb (wpAny_bind (wpAny_pure ?_))
  have e1 : Builtin.Slice.sliceAdjust none none (-1) (n : Int) = ((n : Int) - 1, -1) := rfl
  have e2 : Builtin.Slice.slicePlaces ((n : Int) - 1) (-1) (-1) = n := by
    unfold Builtin.Slice.slicePlaces
    by_cases h0 : n = 0
    · subst h0; decide
    · have g : ((n : Int) - 1) > -1 := by omega
      rw [if_neg (show ¬ ((-1 : Int) > 0) by decide), if_pos g]
      have : ((n : Int) - 1 - -1 - 1) / (- -1) + 1 = n := by rw [show (- -1 : Int) = 1 from rfl, Int.ediv_one]; omega
      rw [this]; exact Int.toNat_natCast n
  show wpAny _ _ (match Builtin.Slice.sliceAdjust none none (-1) (n : Int) with | (lo, hi) => pure (lo, (-1 : Int), Builtin.Slice.slicePlaces lo hi (-1))) _ _ s
  rw [e1]
  show wpAny _ _ (pure (((n : Int) - 1), (-1 : Int), Builtin.Slice.slicePlaces ((n : Int) - 1) (-1) (-1))) _ _ s
  rw [e2]
  exact wpAny_pure h
theorem rv_fm {α : Type} {f g : Nat → Option α} : ∀ {l : List Nat}, (∀ m ∈ l, f m = g m) → l.filterMap f = l.filterMap g
  | [], _ => rfl
  | x :: l, h => by
    have ih := rv_fm (l := l) fun m hm => h m (List.mem_cons_of_mem _ hm)
    simp only [List.filterMap_cons, h x (List.mem_cons_self ..), ih]
theorem rv_pick (xs : Array Value) : ((List.range xs.size).filterMap fun (m : Nat) => xs[(((xs.size : Int) - 1) + (m : Int) * (-1)).toNat]?).toArray = xs.toList.reverse.toArray := by
  congr 1
  rw [← PySem.W.krv_all xs, ← List.filterMap_reverse, ← PySem.W.krv_range, List.filterMap_map]
  refine rv_fm fun m hm => ?_
  have := List.mem_range.mp hm
  show xs[(((xs.size : Int) - 1) + (m : Int) * (-1)).toNat]? = xs[xs.size - 1 - m]?
  congr 1
  omega
/-- t[::-1] -/
theorem rv_get {t sl : Addr} {xs : Array Value} {a b c : Value} {Q : Value → Shared → Prop} (ht : IsTup s.heap t xs) (hs : s.heap.IsSliceOf sl a b c) (pa : IsPart a none) (pb : IsPart b none) (pc : IsPart c (some (-1)))
    (h : Q (.ref s.heap.objs.size) { s with heap := s.heap.push { cls := .type "tuple", data := .seq xs.toList.reverse.toArray } }) (hz : xs.size ≤ sizeLine) : wpAny (model prog w) A (getItem (.ref t) (.ref sl)) Q E s := by
  have fits : sizeOk (.seq xs.toList.reverse.toArray) := by
    show xs.toList.reverse.toArray.size ≤ sizeLine
    simpa using hz
  obtain ⟨o, h1, h2, h3⟩ := id hs
  have ty : s.TypeIs (.ref sl) "slice" := ⟨o, h1, h2⟩
  unfold getItem
  try with_reducible refine wpAny_holding ?_
  first | refine wpAny_bind (wpAny_pure ?_) | skip
  refine wpAny_bind ?_
  refine wpAny_sequenceKey ht.typeIs (by decide) ?_
  refine wpAny_bind (wpAny_callSpecial?_slot (name := Str.ofString "__getitem__") ht.typeIs PyProof.Rows.slot_tuple_getitem ?_)
  refine wpAny_call_entry PyProof.Rows.slot_tuple_getitem ht.typeIs entry_tuple_getitem ?_ (args_tuple_getitem _ _)
  show wpAny _ _ (Builtin.Tuple.tupleItemsOf (.ref t) >>= _) _ _ s
  refine wpAny_bind ?_
  refine tupleItemsOf_ ht ?_
  refine wpAny_bind (wpAny_typeOf ty ?_)
  rw [if_pos (by decide)]
  refine wpAny_bind (rv_applied (n := xs.size) hs pa pb pc ?_)
  have no : ¬ ((((xs.size : Int) - 1) == 0 && (-1 : Int) == 1 && xs.size == xs.size) = true) := by simp
  show wpAny _ _ (if (((xs.size : Int) - 1) == 0 && (-1 : Int) == 1 && xs.size == xs.size) = true then _ else _) _ _ s
  rw [if_neg no, rv_pick]
  first
  | exact wpAny_bind (m := Builtin.Tuple.tupleExact _) (wpAny_newObj_type (wpAny_bind (wpAny_pure (wpAny_pure ⟨_, rfl, wpAny_pure h⟩))) fits)
  | exact wpAny_bind (m := Builtin.Tuple.tupleExact _) (wpAny_newObj_type (wpAny_pure ⟨_, rfl, wpAny_pure h⟩) fits)
  | exact wpAny_bind (wpAny_bind (m := Builtin.Tuple.tupleExact _) (wpAny_newObj_type (wpAny_pure ⟨_, rfl, wpAny_pure h⟩) fits))
  | exact wpAny_bind (wpAny_bind (m := Builtin.Tuple.tupleExact _) (wpAny_newObj_type (wpAny_pure (wpAny_pure ⟨_, rfl, wpAny_pure h⟩)) fits))
end
section
variable {X : Cx} {mk : MkR}
def tRevT (K : PySem.W.Frag) (te : TE) : TE := fun σ H Q => te σ H fun x H1 => ∃ a xs, x = .ref a ∧ ((SqL K H1 a xs ∧ ∀ p, H1 p = none → Q (.ref p) (upd H1 p (.lst xs.reverse))) ∨ (SqT K H1 a xs ∧ ∀ p, H1 p = none → Q (.ref p) (upd H1 p (.tup xs.reverse))))
theorem pe_revT {e : Expr} {te : TE} {k : Nat} {p1 p2 p3 pos : Pos} (he : PE X e te) : PE X (.Subscript e (.Slice none none (some (.UnaryOp .USub (.Constant (.int 1) k p1) p2)) p3) pos) (tRevT X.K te) := by
  refine ⟨fun pins s σ H Q I h => ?_⟩
  refine PyProof.Rows.Subscript_ (thn (he.run pins s σ H _ I h) fun v s1 ⟨x, H1, I1, r1, a, xs, ex, q⟩ => ?_)
  subst ex
  cases r1
  have part : PO X (some (.UnaryOp .USub (.Constant (.int 1) k p1) p2)) (tPart (L2.tUn (rU fun i => .int (-i)) (tC (.int 1)))) := po_some (pe_un un_neg pe_int)
  refine wpAny_Slice ?_
  refine thn (po_none.run pins s1 σ H1 (fun o H2 => o = none ∧ H2 = H1) I1 ⟨rfl, rfl⟩) fun va s2 ⟨o1, H2, I2, pa, z1, z2⟩ => ?_
  subst z1; subst z2
  refine thn (po_none.run pins s2 σ _ (fun o H3 => o = none ∧ H3 = _) I2 ⟨rfl, rfl⟩) fun vb s3 ⟨o2, H3, I3, pb, z3, z4⟩ => ?_
  subst z3; subst z4
  refine thn (part.run pins s3 σ _ (fun o H4 => o = some (-1) ∧ H4 = _) I3 ⟨1, rfl, -1, rfl, rfl, rfl⟩) fun vc s4 ⟨o3, H4, I4, pc, z5, z6⟩ => ?_
  subst z5; subst z6
  have I5 : Inv X pins σ _ { s4 with heap := s4.heap.push { cls := .type "slice", data := .fields #[va, vb, vc] } } := I4.kept (t' := s4.toks) fun b ob q => Heap.get?_push_of_some _ q
  show wpAny (model X.prog X.w) X.A (PyProof.Rows.subscriptTail e (.Slice none none (some (.UnaryOp .USub (.Constant (.int 1) k p1) p2)) p3) (.ref a) (.ref s4.heap.objs.size)) (EP X pins σ Q) X.xe { s4 with heap := s4.heap.push { cls := .type "slice", data := .fields #[va, vb, vc] } }
  rcases q with ⟨hx, q⟩ | ⟨hx, q⟩
  · obtain ⟨its, r, ht, hz⟩ := I5.list hx
    have hlen := r.length
    refine PyProof.Rows.tail_any (ops := [.ref a, .ref s4.heap.objs.size]) ht.isList.typeIs (PySem.slot_list_getitem.lookup) ?_ (by with_unfolding_all rfl)
    refine PySem.wpAny_getItem_list_slice ht.isList (Heap.IsSliceOf.new _ va vb vc) pa pb pc (by decide) ?_ (by rw [List.size_toArray]; omega)
    rw [PySem.W.krv_pick]
    refine ⟨.ref _, _, I5.laid (t' := s4.toks) (o := .lst xs.reverse) (fun b ob q => Heap.get?_push_of_some _ q) (Nat.le_refl _) ?_, rfl, q _ (I5.hok.fresh (Nat.le_refl _))⟩
    exact ⟨by rw [List.length_reverse]; exact hz, _, 0, r.reverse, Heap.get?_push_size _ rfl⟩
  · obtain ⟨its, r, ht, hz⟩ := I5.tuple hx
    have hlen := r.length
    refine PyProof.Rows.tail_any (ops := [.ref a, .ref s4.heap.objs.size]) ht.typeIs (PyProof.Rows.slot_tuple_getitem.lookup) ?_ (by with_unfolding_all rfl)
    refine rv_get ht (Heap.IsSliceOf.new _ va vb vc) pa pb pc ?_ (by rw [List.size_toArray]; omega)
    refine ⟨.ref _, _, I5.laid (t' := s4.toks) (o := .tup xs.reverse) (fun b ob q => Heap.get?_push_of_some _ q) (Nat.le_refl _) ?_, rfl, q _ (I5.hok.fresh (Nat.le_refl _))⟩
    exact ⟨by rw [List.length_reverse]; exact hz, _, r.reverse, PyProof.Rows.IsTup.new _ _⟩
theorem de_rev (hmk : MkOk mk) {e : Expr} {te : DE} {k : Nat} {p1 p2 p3 pos : Pos} (he : PEd X e te) : PEd X (.Subscript e (.Slice none none (some (.UnaryOp .USub (.Constant (.int 1) k p1) p2)) p3) pos) (dUn (rRev mk) te) :=
  peI (pe_frz (pe_revT he)) fun σ H Q ⟨ρ, M, E, Qd, S, R, q, xo, k⟩ => ⟨ρ, M, E, _, S, R, q, xo, fun v d M1 H1 e1 R1 r1 q0 => by
    rcases q0 with ⟨l, ed, q1⟩ | ⟨l, nt, hx, q1⟩
    · subst ed
      obtain ⟨a, vs, ev, ht, rs⟩ := r1
      subst ev
      exact ⟨a, vs, rfl, .inr ⟨ht, fun p n => .inl (k _ (.tup l.reverse) M1 _ (e1.trans (.new n)) (R1.new n) ⟨p, _, rfl, sq_new, (Reps.rev rs).ev (Ev.new (M := M1) n)⟩ q1)⟩⟩
    · obtain ⟨a, vs, ev, rs, hs⟩ := sq_of R1 r1 hx
      subst ev
      rcases hs with ⟨z, _⟩ | ⟨_, hs⟩
      · exact absurd z (nt _)
      exact ⟨a, vs, rfl, .inl ⟨hs.l, fun p n => hmk.new R1 n trivial (o := .lst l.reverse) ⟨_, upd_same, (Reps.rev rs).ev (Ev.new (M := M1) n)⟩ q1 fun v d M' H' e' R' r' q' => k v d M' H' (e1.trans e') R' r' q'⟩⟩⟩
end
end DM

/-! DM: rules for the readings of DMPlus. -/
namespace DM
open PySem PySem.Spec L2
section
variable {X : Cx} {e a b o i : Expr} {es : List Expr} {ta tb te to ti : DE} {pos : Pos} {mk : MkR}
def PRgd (X : Cx) (e : Expr) (t : DRg) : Prop := ∃ r, PRg X e r ∧ ∀ (σ : L2.St) (H : Hp) (Q : Int → Int → Hp → Prop) (ρ : DSt) (M : MB) (E : XQ) (Qd : Int → Int → MH → Prop), Slots X.K M H ρ σ → MR X.K X.mg M H → t ρ M.m E Qd → XOk X M σ H E →
  (∀ i j M' H', Ev M H M' H' → MR X.K X.mg M' H' → Qd i j M'.m → Q i j H') → r σ H Q
theorem prd_1 {p : Pos} (hm : X.mg "range" = none) (ha : PEd X a ta) (hg : Gl X "range" := by rfl) (na : starEach [a] X.env = (false, eval a X.env) :: starEach [] X.env := by rfl) : PRgd X (.Call (.Name "range" p) [a] [] pos) (dRg1 ta) :=
  ⟨_, prg_1 hg hm ha na, fun σ H Q ρ M E Qd S R q xo k => ⟨ρ, M, E, _, S, R, q, xo, fun v d M1 H1 e1 R1 r1 ⟨j, ej, q1⟩ => by
    subst ej
    cases r1
    exact ⟨j, rfl, k 0 j M1 H1 e1 R1 q1⟩⟩⟩
theorem prd_2 {p : Pos} (hm : X.mg "range" = none) (ha : PEd X a ta) (hb : PEd X b tb) (hg : Gl X "range" := by rfl) (na : starEach [a, b] X.env = (false, eval a X.env) :: starEach [b] X.env := by rfl)
    (nb : starEach [b] X.env = (false, eval b X.env) :: starEach [] X.env := by rfl) (hp : (backTo pos (starEach [b] X.env)).any (·.1) = false := by rfl) : PRgd X (.Call (.Name "range" p) [a, b] [] pos) (dRg2 ta tb) :=
  ⟨_, prg_2 hg hm ha hb na nb hp, fun σ H Q ρ M E Qd S R q xo k => ⟨ρ, M, E, _, S, R, q, xo, fun v d M1 H1 e1 R1 r1 q1 => ⟨ρ, M1, E, _, S.ev e1, R1, q1, xo.later e1, fun v2 d2 M2 H2 e2 R2 r2 ⟨x, ex, y, ey, q2⟩ => by
    subst ex; subst ey
    cases r1; cases r2
    exact ⟨x, y, rfl, rfl, k x y M2 H2 (e1.trans e2) R2 q2⟩⟩⟩⟩
theorem reps_rg {K : PySem.W.Frag} {M : MB} {H : Hp} (i j : Int) : Reps K M H (rangeD i (j - i).toNat) (rgV i j) := by
  rw [rangeD_map]
  unfold rgV
  have : ∀ l : List Nat, Reps K M H (l.map fun k : Nat => D.int (i + k)) (l.map fun k : Nat => V.int (i + k)) := fun l => by
    induction l with
    | nil => exact .nil
    | cons k l ih => exact .cons rfl ih
  exact this _
theorem de_lstRg {p : Pos} {t : DRg} (hk : MkOk mk) (hc : X.calm = true) (hm : X.mg "list" = none) (he : PRgd X e t) (hg : Gl X "list" := by rfl) (na : starEach [e] X.env = (false, eval e X.env) :: starEach [] X.env := by rfl) : PEd X (.Call (.Name "list" p) [e] [] pos) (dLstRg mk t) := by
  obtain ⟨r, h1, h2⟩ := he
  exact peI (pe_frz (pe_listRg hc hg hm h1 na)) fun σ H Q ⟨ρ, M, E, Qd, S, R, q, xo, k⟩ => h2 σ H _ ρ M E _ S R q xo fun x y M1 H1 e1 R1 ⟨ok, q1⟩ => ⟨ok, fun p n =>
    hk.new R1 n trivial (o := .lst (rangeD x (y - x).toNat)) ⟨_, upd_same, reps_rg x y⟩ q1 fun v d M' H' e' R' r' q' => k v d M' H' (e1.trans e') R' r' q'⟩
theorem de_tupRg {p : Pos} {t : DRg} (hc : X.calm = true) (hm : X.mg "tuple" = none) (he : PRgd X e t) (hg : Gl X "tuple" := by rfl) (na : starEach [e] X.env = (false, eval e X.env) :: starEach [] X.env := by rfl) : PEd X (.Call (.Name "tuple" p) [e] [] pos) (dTupRg t) := by
  obtain ⟨r, h1, h2⟩ := he
  exact peI (pe_tupRg hc hg hm h1 na) fun σ H Q ⟨ρ, M, E, Qd, S, R, q, xo, k⟩ => h2 σ H _ ρ M E _ S R q xo fun x y M1 H1 e1 R1 ⟨ok, q1⟩ => ⟨ok, fun p n =>
    k (.ref p) (.tup (rangeD x (y - x).toNat)) M1 _ (e1.trans (.new n)) (R1.new n) ⟨p, _, rfl, sq_new, reps_rg x y⟩ q1⟩
/-! ### stores at targets of any form -/
def PGG (X : Cx) (tg : Expr) (g : GD) : Prop := ∃ r : TG, PG X tg r ∧ ∀ (ρ : DSt) (M : MB) (E : XQ) (σ : L2.St) (H : Hp) (d : DM.D) (v : V) (Qd : DSt → MH → Prop) (Q : L2.St → Hp → Prop), Slots X.K M H ρ σ → MR X.K X.mg M H → Rep X.K M H d v → (∀ σ', XOk X M σ' H E) → g d ρ M.m E Qd →
  (∀ ρ' σ' M' H', Ev M H M' H' → Slots X.K M' H' ρ' σ' → MR X.K X.mg M' H' → Qd ρ' M'.m → Q σ' H') → r v σ H Q
def PGGs (X : Cx) (tgs : List Expr) (g : GDs) : Prop := ∃ r : TGs, PGs X tgs r ∧ ∀ (ρ : DSt) (M : MB) (E : XQ) (σ : L2.St) (H : Hp) (ds : List DM.D) (vs : List V) (Qd : DSt → MH → Prop) (Q : L2.St → Hp → Prop), Slots X.K M H ρ σ → MR X.K X.mg M H → Reps X.K M H ds vs → (∀ σ', XOk X M σ' H E) → g ds ρ M.m E Qd →
  (∀ ρ' σ' M' H', Ev M H M' H' → Slots X.K M' H' ρ' σ' → MR X.K X.mg M' H' → Qd ρ' M'.m → Q σ' H') → r vs σ H Q
theorem gg_tg {tg : Expr} {g : Tg} (h : PGd X tg g) : PGG X tg (gdTg g) := ⟨_, h.of, fun ρ M E σ H d v Qd Q S R r xo q k => LG_ok g r S q fun ρ' σ' S' q' => k ρ' σ' M H .refl S' R q'⟩
theorem ggs_nil : PGGs X [] gdNil := ⟨_, pgs_nil, fun ρ M E σ H ds vs Qd Q S R r xo ⟨e, q⟩ k => by
  subst e; cases r
  exact ⟨rfl, k ρ σ M H .refl S R q⟩⟩
theorem ggs_cons {tg : Expr} {tgs : List Expr} {g : GD} {gs : GDs} (h1 : PGG X tg g) (h2 : PGGs X tgs gs) (hs : (assignEach (tg :: tgs) X.env).map (·.2) = assign tg X.env :: (assignEach tgs X.env).map (·.2) := by rfl) : PGGs X (tg :: tgs) (gdCons g gs) := by
  obtain ⟨r1, p1, k1⟩ := h1
  obtain ⟨r2, p2, k2⟩ := h2
  refine ⟨_, pgs_cons p1 p2 hs, fun ρ M E σ H ds vs Qd Q S R r xo ⟨d, l, e, q⟩ k => ?_⟩
  subst e
  obtain ⟨v, vr, ev, h3, h4⟩ := r
  subst ev
  exact ⟨v, vr, rfl, k1 ρ M E σ H d v _ _ S R h3 xo q fun ρ' σ' M' H' e' S' R' q' => k2 ρ' M' E σ' H' l vr Qd Q S' R' (h4.ev e') (fun σ'' => (xo σ'').later e') q' fun ρ2 σ2 M2 H2 e2 S2 R2 q2 => k ρ2 σ2 M2 H2 (e'.trans e2) S2 R2 q2⟩
theorem gg_tup {tgs : List Expr} {gs : GDs} {n k : Nat} (hc : X.calm = true) (h : PGGs X tgs gs) (hn : (assignEach tgs X.env).length = n := by rfl) (hst : (assignEach tgs X.env).findIdx? (·.1) = none := by rfl) : PGG X (.Tuple tgs k pos) (gdTup n gs) := by
  obtain ⟨r, p, kk⟩ := h
  refine ⟨_, pg_tup hc p hn hst, fun ρ M E σ H d v Qd Q S R r' xo ⟨l, e, hl, q⟩ k => ?_⟩
  subst e
  obtain ⟨a, vs, ev, ht, rs⟩ := r'
  subst ev
  exact ⟨a, vs, rfl, ht, by rw [← rs.len, hl], kk ρ M E σ H l vs Qd Q S R rs xo q k⟩
theorem kv_length {κ : Type} {K : PySem.W.Frag} {M : MB} {H : Hp} : ∀ {l : List (κ × DM.D)} {ks : List (κ × V)}, RepKV K M H l ks → l.length = ks.length
  | [], _, h => by cases h; rfl
  | (_, _) :: l, _, ⟨v, r, e, _, h⟩ => by subst e; simp [kv_length h]
/-- o[i] = v at the layer below -/
theorem set_both (hu : X.A.units + 1 < cLine) : PSet X (fun o i v H Q => L2.rSetL o i v H Q ∨ rSetD o i v H Q) := by
  intro pins s σ H o i v ov iv u Q I ro ri rv h
  rcases h with h | h
  · exact set_list pins s σ H o i v ov iv u Q I ro ri rv h
  · exact set_dict hu pins s σ H o i v ov iv u Q I ro ri rv h
theorem set_lift {M : MB} {H : Hp} {x k d : DM.D} {vx vk v : V} {P : MH → Prop} {Q : Hp → Prop} (R : MR X.K X.mg M H) (rx : Rep X.K M H x vx) (rk : Rep X.K M H k vk) (rd : Rep X.K M H d v) (q : rSet x k d M.m P)
    (kk : ∀ M' H', Ev M H M' H' → MR X.K X.mg M' H' → P M'.m → Q H') : L2.rSetL vx vk v H Q ∨ rSetD vx vk v H Q := by
  obtain ⟨c, ec, q3⟩ := q
  subst ec
  obtain ⟨a, hca, ew⟩ := rx
  subst ew
  rcases q3 with ⟨l, n, hm, en, j, hj, q3⟩ | ⟨l, n, hm, en, hz, q3⟩
  · subst en; cases rk
    obtain ⟨vs, g1, g2⟩ := R.at_ _ _ _ hca hm
    refine .inl ⟨a, vs, n, j, rfl, rfl, g1, by rw [← g2.len]; exact (ixN_D hj).1, ?_⟩
    have E := Ev.put (M := M) (H := H) (k := c) (v := some (.lst (l.set j d))) (u := .lst (vs.set j v)) hca g1 trivial
    exact kk (M.put c (some (.lst (l.set j d)))) _ E (R.put hca g1 trivial ⟨_, upd_same, (g2.set rd j).ev E⟩) q3
  · obtain ⟨vs, g1, g2⟩ := R.at_ _ _ _ hca hm
    have E := Ev.put (M := M) (H := H) (k := c) (v := some (.dic (putD l n d))) (u := .dK (putK vs n v)) hca g1 trivial
    exact .inr ⟨a, _, rfl, by rw [key_rep en rk]; exact .k g1 (by rw [← kv_length g2]; exact hz), kk (M.put c (some (.dic (putD l n d)))) _ E (R.put hca g1 trivial ⟨_, upd_same, (g2.put rd).ev E⟩) q3⟩
theorem gg_ix {tpos : Pos} (hu : X.A.units + 1 < cLine) (ho : PEd X o to) (hi : PEd X i ti)
    (ha : ∀ v, assign (.Subscript o i tpos) X.env v = (do
      let ov ← holding [v] (eval o X.env)
      let iv ← holding [v, ov] (eval i X.env)
      standAt tpos
      holding [v, ov, iv] (setItem ov iv v)
      release [v, ov, iv] []) := by intro _; rfl) : PGG X (.Subscript o i tpos) (gdIx to ti) := by
  refine ⟨_, pg_sub ho hi (set_both hu) ha, fun ρ M E σ H d v Qd Q S R r xo q k => ⟨ρ, M, E, _, S, R, q, xo σ, fun vx x M1 H1 e1 R1 r1 q1 => ⟨ρ, M1, E, _, S.ev e1, R1, q1, (xo σ).later e1, fun vk kx M2 H2 e2 R2 r2 q2 => ?_⟩⟩⟩
  exact set_lift R2 (r1.ev e2) r2 (r.ev (e1.trans e2)) q2 fun M' H' e' R' q' => k ρ σ M' H' ((e1.trans e2).trans e') (S.ev ((e1.trans e2).trans e')) R' q'
theorem ds_asgG {tg : Expr} {g : GD} (he : PEd X e te) (hg : PGG X tg g) (hs : swapsWithSole [tg] e pos.line X.env = pure false := by rfl) (hw : swappedStores [tg] e X.env = pure none := by rfl) (h1 : (assignEach [tg] X.env).map (·.2) = [assign tg X.env] := by rfl) :
    PSd X (.Assign [tg] e pos) (dAsgG te g) := by
  obtain ⟨r, p, kk⟩ := hg
  exact psI (ps_asg he p hs hw h1) fun D σ H ⟨ρ, M, De, S, R, q, k⟩ => ⟨ρ, M, _, _, S, R, q, k.xok S, fun v d M1 H1 e1 R1 r1 q1 => kk ρ M1 noX σ H1 d v _ _ (S.ev e1) R1 r1 (fun _ => .no) q1 fun ρ' σ' M' H' e' S' R' q' => k.nx σ' H' ρ' M' (e1.trans e') S' R' q'⟩
theorem ds_par3 {i j l : Nat} {x y z : Str} {a b c : Expr} {t : DA} {px py pz pt : Pos} {kt k2 pt2} (hc : X.calm = true) (hN : X.N.Nodup) (ha : PAd X [a, b, c] t) (hi : X.N[i]? = some x := by rfl) (hj : X.N[j]? = some y := by rfl) (hl : X.N[l]? = some z := by rfl) (hij : i ≠ j := by decide) (hil : i ≠ l := by decide) (hjl : j ≠ l := by decide)
    (hx : X.env.scope.names.lookup x = some .local := by rfl) (hy : X.env.scope.names.lookup y = some .local := by rfl) (hz : X.env.scope.names.lookup z = some .local := by rfl)
    (hw : swappedStores [.Tuple [.Name x px, .Name y py, .Name z pz] kt pt] (.Tuple [a, b, c] k2 pt2) X.env = pure (some [x, y, z]) := by rfl)
    (hs : swapsWithSole [.Tuple [.Name x px, .Name y py, .Name z pz] kt pt] (.Tuple [a, b, c] k2 pt2) pos.line X.env = pure false := by rfl) :
    PSd X (.Assign [.Tuple [.Name x px, .Name y py, .Name z pz] kt pt] (.Tuple [a, b, c] k2 pt2) pos) (dPar3 i j l t) := psI (ps_par3 hc hN hi hj hl hij hil hjl hx hy hz ha hw hs) fun D σ H ⟨ρ, M, De, S, R, q, k⟩ =>
  ⟨ρ, M, _, _, S, R, q, k.xok S, fun vs ds M1 H1 e1 R1 r1 ⟨x, y, z, ed, q1⟩ => by
    subst ed
    obtain ⟨u, r, eu, ru, r2⟩ := r1
    subst eu
    obtain ⟨v, w, ev, rv, rw'⟩ := r2.two'
    subst ev
    exact ⟨u, v, w, rfl, k.nx _ H1 _ M1 e1 ((((S.ev e1).set ru).set rv).set rw') R1 q1⟩⟩
/-! ### dicts whose keys are tuples -/
theorem keys_vals {K : PySem.W.Frag} {M : MB} {H : Hp} : ∀ {ds : List DM.D} {vs : List V} {ks : List Key}, Reps K M H ds vs → keysD ds = some ks → vs = ks.map kV
  | [], _, _, r, e => by cases r; cases e; rfl
  | d :: ds, _, ks, ⟨v, r, ev, h1, h2⟩, e => by
    subst ev
    unfold keysD at e
    cases e1 : d.key with
    | none => simp [e1] at e
    | some k =>
      cases e2 : keysD ds with
      | none => simp [e1, e2] at e
      | some ks' =>
        simp [e1, e2] at e
        subst e
        rw [List.map_cons, ← keys_vals h2 e2, key_rep e1 h1]
theorem dit_ref {M : MH} {x : DM.D} {l : List (List Key × DM.D)} (h : ditD M x = some l) : ∃ p, x = .ref p ∧ M[p]? = some (some (.dit l)) := by
  cases x with
  | ref k =>
    refine ⟨k, rfl, ?_⟩
    have h' : (match M[k]? with
      | some (some (.dit l)) => some l
      | _ => none) = some l := h
    split at h'
    · cases h'; assumption
    · cases h'
  | _ => cases h
theorem dit_at {M : MB} {H : Hp} {x : DM.D} {v : V} {l : List (List Key × DM.D)} (R : MR X.K X.mg M H) (r : Rep X.K M H x v) (h : ditD M.m x = some l) : ∃ p a ks, x = .ref p ∧ M.m[p]? = some (some (.dit l)) ∧ M.i[p]? = some a ∧ v = .ref a ∧ H a = some (.dT ks) ∧ RepKV X.K M H l ks := by
  obtain ⟨p, e, hm⟩ := dit_ref h
  subst e
  obtain ⟨a, ha, ev⟩ := r
  obtain ⟨ks, h1, h2⟩ := R.at_ _ _ _ ha hm
  exact ⟨p, a, ks, rfl, hm, ha, ev, h1, h2⟩
variable {tA : DA} {x1 : Nat} {p1 : Pos}
theorem de_dicT : PEd X (.Dict [] [] pos) dDicT := peI (pe_frz pe_dnewT) fun σ H Q ⟨ρ, M, E, Qd, S, R, q, xo, k⟩ => fun p n =>
  mkD.new R n trivial (o := .dit []) ⟨[], upd_same, rfl⟩ q k
theorem de_ixT (hu : X.A.units + 1 < cLine) (ho : PEd X o to) (ha : PAd X es tA) (hs : NoSl (.Tuple es x1 p1) := by exact fun _ _ => rfl) : PEd X (.Subscript o (.Tuple es x1 p1) pos) (dItemT to tA) :=
  peI (pe_dget hu ho (pe_tup ha) hs) fun σ H Q ⟨ρ, M, E, Qd, S, R, q, xo, k⟩ => ⟨ρ, M, E, _, S, R, q, xo, fun v d M1 H1 e1 R1 r1 q1 => ⟨ρ, M1, E, _, S.ev e1, R1, q1, xo.later e1, fun vs ds M2 H2 e2 R2 r2 ⟨z, l, ks, hl, hk, d', hd, q2⟩ => ⟨by rw [← r2.len]; exact z, fun p n => by
    obtain ⟨i, a, kv, ex, hm, hi, ev, hH, rk⟩ := dit_at R2 (r1.ev e2) hl
    subst ev
    obtain ⟨u, hu', ru⟩ := (RepKV.val (k := ks) rk).1 d' hd
    have ne : a ≠ p := fun z => by subst z; rw [hH] at n; cases n
    refine ⟨a, u, rfl, ?_, k u d' M2 _ ((e1.trans e2).trans (.new n)) (R2.new n) (ru.ev (Ev.new (M := M2) n)) q2⟩
    rw [← hu']
    exact .t (by rw [upd_ne ne]; exact hH) (by rw [upd_same, keys_vals r2 hk])⟩⟩⟩
/-- what is there, seen behind a later moment -/
theorem dget_T {M1 M2 : MB} {H1 H2 : Hp} {x : DM.D} {v : V} {p : Addr} {vs : List V} {ds : List DM.D} {l : List (List Key × DM.D)} {ks : List Key} (hp : H1 p = some (.tup vs)) (r2 : Reps X.K M1 H1 ds vs) (e : Ev M1 H1 M2 H2) (R : MR X.K X.mg M2 H2) (r : Rep X.K M2 H2 x v) (hl : ditD M2.m x = some l) (hk : keysD ds = some ks) :
    ∃ a o, v = .ref a ∧ DGet H2 a (.ref p) o ∧ o.isSome = (lookD l ks).isSome ∧ ∀ z u, Rep X.K M2 H2 z u → Rep X.K M2 H2 ((lookD l ks).getD z) (o.getD u) := by
  obtain ⟨i, a, kv, ex, hm, hi, ev, hH, rk⟩ := dit_at R r hl
  have hp2 := e.tup _ _ hp
  rw [keys_vals r2 hk] at hp2
  refine ⟨a, valV kv ks, ev, .t hH hp2, ?_⟩
  cases hd : lookD l ks with
  | none => rw [(RepKV.val (k := ks) rk).2 hd]; exact ⟨rfl, fun z u r => r⟩
  | some d =>
    obtain ⟨u, hu, ru⟩ := (RepKV.val (k := ks) rk).1 d hd
    rw [hu]; exact ⟨rfl, fun _ _ _ => ru⟩
theorem lift_inT (σ : L2.St) (H : Hp) (Q : VK) : LE X (dInT false tA to) σ H Q → tDIn (L2.tTup (LA X tA)) (LE X to) σ H Q := fun ⟨ρ, M, E, Qd, S, R, q, xo, k⟩ =>
  ⟨ρ, M, E, _, S, R, q, xo, fun vs ds M1 H1 e1 R1 r1 ⟨z, q1⟩ => ⟨by rw [← r1.len]; exact z, fun p n => ⟨ρ, M1, E, _, (S.ev e1).ev (Ev.new n), R1.new n, q1, (xo.later e1).later (Ev.new n), fun v d M2 H2 e2 R2 r2 ⟨l, ks, hl, hk, q2⟩ => by
    obtain ⟨a, o, ev, g, es, _⟩ := dget_T upd_same (r1.ev (Ev.new (M := M1) n)) e2 R2 r2 hl hk
    exact ⟨a, o, ev, g, k _ (.bl ((lookD l ks).isSome != false)) M2 H2 ((e1.trans (.new n)).trans e2) R2 (by rw [es]; simp [Rep]) q2⟩⟩⟩⟩
theorem lift_notinT (σ : L2.St) (H : Hp) (Q : VK) : LE X (dInT true tA to) σ H Q → tDNotIn (L2.tTup (LA X tA)) (LE X to) σ H Q := fun ⟨ρ, M, E, Qd, S, R, q, xo, k⟩ =>
  ⟨ρ, M, E, _, S, R, q, xo, fun vs ds M1 H1 e1 R1 r1 ⟨z, q1⟩ => ⟨by rw [← r1.len]; exact z, fun p n => ⟨ρ, M1, E, _, (S.ev e1).ev (Ev.new n), R1.new n, q1, (xo.later e1).later (Ev.new n), fun v d M2 H2 e2 R2 r2 ⟨l, ks, hl, hk, q2⟩ => by
    obtain ⟨a, o, ev, g, es, _⟩ := dget_T upd_same (r1.ev (Ev.new (M := M1) n)) e2 R2 r2 hl hk
    exact ⟨a, o, ev, g, k _ (.bl ((lookD l ks).isSome != true)) M2 H2 ((e1.trans (.new n)).trans e2) R2 (by rw [es]; simp [Rep]) q2⟩⟩⟩⟩
theorem de_inT (hu : X.A.units + 1 < cLine) (ha : PAd X es tA) (ho : PEd X o to) (hm : behindInMarks .In o = false := by first | exact nomark _ | rfl) : PEd X (.Compare (.Tuple es x1 p1) [.In] [o] pos) (dInT false tA to) := peI (pe_cmp (pc_din hu (pe_tup ha) ho) hm) lift_inT
theorem dt_inT (hu : X.A.units + 1 < cLine) (ha : PAd X es tA) (ho : PEd X o to) (hm : behindInMarks .In o = false := by first | exact nomark _ | rfl) : PTd X (.Compare (.Tuple es x1 p1) [.In] [o] pos) (dTest (dInT false tA to)) := ptI (pt_cmp (pc_din hu (pe_tup ha) ho) hm) (lift_test lift_inT)
theorem de_notinT (hu : X.A.units + 1 < cLine) (ha : PAd X es tA) (ho : PEd X o to) (hm : behindInMarks .NotIn o = false := by first | exact nomark _ | rfl) : PEd X (.Compare (.Tuple es x1 p1) [.NotIn] [o] pos) (dInT true tA to) := peI (pe_cmp (pc_dnotin hu (pe_tup ha) ho) hm) lift_notinT
theorem dt_notinT (hu : X.A.units + 1 < cLine) (ha : PAd X es tA) (ho : PEd X o to) (hm : behindInMarks .NotIn o = false := by first | exact nomark _ | rfl) : PTd X (.Compare (.Tuple es x1 p1) [.NotIn] [o] pos) (dTest (dInT true tA to)) := ptI (pt_cmp (pc_dnotin hu (pe_tup ha) ho) hm) (lift_test lift_notinT)
theorem de_getT2 {f : Expr} {tf : DE} {apos cpos : Pos} (hu : X.A.units + 1 < cLine) (ho : PEd X o to) (ha : PAd X es tA) (hf : PEd X f tf) (m : M2 X o "get" apos (.Tuple es x1 p1) f cpos := by exact ⟨rfl, rfl, rfl, rfl⟩) : PEd X (.Call (.Attribute o "get" apos) [.Tuple es x1 p1, f] [] cpos) (dGetT2 to tA tf) :=
  peI (pe_dget2 hu ho (pe_tup ha) hf m) fun σ H Q ⟨ρ, M, E, Qd, S, R, q, xo, k⟩ => ⟨ρ, M, E, _, S, R, q, xo, fun v d M1 H1 e1 R1 r1 ⟨⟨l0, hl0⟩, q1⟩ => by
    obtain ⟨i, a, kv, ex, hm, hi, ev, hH, rk⟩ := dit_at R1 r1 hl0
    refine ⟨a, ev, .inr ⟨kv, .inl hH⟩, ρ, M1, E, _, S.ev e1, R1, q1, xo.later e1, fun vs ds M2 H2 e2 R2 r2 ⟨z, q2⟩ => ⟨by rw [← r2.len]; exact z, fun p n => ⟨ρ, M2, E, _, (S.ev (e1.trans e2)).ev (Ev.new n), R2.new n, q2, (xo.later (e1.trans e2)).later (Ev.new n), fun w d3 M3 H3 e3 R3 r3 ⟨l, ks, hl, hk, q3⟩ => ?_⟩⟩⟩
    obtain ⟨a', o, ev', g, es, fin⟩ := dget_T upd_same (r2.ev (Ev.new (M := M2) n)) e3 R3 (((r1.ev e2).ev (Ev.new n)).ev e3) hl hk
    rw [ev] at ev'; cases ev'
    exact ⟨o, g, k _ _ M3 H3 (((e1.trans e2).trans (.new n)).trans e3) R3 (fin d3 w r3) q3⟩⟩
theorem ds_setT {tpos : Pos} (hu : X.A.units + 1 < cLine) (he : PEd X e te) (ho : PEd X o to) (ha : PAd X es tA)
    (has : ∀ v, assign (.Subscript o (.Tuple es x1 p1) tpos) X.env v = (do
      let ov ← holding [v] (eval o X.env)
      let iv ← holding [v, ov] (eval (.Tuple es x1 p1) X.env)
      standAt tpos
      holding [v, ov, iv] (setItem ov iv v)
      release [v, ov, iv] []) := by intro _; rfl)
    (hs : swapsWithSole [.Subscript o (.Tuple es x1 p1) tpos] e pos.line X.env = pure false := by rfl) (hw : swappedStores [.Subscript o (.Tuple es x1 p1) tpos] e X.env = pure none := by rfl) (h1 : (assignEach [.Subscript o (.Tuple es x1 p1) tpos] X.env).map (·.2) = [assign (.Subscript o (.Tuple es x1 p1) tpos) X.env] := by rfl) :
    PSd X (.Assign [.Subscript o (.Tuple es x1 p1) tpos] e pos) (dSetT te to tA) :=
  psI (ps_asg he (pg_sub ho (pe_tup ha) (set_dict hu) has) hs hw h1) fun D σ H ⟨ρ, M, De, S, R, q, k⟩ =>
  ⟨ρ, M, _, _, S, R, q, k.xok S, fun v d M1 H1 e1 R1 r1 q1 => ⟨ρ, M1, _, _, S.ev e1, R1, q1, (k.xok S).later e1, fun w d2 M2 H2 e2 R2 r2 q2 => ⟨ρ, M2, _, _, S.ev (e1.trans e2), R2, q2, (k.xok S).later (e1.trans e2), fun vs ds M3 H3 e3 R3 r3 ⟨z, pp, ex, l, ks, hl, hk, hz, q3⟩ => ⟨by rw [← r3.len]; exact z, fun p n => by
    obtain ⟨i, a, kv, ex', hm, hi, ev, hH, rk⟩ := dit_at R3 (r2.ev e3) hl
    rw [ex] at ex'; cases ex'
    have ne : a ≠ p := fun z => by subst z; rw [hH] at n; cases n
    have hH2 : upd H3 p (.tup vs) a = some (.dT kv) := by rw [upd_ne ne]; exact hH
    have E := Ev.put (M := M3) (H := upd H3 p (.tup vs)) (k := pp) (v := some (.dit (putD l ks d))) (u := .dT (putK kv ks v)) hi hH2 trivial
    have rd : Rep X.K M3 (upd H3 p (.tup vs)) d v := ((r1.ev e2).ev e3).ev (Ev.new (M := M3) n)
    have rk2 : RepKV X.K M3 (upd H3 p (.tup vs)) l kv := rk.ev (Ev.new (M := M3) n)
    refine ⟨a, _, ev, .t hH2 (by rw [upd_same, keys_vals r3 hk]) (by rw [← kv_length rk]; exact hz), ?_⟩
    have e4 := (((e1.trans e2).trans e3).trans (Ev.new (M := M3) n)).trans E
    exact k.nx _ _ ρ (M3.put pp (some (.dit (putD l ks d)))) e4 (S.ev e4) ((R3.new n).put hi hH2 trivial ⟨_, upd_same, (rk2.put rd).ev E⟩) q3⟩⟩⟩⟩
end
end DM

namespace K13
open PySem PySem.Spec L2 DM
open PyProof.Rows (envOfC)
def top (i : Nat) : Stmt := PySem.Challenge.pw_whenline_k13_chains_at_the_limits.main.body.getD i (.Pass ⟨0, 0, 0, 0⟩)

-- keep: _law_best_sums
abbrev sp_f_law_pen : SpD := pPen
abbrev sp_f_law_fresh : SpD := pFresh
abbrev sp_f_law_draw : SpD := pDraw

/-! ### greatest sums: relaxing edges in rounds. Plain. -/
abbrev Ed := Nat × Nat × Int
abbrev AL (α : Type) := List (Nat × α)
def AL.gt {α : Type} (S : AL α) (k : Nat) : Option α := (S.find? fun p => decide (p.1 = k)).map (·.2)
def AL.pt {α : Type} (S : AL α) (k : Nat) (v : α) : AL α := if S.any (fun p => decide (p.1 = k)) then S.map (fun p => if p.1 = k then (p.1, v) else p) else S ++ [(k, v)]
theorem gt_cons {α : Type} {S : AL α} {p : Nat × α} {j : Nat} : AL.gt (p :: S) j = if p.1 = j then some p.2 else S.gt j := by
  unfold AL.gt
  by_cases h : p.1 = j <;> simp [List.find?_cons, h]
theorem gt_app {α : Type} {S : AL α} {p : Nat × α} {j : Nat} : AL.gt (S ++ [p]) j = (S.gt j).or (if p.1 = j then some p.2 else none) := by
  induction S with
  | nil => simp [gt_cons, AL.gt]
  | cons q S ih => rw [List.cons_append, gt_cons, gt_cons, ih]; split <;> simp
theorem gt_pt {α : Type} {S : AL α} {k j : Nat} {v : α} : (S.pt k v).gt j = if j = k then some v else S.gt j := by
  have h1 : ∀ S : AL α, (S.any fun p => decide (p.1 = k)) = true → AL.gt (S.map fun p => if p.1 = k then (p.1, v) else p) j = if j = k then some v else S.gt j := by
    intro S
    induction S with
    | nil => intro h; cases h
    | cons q S ih =>
      intro h
      rw [List.map_cons, gt_cons, gt_cons]
      by_cases hq : q.1 = k
      · simp only [hq, if_true]
        by_cases hj : j = k
        · simp [hj]
        · have hkj : ¬k = j := fun e => hj e.symm
          simp only [hkj, hj, if_false]
          clear ih h
          induction S with
          | nil => rfl
          | cons r S ih2 =>
            rw [List.map_cons, gt_cons, gt_cons, ih2]
            by_cases hr : r.1 = k
            · simp [hr, hkj]
            · simp [hr]
      · have h2 : (S.any fun p => decide (p.1 = k)) = true := by simpa [hq] using h
        rw [ih h2]
        simp only [hq, if_false]
        by_cases hj : q.1 = j
        · have : ¬j = k := fun e => hq (hj.trans e)
          simp [hj, this]
        · simp [hj]
  unfold AL.pt
  split
  · rename_i h; exact h1 S h
  · rename_i h
    rw [gt_app]
    by_cases hj : j = k
    · subst hj
      have : S.gt j = none := by
        unfold AL.gt
        rw [List.find?_eq_none.mpr]
        · rfl
        · intro p hp e
          exact h (List.any_eq_true.mpr ⟨p, hp, e⟩)
      simp [this]
    · have : ¬k = j := fun e => hj e.symm
      simp [this, hj]
theorem pt_len {α : Type} {S : AL α} {k : Nat} {v : α} : (S.pt k v).length ≤ S.length + 1 := by
  unfold AL.pt
  split <;> simp
structure CSt where
  s : AL Int
  l : AL Nat
  g : Option Nat
/-- one edge looked at -/
def relax (i : Nat) (e : Ed) (σ : CSt) : CSt := match σ.s.gt e.1 with
  | none => σ
  | some x => if (match σ.s.gt e.2.1 with | none => true | some y => decide (y < x + e.2.2)) then ⟨σ.s.pt e.2.1 (x + e.2.2), σ.l.pt e.2.1 i, some e.2.1⟩ else σ
def relaxs : List Ed → Nat → CSt → CSt
  | [], _, σ => σ
  | e :: r, i, σ => relaxs r (i + 1) (relax i e σ)
/-- a round -/
def pass (E : List Ed) (σ : CSt) : CSt := relaxs E 0 { σ with g := none }
def rounds (E : List Ed) : Nat → CSt → CSt
  | 0, σ => σ
  | k + 1, σ => pass E (rounds E k σ)
theorem relaxs_app {r t : List Ed} : ∀ {i : Nat} {σ : CSt}, relaxs (r ++ t) i σ = relaxs t (i + r.length) (relaxs r i σ) := by
  induction r with
  | nil => intro i σ; rfl
  | cons e r ih => intro i σ; simp only [List.cons_append, relaxs, ih, List.length_cons]; congr 1; omega
/-- what a look at an edge does -/
theorem relax_cases {i : Nat} {a b : Nat} {w : Int} {σ : CSt} : (relax i (a, b, w) σ = σ ∧ ∀ x, σ.s.gt a = some x → ∃ y, σ.s.gt b = some y ∧ x + w ≤ y) ∨
    ∃ x, σ.s.gt a = some x ∧ (∀ y, σ.s.gt b = some y → y < x + w) ∧ relax i (a, b, w) σ = ⟨σ.s.pt b (x + w), σ.l.pt b i, some b⟩ := by
  unfold relax
  cases ha : σ.s.gt a with
  | none => left; simp [ha]
  | some x =>
    cases hb : σ.s.gt b with
    | none => right; exact ⟨x, rfl, fun y h => (nomatch h), by simp [ha, hb]⟩
    | some y =>
      by_cases h : y < x + w
      · right; exact ⟨x, rfl, fun z e => by cases e; exact h, by simp [ha, hb, h]⟩
      · left; refine ⟨by simp [ha, hb, h], fun z e => ?_⟩
        cases e
        exact ⟨y, rfl, by omega⟩
/-- sums grow -/
def Gr (S T : AL Int) : Prop := ∀ v x, S.gt v = some x → ∃ y, T.gt v = some y ∧ x ≤ y
theorem Gr.rfl {S : AL Int} : Gr S S := fun v x h => ⟨x, h, Int.le_refl _⟩
theorem Gr.trans {S T U : AL Int} (h : Gr S T) (g : Gr T U) : Gr S U := fun v x e => by
  obtain ⟨y, e1, l1⟩ := h v x e
  obtain ⟨z, e2, l2⟩ := g v y e1
  exact ⟨z, e2, Int.le_trans l1 l2⟩
theorem relax_gr {i : Nat} {e : Ed} {σ : CSt} : Gr σ.s (relax i e σ).s := by
  obtain ⟨a, b, w⟩ := e
  rcases relax_cases (i := i) (a := a) (b := b) (w := w) (σ := σ) with ⟨h, _⟩ | ⟨x, h1, h2, h3⟩
  · rw [h]; exact .rfl
  · rw [h3]
    intro v y hv
    show ∃ z, (σ.s.pt b (x + w)).gt v = some z ∧ y ≤ z
    rw [gt_pt]
    by_cases hb : v = b
    · subst hb; rw [if_pos rfl]; exact ⟨_, rfl, Int.le_of_lt (h2 y hv)⟩
    · rw [if_neg hb]; exact ⟨y, hv, Int.le_refl _⟩
theorem relaxs_gr : ∀ {r : List Ed} {i : Nat} {σ : CSt}, Gr σ.s (relaxs r i σ).s
  | [], _, _ => .rfl
  | _ :: r, _, _ => relax_gr.trans (relaxs_gr (r := r))
/-- an edge of the round is served by its end -/
theorem relaxs_edge {a b : Nat} {w : Int} : ∀ {r : List Ed} {i : Nat} {σ : CSt}, (a, b, w) ∈ r → ∀ x, σ.s.gt a = some x → ∃ y, (relaxs r i σ).s.gt b = some y ∧ x + w ≤ y
  | e :: r, i, σ, h, x, hx => by
    rcases List.mem_cons.mp h with h | h
    · subst h
      have h1 : ∃ y, (relax i (a, b, w) σ).s.gt b = some y ∧ x + w ≤ y := by
        rcases relax_cases (i := i) (a := a) (b := b) (w := w) (σ := σ) with ⟨h, h2⟩ | ⟨z, h1, h2, h3⟩
        · rw [h]; exact h2 x hx
        · rw [h3]
          rw [hx] at h1; cases h1
          exact ⟨_, by show (σ.s.pt b (x + w)).gt b = _; rw [gt_pt, if_pos rfl], Int.le_refl _⟩
      obtain ⟨y, h2, h3⟩ := h1
      obtain ⟨z, h4, h5⟩ := relaxs_gr (r := r) (i := i + 1) b y h2
      exact ⟨z, h4, Int.le_trans h3 h5⟩
    · obtain ⟨y, h1, h2⟩ := relax_gr (i := i) (e := e) a x hx
      obtain ⟨z, h3, h4⟩ := relaxs_edge (i := i + 1) h y h1
      exact ⟨z, h3, by omega⟩
/-- a round without growth: nothing changed, every edge is served -/
theorem relaxs_none : ∀ {r : List Ed} {i : Nat} {σ : CSt}, (relaxs r i σ).g = none → relaxs r i σ = σ ∧ ∀ a b w, (a, b, w) ∈ r → ∀ x, σ.s.gt a = some x → ∃ y, σ.s.gt b = some y ∧ x + w ≤ y
  | [], _, _, _ => ⟨rfl, fun _ _ _ h => nomatch h⟩
  | (a, b, w) :: r, i, σ, h => by
    obtain ⟨h1, h2⟩ := relaxs_none (r := r) (i := i + 1) (σ := relax i (a, b, w) σ) h
    rcases relax_cases (i := i) (a := a) (b := b) (w := w) (σ := σ) with ⟨h3, h4⟩ | ⟨x, _, _, h3⟩
    · rw [h3] at h1 h2
      refine ⟨by show relaxs r (i + 1) (relax i (a, b, w) σ) = σ; rw [h3, h1], fun a' b' w' hm x hx => ?_⟩
      rcases List.mem_cons.mp hm with hm | hm
      · cases hm; exact h4 x hx
      · exact h2 a' b' w' hm x hx
    · exfalso
      have h' : (relaxs r (i + 1) (relax i (a, b, w) σ)).g = none := h
      rw [h1, h3] at h'
      cases h'
/-- the vertex told has grown -/
theorem relaxs_some {v : Nat} : ∀ {r : List Ed} {i : Nat} {σ : CSt}, (relaxs r i σ).g = some v → σ.g = some v ∨ ∃ y, (relaxs r i σ).s.gt v = some y ∧ ∀ x, σ.s.gt v = some x → x < y
  | [], _, _, h => .inl h
  | (a, b, w) :: r, i, σ, h => by
    rcases relaxs_some (r := r) (i := i + 1) (σ := relax i (a, b, w) σ) h with h1 | ⟨y, h1, h2⟩
    · rcases relax_cases (i := i) (a := a) (b := b) (w := w) (σ := σ) with ⟨h3, _⟩ | ⟨x, h4, h5, h3⟩
      · rw [h3] at h1; exact .inl h1
      · right
        rw [h3] at h1
        obtain rfl : b = v := Option.some.inj h1
        have h6 : (relax i (a, b, w) σ).s.gt b = some (x + w) := by rw [h3]; show (σ.s.pt b (x + w)).gt b = _; rw [gt_pt, if_pos rfl]
        obtain ⟨z, h7, h8⟩ := relaxs_gr (r := r) (i := i + 1) b _ h6
        exact ⟨z, h7, fun y hy => by have := h5 y hy; omega⟩
    · right
      refine ⟨y, h1, fun x hx => ?_⟩
      obtain ⟨z, h3, h4⟩ := relax_gr (i := i) (e := (a, b, w)) v x hx
      have := h2 z h3
      omega
/-! walks -/
/-- a walk from u to v over the edges -/
inductive Wk1 (E : List Ed) : Nat → Nat → Int → Nat → Prop
  | nil {v : Nat} : Wk1 E v v 0 0
  | snoc {u a b : Nat} {t w : Int} {n : Nat} : Wk1 E u a t n → (a, b, w) ∈ E → Wk1 E u b (t + w) (n + 1)
/-- every walk of at most j edges from a start is served -/
theorem rounds_walk {E : List Ed} {σ : CSt} {u v : Nat} {t : Int} {n : Nat} (h : Wk1 E u v t n) : ∀ {j : Nat}, n ≤ j → ∀ x, σ.s.gt u = some x → ∃ y, (rounds E j σ).s.gt v = some y ∧ x + t ≤ y := by
  have gr : ∀ j, Gr (rounds E j σ).s (rounds E (j + 1) σ).s := fun j => relaxs_gr (r := E) (i := 0) (σ := { rounds E j σ with g := none })
  induction h with
  | nil =>
    intro j _ x hx
    induction j with
    | zero => exact ⟨x, hx, by omega⟩
    | succ j ih =>
      obtain ⟨y, h1, h2⟩ := ih (Nat.zero_le _)
      obtain ⟨z, h3, h4⟩ := gr j _ y h1
      exact ⟨z, h3, by omega⟩
  | snoc h1 hm ih =>
    intro j hj x hx
    cases j with
    | zero => omega
    | succ j =>
      obtain ⟨y, h2, h3⟩ := ih (Nat.le_of_succ_le_succ hj) x hx
      obtain ⟨z, h4, h5⟩ := relaxs_edge (i := 0) (σ := { rounds E j σ with g := none }) hm y h2
      exact ⟨z, h4, by omega⟩
/-! the way back -/
/-- from v back to u over the last edges: their numbers -/
inductive Bk (E : List Ed) (L : AL Nat) : Nat → List Nat → Nat → Int → Prop
  | nil {v : Nat} : Bk E L v [] v 0
  | cons {v p u i : Nat} {w t : Int} {is : List Nat} : L.gt v = some i → E[i]? = some (p, v, w) → Bk E L p is u t → Bk E L v (i :: is) u (w + t)
theorem Bk.app {E : List Ed} {L : AL Nat} {v u z : Nat} {is js : List Nat} {t t' : Int} (h : Bk E L v is u t) (g : Bk E L u js z t') : Bk E L v (is ++ js) z (t + t') := by
  induction h with
  | nil => simpa using g
  | cons h1 h2 _ ih => have := Bk.cons h1 h2 (ih g); rw [Int.add_assoc]; exact this
/-- what holds between two looks -/
structure Ok1 (E : List Ed) (S0 : AL Int) (σ : CSt) : Prop where
  last : ∀ v i, σ.l.gt v = some i → ∃ p w x y, E[i]? = some (p, v, w) ∧ σ.s.gt p = some x ∧ σ.s.gt v = some y ∧ y ≤ x + w
  first : ∀ v y, σ.s.gt v = some y → σ.l.gt v = none → S0.gt v = some y
  cyc : ∀ v is t, Bk E σ.l v is v t → is ≠ [] → 0 < t
theorem Ok1.tele {E : List Ed} {S0 : AL Int} {σ : CSt} (h : Ok1 E S0 σ) {v u : Nat} {is : List Nat} {t : Int} (b : Bk E σ.l v is u t) : ∀ y, σ.s.gt v = some y → ∃ x, σ.s.gt u = some x ∧ y ≤ x + t := by
  induction b with
  | nil => intro y hy; exact ⟨y, hy, by omega⟩
  | cons h1 h2 _ ih =>
    intro y hy
    obtain ⟨p, w, x, y', e1, e2, e3, e4⟩ := h.last _ _ h1
    rw [h2] at e1; cases e1
    rw [hy] at e3; cases e3
    obtain ⟨z, h3, h4⟩ := ih x e2
    exact ⟨z, h3, by omega⟩
theorem bk_split {E : List Ed} {L : AL Nat} {b i : Nat} {v u : Nat} {is : List Nat} {t : Int} (h : Bk E (L.pt b i) v is u t) :
    Bk E L v is u t ∨ ∃ is1 is2 t1 t2, Bk E L v is1 b t1 ∧ Bk E (L.pt b i) v is1 b t1 ∧ Bk E (L.pt b i) b is2 u t2 ∧ is2 ≠ [] ∧ is2.length ≤ is.length ∧ t = t1 + t2 := by
  induction h with
  | nil => exact .inl .nil
  | @cons v p u j w t is h1 h2 h3 ih =>
    by_cases hv : v = b
    · subst hv
      exact .inr ⟨[], j :: is, 0, w + t, .nil, .nil, .cons h1 h2 h3, by simp, Nat.le_refl _, by omega⟩
    · have h1' : L.gt v = some j := by rw [gt_pt, if_neg hv] at h1; exact h1
      rcases ih with ih | ⟨is1, is2, t1, t2, a1, a2, a3, a4, a5, a6⟩
      · exact .inl (.cons h1' h2 ih)
      · exact .inr ⟨j :: is1, is2, w + t1, t2, .cons h1' h2 a1, .cons h1 h2 a2, a3, a4, by simp; omega, by omega⟩
theorem ok1_relax {E : List Ed} {S0 : AL Int} {σ : CSt} {i a b : Nat} {w : Int} (h : Ok1 E S0 σ) (hi : E[i]? = some (a, b, w)) : Ok1 E S0 (relax i (a, b, w) σ) := by
  rcases relax_cases (i := i) (a := a) (b := b) (w := w) (σ := σ) with ⟨h1, _⟩ | ⟨x, hx, hb, h1⟩
  · rw [h1]; exact h
  · rw [h1]
    have sg : ∀ v, (σ.s.pt b (x + w)).gt v = if v = b then some (x + w) else σ.s.gt v := fun v => gt_pt
    have lg : ∀ v, (σ.l.pt b i).gt v = if v = b then some i else σ.l.gt v := fun v => gt_pt
    have up : ∀ v z, σ.s.gt v = some z → ∃ z', (σ.s.pt b (x + w)).gt v = some z' ∧ z ≤ z' := fun v z hz => by
      rw [sg]
      by_cases hv : v = b
      · subst hv; rw [if_pos rfl]; exact ⟨_, rfl, Int.le_of_lt (hb z hz)⟩
      · rw [if_neg hv]; exact ⟨z, hz, Int.le_refl _⟩
    -- from a back to b, by old last edges
    have bb : ∀ js t1, Bk E σ.l a js b t1 → 0 < w + t1 := fun js t1 hb1 => by
      obtain ⟨z, h2, h3⟩ := h.tele hb1 x hx
      have := hb z h2
      omega
    have atb : ∀ n, ∀ is t, is.length ≤ n → Bk E (σ.l.pt b i) b is b t → is ≠ [] → 0 < t := by
      intro n
      induction n with
      | zero => intro is t hl _ hn; exact absurd (List.length_eq_zero_iff.mp (by omega)) hn
      | succ n ih =>
        intro is t hl hbk hn
        cases hbk with
        | nil => exact absurd rfl hn
        | @cons _ p _ j w' t' js h2 h3 h4 =>
          rw [lg, if_pos rfl] at h2
          cases h2
          rw [hi] at h3
          cases h3
          rcases bk_split h4 with h5 | ⟨is1, is2, t1, t2, a1, a2, a3, a4, a5, a6⟩
          · exact bb _ _ h5
          · have := bb _ _ a1
            have := ih is2 t2 (by simp at hl; omega) a3 a4
            omega
    refine ⟨fun v j hj => ?_, fun v y hy hl => ?_, fun v is t hbk hn => ?_⟩
    · have hj : (σ.l.pt b i).gt v = some j := hj
      rw [lg] at hj
      by_cases hv : v = b
      · subst hv
        rw [if_pos rfl] at hj
        cases hj
        by_cases ha : a = v
        · subst ha
          have := hb x hx
          exact ⟨a, w, x + w, x + w, hi, by show (σ.s.pt a (x + w)).gt a = _; rw [sg, if_pos rfl], by show (σ.s.pt a (x + w)).gt a = _; rw [sg, if_pos rfl], by omega⟩
        · exact ⟨a, w, x, x + w, hi, by show (σ.s.pt v (x + w)).gt a = _; rw [sg, if_neg ha]; exact hx, by show (σ.s.pt v (x + w)).gt v = _; rw [sg, if_pos rfl], Int.le_refl _⟩
      · rw [if_neg hv] at hj
        obtain ⟨p, w', x', y', e1, e2, e3, e4⟩ := h.last v j hj
        obtain ⟨z, e5, e6⟩ := up p x' e2
        exact ⟨p, w', z, y', e1, e5, by show (σ.s.pt b (x + w)).gt v = _; rw [sg, if_neg hv]; exact e3, by omega⟩
    · have hl : (σ.l.pt b i).gt v = none := hl
      have hy : (σ.s.pt b (x + w)).gt v = some y := hy
      rw [lg] at hl
      rw [sg] at hy
      by_cases hv : v = b
      · rw [if_pos hv] at hl; cases hl
      · rw [if_neg hv] at hl hy
        exact h.first v y hy hl
    · have hbk : Bk E (σ.l.pt b i) v is v t := hbk
      rcases bk_split hbk with h5 | ⟨is1, is2, t1, t2, a1, a2, a3, a4, a5, a6⟩
      · exact h.cyc v is t h5 hn
      · have := atb _ (is2 ++ is1) (t2 + t1) (Nat.le_refl _) (a3.app a2) (by simp [a4])
        omega
theorem ok1_relaxs {E : List Ed} {S0 : AL Int} : ∀ {r : List Ed} {i : Nat} {σ : CSt}, (∀ j, r[j]? = E[i + j]?) ∨ (∃ k, r = (E.drop i).take k) → Ok1 E S0 σ → Ok1 E S0 (relaxs r i σ)
  | [], _, _, _, h => h
  | e :: r, i, σ, hr, h => by
    obtain ⟨a, b, w⟩ := e
    have hi : E[i]? = some (a, b, w) := by
      rcases hr with hr | ⟨k, hr⟩
      · have := hr 0; simpa using this.symm
      · have := congrArg (fun l => l[0]?) hr
        simp at this
        cases k with
        | zero => simp at this
        | succ k => simp at this; exact this.symm
    refine ok1_relaxs (r := r) (i := i + 1) ?_ (ok1_relax h hi)
    rcases hr with hr | ⟨k, hr⟩
    · left; intro j
      have := hr (j + 1)
      rw [List.getElem?_cons_succ] at this
      rw [this]; congr 1; omega
    · right
      cases k with
      | zero => simp at hr
      | succ k =>
        refine ⟨k, ?_⟩
        have hd : E.drop i = (a, b, w) :: E.drop (i + 1) := by
          obtain ⟨hl, he⟩ := List.getElem?_eq_some_iff.mp hi
          rw [← he]; exact List.drop_eq_getElem_cons hl
        rw [hd, List.take_succ_cons] at hr
        exact (List.cons.inj hr).2
theorem ok1_pass {E : List Ed} {S0 : AL Int} {σ : CSt} (h : Ok1 E S0 σ) : Ok1 E S0 (pass E σ) := ok1_relaxs (.inl fun j => by rw [Nat.zero_add]) ⟨h.last, h.first, h.cyc⟩
def start (S0 : AL Int) : CSt := ⟨S0, [], none⟩
theorem ok1_start {E : List Ed} {S0 : AL Int} : Ok1 E S0 (start S0) := by
  refine ⟨fun v i h => ?_, fun v y h _ => h, fun v is t h hn => ?_⟩
  · cases h
  · cases h with
    | nil => exact absurd rfl hn
    | cons h1 _ _ => cases h1
theorem ok1_rounds {E : List Ed} {S0 : AL Int} : ∀ k, Ok1 E S0 (rounds E k (start S0))
  | 0 => ok1_start
  | k + 1 => ok1_pass (ok1_rounds k)
/-! the way back, step by step -/
theorem bk_det {E : List Ed} {L : AL Nat} {v u z : Nat} {is js : List Nat} {t t' : Int} (h : Bk E L v is u t) (g : Bk E L v js z t') (hu : L.gt u = none) (hz : L.gt z = none) : is.length = js.length := by
  induction h generalizing js t' with
  | nil =>
    cases g with
    | nil => rfl
    | cons h1 _ _ => rw [hu] at h1; cases h1
  | cons h1 h2 _ ih =>
    cases g with
    | nil => rw [hz] at h1; cases h1
    | cons g1 g2 g3 =>
      rw [h1] at g1; cases g1
      rw [h2] at g2; cases g2
      simp [ih g3 hu]
theorem bk_walk {E : List Ed} {L : AL Nat} {v u : Nat} {is : List Nat} {t : Int} (h : Bk E L v is u t) : Wk1 E u v t is.length := by
  induction h with
  | nil => exact .nil
  | cons _ h2 _ ih =>
    have := Wk1.snoc ih (List.mem_of_getElem? h2)
    rw [Int.add_comm]; exact this
/-- the vertex k steps back -/
def par (E : List Ed) (L : AL Nat) (v : Nat) : Nat := match L.gt v with
  | some i => (E.getD i (v, v, 0)).1
  | none => v
def itp (E : List Ed) (L : AL Nat) : Nat → Nat → Nat
  | 0, v => v
  | k + 1, v => par E L (itp E L k v)
theorem itp_add {E : List Ed} {L : AL Nat} {v : Nat} {i : Nat} : ∀ j, itp E L (i + j) v = itp E L j (itp E L i v)
  | 0 => rfl
  | j + 1 => by show par E L (itp E L (i + j) v) = par E L (itp E L j (itp E L i v)); rw [itp_add j]
/-- as long as none of them is a first one, there is the way -/
theorem bk_to {E : List Ed} {S0 : AL Int} {σ : CSt} (h : Ok1 E S0 σ) {v : Nat} : ∀ {k : Nat}, (∀ j < k, σ.l.gt (itp E σ.l j v) ≠ none) → ∃ is t, is.length = k ∧ Bk E σ.l v is (itp E σ.l k v) t
  | 0, _ => ⟨[], 0, rfl, .nil⟩
  | k + 1, hk => by
    obtain ⟨is, t, h1, h2⟩ := bk_to h (k := k) fun j hj => hk j (by omega)
    cases e : σ.l.gt (itp E σ.l k v) with
    | none => exact absurd e (hk k (by omega))
    | some i =>
      obtain ⟨p, w, x, y, e1, _⟩ := h.last _ i e
      have : itp E σ.l (k + 1) v = p := by
        show par E σ.l (itp E σ.l k v) = p
        unfold par
        rw [e]
        simp [List.getD, e1]
      rw [this]
      exact ⟨is ++ [i], t + (w + 0), by simp [h1], h2.app (.cons e e1 .nil)⟩
/-- two of more than n numbers below n are the same -/
theorem pigeon {n : Nat} {f : Nat → Nat} (h : ∀ k ≤ n, f k < n) : ∃ i j, i < j ∧ j ≤ n ∧ f i = f j := by
  induction n generalizing f with
  | zero => exact absurd (h 0 (Nat.le_refl _)) (by omega)
  | succ n ih =>
    by_cases hx : ∃ i, i ≤ n ∧ f i = f (n + 1)
    · obtain ⟨i, h1, h2⟩ := hx
      exact ⟨i, n + 1, by omega, Nat.le_refl _, h2⟩
    · have hne : ∀ i ≤ n, f i ≠ f (n + 1) := fun i hi e => hx ⟨i, hi, e⟩
      have hl : f (n + 1) < n + 1 := h (n + 1) (Nat.le_refl _)
      obtain ⟨i, j, h1, h2, h3⟩ := ih (f := fun k => if f k = n then f (n + 1) else f k) fun k hk => by
        have h4 := h k (by omega)
        have h5 := hne k hk
        show (if f k = n then f (n + 1) else f k) < n
        by_cases hk2 : f k = n
        · rw [if_pos hk2]; omega
        · rw [if_neg hk2]; omega
      refine ⟨i, j, h1, by omega, ?_⟩
      have hi := hne i (by omega)
      have hj := hne j h2
      have h3 : (if f i = n then f (n + 1) else f i) = if f j = n then f (n + 1) else f j := h3
      by_cases e1 : f i = n
      · by_cases e2 : f j = n
        · rw [e1, e2]
        · rw [if_pos e1, if_neg e2] at h3; exact absurd h3.symm hj
      · by_cases e2 : f j = n
        · rw [if_neg e1, if_pos e2] at h3; exact absurd h3 hi
        · rw [if_neg e1, if_neg e2] at h3; exact h3
/-- all vertices are below n -/
def Below (n : Nat) (E : List Ed) : Prop := ∀ e ∈ E, e.1 < n ∧ e.2.1 < n
theorem par_lt {n : Nat} {E : List Ed} {L : AL Nat} {v : Nat} (hE : Below n E) (hv : v < n) : par E L v < n := by
  unfold par
  cases L.gt v with
  | none => exact hv
  | some i =>
    show (E.getD i (v, v, 0)).1 < n
    cases e : E[i]? with
    | none => simp [List.getD, e]; exact hv
    | some x => simp [List.getD, e]; exact (hE x (List.mem_of_getElem? e)).1
theorem itp_lt {n : Nat} {E : List Ed} {L : AL Nat} {v : Nat} (hE : Below n E) (hv : v < n) : ∀ k, itp E L k v < n
  | 0 => hv
  | k + 1 => par_lt hE (itp_lt hE hv k)
/-- n rounds that all grow: from the vertex that grew last there is always a step back -/
theorem ring_steps {n : Nat} {E : List Ed} {S0 : AL Int} {v : Nat} (hn : 0 < n) (hE : Below n E) (hv : v < n) (hg : (rounds E n (start S0)).g = some v) : ∀ k, (rounds E n (start S0)).l.gt (itp E (rounds E n (start S0)).l k v) ≠ none := by
  have ok := ok1_rounds (E := E) (S0 := S0) n
  intro k
  induction k using Nat.strongRecOn with
  | ind k ih =>
    intro hr
    obtain ⟨is, t, hl, hb⟩ := bk_to ok (k := k) ih
    -- the way has at most n - 1 steps
    have hk : k < n := by
      by_cases h : k < n
      · exact h
      · exfalso
        obtain ⟨i, j, h1, h2, h3⟩ := pigeon (f := fun m => itp E (rounds E n (start S0)).l m v) fun m _ => itp_lt hE hv m
        have e1 : itp E (rounds E n (start S0)).l (i + (k - j)) v = itp E (rounds E n (start S0)).l k v := by
          rw [itp_add, show itp E (rounds E n (start S0)).l i v = itp E (rounds E n (start S0)).l j v from h3, ← itp_add]
          congr 1; omega
        exact ih (i + (k - j)) (by omega) (by rw [e1]; exact hr)
    obtain ⟨m, rfl⟩ : ∃ m, n = m + 1 := ⟨n - 1, by omega⟩
    have hs : (relaxs E 0 { rounds E m (start S0) with g := none }).g = some v := hg
    rcases relaxs_some hs with h | ⟨y, hy, hlt⟩
    · cases h
    · obtain ⟨x, hx, hxy⟩ := ok.tele hb y hy
      have hx0 := ok.first _ _ hx hr
      obtain ⟨z, hz, hzy⟩ := rounds_walk (σ := start S0) (bk_walk hb) (j := m) (by omega) x hx0
      have := hlt z hz
      omega
/-- .. and n steps back lies a vertex on a ring -/
theorem ring_at {n : Nat} {E : List Ed} {L : AL Nat} {v : Nat} (hE : Below n E) (hv : v < n) : ∃ c, 0 < c ∧ c ≤ n ∧ itp E L c (itp E L n v) = itp E L n v := by
  obtain ⟨i, j, h1, h2, h3⟩ := pigeon (f := fun m => itp E L m v) fun m _ => itp_lt hE hv m
  refine ⟨j - i, by omega, by omega, ?_⟩
  have h3 : itp E L i v = itp E L j v := h3
  have e1 : itp E L n v = itp E L (n - i) (itp E L i v) := by rw [← itp_add]; congr 1; omega
  have e2 : itp E L (n + (j - i)) v = itp E L (n - i) (itp E L j v) := by rw [← itp_add]; congr 1; omega
  rw [← itp_add, e2, ← h3, ← e1]
/-! where no ring gains -/
def Serves (E : List Ed) (S : Nat → Option Int) : Prop := ∀ a b w, (a, b, w) ∈ E → ∀ x, S a = some x → ∃ y, S b = some y ∧ x + w ≤ y
theorem bk_pot {E : List Ed} {L : AL Nat} {f : Nat → Int} (hf : ∀ a b w, (a, b, w) ∈ E → f a + w ≤ f b) {v u : Nat} {is : List Nat} {t : Int} (h : Bk E L v is u t) : f u + t ≤ f v := by
  induction h with
  | nil => omega
  | cons _ h2 _ ih => have := hf _ _ _ (List.mem_of_getElem? h2); omega
theorem bk_le {E : List Ed} {L : AL Nat} {W : Int} (hW : ∀ e ∈ E, e.2.2 ≤ W) {v u : Nat} {is : List Nat} {t : Int} (h : Bk E L v is u t) : t ≤ is.length * W := by
  induction h with
  | nil => simp
  | @cons v p u i w t is h1 h2 h3 ih =>
    have := hW _ (List.mem_of_getElem? h2)
    simp only [List.length_cons, Int.natCast_add, Int.natCast_one]
    have e : ((is.length : Int) + 1) * W = is.length * W + W := by rw [Int.add_mul, Int.one_mul]
    rw [e]
    simp at this
    omega
/-- the way back ends -/
theorem bk_root {n : Nat} {E : List Ed} {S0 : AL Int} {σ : CSt} (ok : Ok1 E S0 σ) (hE : Below n E) (no : ∀ v is t, Bk E σ.l v is v t → is ≠ [] → t ≤ 0) {v : Nat} (hv : v < n) :
    ∃ k is t, k < n ∧ is.length = k ∧ Bk E σ.l v is (itp E σ.l k v) t ∧ σ.l.gt (itp E σ.l k v) = none ∧ ∀ j < k, σ.l.gt (itp E σ.l j v) ≠ none := by
  have ex : ∃ k, k < n ∧ σ.l.gt (itp E σ.l k v) = none := by
    refine Classical.byContradiction fun hc => ?_
    have all : ∀ k < n, σ.l.gt (itp E σ.l k v) ≠ none := fun k hk e => hc ⟨k, hk, e⟩
    obtain ⟨i, j, h1, h2, h3⟩ := pigeon (f := fun m => itp E σ.l m v) fun m _ => itp_lt hE hv m
    have h3 : itp E σ.l i v = itp E σ.l j v := h3
    obtain ⟨is, t, hl, hb⟩ := bk_to ok (v := itp E σ.l i v) (k := j - i) fun m hm => by
      rw [← itp_add]; exact all _ (by omega)
    have e : itp E σ.l (j - i) (itp E σ.l i v) = itp E σ.l i v := by
      rw [← itp_add, show i + (j - i) = j by omega]; exact h3.symm
    rw [e] at hb
    have hne : is ≠ [] := fun z => by rw [z] at hl; simp at hl; omega
    have := ok.cyc _ _ _ hb hne
    have := no _ _ _ hb hne
    omega
  obtain ⟨k, hk, hr⟩ := ex
  induction k using Nat.strongRecOn with
  | ind k ih =>
    by_cases h : ∃ j, j < k ∧ σ.l.gt (itp E σ.l j v) = none
    · obtain ⟨j, h1, h2⟩ := h
      exact ih j h1 (by omega) h2
    · have h' : ∀ j < k, σ.l.gt (itp E σ.l j v) ≠ none := fun j hj e => h ⟨j, hj, e⟩
      obtain ⟨is, t, hl, hb⟩ := bk_to ok h'
      exact ⟨k, is, t, hk, hl, hb, hr, h'⟩
/-- rounds from a start: what stands -/
theorem greatest {n : Nat} {E : List Ed} {st : Nat} {f : Nat → Int} (hE : Below n E) (hf : ∀ a b w, (a, b, w) ∈ E → f a + w ≤ f b) (v : Nat) (hv : v < n) (y : Int) (hy : (rounds E n (start [(st, 0)])).s.gt v = some y) :
    ∃ k is, k < n ∧ is.length = k ∧ Bk E (rounds E n (start [(st, 0)])).l v is st y ∧ itp E (rounds E n (start [(st, 0)])).l k v = st ∧ (rounds E n (start [(st, 0)])).l.gt st = none ∧ ∀ j < k, (rounds E n (start [(st, 0)])).l.gt (itp E (rounds E n (start [(st, 0)])).l j v) ≠ none := by
  have ok := ok1_rounds (E := E) (S0 := [(st, 0)]) n
  obtain ⟨k, is, t, h1, h2, h3, h4, h5⟩ := bk_root ok hE (fun v is t hb hne => by have := bk_pot hf hb; omega) hv
  obtain ⟨x, hx, hxy⟩ := ok.tele h3 y hy
  have hx0 := ok.first _ _ hx h4
  rw [gt_cons] at hx0
  by_cases e : st = itp E (rounds E n (start [(st, 0)])).l k v
  · have e' : (st, (0 : Int)).1 = itp E (rounds E n (start [(st, 0)])).l k v := e
    rw [if_pos e'] at hx0
    cases hx0
    obtain ⟨z, hz, hzy⟩ := rounds_walk (σ := start [(st, 0)]) (bk_walk h3) (j := n) (by omega) 0 (by rw [← e]; show AL.gt [(st, 0)] st = _; rw [gt_cons]; simp)
    rw [hy] at hz; cases hz
    have : t = y := by omega
    subst this
    rw [← e] at h3 h4
    exact ⟨k, is, h1, h2, h3, e.symm, h4, h5⟩
  · have e' : ¬(st, (0 : Int)).1 = itp E (rounds E n (start [(st, 0)])).l k v := e
    rw [if_neg e'] at hx0
    cases hx0
theorem greatest_serves {n : Nat} {E : List Ed} {st : Nat} {f : Nat → Int} (hE : Below n E) (hf : ∀ a b w, (a, b, w) ∈ E → f a + w ≤ f b) : Serves E (rounds E n (start [(st, 0)])).s.gt := fun a b w hm x hx => by
  have ha := (hE _ hm).1
  obtain ⟨k, is, h1, h2, h3, _⟩ := greatest hE hf a ha x hx
  have wk := Wk1.snoc (bk_walk h3) hm
  obtain ⟨z, hz, hzy⟩ := rounds_walk (σ := start [(st, 0)]) wk (j := n) (by omega) 0 (by show AL.gt [(st, 0)] st = _; rw [gt_cons]; simp)
  exact ⟨z, hz, by omega⟩
/-- a round that does not grow -/
theorem times_serves {E : List Ed} {k : Nat} {σ : CSt} (h : (rounds E (k + 1) σ).g = none) : Serves E (rounds E (k + 1) σ).s.gt ∧ (rounds E (k + 1) σ).s = (rounds E k σ).s := by
  obtain ⟨h1, h2⟩ := relaxs_none (r := E) (i := 0) (σ := { rounds E k σ with g := none }) h
  have e : (rounds E (k + 1) σ).s = (rounds E k σ).s := by
    rw [show rounds E (k + 1) σ = { rounds E k σ with g := none } from h1]
  exact ⟨fun a b w hm x hx => by rw [e] at hx ⊢; exact h2 a b w hm x hx, e⟩

/-! chains, forwards -/
def Chn (E : List Ed) : List Nat → Nat → Nat → Int → Prop
  | [], u, v, t => u = v ∧ t = 0
  | i :: is, u, v, t => ∃ m w t', E[i]? = some (u, m, w) ∧ Chn E is m v t' ∧ t = w + t'
theorem Chn.app {E : List Ed} : ∀ {is js : List Nat} {u m v : Nat} {t t' : Int}, Chn E is u m t → Chn E js m v t' → Chn E (is ++ js) u v (t + t')
  | [], js, u, m, v, t, t', h, g => by
    obtain ⟨rfl, rfl⟩ := h
    rw [Int.zero_add]; exact g
  | i :: is, js, u, m, v, t, t', ⟨m', w, t1, h1, h2, h3⟩, g => ⟨m', w, t1 + t', h1, h2.app g, by omega⟩
/-- where the edges begin -/
def pts (E : List Ed) (is : List Nat) : List Nat := is.map fun i => (E.getD i (0, 0, 0)).1
theorem bk_chn {E : List Ed} {L : AL Nat} {v u : Nat} {is : List Nat} {t : Int} (h : Bk E L v is u t) : Chn E is.reverse u v t := by
  induction h with
  | nil => exact ⟨rfl, rfl⟩
  | @cons v p u i w t is h1 h2 h3 ih =>
    rw [List.reverse_cons, Int.add_comm]
    exact ih.app ⟨v, w, 0, h2, ⟨rfl, rfl⟩, by omega⟩
theorem bk_par {E : List Ed} {L : AL Nat} {v p i : Nat} {w : Int} (h1 : L.gt v = some i) (h2 : E[i]? = some (p, v, w)) : par E L v = p := by
  unfold par
  rw [h1]
  simp [List.getD, h2]
theorem bk_end {E : List Ed} {L : AL Nat} {v u : Nat} {is : List Nat} {t : Int} (h : Bk E L v is u t) : u = itp E L is.length v := by
  induction h with
  | nil => rfl
  | @cons v p u i w t is h1 h2 h3 ih =>
    rw [List.length_cons, Nat.add_comm, itp_add, ih]
    congr 1
    exact (bk_par h1 h2).symm
theorem bk_pts {E : List Ed} {L : AL Nat} {v u : Nat} {is : List Nat} {t : Int} (h : Bk E L v is u t) : pts E is = (List.range is.length).map fun j => itp E L (j + 1) v := by
  induction h with
  | nil => rfl
  | @cons v p u i w t is h1 h2 h3 ih =>
    have e : itp E L 1 v = p := bk_par h1 h2
    rw [List.length_cons, List.range_succ_eq_map, List.map_cons, List.map_map]
    have e2 : pts E (i :: is) = p :: pts E is := by simp [pts, List.getD, h2]
    rw [e2, ih]
    congr 1
    · exact e.symm
    · apply List.map_congr_left
      intro j _
      show itp E L (j + 1) p = itp E L (j + 1 + 1) v
      rw [show j + 1 + 1 = 1 + (j + 1) by omega, itp_add (i := 1) (v := v), e]
theorem nodup_of {f : Nat → Nat} {n : Nat} (h : ∀ i j, i < j → j < n → f i ≠ f j) : ((List.range n).map f).Nodup := by
  rw [List.nodup_iff_pairwise_ne, List.pairwise_map, List.pairwise_iff_getElem]
  intro i j hi hj hij
  simp at hi hj ⊢
  exact h i j hij hj
theorem nodup_rev {l : List Nat} : l.reverse.Nodup ↔ l.Nodup := (List.reverse_perm l).nodup_iff
theorem pts_rev {E : List Ed} {is : List Nat} : pts E is.reverse = (pts E is).reverse := by simp [pts, List.map_reverse]
def RingOk (E : List Ed) (is : List Nat) : Prop := ∃ u t, is ≠ [] ∧ Chn E is u u t ∧ 0 < t ∧ (pts E is).Nodup
/-- what greatest_chain may tell, where no ring gains -/
def ChainOk (E : List Ed) (st en : Nat) (is : List Nat) (t : Int) : Prop := Chn E is st en t ∧ (pts E is ++ [en]).Nodup ∧ ∃ S : Nat → Option Int, Serves E S ∧ S st = some 0 ∧ S en = some t
/-- a ring told by the way back -/
theorem ring_ok {n : Nat} {E : List Ed} {S0 : AL Int} {σ : CSt} (ok : Ok1 E S0 σ) (hE : Below n E) {v : Nat} (hv : v < n) (all : ∀ k, σ.l.gt (itp E σ.l k v) ≠ none) :
    ∃ is t, Bk E σ.l (itp E σ.l n v) is (itp E σ.l n v) t ∧ is ≠ [] ∧ is.length ≤ n ∧ RingOk E is.reverse ∧ ∀ js ks m t1 t2, is = js ++ ks → js ≠ [] → ks ≠ [] → Bk E σ.l (itp E σ.l n v) js m t1 → Bk E σ.l m ks (itp E σ.l n v) t2 → m ≠ itp E σ.l n v := by
  obtain ⟨c0, hc0⟩ := ring_at (L := σ.l) hE hv
  generalize hu : itp E σ.l n v = u at hc0 ⊢
  have ex : ∃ c, (0 < c ∧ c ≤ n ∧ itp E σ.l c u = u) ∧ ∀ c', 0 < c' → c' < c → itp E σ.l c' u ≠ u := by
    clear hu
    induction c0 using Nat.strongRecOn with
    | ind c0 ih =>
      by_cases h : ∃ c', 0 < c' ∧ c' < c0 ∧ itp E σ.l c' u = u
      · obtain ⟨c', h1, h2, h3⟩ := h
        exact ih c' h2 ⟨h1, by omega, h3⟩
      · exact ⟨c0, hc0, fun c' h1 h2 h3 => h ⟨c', h1, h2, h3⟩⟩
  obtain ⟨c, ⟨h1, h2, h3⟩, hmin⟩ := ex
  obtain ⟨is, t, hl, hb⟩ := bk_to ok (v := u) (k := c) fun j hj => by
    have := all (n + j)
    rw [itp_add, hu] at this
    exact this
  rw [h3] at hb
  have hne : is ≠ [] := fun z => by rw [z] at hl; simp at hl; omega
  refine ⟨is, t, hb, hne, by omega, ⟨u, t, by simpa using hne, bk_chn hb, ok.cyc _ _ _ hb hne, ?_⟩, fun js ks m t1 t2 e hj hk b1 b2 em => ?_⟩
  · rw [pts_rev, nodup_rev, bk_pts hb, hl]
    refine nodup_of fun i j hij hj e => ?_
    refine hmin (i + 1 + (c - (j + 1))) (by omega) (by omega) ?_
    rw [itp_add, e, ← itp_add, show j + 1 + (c - (j + 1)) = c by omega, h3]
  · have := bk_end b1
    have l1 := congrArg List.length e
    simp at l1
    have : 0 < js.length := List.length_pos_iff.mpr hj
    have : 0 < ks.length := List.length_pos_iff.mpr hk
    exact hmin js.length (by omega) (by omega) (by rw [← bk_end b1]; exact em)
theorem st_zero {n : Nat} {E : List Ed} {st : Nat} {f : Nat → Int} (hE : Below n E) (hf : ∀ a b w, (a, b, w) ∈ E → f a + w ≤ f b) (hs : st < n) : (rounds E n (start [(st, 0)])).s.gt st = some 0 := by
  obtain ⟨z, hz, _⟩ := rounds_walk (E := E) (σ := start [(st, 0)]) (Wk1.nil (v := st)) (j := n) (Nat.zero_le _) 0 (by show AL.gt [(st, 0)] st = _; rw [gt_cons]; simp)
  obtain ⟨_, _, _, _, b, _, h5, _⟩ := greatest hE hf st hs z hz
  cases b with
  | nil => exact hz
  | cons e _ _ => rw [h5] at e; cases e
/-- a chain told by the way back -/
theorem chain_ok {n : Nat} {E : List Ed} {st : Nat} {f : Nat → Int} (hE : Below n E) (hf : ∀ a b w, (a, b, w) ∈ E → f a + w ≤ f b) (hs : st < n) (v : Nat) (hv : v < n) (hne : st ≠ v) (y : Int) (hy : (rounds E n (start [(st, 0)])).s.gt v = some y) :
    ∃ is, Bk E (rounds E n (start [(st, 0)])).l v is st y ∧ is ≠ [] ∧ is.length < n ∧ ChainOk E st v is.reverse y ∧ ∀ js ks m t1 t2, is = js ++ ks → js ≠ [] → ks ≠ [] → Bk E (rounds E n (start [(st, 0)])).l v js m t1 → Bk E (rounds E n (start [(st, 0)])).l m ks st t2 → m ≠ st := by
  obtain ⟨k, is, h1, h2, h3, h4, h5, h6⟩ := greatest hE hf v hv y hy
  have hs0 := st_zero hE hf hs
  have hnil : is ≠ [] := fun z => by
    rw [z] at h3
    cases h3
    exact hne rfl
  refine ⟨is, h3, hnil, by omega, ⟨bk_chn h3, ?_, _, greatest_serves hE hf, hs0, hy⟩, fun js ks m t1 t2 e hj hk b1 b2 em => ?_⟩
  · have e : pts E is.reverse ++ [v] = ((List.range (k + 1)).map fun j => itp E (rounds E n (start [(st, 0)])).l j v).reverse := by
      rw [pts_rev, bk_pts h3, List.range_succ_eq_map, List.map_cons, List.map_map, List.reverse_cons, h2]
      rfl
    rw [e, nodup_rev]
    refine nodup_of fun i j hij hj e => ?_
    refine h6 (i + (k - j)) (by omega) ?_
    rw [itp_add, e, ← itp_add, show j + (k - j) = k by omega, h4, h5]
  · rw [em] at b2
    cases b2 with
    | nil => exact hk rfl
    | cons e5 _ _ => rw [h5] at e5; cases e5
theorem relaxs_len : ∀ {r : List Ed} {i : Nat} {σ : CSt}, (relaxs r i σ).s.length ≤ σ.s.length + r.length ∧ (relaxs r i σ).l.length ≤ σ.l.length + r.length
  | [], _, _ => ⟨Nat.le_refl _, Nat.le_refl _⟩
  | (a, b, w) :: r, i, σ => by
    have ih := relaxs_len (r := r) (i := i + 1) (σ := relax i (a, b, w) σ)
    have h : (relax i (a, b, w) σ).s.length ≤ σ.s.length + 1 ∧ (relax i (a, b, w) σ).l.length ≤ σ.l.length + 1 := by
      rcases relax_cases (i := i) (a := a) (b := b) (w := w) (σ := σ) with ⟨h, _⟩ | ⟨x, _, _, h⟩
      · rw [h]; omega
      · rw [h]; exact ⟨pt_len, pt_len⟩
    simp only [relaxs, List.length_cons]
    omega
theorem rounds_len {E : List Ed} {σ : CSt} : ∀ k, (rounds E k σ).s.length ≤ σ.s.length + k * E.length ∧ (rounds E k σ).l.length ≤ σ.l.length + k * E.length
  | 0 => by simp [rounds]
  | k + 1 => by
    have ih := rounds_len (E := E) (σ := σ) k
    have h : (rounds E (k + 1) σ).s.length ≤ (rounds E k σ).s.length + E.length ∧ (rounds E (k + 1) σ).l.length ≤ (rounds E k σ).l.length + E.length := relaxs_len (r := E) (i := 0) (σ := { rounds E k σ with g := none })
    rw [Nat.add_mul, Nat.one_mul]; omega

/-! potentials -/
def PotOf (E : List Ed) (f : Nat → Int) : Prop := ∀ a b w, (a, b, w) ∈ E → f a + w ≤ f b
theorem chn_pot {E : List Ed} {f : Nat → Int} (hf : PotOf E f) : ∀ {is : List Nat} {u v : Nat} {t : Int}, Chn E is u v t → f u + t ≤ f v
  | [], u, v, t, h => by obtain ⟨rfl, rfl⟩ := h; omega
  | i :: is, u, v, t, ⟨m, w, t', h1, h2, h3⟩ => by
    have := hf _ _ _ (List.mem_of_getElem? h1)
    have := chn_pot hf h2
    omega
theorem ring_no {E : List Ed} {f : Nat → Int} (hf : PotOf E f) {is : List Nat} (r : RingOk E is) : False := by
  obtain ⟨u, t, _, h, ht, _⟩ := r
  have := chn_pot hf h
  omega
theorem chn_srv {E : List Ed} {S : Nat → Option Int} (hS : Serves E S) : ∀ {is : List Nat} {u v : Nat} {t : Int}, Chn E is u v t → ∀ x, S u = some x → ∃ y, S v = some y ∧ x + t ≤ y
  | [], u, v, t, h, x, hx => by obtain ⟨rfl, rfl⟩ := h; exact ⟨x, hx, by omega⟩
  | i :: is, u, v, t, ⟨m, w, t', h1, h2, h3⟩, x, hx => by
    obtain ⟨y, h4, h5⟩ := hS _ _ _ (List.mem_of_getElem? h1) x hx
    obtain ⟨z, h6, h7⟩ := chn_srv hS h2 y h4
    exact ⟨z, h6, by omega⟩
theorem chn_sum {E : List Ed} : ∀ {is : List Nat} {u v : Nat} {t : Int}, Chn E is u v t → (is.map fun i => (E.getD i (0, 0, 0)).2.2).sum = t
  | [], u, v, t, h => by obtain ⟨rfl, rfl⟩ := h; rfl
  | i :: is, u, v, t, ⟨m, w, t', h1, h2, h3⟩ => by
    have := chn_sum h2
    simp [List.getD, h1] at this ⊢
    omega
theorem chn_low {E : List Ed} {W : Int} (hW : ∀ e ∈ E, -W ≤ e.2.2) : ∀ {is : List Nat} {u v : Nat} {t : Int}, Chn E is u v t → -(is.length * W) ≤ t
  | [], u, v, t, h => by obtain ⟨rfl, rfl⟩ := h; simp
  | i :: is, u, v, t, ⟨m, w, t', h1, h2, h3⟩ => by
    have h4 := chn_low hW h2
    have h5 := hW _ (List.mem_of_getElem? h1)
    simp only [List.length_cons, Int.natCast_add, Int.natCast_one]
    have e : ((is.length : Int) + 1) * W = is.length * W + W := by rw [Int.add_mul, Int.one_mul]
    rw [e]
    simp at h5
    omega
theorem chn_mem {E : List Ed} : ∀ {is : List Nat} {u v : Nat} {t : Int}, Chn E is u v t → ∀ i ∈ is, i < E.length
  | [], u, v, t, h, i, hi => nomatch hi
  | i :: is, u, v, t, ⟨m, w, t', h1, h2, h3⟩, j, hj => by
    rcases List.mem_cons.mp hj with rfl | hj
    · exact (List.getElem?_eq_some_iff.mp h1).1
    · exact chn_mem h2 j hj
theorem chn_sub {E F : List Ed} (h : ∀ (i : Nat) e, E[i]? = some e → F[i]? = some e) : ∀ {is : List Nat} {u v : Nat} {t : Int}, Chn E is u v t → Chn F is u v t
  | [], u, v, t, hc => hc
  | i :: is, u, v, t, ⟨m, w, t', h1, h2, h3⟩ => ⟨m, w, t', h _ _ h1, chn_sub h h2, h3⟩
theorem some_high {f : Nat → Int} {S : Nat → Option Int} {B : Int} : ∀ n, ∃ C, B ≤ C ∧ ∀ v < n, ∀ x, S v = some x → f v - x ≤ C
  | 0 => ⟨B, Int.le_refl _, fun v h => absurd h (by omega)⟩
  | n + 1 => by
    obtain ⟨C, h1, h2⟩ := some_high (f := f) (S := S) (B := B) n
    cases e : S n with
    | none => exact ⟨C, h1, fun v hv x hx => by
        by_cases z : v = n
        · rw [z, e] at hx; cases hx
        · exact h2 v (by omega) x hx⟩
    | some y => exact ⟨max C (f n - y), by omega, fun v hv x hx => by
        by_cases z : v = n
        · rw [z, e] at hx; cases hx; rw [z]; omega
        · have := h2 v (by omega) x hx; omega⟩
/-- what serves a part, for all; the others as low as wished -/
theorem pot_ext {n : Nat} {E : List Ed} {f : Nat → Int} {S : Nat → Option Int} (hE : Below n E) (hf : PotOf E f) (hS : Serves E S) (B : Int) : ∃ g, PotOf E g ∧ (∀ v x, S v = some x → g v = x) ∧ ∀ v, S v = none → g v ≤ f v - B := by
  obtain ⟨C, h1, h2⟩ := some_high (f := f) (S := S) (B := B) n
  refine ⟨fun v => match S v with | some x => x | none => f v - C, fun a b w hm => ?_, fun v x hx => by simp [hx], fun v hv => by simp [hv]; omega⟩
  have hb := (hE _ hm).2
  have h3 := hf _ _ _ hm
  show (match S a with | some x => x | none => f a - C) + w ≤ match S b with | some x => x | none => f b - C
  cases ea : S a with
  | some x =>
    obtain ⟨y, h4, h5⟩ := hS _ _ _ hm x ea
    simp [h4]; exact h5
  | none =>
    cases eb : S b with
    | none => simp; omega
    | some y => have := h2 b hb y eb; simp; omega
theorem pot_app {E F : List Ed} {f : Nat → Int} : PotOf (E ++ F) f ↔ PotOf E f ∧ PotOf F f :=
  ⟨fun h => ⟨fun a b w m => h a b w (List.mem_append_left _ m), fun a b w m => h a b w (List.mem_append_right _ m)⟩, fun ⟨h, g⟩ a b w m => by
    rcases List.mem_append.mp m with m | m
    · exact h a b w m
    · exact g a b w m⟩
theorem pot_one {a b : Nat} {w : Int} {f : Nat → Int} : PotOf [(a, b, w)] f ↔ f a + w ≤ f b :=
  ⟨fun h => h a b w (by simp), fun h a' b' w' m => by simp at m; obtain ⟨rfl, rfl, rfl⟩ := m; exact h⟩
theorem srv_pot {E : List Ed} {f : Nat → Int} (hf : PotOf E f) : Serves E (fun v => some (f v)) := fun a b w m x hx => ⟨f b, rfl, by cases hx; exact hf a b w m⟩
/-- what a timeline serves -/
theorem times_at {n : Nat} {E : List Ed} {t : List Int} (h : t.length = n) (hE : Below n E) : Serves E (fun v => t[v]?) ↔ PotOf E (fun v => t.getD v 0) := by
  refine ⟨fun hs a b w m => ?_, fun hf a b w m x hx => ?_⟩
  · have ha := (hE _ m).1
    obtain ⟨y, h1, h2⟩ := hs a b w m t[a] (by simp)
    have hb := (hE _ m).2
    simp [List.getD, h1]
    simp at ha
    rw [List.getElem?_eq_getElem (by omega)]
    simpa using h2
  · have hb : b < t.length := by have := (hE _ m).2; simp at this; omega
    have := hf a b w m
    simp [List.getD] at this
    simp at hx
    refine ⟨t[b], by simp [hb], ?_⟩
    rw [hx] at this
    rw [List.getElem?_eq_getElem hb] at this
    simpa using this
/-- what solve_edges may tell -/
def TimesOk (n : Nat) (E : List Ed) (t : List Int) : Prop := t.length = n ∧ Serves E (fun v => t[v]?) ∧ ∀ x ∈ t, 0 ≤ x ∧ ∀ W : Int, (∀ e ∈ E, e.2.2 ≤ W) → 0 ≤ W → x ≤ n * W
def st0 (n : Nat) : AL Int := (List.range n).map fun v => (v, 0)
theorem st0_gt {n v : Nat} : (st0 n).gt v = if v < n then some 0 else none := by
  induction n with
  | zero => rfl
  | succ n ih =>
    have e : st0 (n + 1) = st0 n ++ [(n, 0)] := by simp [st0, List.range_succ]
    rw [e, gt_app, ih]
    by_cases h : v < n
    · rw [if_pos h, if_pos (show v < n + 1 by omega)]; rfl
    · rw [if_neg h]
      by_cases h2 : v = n
      · subst h2; simp
      · rw [if_neg (show ¬v < n + 1 by omega)]
        have : ¬n = v := fun z => h2 z.symm
        simp [this]
theorem rounds_gr {E : List Ed} {σ : CSt} : ∀ k, Gr σ.s (rounds E k σ).s
  | 0 => .rfl
  | k + 1 => (rounds_gr k).trans (relaxs_gr (r := E) (i := 0) (σ := { rounds E k σ with g := none }))
theorem getD_opt {S : AL Int} {v : Nat} {x : Int} (h : S.gt v = some x) : (S.gt v).getD 0 = x := by rw [h]; rfl
/-- a round without growth: a timeline -/
theorem times_ok {n k : Nat} {E : List Ed} (hE : Below n E) (h : (rounds E (k + 1) (start (st0 n))).g = none) : TimesOk n E ((List.range n).map fun v => ((rounds E (k + 1) (start (st0 n))).s.gt v).getD 0) ∧ ∀ v < n, ∃ x, (rounds E (k + 1) (start (st0 n))).s.gt v = some x := by
  obtain ⟨sv, _⟩ := times_serves h
  have ok := ok1_rounds (E := E) (S0 := st0 n) (k + 1)
  have ex : ∀ v < n, ∃ x, (rounds E (k + 1) (start (st0 n))).s.gt v = some x ∧ 0 ≤ x := fun v hv => rounds_gr (E := E) (σ := start (st0 n)) (k + 1) v 0 (by show (st0 n).gt v = _; rw [st0_gt, if_pos hv])
  generalize rounds E (k + 1) (start (st0 n)) = σ at sv ok ex ⊢
  refine ⟨⟨by simp, (times_at (by simp) hE).mpr fun a b w hm => ?_, fun x hx => ?_⟩, fun v hv => ⟨_, (ex v hv).choose_spec.1⟩⟩
  · obtain ⟨ha, hb⟩ := hE _ hm
    obtain ⟨x, hx, _⟩ := ex a ha
    obtain ⟨y, hy, hxy⟩ := sv a b w hm x hx
    simp at ha hb
    simp [List.getD, ha, hb, hx, hy]
    exact hxy
  · obtain ⟨v, hv, rfl⟩ := List.mem_map.mp hx
    have hv : v < n := by simpa using hv
    obtain ⟨y, hy, h0⟩ := ex v hv
    rw [getD_opt hy]
    refine ⟨h0, fun W hW hW0 => ?_⟩
    have pot : PotOf E fun v => (σ.s.gt v).getD 0 := fun a b w hm => by
      obtain ⟨x, hx, _⟩ := ex a (hE _ hm).1
      obtain ⟨y, hy, hxy⟩ := sv a b w hm x hx
      simp [hx, hy]; exact hxy
    obtain ⟨j, is, t, hj, hl, hb, hr, _⟩ := bk_root ok hE (fun v is t hb hne => by have := bk_pot pot hb; omega) hv
    obtain ⟨x, hx, hxy⟩ := ok.tele hb y hy
    have := ok.first _ _ hx hr
    rw [st0_gt] at this
    have hx0 : x = 0 := by
      split at this
      · cases this; rfl
      · cases this
    have hle := bk_le hW hb
    have : (is.length : Int) * W ≤ n * W := Int.mul_le_mul_of_nonneg_right (by omega) hW0
    omega
theorem gt_none_k {n k : Nat} {E : List Ed} (hE : Below n E) {v : Nat} (h : (rounds E (k + 1) (start (st0 n))).g = some v) : v < n := by
  have h' : (relaxs E 0 { rounds E k (start (st0 n)) with g := none }).g = some v := h
  clear h
  have key : ∀ (r : List Ed) (i : Nat) (σ : CSt), (∀ e ∈ r, e ∈ E) → (∀ v, σ.g = some v → v < n) → ∀ v, (relaxs r i σ).g = some v → v < n := by
    intro r
    induction r with
    | nil => intro i σ _ h v hv; exact h v hv
    | cons e r ih =>
      intro i σ hr h v hv
      refine ih (i + 1) (relax i e σ) (fun e he => hr e (List.mem_cons_of_mem _ he)) (fun u hu => ?_) v hv
      obtain ⟨a, b, w⟩ := e
      rcases relax_cases (i := i) (a := a) (b := b) (w := w) (σ := σ) with ⟨h1, _⟩ | ⟨x, _, _, h1⟩
      · rw [h1] at hu; exact h u hu
      · rw [h1] at hu
        cases hu
        exact (hE _ (hr _ (List.mem_cons_self ..))).2
  exact key E 0 _ (fun e he => he) (fun v hv => by cases hv) v h'

/-! ### the search, as data -/
def edD (e : Ed) : D := .tup [.int e.1, .int e.2.1, .int e.2.2]
def encS (S : AL Int) : List (Key × D) := S.map fun p => (.inl (p.1 : Int), .int p.2)
def encL (L : AL Nat) : List (Key × D) := L.map fun p => (.inl (p.1 : Int), .int p.2)
def edsIs (d : D) (E : List Ed) : Prop := d = .tup (E.map edD) ∨ d = .lis (E.map edD)
abbrev srchO (d : D) (a b : Nat) : MO := .ins "Search" [("edges", d), ("sums", .ref a), ("last_edges", .ref b)]
structure SrchAt (M : MH) (q a b : Nat) (d : D) (S : AL Int) (L : AL Nat) : Prop where
  mq : M[q]? = some (some (srchO d a b))
  ma : M[a]? = some (some (.dic (encS S)))
  mb : M[b]? = some (some (.dic (encL L)))
  qa : q ≠ a
  qb : q ≠ b
  ab : a ≠ b
def gD : Option Nat → D
  | none => .non
  | some v => .int v
def sp_Search___init__ : SpD := fun ds M _ Q => ∃ q d a, ds = [.ref q, d, .ref a] ∧ M[q]? = some (some (.ins "Search" [])) ∧ Q .non ((M ++ [some (MO.dic [])]).set q (some (srchO d a M.length)))
def sp_Search_improve : SpD := fun ds M _ Q => ∃ (q a b : Nat) (d : D) (E : List Ed) (S : AL Int) (L : AL Nat) (n : Nat), ds = [.ref q] ∧ SrchAt M q a b d S L ∧ edsIs d E ∧ Below n E ∧ S.length + E.length ≤ 100000 ∧ L.length + E.length ≤ 100000 ∧
  ∀ σ, σ = pass E ⟨S, L, none⟩ → Q (gD σ.g) ((M.set a (some (.dic (encS σ.s)))).set b (some (.dic (encL σ.l))))
def sp_Search_before : SpD := fun ds M _ Q => ∃ (q a b : Nat) (d : D) (E : List Ed) (S : AL Int) (L : AL Nat) (v i p : Nat) (w : Int), ds = [.ref q, .int ((v : Nat) : Int)] ∧ SrchAt M q a b d S L ∧ edsIs d E ∧ L.gt v = some i ∧ E[i]? = some (p, v, w) ∧ Q (.int ((p : Nat) : Int)) M
/-- the way back from v: at least one step, to u, which is not met between -/
def sp_Search_way_back : SpD := fun ds M _ Q => ∃ (q a b : Nat) (d : D) (E : List Ed) (S : AL Int) (L : AL Nat) (v u : Nat) (is : List Nat) (t : Int), ds = [.ref q, .int ((v : Nat) : Int), .int ((u : Nat) : Int)] ∧ SrchAt M q a b d S L ∧ edsIs d E ∧ Bk E L v is u t ∧ is ≠ [] ∧ is.length ≤ 1000 ∧
  (∀ js ks m t1 t2, is = js ++ ks → js ≠ [] → ks ≠ [] → Bk E L v js m t1 → Bk E L m ks u t2 → m ≠ u) ∧ Q (.tup (is.reverse.map fun i => D.int ((i : Nat) : Int))) M
def sp_solve_edges : SpD := fun ds M _ Q => ∃ (n : Nat) (d : D) (E : List Ed), ds = [.int n, d] ∧ edsIs d E ∧ Below n E ∧ 0 < n ∧ n ≤ 100 ∧ E.length ≤ 900 ∧
  (∀ t, TimesOk n E t → Q (.tup [.str "times", .tup (t.map D.int)]) M) ∧ ∀ is, RingOk E is → is.length ≤ n → Q (.tup [.str "ring", .tup (is.map fun i : Nat => D.int i)]) M
def sp_greatest_chain : SpD := fun ds M _ Q => ∃ (n : Nat) (d : D) (E : List Ed) (st en : Nat) (f : Nat → Int), ds = [.int n, d, .int st, .int en] ∧ edsIs d E ∧ Below n E ∧ st < n ∧ en < n ∧ n ≤ 100 ∧ E.length ≤ 900 ∧ (∀ a b w, (a, b, w) ∈ E → f a + w ≤ f b) ∧
  (st = en → Q (.tup []) M) ∧ (st ≠ en → (∀ is t, is ≠ [] → is.length < n → ChainOk E st en is t → Q (.tup (is.map fun i : Nat => D.int i)) M) ∧ ((∃ S, Serves E S ∧ S st = some 0 ∧ S en = none) → Q .non M))

def sp_f_law_weight : SpD := fun ds M _ Q => ∃ p : Nat, ds = [.ref p] ∧ M[p]? = some (some .pen) ∧ ∀ w : Int, w.natAbs ≤ 10 ^ 61 + 10 ^ 20 → Q (.int w) M
def sp_f_law_pair : SpD := fun ds M _ Q => ∃ (p n : Nat), ds = [.ref p, .int n] ∧ 2 ≤ n ∧ n ≤ 1000 ∧ M[p]? = some (some .pen) ∧ ∀ a b : Nat, a < n → b < n → a ≠ b → Q (.tup [.int a, .int b]) M
/-- edges as they are drawn -/
structure DrawnE (n most : Nat) (E : List Ed) : Prop where
  ln : E.length ≤ most
  bel : Below n E
  ne : ∀ e ∈ E, e.1 ≠ e.2.1
  wt : ∀ e ∈ E, e.2.2.natAbs ≤ 3 * 10 ^ 61
def BoundE (n most : Nat) (E : List Ed) : Prop := DrawnE n most E ∧ ∃ f : Nat → Int, PotOf E f ∧ ∀ v, (f v).natAbs ≤ 10 ^ 61 + 10 ^ 20
def sp_f_law_bound_edges : SpD := fun ds M _ Q => ∃ p n most : Nat, ds = [.ref p, .int n, .int most] ∧ 2 ≤ n ∧ n ≤ 1000 ∧ most ≤ 900 ∧ M[p]? = some (some .pen) ∧ ∀ E, BoundE n most E → Q (.lis (E.map edD)) M

/-- edges where they stand: a tuple, a list -/
def edsAt (M : MH) (d : D) (E : List Ed) : Prop := edsIs d E ∨ ∃ q, d = .ref q ∧ M[q]? = some (some (.lst (E.map edD)))
def sp_f_law_satisfies : SpD := fun ds M _ Q => ∃ (d : D) (E : List Ed) (t : List Int) (n : Nat), ds = [d, .tup (t.map D.int), .int n] ∧ edsAt M d E ∧ Below n E ∧ E.length ≤ 900 ∧ n ≤ 100 ∧ t.length = n ∧ (∀ x ∈ t, x.natAbs < 10 ^ 70) ∧ Serves E (fun v => t[v]?) ∧ Q (.bl true) M

def sp_f_law_are_indices : SpD := fun ds M _ Q => ∃ (is : List Nat) (n : Nat), ds = [.tup (is.map fun i : Nat => D.int i), .int n] ∧ is.length ≤ 1000 ∧ (∀ i ∈ is, i < n) ∧ Q (.bl true) M
def sp_f_law_chain_sum : SpD := fun ds M _ Q => ∃ (d : D) (E : List Ed) (is : List Nat) (u v : Nat) (t : Int), ds = [d, .tup (is.map fun i : Nat => D.int i), .int u, .int v] ∧ edsAt M d E ∧ is.length ≤ 1000 ∧ Chn E is u v t ∧ (pts E is).Nodup ∧ (u = v ∨ v ∉ pts E is) ∧ Q (.int t) M
def sp_f_law_ring_fits : SpD := fun ds M _ Q => ∃ (d : D) (E : List Ed) (is : List Nat), ds = [d, .tup (is.map fun i : Nat => D.int i)] ∧ edsAt M d E ∧ is.length ≤ 1000 ∧ RingOk E is ∧ Q (.bl true) M

/-! greatest sums by trying each point in between -/
def Feas (E : List Ed) : Prop := ∃ f, PotOf E f

theorem dich {n : Nat} {E : List Ed} (h0 : 0 < n) (hE : Below n E) : Feas E ∨ ∃ is, RingOk E is ∧ is.length ≤ n := by
  obtain ⟨m, rfl⟩ : ∃ m, n = m + 1 := ⟨n - 1, by omega⟩
  cases hg : (rounds E (m + 1) (start (st0 (m + 1)))).g with
  | none => exact .inl ⟨_, (times_at (times_ok hE hg).1.1 hE).mp (times_ok hE hg).1.2.1⟩
  | some v =>
    have hv := gt_none_k hE hg
    obtain ⟨is, t, _, h2, h3, h4, _⟩ := ring_ok (ok1_rounds (E := E) (S0 := st0 (m + 1)) (m + 1)) hE hv (ring_steps h0 hE hv hg)
    exact .inr ⟨_, h4, by simpa using h3⟩
theorem wk_app {E : List Ed} {u v w : Nat} {t t' : Int} {k k' : Nat} (h : Wk1 E u v t k) (g : Wk1 E v w t' k') : Wk1 E u w (t + t') (k + k') := by
  induction g with
  | nil => simpa using h
  | snoc _ hm ih => rw [← Int.add_assoc]; exact .snoc ih hm
theorem wk_pot {E : List Ed} {f : Nat → Int} (hf : PotOf E f) {u v : Nat} {t : Int} {k : Nat} (h : Wk1 E u v t k) : f u + t ≤ f v := by
  induction h with
  | nil => omega
  | snoc _ hm ih => have := hf _ _ _ hm; omega
theorem wk_srv {E : List Ed} {S : Nat → Option Int} (hS : Serves E S) {u v : Nat} {t : Int} {k : Nat} (h : Wk1 E u v t k) : ∀ x, S u = some x → ∃ y, S v = some y ∧ x + t ≤ y := by
  induction h with
  | nil => intro x hx; exact ⟨x, hx, by omega⟩
  | snoc _ hm ih =>
    intro x hx
    obtain ⟨y, h1, h2⟩ := ih x hx
    obtain ⟨z, h3, h4⟩ := hS _ _ _ hm y h1
    exact ⟨z, h3, by omega⟩
/-- sums of ways with points below m in between -/
def Pm (E : List Ed) : Nat → Nat → Nat → Int → Prop
  | 0, i, j, t => (i = j ∧ t = 0) ∨ (i, j, t) ∈ E
  | m + 1, i, j, t => Pm E m i j t ∨ ∃ t1 t2, Pm E m i m t1 ∧ Pm E m m j t2 ∧ t = t1 + t2
theorem chn_pm {E : List Ed} : ∀ (m : Nat) {is : List Nat} {u v : Nat} {t : Int}, Chn E is u v t → is ≠ [] → (pts E is).tail.Nodup → (∀ x ∈ (pts E is).tail, x < m) → Pm E m u v t
  | 0, is, u, v, t, hc, hn, _, hl => by
    match is, hc, hn, hl with
    | [i], ⟨m, w, t', h1, ⟨h2, h3⟩, h4⟩, _, _ =>
      subst h2; subst h3
      right
      rw [h4, Int.add_zero]
      exact List.mem_of_getElem? h1
    | i :: j :: r, _, _, hl => exact absurd (hl (E.getD j (0, 0, 0)).1 (by simp [pts])) (by omega)
  | m + 1, is, u, v, t, hc, hn, hd, hl => by
    by_cases hm : m ∈ (pts E is).tail
    · right
      match is, hn with
      | i0 :: rest, _ =>
        have e0 : (pts E (i0 :: rest)).tail = pts E rest := rfl
        rw [e0] at hm hd hl
        obtain ⟨x, hx, ex⟩ := List.mem_map.mp hm
        obtain ⟨r1, r2, rfl⟩ := List.append_of_mem hx
        have ep : pts E (r1 ++ x :: r2) = pts E r1 ++ m :: pts E r2 := by rw [← ex]; simp [pts]
        rw [ep] at hd hl
        have hd' := List.nodup_append.mp hd
        have key : ∀ (a b : List Nat) (u : Nat) (t : Int), Chn E (a ++ b) u v t → ∃ m t1 t2, Chn E a u m t1 ∧ Chn E b m v t2 ∧ t = t1 + t2 := by
          intro a
          induction a with
          | nil => intro b u t h; exact ⟨u, 0, t, ⟨rfl, rfl⟩, h, by omega⟩
          | cons i a ih =>
            rintro b u t ⟨m, w, t', h1, h2, h3⟩
            obtain ⟨m2, t1, t2, h4, h5, h6⟩ := ih b m t' h2
            exact ⟨m2, w + t1, t2, ⟨m, w, t1, h1, h4, rfl⟩, h5, by omega⟩
        obtain ⟨m', t1, t2, c1, c2, et⟩ := key (i0 :: r1) (x :: r2) u t hc
        have em : m' = m := by
          obtain ⟨m2, w, t', h1, _⟩ := c2
          rw [← ex]; simp [List.getD, h1]
        subst em
        refine ⟨t1, t2, chn_pm m' c1 (by simp) hd'.1 (fun y hy => ?_), chn_pm m' c2 (by simp) (List.nodup_cons.mp hd'.2.1).2 (fun y hy => ?_), et⟩
        · have h1 := hl y (List.mem_append_left _ hy)
          have h2 := hd'.2.2 y hy m' (by simp)
          omega
        · have h1 := hl y (List.mem_append_right _ (List.mem_cons_of_mem _ hy))
          have h2 : y ≠ m' := fun z => (List.nodup_cons.mp hd'.2.1).1 (z ▸ hy)
          omega
    · left
      exact chn_pm m hc hn hd fun x hx => by
        have := hl x hx
        have : x ≠ m := fun z => hm (z ▸ hx)
        omega
abbrev BF := Nat → Nat → Option Int
structure BestOk (n : Nat) (E : List Ed) (m : Nat) (B : BF) : Prop where
  snd : ∀ i j x, B i j = some x → ∃ k, Wk1 E i j x k
  cpl : ∀ i j t, i < n → j < n → Pm E m i j t → ∃ x, B i j = some x ∧ t ≤ x
def setB (B : BF) (i j : Nat) (x : Int) : BF := fun a b => if a = i ∧ b = j then some x else B a b
theorem setB_same {B : BF} {i j : Nat} {x : Int} : setB B i j x i j = some x := by simp [setB]
def GrB (B B' : BF) : Prop := ∀ i j x, B i j = some x → ∃ y, B' i j = some y ∧ x ≤ y
theorem GrB.rfl {B : BF} : GrB B B := fun _ _ x h => ⟨x, h, Int.le_refl _⟩
theorem GrB.trans {A B C : BF} (h : GrB A B) (g : GrB B C) : GrB A C := fun i j x hx => by
  obtain ⟨y, h1, h2⟩ := h i j x hx
  obtain ⟨z, h3, h4⟩ := g i j y h1
  exact ⟨z, h3, by omega⟩
theorem grB_set {B : BF} {i j : Nat} {x : Int} (h : ∀ y, B i j = some y → y ≤ x) : GrB B (setB B i j x) := fun a b y hy => by
  by_cases e : a = i ∧ b = j
  · obtain ⟨rfl, rfl⟩ := e
    exact ⟨x, setB_same, h y hy⟩
  · exact ⟨y, by simp [setB, e, hy], Int.le_refl _⟩
theorem snd_set {E : List Ed} {B : BF} {i j : Nat} {x : Int} (h : ∀ i j x, B i j = some x → ∃ k, Wk1 E i j x k) (g : ∃ k, Wk1 E i j x k) : ∀ a b y, setB B i j x a b = some y → ∃ k, Wk1 E a b y k := fun a b y hy => by
  by_cases e : a = i ∧ b = j
  · obtain ⟨rfl, rfl⟩ := e
    rw [setB_same] at hy; cases hy; exact g
  · simp [setB, e] at hy; exact h a b y hy
theorem best_ring {n : Nat} {E : List Ed} {B : BF} (h0 : 0 < n) (hE : Below n E) (h : BestOk n E n B) : (∃ k, k < n ∧ ∃ x, B k k = some x ∧ 0 < x) ↔ ¬ Feas E := by
  constructor
  · rintro ⟨k, _, x, hx, h1⟩ ⟨f, hf⟩
    obtain ⟨l, hw⟩ := h.snd k k x hx
    have := wk_pot hf hw
    omega
  · intro hn
    rcases dich h0 hE with hf | ⟨is, ⟨u, t, h1, h2, h3, h4⟩, _⟩
    · exact absurd hf hn
    · have bel : ∀ x ∈ pts E is, x < n := fun x hx => by
        obtain ⟨i, hi, rfl⟩ := List.mem_map.mp hx
        have := chn_mem h2 i hi
        have hg : E[i]? = some E[i] := List.getElem?_eq_getElem this
        simp only [List.getD, hg]
        exact (hE _ (List.getElem_mem this)).1
      have hu : u < n := by
        match is, h1, h2 with
        | i :: r, _, ⟨m, w, t', g1, _⟩ => exact (hE _ (List.mem_of_getElem? g1)).1
      obtain ⟨x, hx, htx⟩ := h.cpl u u t hu hu (chn_pm n h2 h1 (h4.sublist (List.tail_sublist _)) fun x hx => bel x (List.mem_of_mem_tail hx))
      exact ⟨u, hu, x, hx, by omega⟩

/-- a dict of sums as it stands -/
def RlB (l : List (List Key × D)) (B : BF) : Prop := ∀ i j : Nat, lookD l [.inl (i : Int), .inl (j : Int)] = (B i j).map D.int
def sp_f_law_best_sums : SpD := fun ds M _ Q => ∃ (n : Nat) (d : D) (E : List Ed), ds = [.int n, d] ∧ edsAt M d E ∧ Below n E ∧ 0 < n ∧ n ≤ 20 ∧ E.length ≤ 900 ∧ ∀ l B, RlB l B → BestOk n E n B → Q (.ref M.length) (M ++ [some (.dit l)])
def sp_f_law_has_ring : SpD := fun ds M _ Q => ∃ (n : Nat) (d : D) (E : List Ed), ds = [.int n, d] ∧ edsAt M d E ∧ Below n E ∧ 0 < n ∧ n ≤ 20 ∧ E.length ≤ 900 ∧ ∀ b : Bool, (b = true ↔ ¬Feas E) → Q (.bl b) M

def sp_f_law_long_row_right : SpD := fun ds M _ Q => ∃ p : Nat, ds = [.ref p] ∧ M[p]? = some (some .pen) ∧ Q (.bl true) M
abbrev sp_law : SpD := spLaw 63

abbrev cs_edges : List Str := ["Search"]
abbrev cs_sums : List Str := ["Search"]
abbrev cs_last_edges : List Str := ["Search"]
abbrev t_f_law_pen : DS := dRet (dLst newD (dCons (dCallB (cList2 newZ) (dCons (dSl newZ (dVar 0) dNone (dSome (dC (.int 63)))) (dNil))) (dCons (dC (.int 0)) (dCons (dC (.int 0)) (dNil)))))
abbrev t_Search___init__ : DS := dSeq (dSetF cs_edges "edges" (dVar 1) (dVar 0)) (dSeq (dSetF cs_sums "sums" (dVar 2) (dVar 0)) (dSetF cs_last_edges "last_edges" (dDic0 newD) (dVar 0)))
abbrev t_Search_improve : DS := dSeq (dAsg (dC .non) (.nm 1)) (dSeq (dFor (iEnum (dCons (dUn (rAttr cs_edges "edges") (dVar 0)) (dNil))) (.tp [.nm 2, .tp [.nm 3, .nm 4, .nm 5]]) (dIfS (dAnd (dTest (dOp rIn (dVar 3) (dUn (rAttr cs_sums "sums") (dVar 0)))) (dTest (dOp rGt (dOp (rPlus newZ) (dOp rItem (dUn (rAttr cs_sums "sums") (dVar 0)) (dVar 3)) (dVar 5)) (dGet2 (dUn (rAttr cs_sums "sums") (dVar 0)) (dVar 4) (dOp rSub (dOp (rPlus newZ) (dOp rItem (dUn (rAttr cs_sums "sums") (dVar 0)) (dVar 3)) (dVar 5)) (dC (.int 1))))))) (dSeq (dSetIx (dOp (rPlus newZ) (dOp rItem (dUn (rAttr cs_sums "sums") (dVar 0)) (dVar 3)) (dVar 5)) (dUn (rAttr cs_sums "sums") (dVar 0)) (dVar 4)) (dSeq (dSetIx (dVar 2) (dUn (rAttr cs_last_edges "last_edges") (dVar 0)) (dVar 4)) (dAsg (dVar 4) (.nm 1)))) (dNext))) (dRet (dVar 1)))
abbrev t_Search_before : DS := dRet (dOp rItem (dOp rItem (dUn (rAttr cs_edges "edges") (dVar 0)) (dOp rItem (dUn (rAttr cs_last_edges "last_edges") (dVar 0)) (dVar 1))) (dC (.int 0)))
abbrev tbl_before : List (Str × SpD) := [("Search", sp_Search_before)]
abbrev t_Search_way_back : DS := dSeq (dAsg (dLst newD (dCons (dOp rItem (dUn (rAttr cs_last_edges "last_edges") (dVar 0)) (dVar 1)) (dNil))) (.nm 3)) (dSeq (dAsg (dCallM tbl_before "before" (dVar 0) (dCons (dVar 1) (dNil))) (.nm 1)) (dSeq (dWhile (dTest (dOp rNe (dVar 1) (dVar 2))) (dSeq (dDrop (dMeth isLst mAppend (dVar 3) (dCons (dOp rItem (dUn (rAttr cs_last_edges "last_edges") (dVar 0)) (dVar 1)) (dNil)))) (dAsg (dCallM tbl_before "before" (dVar 0) (dCons (dVar 1) (dNil))) (.nm 1)))) (dRet (dCallB cTuple (dCons (dUn (rRev newZ) (dVar 3)) (dNil))))))
abbrev tbl_improve : List (Str × SpD) := [("Search", sp_Search_improve)]
abbrev tbl_way_back : List (Str × SpD) := [("Search", sp_Search_way_back)]
abbrev t_solve_edges : DS := dSeq (dAsg (dNew "Search" sp_Search___init__ (dCons (dVar 1) (dCons (dDC newD (iRange1 (dCons (dVar 0) (dNil))) (.nm 5) (tYesD) (dVar 5) (dC (.int 0)) [5]) (dNil)))) (.nm 2)) (dSeq (dFor (iRange1 (dCons (dVar 0) (dNil))) (.nm 3) (dSeq (dAsg (dCallM tbl_improve "improve" (dVar 2) dNil) (.nm 4)) (dIfS (dTest (dUn rIsN (dVar 4))) (dRet (dTup (dCons (dC (.str "times")) (dCons (dCallB cTuple (dCons (dLC newZ (iRange1 (dCons (dVar 0) (dNil))) (.nm 5) (tYesD) (dOp rItem (dUn (rAttr cs_sums "sums") (dVar 2)) (dVar 5)) [5]) (dNil))) (dNil))))) (dNext)))) (dSeq (dFor (iRange1 (dCons (dVar 0) (dNil))) (.nm 3) (dAsg (dCallM tbl_before "before" (dVar 2) (dCons (dVar 4) (dNil))) (.nm 4))) (dRet (dTup (dCons (dC (.str "ring")) (dCons (dCallM tbl_way_back "way_back" (dVar 2) (dCons (dVar 4) (dCons (dVar 4) (dNil)))) (dNil)))))))
abbrev t_f_law_fresh : DS := dSeq (dAsg (dOp rItem (dVar 0) (dC (.int 1))) (.nm 1)) (dSeq (dSetIx (dOp (rPlus newZ) (dVar 1) (dC (.int 1))) (dVar 0) (dC (.int 1))) (dSeq (dAsg (dC (.int 0)) (.nm 2)) (dCut (dIfS (dTest (dOp rNe (dOp rItem (dVar 0) (dC (.int 0))) (dLst newZ (dNil)))) (dAsg (dOp rItem (dOp rItem (dVar 0) (dC (.int 0))) (dOp rMod (dVar 1) (dCallB cLen (dCons (dOp rItem (dVar 0) (dC (.int 0))) (dNil))))) (.nm 2)) (dNext)) (dSeq (dIfS (dAnd (dTest (dOp rLt (dVar 1) (dCallB cLen (dCons (dOp rItem (dVar 0) (dC (.int 0))) (dNil))))) (dTest (dOp rGe (dVar 2) (dOp rPow (dC (.int 10)) (dC (.int 18)))))) (dRet (dOp rSub (dVar 2) (dOp rPow (dC (.int 10)) (dC (.int 18))))) (dNext)) (dSeq (dAsg (dC (.int 2305843009213693951)) (.nm 3)) (dSeq (dAsg (dOp rMod (dOp (rPlus newZ) (dOp (rPlus newZ) (dOp rMul (dVar 2) (dC (.int 48271))) (dOp rMul (dC (.int 40692)) (dVar 1))) (dC (.int 31))) (dVar 3)) (.nm 4)) (dSeq (dAsg (dVar 4) (.nm 5)) (dSeq (dFor (iRange1 (dCons (dC (.int 6)) (dNil))) (.nm 6) (dSeq (dAsg (dOp (rPlus newZ) (dOp rMul (dVar 4) (dVar 4)) (dOp rMul (dOp rMul (dC (.int 69621)) (dOp (rPlus newZ) (dVar 6) (dC (.int 1)))) (dOp (rPlus newZ) (dVar 1) (dC (.int 1))))) (.nm 4)) (dSeq (dAsg (dOp rMod (dOp (rPlus newZ) (dVar 4) (dVar 2)) (dVar 3)) (.nm 4)) (dAsg (dOp (rPlus newZ) (dOp rMul (dVar 5) (dVar 3)) (dVar 4)) (.nm 5))))) (dRet (dVar 5))))))))))
abbrev t_f_law_draw : DS := dCut (dIfS (dTest (dOp rLt (dOp rItem (dVar 0) (dC (.int 2))) (dVar 1))) (dSetIx (dCall sp_f_law_fresh (dCons (dVar 0) (dNil))) (dVar 0) (dC (.int 2))) (dNext)) (dSeq (dAsg (dOp rMod (dOp rItem (dVar 0) (dC (.int 2))) (dVar 1)) (.nm 2)) (dSeq (dSetIx (dOp rDiv (dOp rItem (dVar 0) (dC (.int 2))) (dVar 1)) (dVar 0) (dC (.int 2))) (dRet (dVar 2))))
abbrev t_f_law_pair : DS := dSeq (dAsg (dCall sp_f_law_draw (dCons (dVar 0) (dCons (dVar 1) (dNil)))) (.nm 2)) (dRet (dTup (dCons (dVar 2) (dCons (dOp rMod (dOp (rPlus newZ) (dOp (rPlus newZ) (dVar 2) (dC (.int 1))) (dCall sp_f_law_draw (dCons (dVar 0) (dCons (dOp rSub (dVar 1) (dC (.int 1))) (dNil))))) (dVar 1)) (dNil)))))
abbrev t_f_law_best_sums : DS := dSeq (dAsg dDicT (.nm 2)) (dSeq (dFor (iRange1 (dCons (dVar 0) (dNil))) (.nm 3) (dSetT (dC (.int 0)) (dVar 2) (dCons (dVar 3) (dCons (dVar 3) (dNil))))) (dSeq (dFor (iSeq (dVar 1)) (.tp [.nm 4, .nm 5, .nm 6]) (dSetT (dCallB cMax2 (dCons (dVar 6) (dCons (dGetT2 (dVar 2) (dCons (dVar 4) (dCons (dVar 5) (dNil))) (dVar 6)) (dNil)))) (dVar 2) (dCons (dVar 4) (dCons (dVar 5) (dNil))))) (dSeq (dFor (iRange1 (dCons (dVar 0) (dNil))) (.nm 7) (dFor (iRange1 (dCons (dVar 0) (dNil))) (.nm 4) (dFor (iRange1 (dCons (dVar 0) (dNil))) (.nm 5) (dIfS (dAnd (dTest (dInT false (dCons (dVar 4) (dCons (dVar 7) (dNil))) (dVar 2))) (dTest (dInT false (dCons (dVar 7) (dCons (dVar 5) (dNil))) (dVar 2)))) (dSeq (dAsg (dOp (rPlus newZ) (dItemT (dVar 2) (dCons (dVar 4) (dCons (dVar 7) (dNil)))) (dItemT (dVar 2) (dCons (dVar 7) (dCons (dVar 5) (dNil))))) (.nm 8)) (dSetT (dCallB cMax2 (dCons (dVar 8) (dCons (dGetT2 (dVar 2) (dCons (dVar 4) (dCons (dVar 5) (dNil))) (dVar 8)) (dNil)))) (dVar 2) (dCons (dVar 4) (dCons (dVar 5) (dNil))))) (dNext))))) (dRet (dVar 2)))))
abbrev t_greatest_chain : DS := dSeq (dAsg (dNew "Search" sp_Search___init__ (dCons (dVar 1) (dCons (dDisp newD [(dVar 2, dC (.int 0))]) (dNil)))) (.nm 4)) (dSeq (dFor (iRange1 (dCons (dVar 0) (dNil))) (.nm 5) (dDrop (dCallM tbl_improve "improve" (dVar 4) dNil))) (dSeq (dIfS (dTest (dOp rEq (dVar 3) (dVar 2))) (dRet (dTup (dNil))) (dNext)) (dRet (dIf (dTest (dOp rIn (dVar 3) (dUn (rAttr cs_sums "sums") (dVar 4)))) (dCallM tbl_way_back "way_back" (dVar 4) (dCons (dVar 3) (dCons (dVar 2) (dNil)))) (dC .non)))))
abbrev t_f_law_chain_sum : DS := dSeq (dPar3 4 5 6 (dCons (dVar 2) (dCons (dC (.int 0)) (dCons (dLst newD (dNil)) (dNil))))) (dSeq (dFor (iSeq (dVar 1)) (.nm 7) (dSeq (dIfS (dOr (dTest (dOp rNe (dOp rItem (dOp rItem (dVar 0) (dVar 7)) (dC (.int 0))) (dVar 4))) (dTest (dOp rIn (dVar 4) (dVar 6)))) (dRet (dC .non)) (dNext)) (dSeq (dDrop (dMeth isLst mAppend (dVar 6) (dCons (dVar 4) (dNil)))) (dPar 4 5 (dCons (dOp rItem (dOp rItem (dVar 0) (dVar 7)) (dC (.int 1))) (dCons (dOp (rPlus newZ) (dVar 5) (dOp rItem (dOp rItem (dVar 0) (dVar 7)) (dC (.int 2)))) dNil)))))) (dRet (dIf (dAnd (dTest (dOp rEq (dVar 4) (dVar 3))) (dOr (dTest (dOp rNotIn (dVar 4) (dVar 6))) (dTest (dOp rEq (dVar 2) (dVar 3))))) (dVar 5) (dC .non))))
abbrev t_f_law_are_indices : DS := dSeq (dIfS (dNot (dTest (dUn (rIsi .tuple) (dVar 0)))) (dRet (dC (.bl false))) (dNext)) (dRet (dCallB cAll (dCons (dLC newZ (iSeq (dVar 0)) (.nm 2) (tYesD) (dAndV (dUn (rIsi .int) (dVar 2)) (dAndV (dNotV (dUn (rIsi .bool) (dVar 2))) (dChain rLe rLt (dC (.int 0)) (dVar 2) (dVar 1)))) [2]) (dNil))))
abbrev t_f_law_ring_fits : DS := dSeq (dIfS (dOr (dNot (dTest (dCall sp_f_law_are_indices (dCons (dVar 1) (dCons (dCallB cLen (dCons (dVar 0) (dNil))) (dNil)))))) (dTest (dOp rEq (dVar 1) (dTup (dNil))))) (dRet (dC (.bl false))) (dNext)) (dSeq (dAsg (dOp rItem (dOp rItem (dVar 0) (dOp rItem (dVar 1) (dC (.int 0)))) (dC (.int 0))) (.nm 2)) (dSeq (dAsg (dCall sp_f_law_chain_sum (dCons (dVar 0) (dCons (dVar 1) (dCons (dVar 2) (dCons (dVar 2) (dNil)))))) (.nm 3)) (dRet (dAndV (dUn rNotN (dVar 3)) (dOp rGt (dVar 3) (dC (.int 0)))))))
abbrev t_f_law_satisfies : DS := dSeq (dIfS (dOr (dNot (dTest (dUn (rIsi .tuple) (dVar 1)))) (dTest (dOp rNe (dCallB cLen (dCons (dVar 1) (dNil))) (dVar 2)))) (dRet (dC (.bl false))) (dNext)) (dSeq (dIfS (dNot (dTest (dCallB cAll (dCons (dLC newZ (iSeq (dVar 1)) (.nm 6) (tYesD) (dAndV (dUn (rIsi .int) (dVar 6)) (dAndV (dNotV (dUn (rIsi .bool) (dVar 6))) (dOp rLt (dCallB cAbs (dCons (dVar 6) (dNil))) (dOp rMul (dOp rPow (dC (.int 10)) (dC (.int 60))) (dOp rPow (dC (.int 10)) (dC (.int 10))))))) [6]) (dNil))))) (dRet (dC (.bl false))) (dNext)) (dRet (dCallB cAll (dCons (dLC newZ (iSeq (dVar 0)) (.tp [.nm 3, .nm 4, .nm 5]) (tYesD) (dOp rGe (dOp rItem (dVar 1) (dVar 4)) (dOp (rPlus newZ) (dOp rItem (dVar 1) (dVar 3)) (dVar 5))) [3, 4, 5]) (dNil)))))
abbrev t_f_law_long_row_right : DS := dSeq (dAsg (dLstRg newD (dRg1 (dC (.int 11)))) (.nm 1)) (dSeq (dFor (iRange1 (dCons (dC (.int 10)) (dNil))) (.nm 2) (dSeq (dAsg (dOp (rPlus newZ) (dVar 2) (dCall sp_f_law_draw (dCons (dVar 0) (dCons (dOp rSub (dC (.int 11)) (dVar 2)) (dNil))))) (.nm 7)) (dAsgG (dTup (dCons (dOp rItem (dVar 1) (dVar 7)) (dCons (dOp rItem (dVar 1) (dVar 2)) (dNil)))) (gdTup 2 (gdCons (gdIx (dVar 1) (dVar 2)) (gdCons (gdIx (dVar 1) (dVar 7)) (gdNil))))))) (dSeq (dAsg (dUn (rRev newD) (dLC newZ (iRange1 (dCons (dC (.int 10)) (dNil))) (.nm 2) (tYesD) (dTup (dCons (dOp rItem (dVar 1) (dVar 2)) (dCons (dOp rItem (dVar 1) (dOp (rPlus newZ) (dVar 2) (dC (.int 1)))) (dCons (dOp (rPlus newZ) (dC (.int 1)) (dCall sp_f_law_draw (dCons (dVar 0) (dCons (dC (.int 9)) (dNil))))) (dNil))))) [2])) (.nm 3)) (dSeq (dAsg (dCallB cSum (dCons (dLC newZ (iSeq (dVar 3)) (.nm 8) (tYesD) (dOp rItem (dVar 8) (dC (.int 2))) [8]) (dNil))) (.nm 4)) (dSeq (dAsg (dCall sp_solve_edges (dCons (dC (.int 11)) (dCons (dCallB cTuple (dCons (dVar 3) (dNil))) (dNil)))) (.nm 5)) (dSeq (dIfS (dOr (dTest (dOp rNe (dOp rItem (dVar 5) (dC (.int 0))) (dC (.str "times")))) (dNot (dTest (dCall sp_f_law_satisfies (dCons (dVar 3) (dCons (dOp rItem (dVar 5) (dC (.int 1))) (dCons (dC (.int 11)) (dNil)))))))) (dRet (dC (.bl false))) (dNext)) (dSeq (dIfS (dTest (dOp rNe (dCall sp_greatest_chain (dCons (dC (.int 11)) (dCons (dCallB cTuple (dCons (dVar 3) (dNil))) (dCons (dOp rItem (dVar 1) (dC (.int 0))) (dCons (dOp rItem (dVar 1) (dC (.int 10))) (dNil)))))) (dUn (rRev newZ) (dTupRg (dRg1 (dC (.int 10))))))) (dRet (dC (.bl false))) (dNext)) (dSeq (dAsg (dCall sp_solve_edges (dCons (dC (.int 11)) (dCons (dOp (rPlus newZ) (dCallB cTuple (dCons (dVar 3) (dNil))) (dTup (dCons (dTup (dCons (dOp rItem (dVar 1) (dC (.int 10))) (dCons (dOp rItem (dVar 1) (dC (.int 0))) (dCons (dOp rSub (dC (.int 0)) (dVar 4)) (dNil))))) (dNil)))) (dNil)))) (.nm 6)) (dSeq (dIfS (dOr (dTest (dOp rNe (dOp rItem (dVar 6) (dC (.int 0))) (dC (.str "times")))) (dNot (dTest (dCall sp_f_law_satisfies (dCons (dVar 3) (dCons (dOp rItem (dVar 6) (dC (.int 1))) (dCons (dC (.int 11)) (dNil)))))))) (dRet (dC (.bl false))) (dNext)) (dSeq (dDrop (dMeth isLst mAppend (dVar 3) (dCons (dTup (dCons (dOp rItem (dVar 1) (dC (.int 10))) (dCons (dOp rItem (dVar 1) (dC (.int 0))) (dCons (dOp rSub (dC (.int 1)) (dVar 4)) (dNil))))) (dNil)))) (dSeq (dAsg (dCall sp_solve_edges (dCons (dC (.int 11)) (dCons (dCallB cTuple (dCons (dVar 3) (dNil))) (dNil)))) (.nm 5)) (dRet (dAndV (dOp rEq (dOp rItem (dVar 5) (dC (.int 0))) (dC (.str "ring"))) (dAndV (dCall sp_f_law_ring_fits (dCons (dVar 3) (dCons (dOp rItem (dVar 5) (dC (.int 1))) (dNil)))) (dOp rEq (dCallB cLen (dCons (dOp rItem (dVar 5) (dC (.int 1))) (dNil))) (dC (.int 11))))))))))))))))
abbrev t_law : DS := dSeq (dAsg (dCall sp_f_law_pen (dCons (dVar 0) (dNil))) (.nm 1)) (dSeq (dAsg (dLC newZ (iRange1 (dCons (dC (.int 11)) (dNil))) (.nm 4) (tYesD) (dCall sp_f_law_draw (dCons (dVar 1) (dCons (dOp rPow (dC (.int 10)) (dC (.int 61))) (dNil)))) [4]) (.nm 2)) (dSeq (dAsg (dLst newD (dNil)) (.nm 3)) (dSeq (dFor (iRange1 (dCons (dC (.int 200)) (dNil))) (.nm 4) (dSeq (dAsg (dCall sp_f_law_pair (dCons (dVar 1) (dCons (dC (.int 11)) (dNil)))) (.tp [.nm 6, .nm 7])) (dDrop (dMeth isLst mAppend (dVar 3) (dCons (dTup (dCons (dVar 6) (dCons (dVar 7) (dCons (dOp rSub (dOp rSub (dOp rItem (dVar 2) (dVar 7)) (dOp rItem (dVar 2) (dVar 6))) (dCall sp_f_law_draw (dCons (dVar 1) (dCons (dC (.int 3)) (dNil))))) (dNil))))) (dNil)))))) (dSeq (dAsg (dCall sp_solve_edges (dCons (dC (.int 11)) (dCons (dCallB cTuple (dCons (dVar 3) (dNil))) (dNil)))) (.nm 5)) (dSeq (dIfS (dOr (dTest (dOp rNe (dOp rItem (dVar 5) (dC (.int 0))) (dC (.str "times")))) (dNot (dTest (dCall sp_f_law_satisfies (dCons (dVar 3) (dCons (dOp rItem (dVar 5) (dC (.int 1))) (dCons (dC (.int 11)) (dNil)))))))) (dRet (dC (.bl false))) (dNext)) (dSeq (dAsg (dCall sp_f_law_pair (dCons (dVar 1) (dCons (dC (.int 11)) (dNil)))) (.tp [.nm 6, .nm 7])) (dSeq (dAsg (dCall sp_f_law_best_sums (dCons (dC (.int 11)) (dCons (dVar 3) (dNil)))) (.nm 8)) (dSeq (dAsg (dCall sp_greatest_chain (dCons (dC (.int 11)) (dCons (dCallB cTuple (dCons (dVar 3) (dNil))) (dCons (dVar 6) (dCons (dVar 7) (dNil)))))) (.nm 9)) (dSeq (dIfS (dTest (dOp rNe (dUn rIsN (dVar 9)) (dInT true (dCons (dVar 6) (dCons (dVar 7) (dNil))) (dVar 8)))) (dRet (dC (.bl false))) (dNext)) (dSeq (dIfS (dAnd (dTest (dUn rNotN (dVar 9))) (dTest (dOp rNe (dCall sp_f_law_chain_sum (dCons (dVar 3) (dCons (dVar 9) (dCons (dVar 6) (dCons (dVar 7) (dNil)))))) (dItemT (dVar 8) (dCons (dVar 6) (dCons (dVar 7) (dNil))))))) (dRet (dC (.bl false))) (dNext)) (dSeq (dAsg (dCall sp_f_law_draw (dCons (dVar 1) (dCons (dC (.int 200)) (dNil)))) (.nm 10)) (dSeq (dSetIx (dOp (rPlus newZ) (dSl newZ (dOp rItem (dVar 3) (dVar 10)) dNone (dSome (dC (.int 2)))) (dTup (dCons (dOp (rPlus newZ) (dOp rPow (dC (.int 10)) (dC (.int 61))) (dOp rPow (dC (.int 10)) (dC (.int 61)))) (dNil)))) (dVar 3) (dVar 10)) (dSeq (dSetIx (dTup (dCons (dOp rItem (dOp rItem (dVar 3) (dVar 10)) (dC (.int 1))) (dCons (dOp rItem (dOp rItem (dVar 3) (dVar 10)) (dC (.int 0))) (dCons (dOp rSub (dC (.int 1)) (dOp rPow (dC (.int 10)) (dC (.int 61)))) (dNil))))) (dVar 3) (dOp rMod (dOp (rPlus newZ) (dVar 10) (dC (.int 1))) (dC (.int 200)))) (dSeq (dAsg (dCall sp_solve_edges (dCons (dC (.int 11)) (dCons (dCallB cTuple (dCons (dVar 3) (dNil))) (dNil)))) (.nm 5)) (dRet (dAndV (dOp rEq (dOp rItem (dVar 5) (dC (.int 0))) (dC (.str "ring"))) (dAndV (dCall sp_f_law_ring_fits (dCons (dVar 3) (dCons (dOp rItem (dVar 5) (dC (.int 1))) (dNil)))) (dCall sp_f_law_long_row_right (dCons (dVar 1) (dNil))))))))))))))))))))

theorem pow18 : CPowD 10 18 ↔ True := by unfold CPowD; simp
theorem ok_f_law_pen : OkD pPen 1 1 t_f_law_pen := by
  rintro ds M X Q ⟨ns, rfl, q⟩
  refine ⟨rfl, fun hb hd => .inl ?_⟩
  simp [t_f_law_pen]
  refine ⟨_, ⟨?_, .inl (by simp)⟩, .inl (by simp), q⟩
  refine lessP_of ?_
  simp [lessH, LeO]
  exact ⟨ns.take 63, 0, 0, by simp [cutD, List.map_take], by omega, by omega, by simp; omega⟩
theorem ok_f_law_fresh : OkD pFresh 1 7 t_f_law_fresh := by
  rintro ds M X Q ⟨p, cs, at', left, rfl, g0, h5, k⟩
  refine ⟨rfl, fun hb hd => .inl ?_⟩
  have lp : p < M.length := (List.getElem?_eq_some_iff.mp g0).1
  have g1 : (M.set p (some (.lst [.lis (cs.map D.int), .int (at' + 1), .int left])))[p]? = some (some (.lst [.lis (cs.map D.int), .int (at' + 1), .int left])) := by simp [lp]
  have fin : ∀ n : Int, 0 ≤ n → WkD M.length Q (.int n) (M.set p (some (.lst [.lis (cs.map D.int), .int (at' + 1), .int left]))) := fun n hn => .of (k n _ hn (by omega))
  unfold penL at g0
  simp [t_f_law_fresh, rItem_at g0, rSet_at g0]
  generalize M.set p (some (.lst [.lis (cs.map D.int), .int (at' + 1), .int left])) = M1 at g1 fin ⊢
  refine dCut_by (J := fun ρ' M' => ∃ cell : Int, ρ' = [some (.ref p), some (.int at'), some (.int cell), none, none, none, none] ∧ M' = M1) ?_ ?_
  · simp [rItem_at g1]
    refine rNe_of (by simp [D.plain, plain_ints]) rfl (by simp [D.py, PyData.depth, dep_ints]) ?_
    have e : PyData.eqv (D.lis (cs.map D.int)).py (D.lis []).py = cs.isEmpty := by cases cs <;> rfl
    rw [e]
    simp
    refine br_of (fun hc => ?_) fun hc => ⟨0, rfl, rfl⟩
    have hl : 0 < cs.length := by
      cases cs with
      | nil => simp at hc
      | cons _ _ => simp
    simp [rItem_at g1, hl]
    have hm1 : 0 ≤ at' % (cs.length : Int) := Int.emod_nonneg _ (by omega)
    have hm2 : at' % (cs.length : Int) < cs.length := Int.emod_lt_of_pos _ (by omega)
    have e : at' % (cs.length : Int) = ((at' % (cs.length : Int)).toNat : Nat) := (Int.toNat_of_nonneg hm1).symm
    rw [e]
    have hj : (at' % (cs.length : Int)).toNat < cs.length := by omega
    refine (itemQ_nat (d := .int cs[(at' % (cs.length : Int)).toNat]) (by simp [hj])).mpr ?_
    simp
    exact ⟨_, rfl, rfl⟩
  · rintro ρ' M2 ⟨cell, rfl, rfl⟩
    have tail : loopD (fun _ => True) (.nm 6) (dSeq (dAsg (dOp (rPlus newZ) (dOp rMul (dVar 4) (dVar 4)) (dOp rMul (dOp rMul (dC (.int 69621)) (dOp (rPlus newZ) (dVar 6) (dC (.int 1)))) (dOp (rPlus newZ) (dVar 1) (dC (.int 1))))) (.nm 4)) (dSeq (dAsg (dOp rMod (dOp (rPlus newZ) (dVar 4) (dVar 2)) (dVar 3)) (.nm 4)) (dAsg (dOp (rPlus newZ) (dOp rMul (dVar 5) (dVar 3)) (dVar 4)) (.nm 5)))) (rangeD 0 6)
        { nx := dRet (dVar 5) (ends M.length X Q), rt := (ends M.length X Q).rt, bk := (ends M.length X Q).bk, ct := (ends M.length X Q).ct, ex := (ends M.length X Q).ex } [some (.ref p), some (.int at'), some (.int cell), some (.int 2305843009213693951), some (.int ((cell * 48271 + 40692 * at' + 31) % 2305843009213693951)), some (.int ((cell * 48271 + 40692 * at' + 31) % 2305843009213693951)), none] M2 := by
      refine loop_rng (T := Int × Int) (fun t => [some (.ref p), some (.int at'), some (.int cell), some (.int 2305843009213693951), some (.int t.1), some (.int t.2), none]) (fun _ => M2) (fun i t => 0 ≤ t.1 ∧ t.1 < 2305843009213693951 ∧ 0 ≤ t.2)
        ⟨((cell * 48271 + 40692 * at' + 31) % 2305843009213693951, (cell * 48271 + 40692 * at' + 31) % 2305843009213693951), by simp [lessS], by simp, .inl rfl, by simp; omega⟩ ?_ ?_
      · rintro i ⟨st, fo⟩ hi ⟨h8, h9, h10⟩
        simp only at h8 h9 h10
        have e1 : st.natAbs < 2 ^ 64 := by omega
        have e2 : ((69621 : Int) * ((i : Int) + 1)).natAbs < 2 ^ 64 := by omega
        simp [e1, e2]
        exact nx_at ((st * st + 69621 * ((i : Int) + 1) * (at' + 1) + cell) % 2305843009213693951, fo * 2305843009213693951 + (st * st + 69621 * ((i : Int) + 1) * (at' + 1) + cell) % 2305843009213693951) (by simp [lessS]) (by simp only; omega) (by simp) (.inl rfl)
      · rintro ⟨st, fo⟩ ⟨h8, h9, h10⟩
        simp
        exact fin fo h10
    simp [rItem_at g1, pow18]
    refine br_of (fun h1 => br_of (fun h2 => ?_) fun _ => tail) fun _ => tail
    exact fin _ (by have := of_decide_eq_true h2; omega)
theorem ok_f_law_draw : OkD pDraw 2 3 t_f_law_draw := by
  rintro ds M X Q ⟨p, many, rfl, ⟨h0, h1⟩, hp, k⟩
  have lp : p < M.length := (List.getElem?_eq_some_iff.mp hp).1
  refine ⟨rfl, fun hb hd => .inr ⟨p, hp, ?_⟩⟩
  rintro l ⟨cs, at', left, rfl, h5, h6, h7⟩
  have tl : ∀ (a l : Int), 0 ≤ a → 0 ≤ l → dSeq (dAsg (dOp rMod (dOp rItem (dVar 0) (dC (.int 2))) (dVar 1)) (.nm 2)) (dSeq (dSetIx (dOp rDiv (dOp rItem (dVar 0) (dC (.int 2))) (dVar 1)) (dVar 0) (dC (.int 2))) (dRet (dVar 2))) (ends M.length X Q) [some (.ref p), some (.int many), none] (M.set p (some (.lst (penL cs a l)))) := by
    intro a l ha hl
    have g2 : (M.set p (some (.lst (penL cs a l))))[p]? = some (some (.lst [.lis (cs.map D.int), .int a, .int l])) := by simp [lp, penL]
    simp [rItem_at g2, rSet_at g2, h0, CDivD, h1]
    refine ⟨M, ⟨fun i o h => ?_, .inl (by simp)⟩, .inl (by simp), k _ (Int.emod_nonneg _ (by omega)) (Int.emod_lt_of_pos _ h0)⟩
    by_cases hi : p = i
    · subst hi
      rw [hp] at h; cases h
      exact ⟨.lst [.lis (cs.map D.int), .int a, .int (l / many)], by simp [lp], .inr ⟨rfl, _, rfl, cs, a, l / many, rfl, ha, Int.ediv_nonneg hl (by omega), h7⟩⟩
    · exact ⟨o, by rw [List.getElem?_set_ne hi]; exact h, .inl rfl⟩
  have g0 : (M.set p (some (.lst [.lis (cs.map D.int), .int at', .int left])))[p]? = some (some (.lst (penL cs at' left))) := by simp [lp, penL]
  refine dCut_by (J := fun ρ' M' => ∃ a l, 0 ≤ a ∧ 0 ≤ l ∧ ρ' = [some (.ref p), some (.int many), none] ∧ M' = M.set p (some (.lst (penL cs a l)))) ?_ ?_
  · have g0' := g0
    unfold penL at g0'
    simp [rItem_at g0']
    refine br_of (fun _ => ?_) fun _ => stop2 ⟨at', left, h5, h6, rfl, rfl⟩
    refine ⟨p, cs, at', left, rfl, g0, h5, fun n a' hn ha => ?_⟩
    have g2 : (M.set p (some (.lst (penL cs a' left))))[p]? = some (some (.lst [.lis (cs.map D.int), .int a', .int left])) := by simp [lp, penL]
    simp [rSet_at g2]
    exact stop2 ⟨a', n, ha, hn, rfl, rfl⟩
  · rintro ρ' M' ⟨a, l, ha, hl, rfl, rfl⟩
    exact tl a l ha hl

theorem lookD_encS {S : AL Int} {k : Nat} : lookD (encS S) (.inl (k : Int)) = (S.gt k).map D.int := by
  induction S with
  | nil => rfl
  | cons p S ih =>
    rw [gt_cons]
    by_cases h : p.1 = k
    · simp [encS, lookD, h]
    · have h' : ¬((p.1 : Int) = k) := by omega
      simp [encS, lookD, h, h'] at ih ⊢
      exact ih
theorem lookD_encL {S : AL Nat} {k : Nat} : lookD (encL S) (.inl (k : Int)) = (S.gt k).map fun i : Nat => D.int i := by
  induction S with
  | nil => rfl
  | cons p S ih =>
    rw [gt_cons]
    by_cases h : p.1 = k
    · simp [encL, lookD, h]
    · have h' : ¬((p.1 : Int) = k) := by omega
      simp [encL, lookD, h, h'] at ih ⊢
      exact ih
theorem putD_encS {S : AL Int} {k : Nat} {v : Int} : putD (encS S) (.inl (k : Int)) (.int v) = encS (S.pt k v) := by
  have e : ∀ p : Nat × Int, decide ((Sum.inl (p.1 : Int) : Key) = .inl (k : Int)) = decide (p.1 = k) := fun p => by
    by_cases h : p.1 = k
    · simp [h]
    · have h' : ¬((p.1 : Int) = k) := by omega
      simp [h, h']
  unfold putD AL.pt encS
  rw [List.any_map]
  simp only [Function.comp_def, e]
  split
  · simp only [List.map_map]
    apply List.map_congr_left
    intro p _
    by_cases h : p.1 = k
    · simp [h]
    · have h' : ¬((p.1 : Int) = k) := by omega
      simp [h, h']
  · simp
theorem putD_encL {S : AL Nat} {k : Nat} {v : Nat} : putD (encL S) (.inl (k : Int)) (.int (v : Int)) = encL (S.pt k v) := by
  have e : ∀ p : Nat × Nat, decide ((Sum.inl (p.1 : Int) : Key) = .inl (k : Int)) = decide (p.1 = k) := fun p => by
    by_cases h : p.1 = k
    · simp [h]
    · have h' : ¬((p.1 : Int) = k) := by omega
      simp [h, h']
  unfold putD AL.pt encL
  rw [List.any_map]
  simp only [Function.comp_def, e]
  split
  · simp only [List.map_map]
    apply List.map_congr_left
    intro p _
    by_cases h : p.1 = k
    · simp [h]
    · have h' : ¬((p.1 : Int) = k) := by omega
      simp [h, h']
  · simp
theorem ok_Search___init__ : OkD sp_Search___init__ 3 3 t_Search___init__ := by
  rintro ds M X Q ⟨q, d, a, rfl, hq, k⟩
  refine ⟨rfl, fun hb hd => .inl ?_⟩
  simp (maxDischargeDepth := 6) [t_Search___init__, hq]
  simp (maxDischargeDepth := 6) [hq] at k
  exact .of k
theorem ok_Search_before : OkD sp_Search_before 2 2 t_Search_before := by
  rintro ds M X Q ⟨q, a, b, d, E, S, L, v, i, p, w, rfl, sa, hd, hl, he, k⟩
  refine ⟨rfl, fun hb _ => .inl ?_⟩
  have hb' : lookD (encL L) (.inl (v : Int)) = some (.int (i : Int)) := by rw [lookD_encL, hl]; rfl
  have ei : (E.map edD)[i]? = some (.tup [.int p, .int v, .int w]) := by rw [List.getElem?_map, he]; rfl
  have hE : ∀ R : DQ, rItem d (.int (i : Int)) M R ↔ R (.tup [.int p, .int v, .int w]) M := fun R => by
    rcases hd with rfl | rfl <;> simp [itemQ_nat ei]
  simp (maxDischargeDepth := 6) [t_Search_before, sa.mq, sa.mb, hb', hE]
  exact .of k
theorem enumD_zip : ∀ (E : List Ed) (k : Nat), enumD (k : Int) (E.map edD) = (E.zipIdx k).map fun p => .tup [.int (p.2 : Int), edD p.1]
  | [], _ => rfl
  | e :: r, k => by
    have := enumD_zip r (k + 1)
    simp only [List.map_cons, List.zipIdx_cons, enumD_cons]
    rw [← this]
    rfl
theorem ok_Search_improve : OkD sp_Search_improve 1 6 t_Search_improve := by
  rintro ds M X Q ⟨q, a, b, d, E, S, L, n, rfl, sa, hd, hE, h1, h2, k⟩
  refine ⟨rfl, fun hb _ => .inl ?_⟩
  have hen : ∀ R : List D → (MH → Prop) → MH → Prop, seqI d M R ↔ R (E.map edD) (fun _ => True) M := fun R => by
    rcases hd with rfl | rfl <;> simp
  have st0 : (M.set a (some (.dic (encS S)))).set b (some (.dic (encL L))) = M := by rw [set_same sa.ma, set_same sa.mb]
  simp (maxDischargeDepth := 6) [t_Search_improve, sa.mq, hen]
  refine loop_st (enumD_zip E 0) (T := CSt) (fun σ => [some (.ref q), some (gD σ.g), none, none, none, none]) (fun σ => (M.set a (some (.dic (encS σ.s)))).set b (some (.dic (encL σ.l))))
    (fun i σ => σ = relaxs (E.take i) 0 ⟨S, L, none⟩) (nx_go ⟨S, L, none⟩ (by simp [lessS, gD]) rfl (by rw [st0]; simp) (.inl (by simp))) (fun i x σ hx ht J => ?_) fun σ J => ?_
  · refine ⟨trivial, ?_⟩
    obtain ⟨e0, he0, rfl⟩ : ∃ e0, E[i]? = some e0 ∧ x = (e0, i) := by
      rw [List.getElem?_zipIdx] at hx
      cases h : E[i]? with
      | none => rw [h] at hx; cases hx
      | some e0 => rw [h] at hx; simp at hx; exact ⟨e0, rfl, hx.symm⟩
    obtain ⟨u, v, w⟩ := e0
    have hil : i < E.length := (List.getElem?_eq_some_iff.mp he0).1
    have nx : relaxs (E.take (i + 1)) 0 ⟨S, L, none⟩ = relax i (u, v, w) σ := by
      rw [List.take_add_one, he0, relaxs_app, J]
      simp [relaxs, Nat.min_eq_left (Nat.le_of_lt hil)]
    have l1 : σ.s.length ≤ S.length + i ∧ σ.l.length ≤ L.length + i := by
      have := relaxs_len (r := E.take i) (i := 0) (σ := ⟨S, L, none⟩)
      rw [← J] at this
      simp at this
      omega
    have mq' : ((M.set a (some (.dic (encS σ.s)))).set b (some (.dic (encL σ.l))))[q]? = some (some (srchO d a b)) := by rw [get_set2 sa.qb.symm, get_set2 sa.qa.symm, sa.mq]
    have ma' : ((M.set a (some (.dic (encS σ.s)))).set b (some (.dic (encL σ.l))))[a]? = some (some (.dic (encS σ.s))) := by rw [get_set2 sa.ab.symm, get_set1 sa.ma]
    have mb' : ((M.set a (some (.dic (encS σ.s)))).set b (some (.dic (encL σ.l))))[b]? = some (some (.dic (encL σ.l))) := by rw [get_set1]; rw [get_set2 sa.ab]; exact sa.mb
    have key : ∀ z y, ((((M.set a (some (.dic (encS σ.s)))).set b (some (.dic (encL σ.l)))).set a z).set b y) = (M.set a z).set b y := fun z y => by
      rw [List.set_comm _ _ sa.ab.symm, List.set_set, List.set_set]
    have stay : relax i (u, v, w) σ = σ → ∀ ρ, lessS [some (D.ref q), some (gD σ.g), none, none, none, none] ρ → nxP M.length (fun σ' => σ' = relaxs (E.take (i + 1)) 0 ⟨S, L, none⟩) (fun σ => [some (D.ref q), some (gD σ.g), none, none, none, none]) (fun σ => (M.set a (some (.dic (encS σ.s)))).set b (some (.dic (encL σ.l)))) ρ ((M.set a (some (.dic (encS σ.s)))).set b (some (.dic (encL σ.l)))) := fun hr ρ hl => by
      exact nx_go σ hl (by rw [nx, hr]) (by simp) (.inl rfl)
    clear J
    generalize hM : (M.set a (some (MO.dic (encS σ.s)))).set b (some (MO.dic (encL σ.l))) = M1 at mq' ma' mb' key stay
    have lM : M1.length = M.length := by rw [← hM]; simp
    cases hu : σ.s.gt u with
    | none =>
      simp (maxDischargeDepth := 6) [edD, mq', ma', lookD_encS, hu]
      exact stay (by unfold relax; rw [hu]) _ (by simp [lessS])
    | some xu =>
      simp (maxDischargeDepth := 6) [edD, mq', ma', lookD_encS, hu]
      have szs : ∀ m, m < 100001 → m < sizeLine := fun m h => by rw [sizeLine_eq]; omega
      refine br_of (fun c => ?_) fun c => stay ?_ _ (by simp [lessS])
      · have hr : relax i (u, v, w) σ = ⟨σ.s.pt v (xu + w), σ.l.pt v i, some v⟩ := by
          unfold relax
          cases hv : σ.s.gt v with
          | none => simp [hu, hv]
          | some y => simp [hu, hv] at c ⊢; omega
        have g1 : (M1.set a (some (MO.dic (encS (σ.s.pt v (xu + w))))))[q]? = some (some (srchO d a b)) := by rw [get_set2 sa.qa.symm, mq']
        have g2 : (M1.set a (some (MO.dic (encS (σ.s.pt v (xu + w))))))[b]? = some (some (.dic (encL σ.l))) := by rw [get_set2 sa.ab, mb']
        rw [rSet_dic ma']
        refine ⟨.inl v, rfl, by simp [encS]; exact szs _ (by omega), ?_⟩
        rw [putD_encS]
        simp (maxDischargeDepth := 6) [g1, rSet_dic g2]
        refine ⟨by simp [encL]; exact szs _ (by omega), ?_⟩
        rw [putD_encL, key]
        exact nx_at (relax i (u, v, w) σ) (by rw [hr]; simp [lessS, gD]) nx.symm (by rw [hr]; simp) (.inl (by simp))
      · unfold relax
        cases hv : σ.s.gt v with
        | none => simp [hv] at c; omega
        | some y => simp [hu, hv] at c ⊢; omega
  · refine ⟨trivial, ?_⟩
    have e : σ = pass E ⟨S, L, none⟩ := by rw [J]; simp [pass]
    simp
    exact .of (k σ e)
theorem before_at {M : MH} {q a b : Nat} {d : D} {E : List Ed} {S : AL Int} {L : AL Nat} {v i p : Nat} {w : Int} {X : XQ} {Q : DQ} (sa : SrchAt M q a b d S L) (hd : edsIs d E) (hl : L.gt v = some i) (he : E[i]? = some (p, v, w)) (k : Q (.int (p : Int)) M) : sp_Search_before [.ref q, .int (v : Int)] M X Q := ⟨q, a, b, d, E, S, L, v, i, p, w, rfl, sa, hd, hl, he, k⟩
theorem SrchAt.app {M l : MH} {q a b : Nat} {d : D} {S : AL Int} {L : AL Nat} (sa : SrchAt M q a b d S L) : SrchAt (M ++ l) q a b d S L := ⟨get_old sa.mq, get_old sa.ma, get_old sa.mb, sa.qa, sa.qb, sa.ab⟩
theorem ok_Search_way_back : OkD sp_Search_way_back 3 4 t_Search_way_back := by
  rintro ds M X Q ⟨q, a, b, d, E, S, L, v, u, is, t, rfl, sa, hd, hb, hne, hlen, hint, k⟩
  refine ⟨rfl, fun hb1 hb2 => .inl ?_⟩
  cases hb with
  | nil => exact absurd rfl hne
  | @cons _ p _ i w t js hl he hrest =>
    have hl' : lookD (encL L) (.inl (v : Int)) = some (.int (i : Int)) := by rw [lookD_encL, hl]; rfl
    simp (maxDischargeDepth := 6) [t_Search_way_back, sa.mq, sa.mb, hl']
    refine before_at sa.app hd hl he ?_
    simp
    let enc : List Nat → List D := fun l => l.map fun i : Nat => D.int i
    refine ⟨List Nat × Nat, fun t => [some (.ref q), some (.int (t.2 : Int)), some (.int (u : Int)), some (.ref M.length)], fun t => M ++ [some (.lst (enc t.1))],
      fun n t' => ∃ js2 t1 t2, i :: js = t'.1 ++ js2 ∧ t'.1 ≠ [] ∧ Bk E L v t'.1 t'.2 t1 ∧ Bk E L t'.2 js2 u t2 ∧ js2.length = n, ⟨js.length, nx_go ([i], p) (by simp [lessS]) ⟨js, _, _, rfl, by simp, .cons hl he .nil, hrest, rfl⟩ (by simp [enc]) (.inl (by simp))⟩, ?_⟩
    rintro n ⟨is1, m⟩ ⟨js2, t1, t2, e1, e2, b1, b2, e3⟩
    simp
    refine br_of (fun c => ?_) fun c => ?_
    · cases b2 with
      | nil => simp at c
      | @cons _ p2 _ i2 w2 t2 js3 hl2 he2 b3 =>
        have hl2' : lookD (encL L) (.inl (m : Int)) = some (.int (i2 : Int)) := by rw [lookD_encL, hl2]; rfl
        have hlen2 : is1.length < 1000 := by have := congrArg List.length e1; simp at this hlen; omega
        simp (maxDischargeDepth := 6) [sa.mq, sa.mb, hl2', enc, szl' is1.length (by omega)]
        refine before_at sa.app hd hl2 he2 ?_
        simp
        exact nx_at (is1 ++ [i2], p2) (by simp [lessS]) ⟨js3.length, by simp at e3; omega, js3, t1 + (w2 + 0), t2, by simp at e1 ⊢; exact e1, by simp, b1.app (.cons hl2 he2 .nil), b3, rfl⟩ (by simp) (.inl (by simp))
    · have : js2 = [] := by
        refine Classical.byContradiction fun h => ?_
        have := hint is1 js2 m t1 t2 e1 e2 h b1 b2
        simp at c; exact this (by omega)
      subst this
      have rv : ∀ R : DQ, rRev newZ (.ref M.length) (M ++ [some (.lst (is1.map fun i : Nat => D.int i))]) R ↔ R (.lis (is1.map fun i : Nat => D.int i).reverse) (M ++ [some (.lst (is1.map fun i : Nat => D.int i))]) := fun R => by
        simp [rRev]
      simp (maxDischargeDepth := 6) [enc, rv]
      have e1 : i :: js = is1 := by simpa using e1
      subst e1
      refine .cut hb1 ?_ (by simpa using k)
      rw [← List.map_reverse]
      exact bels_map fun x _ => rfl

theorem init_at {M : MH} {q a : Nat} {d : D} {X : XQ} {Q : DQ} (hq : M[q]? = some (some (.ins "Search" []))) (k : Q .non ((M ++ [some (MO.dic [])]).set q (some (srchO d a M.length)))) : sp_Search___init__ [.ref q, d, .ref a] M X Q := ⟨q, d, a, rfl, hq, k⟩
theorem improve_at {M : MH} {q a b n : Nat} {d : D} {E : List Ed} {S : AL Int} {L : AL Nat} {X : XQ} {Q : DQ} (sa : SrchAt M q a b d S L) (hd : edsIs d E) (hE : Below n E) (h1 : S.length + E.length ≤ 100000) (h2 : L.length + E.length ≤ 100000)
    (k : Q (gD (pass E ⟨S, L, none⟩).g) ((M.set a (some (.dic (encS (pass E ⟨S, L, none⟩).s)))).set b (some (.dic (encL (pass E ⟨S, L, none⟩).l))))) : sp_Search_improve [.ref q] M X Q := ⟨q, a, b, d, E, S, L, n, rfl, sa, hd, hE, h1, h2, fun σ e => by subst e; exact k⟩
theorem way_at {M : MH} {q a b : Nat} {d : D} {E : List Ed} {S : AL Int} {L : AL Nat} {v u : Nat} {is : List Nat} {t : Int} {X : XQ} {Q : DQ} (sa : SrchAt M q a b d S L) (hd : edsIs d E) (hb : Bk E L v is u t) (hn : is ≠ []) (hl : is.length ≤ 1000)
    (hi : ∀ js ks m t1 t2, is = js ++ ks → js ≠ [] → ks ≠ [] → Bk E L v js m t1 → Bk E L m ks u t2 → m ≠ u) (k : Q (.tup (is.reverse.map fun i => D.int ((i : Nat) : Int))) M) : sp_Search_way_back [.ref q, .int (v : Int), .int (u : Int)] M X Q := ⟨q, a, b, d, E, S, L, v, u, is, t, rfl, sa, hd, hb, hn, hl, hi, k⟩
theorem ok_greatest_chain : OkD sp_greatest_chain 4 6 t_greatest_chain := by
  rintro ds M X Q ⟨n, d, E, st, en, f, rfl, hd, hE, hs, he, hn, hl, hf, k1, k2⟩
  refine ⟨rfl, fun hb hdb => .inl ?_⟩
  simp (maxDischargeDepth := 6) [t_greatest_chain]
  refine ⟨[(.inl st, .int 0)], by simp [kD], by simp, init_at (by simp) ?_⟩
  simp (maxDischargeDepth := 6)
  refine ⟨by omega, loop_rng (T := CSt) (fun _ => [some (.int n), some d, some (.int st), some (.int en), some (.ref (M.length + 1)), none]) (fun σ => M ++ [some (.dic (encS σ.s)), some (srchO d M.length (M.length + 2)), some (.dic (encL σ.l))])
    (fun i σ => i ≤ n ∧ σ = rounds E i (start [(st, 0)])) (nx_go (start [(st, 0)]) (by simp [lessS]) ⟨Nat.zero_le _, rfl⟩ (by simp [start, encS, encL, mergeD, putD]) (.inl rfl)) (fun i σ hi J => ?_) fun σ J => ?_⟩
  · refine ⟨trivial, ?_⟩
    obtain ⟨hi', J⟩ := J
    have hlen : σ.s.length + E.length ≤ 100000 ∧ σ.l.length + E.length ≤ 100000 := by
      have h := rounds_len (E := E) (σ := start [(st, 0)]) i
      rw [← J] at h
      have : i * E.length ≤ 100 * 900 := Nat.mul_le_mul (by omega) hl
      simp [start] at h
      omega
    simp (maxDischargeDepth := 6)
    refine improve_at (a := M.length) (b := M.length + 2) (S := σ.s) (L := σ.l) ⟨by simp, by simp, by simp, by omega, by omega, by omega⟩ hd hE hlen.1 hlen.2 ?_
    simp
    exact nx_at (pass E σ) (by simp [lessS]) ⟨hi, by rw [J]; rfl⟩ (by simp [pass]) (.inl rfl)
  · refine ⟨trivial, ?_⟩
    obtain ⟨_, J⟩ := J
    simp (maxDischargeDepth := 6)
    refine br_of (fun e => ?_) fun e => ?_
    · have e : st = en := by simp at e; omega
      exact .cut hb (by simp [D.bel, D.bels]) (k1 e)
    · have e : st ≠ en := by simp at e; omega
      obtain ⟨k3, k4⟩ := k2 e
      have lk : lookD (encS σ.s) (.inl (en : Int)) = (σ.s.gt en).map D.int := lookD_encS
      simp (maxDischargeDepth := 6) [lk]
      cases hy : σ.s.gt en with
      | none =>
        simp
        rw [J] at hy
        exact .cut hb rfl (k4 ⟨_, greatest_serves hE hf, st_zero hE hf hs, hy⟩)
      | some y =>
        simp
        rw [J] at hy
        obtain ⟨is, h3, h4, h5, h6, h7⟩ := chain_ok hE hf hs en he e y hy
        rw [← J] at h3 h7
        refine way_at (a := M.length) (b := M.length + 2) (S := σ.s) (L := σ.l) ⟨by simp, by simp, by simp, by omega, by omega, by omega⟩ hd h3 h4 (by omega) h7 ?_
        refine .cut hb ?_ (k3 _ _ (by simpa using h4) (by simpa using h5) h6)
        exact bels_map fun x _ => rfl
theorem mergeD_new {l m : List (Key × D)} (h : (l ++ m).Pairwise fun p q => p.1 ≠ q.1) : mergeD l m = l ++ m := by
  induction m generalizing l with
  | nil => simp [mergeD]
  | cons p m ih =>
    have hp : putD l p.1 p.2 = l ++ [p] := by
      unfold putD
      rw [if_neg]
      intro hc
      obtain ⟨q, hq, hqp⟩ := List.any_eq_true.mp hc
      have := (List.pairwise_append.mp h).2.2 q hq p (by simp)
      exact this (of_decide_eq_true hqp)
    show List.foldl _ (putD l p.1 p.2) m = _
    rw [hp]
    have := ih (l := l ++ [p]) (by simpa using h)
    rw [List.append_assoc] at this
    exact this
theorem merge_st0 {n : Nat} : mergeD [] (encS (st0 n)) = encS (st0 n) := by
  rw [mergeD_new]
  · rfl
  · rw [List.nil_append]
    unfold encS st0
    rw [List.map_map, List.pairwise_map]
    refine List.Pairwise.imp ?_ List.nodup_range
    intro a b hab
    simp
    omega
theorem ok_solve_edges : OkD sp_solve_edges 2 6 t_solve_edges := by
  rintro ds M X Q ⟨n, d, E, rfl, hd, hE, hn0, hn, hl, k1, k2⟩
  refine ⟨rfl, fun hb hdb => .inl ?_⟩
  simp (maxDischargeDepth := 6) [t_solve_edges, wipeD]
  refine ⟨by omega, by rw [rangeD_ln]; exact szl' n (by omega), comp_fn (l := (List.range n)) (e := fun i : Nat => D.int i) (by rw [rangeD_map]; simp) (fun i => some (.tup [.int (i : Int), .int 0])) trivial (fun i x hx => ?_) ?_⟩
  · simp [kD]
    exact stop2 ⟨back_, x, hx, rfl⟩
  · simp
    have em : (List.range n).map (fun v : Nat => ((.inl (v : Int) : Key), D.int 0)) = encS (st0 n) := by simp [encS, st0]
    refine ⟨(List.range n).map fun v : Nat => (.inl (v : Int), .int 0), by simp [pairD, kD], ?_⟩
    rw [em, merge_st0]
    refine init_at (by simp) ?_
    simp (maxDischargeDepth := 6)
    refine ⟨by omega, loop_rng (T := CSt × Option D) (fun t => [some (.int n), some d, some (.ref (M.length + 1)), none, t.2, none]) (fun t => M ++ [some (.dic (encS t.1.s)), some (srchO d M.length (M.length + 2)), some (.dic (encL t.1.l))])
      (fun i t => i ≤ n ∧ t.1 = rounds E i (start (st0 n)) ∧ (0 < i → ∃ v, t.1.g = some v ∧ t.2 = some (.int (v : Int)))) (nx_go (start (st0 n), none) (by simp [lessS]) ⟨Nat.zero_le _, rfl, fun h => absurd h (by omega)⟩ (by simp [start, encL]) (.inl rfl)) (fun i t hi J => ?_) fun t J => ?_⟩
    · obtain ⟨σ, o⟩ := t
      obtain ⟨hi', J, Jg⟩ := J
      simp only at J Jg ⊢
      refine ⟨trivial, ?_⟩
      have hlen : σ.s.length + E.length ≤ 100000 ∧ σ.l.length + E.length ≤ 100000 := by
        have h := rounds_len (E := E) (σ := start (st0 n)) i
        rw [← J] at h
        have : i * E.length ≤ 100 * 900 := Nat.mul_le_mul (by omega) hl
        simp [start, st0] at h
        omega
      have J' : pass E ⟨σ.s, σ.l, none⟩ = rounds E (i + 1) (start (st0 n)) := by rw [J]; rfl
      simp (maxDischargeDepth := 6)
      refine improve_at (a := M.length) (b := M.length + 2) (S := σ.s) (L := σ.l) ⟨by simp, by simp, by simp, by omega, by omega, by omega⟩ hd hE hlen.1 hlen.2 ?_
      rw [J']
      cases hg : (rounds E (i + 1) (start (st0 n))).g with
      | some v =>
        simp [gD]
        exact nx_at (rounds E (i + 1) (start (st0 n)), some (.int v)) (by simp [lessS]) ⟨hi, rfl, fun _ => ⟨v, hg, rfl⟩⟩ (by simp) (.inl rfl)
      | none =>
        obtain ⟨t1, t2⟩ := times_ok hE hg
        simp [gD, wipeD]
        refine ⟨by omega, by rw [rangeD_ln]; exact szl n (by omega), comp_fn (l := List.range n) (e := fun i : Nat => D.int i) (by rw [rangeD_map]; simp) (fun v => some (.int (((rounds E (i + 1) (start (st0 n))).s.gt v).getD 0))) trivial (fun j v hv => ?_) ?_⟩
        · have hv' : v < n := by simpa using List.mem_of_getElem? hv
          obtain ⟨x, hx⟩ := t2 v hv'
          have lk : lookD (encS (rounds E (i + 1) (start (st0 n))).s) (.inl (v : Int)) = some (.int x) := by rw [lookD_encS, hx]; rfl
          simp (maxDischargeDepth := 6) [lk]
          exact stop2 ⟨back_, v, hv, by rw [hx]; rfl⟩
        · simp
          refine .cut hb ?_ ?_
          · simp [D.bel, D.bels]
            exact bels_map fun x _ => rfl
          · have := k1 _ t1
            simpa [Function.comp_def] using this
    · obtain ⟨σ, o⟩ := t
      obtain ⟨_, J, Jg⟩ := J
      simp only at J Jg ⊢
      obtain ⟨v, hg, rfl⟩ := Jg hn0
      refine ⟨trivial, ?_⟩
      have hv : v < n := by rw [J, show n = (n - 1) + 1 by omega] at hg; rw [show (n - 1) + 1 = n by omega] at hg; exact gt_none_k (k := n - 1) hE (by rw [show n - 1 + 1 = n by omega]; exact hg)
      have ok : Ok1 E (st0 n) σ := by rw [J]; exact ok1_rounds _
      have all : ∀ k, σ.l.gt (itp E σ.l k v) ≠ none := by
        have := ring_steps (n := n) (E := E) (S0 := st0 n) (v := v) hn0 hE hv (by rw [← J]; exact hg)
        rw [← J] at this
        exact this
      have sa : SrchAt (M ++ [some (.dic (encS σ.s)), some (srchO d M.length (M.length + 2)), some (.dic (encL σ.l))]) (M.length + 1) M.length (M.length + 2) d σ.s σ.l := ⟨by simp, by simp, by simp, by omega, by omega, by omega⟩
      simp (maxDischargeDepth := 6)
      refine ⟨by omega, loop_rng (T := Nat) (fun u => [some (.int n), some d, some (.ref (M.length + 1)), none, some (.int (u : Int)), none]) (fun _ => M ++ [some (.dic (encS σ.s)), some (srchO d M.length (M.length + 2)), some (.dic (encL σ.l))])
        (fun i u => u = itp E σ.l i v) (nx_go v (by simp [lessS]) rfl (by simp) (.inl rfl)) (fun i u hi J => ?_) fun u J => ?_⟩
      · refine ⟨trivial, ?_⟩
        cases e : σ.l.gt u with
        | none => rw [J] at e; exact absurd e (all i)
        | some j =>
          obtain ⟨p, w, _, _, e1, _⟩ := ok.last _ _ e
          simp (maxDischargeDepth := 6)
          refine before_at sa hd e e1 ?_
          simp
          exact nx_at p (by simp [lessS]) (by show p = par E σ.l (itp E σ.l i v); rw [← J]; exact (bk_par e e1).symm) (by simp) (.inl rfl)
      · refine ⟨trivial, ?_⟩
        obtain ⟨is, t, hbk, h2, h3, h4, h5⟩ := ring_ok ok hE hv all
        rw [← J] at hbk h5
        simp (maxDischargeDepth := 6)
        refine way_at sa hd hbk h2 (by omega) h5 ?_
        simp
        refine .cut hb ?_ ?_
        · simp [D.bel, D.bels]
          rw [← List.map_reverse]
          exact bels_map fun x _ => rfl
        · have := k2 _ h4 (by simpa using h3)
          simpa using this

theorem c20 : CPowD 10 20 ↔ True := by unfold CPowD; simp
theorem c60 : CPowD 10 60 ↔ True := by unfold CPowD; simp
theorem c61 : CPowD 10 61 ↔ True := by unfold CPowD; simp
theorem weightless : True := trivial
theorem ok_f_law_pair : OkD sp_f_law_pair 2 3 t_f_law_pair := by
  rintro ds M X Q ⟨p, n, rfl, n1, n2, hp, k⟩
  refine ⟨rfl, fun hb hd => .inl ?_⟩
  have wn : Wide (n : Int) := ⟨by omega, by omega⟩
  have wn' : Wide ((n : Int) - 1) := ⟨by omega, by omega⟩
  simp [t_f_law_pair, hp, wn, wn']
  intro a a0 a1 s s0 s1
  refine ⟨by omega, .of ?_⟩
  have b0 : 0 ≤ (a + 1 + s) % (n : Int) := Int.emod_nonneg _ (by omega)
  have b1 : (a + 1 + s) % (n : Int) < n := Int.emod_lt_of_pos _ (by omega)
  have ne : a ≠ (a + 1 + s) % (n : Int) := by
    intro e
    by_cases h : a + 1 + s < n
    · rw [Int.emod_eq_of_lt (by omega) h] at e; omega
    · have : (a + 1 + s) % (n : Int) = a + 1 + s - n := by
        rw [← Int.sub_emod_right, Int.emod_eq_of_lt (by omega) (by omega)]
      omega
  generalize (a + 1 + s) % (n : Int) = b at b0 b1 ne ⊢
  have := k a.toNat b.toNat (by omega) (by omega) (by omega)
  rw [Int.toNat_of_nonneg a0, Int.toNat_of_nonneg b0] at this
  exact this
theorem pair_at {p n : Nat} {M : MH} {X : XQ} {Q : DQ} (n1 : 2 ≤ n) (n2 : n ≤ 1000) (hp : M[p]? = some (some .pen)) : sp_f_law_pair [.ref p, .int n] M X Q ↔ ∀ a b : Nat, a < n → b < n → a ≠ b → Q (.tup [.int a, .int b]) M :=
  ⟨by rintro ⟨_, n', e, _, _, _, q⟩; simp at e; obtain ⟨rfl, e⟩ := e; have : n = n' := by omega
      subst this; exact q, fun q => ⟨p, n, rfl, n1, n2, hp, q⟩⟩

theorem all_true {l : List Bool} (h : ∀ b ∈ l, b = true) : l.all id = true := List.all_eq_true.mpr fun b hb => h b hb
theorem c10 : CPowD 10 10 ↔ True := by unfold CPowD; simp
theorem ok_f_law_satisfies : OkD sp_f_law_satisfies 3 7 t_f_law_satisfies := by
  rintro ds M X Q ⟨d, E, t, n, rfl, hd, hE, hl, hn, ht, hx, hs, k⟩
  refine ⟨rfl, fun hb hdb => .inl ?_⟩
  obtain ⟨G, hG, hen⟩ : ∃ G : MH → Prop, G M ∧ ∀ R : List D → (MH → Prop) → MH → Prop, seqI d M R ↔ R (E.map edD) G M := by
    rcases hd with (rfl | rfl) | ⟨q, rfl, hq⟩
    · exact ⟨_, trivial, fun R => by simp; exact Iff.rfl⟩
    · exact ⟨_, trivial, fun R => by simp; exact Iff.rfl⟩
    · exact ⟨_, hq, fun R => seqI_at hq⟩
  have ht' : (t.length : Int) = n := by omega
  simp [t_f_law_satisfies, ht', wipeD]
  refine ⟨szl _ (by omega), comp_fn (e := D.int) rfl (fun x : Int => some (.bl (decide (x.natAbs < 10 ^ 70)))) trivial (fun i x hi => ?_) ?_⟩
  · simp [c60, c10]
    refine stop2 ⟨back_, x, hi, ?_⟩
    congr 2
    rw [decide_eq_decide]
    split <;> omega
  · have a1 : (t.all fun x : Int => decide (x.natAbs < 10000000000000000000000000000000000000000000000000000000000000000000000)) = true := List.all_eq_true.mpr fun x h => decide_eq_true (hx x h)
    simp [a1, hen]
    refine ⟨szl _ (by omega), comp_fn (e := edD) rfl (fun _ => some (.bl true)) hG (fun i x hi => ?_) ?_⟩
    · obtain ⟨a, b, w⟩ := x
      have hm := List.mem_of_getElem? hi
      obtain ⟨ha, hb'⟩ := hE _ hm
      simp only at ha hb'
      have hp := (times_at ht hE).mp hs a b w hm
      have gb : (t.map D.int)[b]? = some (.int (t.getD b 0)) := by simp [List.getD, ht, hb']
      have ga : (t.map D.int)[a]? = some (.int (t.getD a 0)) := by simp [List.getD, ht, ha]
      simp only [] at hp
      simp [edD, itemQ_nat gb, itemQ_nat ga]
      refine stop2 ⟨back_, (a, b, w), hi, ?_⟩
      congr 2
      refine (decide_eq_true ?_).symm
      simpa [List.getD] using hp
    · simp
      exact .of (by rw [show (E.all fun x => true) = true from by simp]; exact k)
theorem sat_at {n : Nat} {d : D} {E : List Ed} {t : List Int} {M : MH} {X : XQ} {Q : DQ} (hd : edsAt M d E) (hE : Below n E) (hl : E.length ≤ 900) (hn : n ≤ 100) (ht : t.length = n) (hx : ∀ x ∈ t, x.natAbs < 10 ^ 70) (hs : Serves E (fun v => t[v]?)) (k : Q (.bl true) M) : sp_f_law_satisfies [d, .tup (t.map D.int), .int n] M X Q := ⟨d, E, t, n, rfl, hd, hE, hl, hn, ht, hx, hs, k⟩

theorem se_times {n : Nat} {d : D} {E : List Ed} {g : Nat → Int} {M : MH} {X : XQ} {Q : DQ} (hd : edsIs d E) (hE : Below n E) (h0 : 0 < n) (hn : n ≤ 100) (hl : E.length ≤ 900) (hg : PotOf E g) (k : ∀ t, TimesOk n E t → Q (.tup [.str "times", .tup (t.map D.int)]) M) : sp_solve_edges [.int n, d] M X Q := ⟨n, d, E, rfl, hd, hE, h0, hn, hl, k, fun is r _ => (ring_no hg r).elim⟩
theorem se_ring {n : Nat} {d : D} {E : List Ed} {M : MH} {X : XQ} {Q : DQ} (hd : edsIs d E) (hE : Below n E) (h0 : 0 < n) (hn : n ≤ 100) (hl : E.length ≤ 900) (no : ∀ t, TimesOk n E t → False) (k : ∀ is, RingOk E is → is.length ≤ n → Q (.tup [.str "ring", .tup (is.map fun i : Nat => D.int i)]) M) : sp_solve_edges [.int n, d] M X Q := ⟨n, d, E, rfl, hd, hE, h0, hn, hl, fun t h => (no t h).elim, k⟩
theorem gc_chain {n : Nat} {d : D} {E : List Ed} {st en : Nat} {f : Nat → Int} {M : MH} {X : XQ} {Q : DQ} (hd : edsIs d E) (hE : Below n E) (hs : st < n) (he : en < n) (hn : n ≤ 100) (hl : E.length ≤ 900) (hf : PotOf E f) (ne : st ≠ en) (k : ∀ is t, is ≠ [] → is.length < n → ChainOk E st en is t → Q (.tup (is.map fun i : Nat => D.int i)) M) (k2 : (∃ S, Serves E S ∧ S st = some 0 ∧ S en = none) → Q .non M) : sp_greatest_chain [.int n, d, .int st, .int en] M X Q := ⟨n, d, E, st, en, f, rfl, hd, hE, hs, he, hn, hl, hf, fun e => absurd e ne, fun _ => ⟨k, k2⟩⟩
/-- the least value in all timelines -/
theorem TimesOk.pot {n : Nat} {E : List Ed} {t : List Int} (h : TimesOk n E t) (hE : Below n E) : PotOf E fun v => t.getD v 0 := (times_at h.1 hE).mp h.2.1
theorem TimesOk.small {n : Nat} {E : List Ed} {t : List Int} (h : TimesOk n E t) (hn : n ≤ 100) (hW : ∀ e ∈ E, e.2.2 ≤ 10 ^ 67) : ∀ x ∈ t, x.natAbs < 10 ^ 70 := fun x hx => by
  obtain ⟨h0, h1⟩ := h.2.2 x hx
  have h2 := h1 (10 ^ 67) hW (by decide)
  have h3 : (n : Int) * 10 ^ 67 ≤ 100 * 10 ^ 67 := Int.mul_le_mul_of_nonneg_right (by omega) (by decide)
  have h4 : (100 : Int) * 10 ^ 67 < 10 ^ 70 := by decide
  have h5 : x < 10 ^ 70 := by omega
  have h6 : (10 : Int) ^ 70 = ((10 ^ 70 : Nat) : Int) := by decide
  omega
theorem below_one {n a b : Nat} {E : List Ed} {w : Int} (hE : Below n E) (ha : a < n) (hb : b < n) : Below n (E ++ [(a, b, w)]) := fun e he => by
  rcases List.mem_append.mp he with he | he
  · exact hE e he
  · simp at he; subst he; exact ⟨ha, hb⟩
theorem srv_sub {E F : List Ed} {S : Nat → Option Int} (h : ∀ e ∈ F, e ∈ E) (hs : Serves E S) : Serves F S := fun a b w m => hs a b w (h _ m)
/-- all served, b at just t above a -/
theorem pot_tight {n : Nat} {E : List Ed} {f : Nat → Int} {a b : Nat} {is : List Nat} {t : Int} (hE : Below n E) (hf : PotOf E f) (h : ChainOk E a b is t) : ∃ g, PotOf (E ++ [(b, a, 0 - t)]) g := by
  obtain ⟨_, _, S, s1, s2, s3⟩ := h
  obtain ⟨g, g1, g2, _⟩ := pot_ext hE hf s1 0
  exact ⟨g, pot_app.mpr ⟨g1, pot_one.mpr (by have := g2 _ _ s2; have := g2 _ _ s3; omega)⟩⟩
theorem pot_low {n : Nat} {E : List Ed} {f : Nat → Int} {a b : Nat} {S : Nat → Option Int} (hE : Below n E) (hf : PotOf E f) (s1 : Serves E S) (s2 : S a = some 0) (s3 : S b = none) (w : Int) : ∃ g, PotOf (E ++ [(b, a, w)]) g := by
  obtain ⟨g, g1, g2, g3⟩ := pot_ext hE hf s1 (f b + w)
  exact ⟨g, pot_app.mpr ⟨g1, pot_one.mpr (by have := g2 _ _ s2; have := g3 _ s3; omega)⟩⟩
/-- greatest sums are told by a chain alike -/
theorem chain_same {E F : List Ed} {a b : Nat} {is js : List Nat} {t u : Int} (h : ChainOk E a b is t) (g : ChainOk F a b js u) (e : ∀ e, e ∈ E ↔ e ∈ F) : t = u := by
  obtain ⟨c1, _, S, s1, s2, s3⟩ := h
  obtain ⟨c2, _, R, r1, r2, r3⟩ := g
  obtain ⟨y, y1, y2⟩ := chn_srv (srv_sub (fun x m => (e x).mp m) r1) c1 0 r2
  obtain ⟨z, z1, z2⟩ := chn_srv (srv_sub (fun x m => (e x).mpr m) s1) c2 0 s2
  rw [r3] at y1; cases y1
  rw [s3] at z1; cases z1
  omega
theorem chain_none {E F : List Ed} {a b : Nat} {is : List Nat} {t : Int} {S : Nat → Option Int} (h : ChainOk E a b is t) (e : ∀ e, e ∈ E → e ∈ F) (s1 : Serves F S) (s2 : S a = some 0) (s3 : S b = none) : False := by
  obtain ⟨c1, _⟩ := h
  obtain ⟨y, y1, y2⟩ := chn_srv (srv_sub e s1) c1 0 s2
  rw [s3] at y1; cases y1
def aOf (E : List Ed) (i : Nat) : Nat := (E.getD i (0, 0, 0)).1
def bOf (E : List Ed) (i : Nat) : Nat := (E.getD i (0, 0, 0)).2.1
def wOf (E : List Ed) (i : Nat) : Int := (E.getD i (0, 0, 0)).2.2
theorem wOf_sum {E : List Ed} {is : List Nat} {u v : Nat} {t : Int} (h : Chn E is u v t) : (is.map (wOf E)).sum = t := chn_sum h
theorem ed_at {E : List Ed} {i : Nat} (h : i < E.length) : (E.map edD)[i]? = some (.tup [.int (aOf E i), .int (bOf E i), .int (wOf E i)]) := by
  simp [h, edD, wOf, aOf, bOf]
theorem abw {E : List Ed} {i a b : Nat} {w : Int} (h : E[i]? = some (a, b, w)) : aOf E i = a ∧ bOf E i = b ∧ wOf E i = w := by
  simp [aOf, bOf, wOf, List.getD, h]
theorem t_at {t : List Int} {n v : Nat} (h : t.length = n) (hv : v < n) : (t.map D.int)[v]? = some (.int (t.getD v 0)) := by
  simp [h, hv]
theorem nat_at {l : List Nat} {j : Nat} (h : j < l.length) : (l.map fun i : Nat => D.int i)[j]? = some (.int (l.getD j 0 : Nat)) := by
  simp [h]
theorem nat_in {n : Nat} {l : List Nat} {j : Nat} (hl : ∀ v ∈ l, v < n) (h : j < l.length) : l.getD j 0 < n := by
  have e : l.getD j 0 = l[j] := by simp [List.getD, h]
  rw [e]; exact hl _ (List.getElem_mem h)
theorem nat_set {n : Nat} {l : List Nat} {j x : Nat} (hl : ∀ v ∈ l, v < n) (h : x < n) : ∀ v ∈ l.set j x, v < n := fun v hv => by
  rcases List.mem_or_eq_of_mem_set hv with h1 | h1
  · exact hl v h1
  · rw [h1]; exact h
theorem nat_sets {l : List Nat} {j x : Nat} : (l.map fun i : Nat => D.int i).set j (.int x) = (l.set j x).map fun i : Nat => D.int i := by
  rw [List.map_set]

theorem edsAt.item {M : MH} {d : D} {E : List Ed} {i : Nat} {Q : DQ} (h : edsAt M d E) (hi : i < E.length) : rItem d (.int (i : Int)) M Q ↔ Q (.tup [.int (aOf E i), .int (bOf E i), .int (wOf E i)]) M := by
  rcases h with (rfl | rfl) | ⟨q, rfl, hq⟩
  · rw [rItem_tup, itemQ_nat (ed_at hi)]
  · rw [rItem_lis, itemQ_nat (ed_at hi)]
  · rw [rItem_at hq, itemQ_nat (ed_at hi)]
theorem edsAt.len {M : MH} {d : D} {E : List Ed} {Q : DQ} (h : edsAt M d E) : cLen [d] M Q ↔ Q (.int E.length) M := by
  rcases h with (rfl | rfl) | ⟨q, rfl, hq⟩
  · simp
  · simp
  · rw [cLen_at hq]; simp
theorem edsAt.app {M l : MH} {d : D} {E : List Ed} (h : edsAt M d E) : edsAt (M ++ l) d E := by
  rcases h with h | ⟨q, e, hq⟩
  · exact .inl h
  · exact .inr ⟨q, e, get_old hq⟩
theorem ok_f_law_are_indices : OkD sp_f_law_are_indices 2 3 t_f_law_are_indices := by
  rintro ds M X Q ⟨is, n, rfl, hl, hi, k⟩
  refine ⟨rfl, fun hb hd => .inl ?_⟩
  simp [t_f_law_are_indices]
  refine ⟨szl _ hl, comp_fn (l := is) (e := fun i : Nat => D.int i) rfl (fun i => some (.bl (decide (i < n)))) trivial (fun j i hj => ?_) ?_⟩
  · simp
    exact stop2 ⟨back_, i, hj, by simp⟩
  · have e : (is.all fun i => decide (i < n)) = true := List.all_eq_true.mpr fun i h => decide_eq_true (hi i h)
    simp [e]
    exact .of k
theorem memD_ints {u : Nat} {l : List Nat} : memD (.int (u : Int)) (l.map fun i : Nat => D.int i) = decide (u ∈ l) := by
  induction l with
  | nil => rfl
  | cons x l ih =>
    have e : memD (.int (u : Int)) ((x :: l).map fun i : Nat => D.int i) = (((x : Int) == (u : Int)) || memD (.int (u : Int)) (l.map fun i : Nat => D.int i)) := rfl
    rw [e, ih]
    by_cases h : x = u
    · simp [h]
    · have h1 : ¬(u = x) := fun z => h z.symm
      have h2 : ((x : Int) == (u : Int)) = false := by simp; omega
      rw [h2]; simp [h1]
theorem flat_ints {l : List Nat} : ((l.map fun i : Nat => D.int i).all flatD) = true := List.all_eq_true.mpr fun x hx => by
  obtain ⟨i, _, rfl⟩ := List.mem_map.mp hx; rfl
theorem Chn.at {E : List Ed} : ∀ {is : List Nat} {u v : Nat} {t : Int} {j i : Nat}, Chn E is u v t → is[j]? = some i → ∃ m w t1 t2, E[i]? = some (m, w) ∧ Chn E (is.take j) u m t1 ∧ Chn E (is.drop (j + 1)) w.1 v t2 ∧ t = t1 + w.2 + t2
  | [], _, _, _, _, _, _, h => by simp at h
  | x :: is, u, v, t, 0, i, ⟨m, w, t', h1, h2, h3⟩, h => by
    simp at h; subst h
    exact ⟨u, (m, w), 0, t', h1, ⟨rfl, rfl⟩, by simpa using h2, by simp; omega⟩
  | x :: is, u, v, t, j + 1, i, ⟨m, w, t', h1, h2, h3⟩, h => by
    obtain ⟨m2, w2, t1, t2, g1, g2, g3, g4⟩ := Chn.at (j := j) h2 (by simpa using h)
    exact ⟨m2, w2, w + t1, t2, g1, ⟨m, w, t1, h1, g2, rfl⟩, by simpa using g3, by omega⟩
theorem chn_det {E : List Ed} : ∀ {is : List Nat} {u v v' : Nat} {t t' : Int}, Chn E is u v t → Chn E is u v' t' → v = v' ∧ t = t'
  | [], _, _, _, _, _, h, g => by
    obtain ⟨rfl, rfl⟩ := h
    obtain ⟨rfl, rfl⟩ := g
    exact ⟨rfl, rfl⟩
  | i :: is, _, _, _, _, _, ⟨m, w, t1, h1, h2, h3⟩, ⟨m', w', t1', g1, g2, g3⟩ => by
    rw [h1] at g1
    cases g1
    obtain ⟨rfl, rfl⟩ := chn_det h2 g2
    exact ⟨rfl, by omega⟩
theorem ok_f_law_chain_sum : OkD sp_f_law_chain_sum 4 8 t_f_law_chain_sum := by
  rintro ds M X Q ⟨d, E, is, u, v, t, rfl, hE, hl, hc, hnd, huv, k⟩
  refine ⟨rfl, fun hb hd => .inl ?_⟩
  have hm := chn_mem hc
  simp [t_f_law_chain_sum]
  refine loop_st (e := fun i : Nat => D.int i) rfl (T := Nat × Int × List Nat) (fun s => [some d, some (.tup (is.map fun i : Nat => D.int i)), some (.int u), some (.int v), some (.int s.1), some (.int s.2.1), some (.ref M.length), none]) (fun s => M ++ [some (.lst (s.2.2.map fun i : Nat => D.int i))])
    (fun i s => Chn E (is.take i) u s.1 s.2.1 ∧ s.2.2 = pts E (is.take i)) (nx_go (u, 0, []) (by simp [lessS]) ⟨⟨rfl, rfl⟩, rfl⟩ (by simp) (.inl rfl)) (fun j i s hj ht J => ?_) fun s J => ?_
  · obtain ⟨pl, to, se⟩ := s
    obtain ⟨J1, J2⟩ := J
    simp only at J1 J2 ⊢
    subst J2
    have hi := hm i (List.mem_of_getElem? hj)
    have hjl := (List.getElem?_eq_some_iff.mp hj).1
    refine ⟨trivial, ?_⟩
    obtain ⟨m, w, t1, t2, g1, g2, g3, g4⟩ := Chn.at hc hj
    have e1 : m = pl ∧ t1 = to := chn_det g2 J1
    obtain ⟨rfl, rfl⟩ := e1
    have hE2 : edsAt (M ++ [some (MO.lst ((pts E (is.take j)).map fun i : Nat => D.int i))]) d E := hE.app
    have e2 : E.getD i (0, 0, 0) = (m, w) := by simp [List.getD, g1]
    obtain ⟨ea, eb, ew⟩ := abw g1
    have nin : m ∉ pts E (is.take j) := fun hin => by
      have hs : is = is.take j ++ i :: is.drop (j + 1) := by
        obtain ⟨h1, h2⟩ := List.getElem?_eq_some_iff.mp hj
        rw [← h2]; simp
      have hp : pts E is = pts E (is.take j) ++ m :: pts E (is.drop (j + 1)) := by
        conv => lhs; rw [hs]
        have e2' : E[i]?.getD (0, 0, 0) = (m, w) := by simpa [List.getD] using e2
        simp [pts, e2']
      rw [hp] at hnd
      exact (List.nodup_append.mp hnd).2.2 m hin m (by simp) rfl
    simp [hE2.item hi, ea, memD_ints, flat_ints, nin]
    have lp : (pts E (is.take j)).length ≤ 1000 := by simp [pts]; omega
    have hE3 : edsAt (M ++ [some (MO.lst ((pts E (is.take j)).map (fun i : Nat => D.int i) ++ [.int m]))]) d E := hE.app
    refine ⟨szl' _ (by omega), ?_⟩
    simp [hE3.item hi, eb, ew]
    refine nx_at (w.1, t1 + w.2, pts E (is.take (j + 1))) (by simp [lessS]) ⟨?_, rfl⟩ ?_ (.inl (by simp))
    · rw [ht]
      exact g2.app ⟨w.1, w.2, 0, g1, ⟨rfl, rfl⟩, by omega⟩
    · have e2' : E[i]?.getD (0, 0, 0) = (m, w) := by simpa [List.getD] using e2
      rw [ht]; simp [pts, e2']
  · obtain ⟨pl, to, se⟩ := s
    obtain ⟨J1, J2⟩ := J
    simp only [List.take_length] at J1 J2
    obtain ⟨rfl, rfl⟩ := chn_det hc J1
    simp only at J2 ⊢
    subst J2
    refine ⟨trivial, ?_⟩
    have fin : WkD M.length Q (.int t) (M ++ [some (MO.lst ((pts E is).map fun i : Nat => D.int i))]) := .cut hb rfl k
    simp [memD_ints, flat_ints]
    rcases huv with rfl | huv
    · by_cases hin : u ∈ pts E is <;> simpa [hin] using fin
    · simpa [huv] using fin
theorem ok_f_law_ring_fits : OkD sp_f_law_ring_fits 2 4 t_f_law_ring_fits := by
  rintro ds M X Q ⟨d, E, is, rfl, hE, hl, hr, k⟩
  refine ⟨rfl, fun hb hd => .inl ?_⟩
  obtain ⟨u, t, hn, hc, ht, hnd⟩ := hr
  have hm := chn_mem hc
  simp [t_f_law_ring_fits, hE.len]
  refine ⟨is, E.length, rfl, hl, hm, ?_⟩
  obtain ⟨i0, is', rfl⟩ : ∃ i0 is', is = i0 :: is' := by
    cases is with
    | nil => exact absurd rfl hn
    | cons i is => exact ⟨i, is, rfl⟩
  have e0 : aOf E i0 = u := by
    obtain ⟨m, w, t', h1, _⟩ := hc
    exact (abw h1).1
  simp
  refine eq_tnil (by simp [D.plains, D.plain]; exact plains_map fun x _ => rfl) (by simp only [D.pys, PyData.depthAll]; have := dep_map (c := 0) (l := is') (f := fun i : Nat => D.int i) fun x _ => Nat.le_refl 0; simp [D.py, PyData.depth] at this ⊢; omega) ?_
  simp [hE.item (hm i0 (by simp)), e0]
  refine ⟨d, E, i0 :: is', u, u, t, by simp, hE, hl, hc, hnd, .inl rfl, ?_⟩
  simp [ht]
  exact .of k

theorem lookD_put {κ : Type} [DecidableEq κ] {l : List (κ × D)} {k j : κ} {v : D} : lookD (putD l k v) j = if j = k then some v else lookD l j := by
  have cons : ∀ (p : κ × D) (l : List (κ × D)), lookD (p :: l) j = if p.1 = j then some p.2 else lookD l j := fun p l => by
    unfold lookD
    by_cases h : p.1 = j <;> simp [List.find?_cons, h]
  have app : ∀ (l : List (κ × D)) (p : κ × D), lookD (l ++ [p]) j = (lookD l j).or (if p.1 = j then some p.2 else none) := fun l p => by
    induction l with
    | nil => simp [cons, lookD]
    | cons q l ih => rw [List.cons_append, cons, cons, ih]; split <;> simp
  have h1 : ∀ l : List (κ × D), (l.any fun p => decide (p.1 = k)) = true → lookD (l.map fun p => if p.1 = k then (p.1, v) else p) j = if j = k then some v else lookD l j := by
    intro l
    induction l with
    | nil => intro h; cases h
    | cons q l ih =>
      intro h
      rw [List.map_cons, cons, cons]
      by_cases hq : q.1 = k
      · simp only [hq, if_true]
        by_cases hj : j = k
        · simp [hj]
        · have hkj : ¬k = j := fun e => hj e.symm
          simp only [hkj, hj, if_false]
          clear ih h
          induction l with
          | nil => rfl
          | cons r l ih2 =>
            rw [List.map_cons, cons, cons, ih2]
            by_cases hr : r.1 = k
            · simp [hr, hkj]
            · simp [hr]
      · have h2 : (l.any fun p => decide (p.1 = k)) = true := by simpa [hq] using h
        rw [ih h2]
        simp only [hq, if_false]
        by_cases hj : q.1 = j
        · have : ¬j = k := fun e => hq (hj.trans e)
          simp [hj, this]
        · simp [hj]
  unfold putD
  split
  · rename_i h; exact h1 l h
  · rename_i h
    rw [app]
    by_cases hj : j = k
    · subst hj
      have : lookD l j = none := by
        unfold lookD
        rw [List.find?_eq_none.mpr]
        · rfl
        · intro p hp e
          exact h (List.any_eq_true.mpr ⟨p, hp, e⟩)
      simp [this]
    · have : ¬k = j := fun e => hj e.symm
      simp [this, hj]
theorem putD_len {κ : Type} [DecidableEq κ] {l : List (κ × D)} {k : κ} {v : D} : (putD l k v).length ≤ l.length + 1 := by
  unfold putD; split <;> simp
theorem RlB.put {l : List (List Key × D)} {B : BF} (h : RlB l B) (i j : Nat) (x : Int) : RlB (putD l [.inl (i : Int), .inl (j : Int)] (.int x)) (setB B i j x) := fun a b => by
  rw [lookD_put, h a b]
  by_cases e : a = i ∧ b = j
  · obtain ⟨rfl, rfl⟩ := e
    simp [setB]
  · have e2 : ¬([(.inl (a : Int) : Key), .inl (b : Int)] = [.inl (i : Int), .inl (j : Int)]) := fun z => by
      simp at z
      exact e ⟨by omega, by omega⟩
    rw [if_neg e2]
    simp [setB, e]
def wmax (x : Int) (o : Option Int) : Int := match o with
  | none => x
  | some y => if y > x then y else x
theorem wmax_of {x : Int} {o : Option Int} : (x ≤ wmax x o ∧ ∀ y, o = some y → y ≤ wmax x o) ∧ (wmax x o = x ∨ o = some (wmax x o)) := by
  cases o with
  | none => simp [wmax]
  | some y =>
    unfold wmax
    by_cases h : y > x
    · simp [h]; omega
    · simp [h]; omega
abbrev BT := List (List Key × D) × BF
theorem ok_f_law_best_sums : OkD sp_f_law_best_sums 2 9 t_f_law_best_sums := by
  rintro ds M X Q ⟨n, d, E, rfl, hd, hE, h0, hn, hl, k⟩
  refine ⟨rfl, fun hb hdb => .inl ?_⟩
  have mc : ∀ l : List (List Key × D), (M ++ [some (MO.dit l)])[M.length]? = some (some (.dit l)) := fun l => by simp
  have dq : ∀ (l : List (List Key × D)) (i j : Nat) (R : List (List Key × D) → List Key → Prop), ditQ (M ++ [some (MO.dit l)]) (.ref M.length) [.int (i : Int), .int (j : Int)] R ↔ R l [.inl (i : Int), .inl (j : Int)] := fun l i j R => ditQ_at (mc l) rfl
  obtain ⟨G, hG, hen⟩ : ∃ G : MH → Prop, (∀ l : MH, G (M ++ l)) ∧ ∀ (l : MH) (R : List D → (MH → Prop) → MH → Prop), seqI d (M ++ l) R ↔ R (E.map edD) G (M ++ l) := by
    rcases hd with (rfl | rfl) | ⟨q, rfl, hq⟩
    · exact ⟨_, fun _ => trivial, fun l R => by simp; exact Iff.rfl⟩
    · exact ⟨_, fun _ => trivial, fun l R => by simp; exact Iff.rfl⟩
    · exact ⟨fun M => M[q]? = some (some (.lst (E.map edD))), fun l => get_old hq, fun l R => seqI_at (get_old hq)⟩
  simp [t_f_law_best_sums]
  refine ⟨by omega, loop_rng (T := BT) (fun _ => [some (.int n), some d, some (.ref M.length), none, none, none, none, none, none]) (fun t => M ++ [some (.dit t.1)])
    (fun i t => i ≤ n ∧ t.1.length ≤ i ∧ RlB t.1 t.2 ∧ (∀ a b x, t.2 a b = some x → ∃ k, Wk1 E a b x k) ∧ ∀ a, a < i → t.2 a a = some 0) (nx_go ([], fun _ _ => none) (by simp [lessS]) ⟨Nat.zero_le _, Nat.le_refl _, fun i j => rfl, fun _ _ _ h => (nomatch h), fun a h => absurd h (by omega)⟩ (by simp) (.inl (by simp))) (fun i t hi J => ?_) fun t J => ?_⟩
  · obtain ⟨l, B⟩ := t
    obtain ⟨J1, J2, J3, J4, J5⟩ := J
    simp only at J1 J2 J3 J4 J5 ⊢
    refine ⟨trivial, ?_⟩
    have sz : l.length < sizeLine := szl' _ (by omega)
    simp [dq, sz]
    exact nx_at (putD l [.inl (i : Int), .inl (i : Int)] (.int 0), setB B i i 0) (by simp [lessS]) ⟨hi, Nat.le_trans putD_len (by omega), J3.put i i 0, snd_set J4 ⟨0, .nil⟩, fun a ha => by
      by_cases e : a = i
      · subst e; exact setB_same
      · simp only [setB, e, false_and, if_false]; exact J5 a (by omega)⟩ (by simp) (.inl (by simp))
  · obtain ⟨l, B⟩ := t
    obtain ⟨J1, J2, J3, J4, J5⟩ := J
    simp only at J1 J2 J3 J4 J5 ⊢
    refine ⟨trivial, ?_⟩
    simp [hen]
    refine loop_st (e := edD) rfl (T := BT) (fun _ => [some (.int n), some d, some (.ref M.length), none, none, none, none, none, none]) (fun t => M ++ [some (.dit t.1)])
      (fun i t => t.1.length ≤ n + i ∧ RlB t.1 t.2 ∧ (∀ a b x, t.2 a b = some x → ∃ k, Wk1 E a b x k) ∧ (∀ a, a < n → ∃ x, t.2 a a = some x ∧ 0 ≤ x) ∧ ∀ a b w, (a, b, w) ∈ E.take i → ∃ x, t.2 a b = some x ∧ w ≤ x) (nx_go (l, B) (by simp [lessS]) ⟨by simp only; omega, J3, J4, fun a ha => ⟨0, J5 a ha, Int.le_refl _⟩, fun a b w h => by simp at h⟩ (by simp) (.inl (by simp))) (fun i e t he ht K => ?_) fun t K => ?_
    · obtain ⟨l, B⟩ := t
      obtain ⟨a, b, w⟩ := e
      obtain ⟨K1, K2, K3, K4, K5⟩ := K
      simp only at K1 K2 K3 K4 K5 ⊢
      refine ⟨hG _, ?_⟩
      have hi := (List.getElem?_eq_some_iff.mp he).1
      have sz : l.length < sizeLine := szl' _ (by omega)
      have hw : Wk1 E a b w 1 := by have := Wk1.snoc (E := E) .nil (List.mem_of_getElem? he); simpa using this
      have gt := K2 a b
      obtain ⟨⟨m1, m2⟩, m3⟩ := wmax_of (x := w) (o := B a b)
      have cm : ∀ (M : MH) (Q : DQ), cMax2 [.int w, ((lookD l [.inl (a : Int), .inl (b : Int)]).getD (.int w))] M Q ↔ Q (.int (wmax w (B a b))) M := fun M Q => by
        rw [gt]
        cases e : B a b with
        | none => simp [wmax]
        | some y => simp [wmax]
      simp [edD, dq, cm, sz]
      refine nx_at (putD l [.inl (a : Int), .inl (b : Int)] (.int (wmax w (B a b))), setB B a b (wmax w (B a b))) (by simp [lessS]) ⟨Nat.le_trans putD_len (by omega), K2.put a b _, snd_set K3 ?_, fun c hc => ?_, fun c c' w' hm => ?_⟩ (by simp) (.inl (by simp))
      · rcases m3 with m3 | m3
        · rw [m3]; exact ⟨1, hw⟩
        · exact K3 _ _ _ m3
      · obtain ⟨x, hx, h0⟩ := K4 c hc
        obtain ⟨y, hy, h1⟩ := grB_set (B := B) (i := a) (j := b) m2 c c x hx
        exact ⟨y, hy, by omega⟩
      · rw [ht] at hm
        rcases List.mem_append.mp hm with hm | hm
        · obtain ⟨x, hx, h0⟩ := K5 c c' w' hm
          obtain ⟨y, hy, h1⟩ := grB_set (B := B) (i := a) (j := b) m2 c c' x hx
          exact ⟨y, hy, by omega⟩
        · simp at hm
          obtain ⟨rfl, rfl, rfl⟩ := hm
          exact ⟨_, setB_same, m1⟩
    · obtain ⟨l, B⟩ := t
      obtain ⟨K1, K2, K3, K4, K5⟩ := K
      simp only [List.take_length] at K1 K2 K3 K4 K5 ⊢
      refine ⟨hG _, ?_⟩
      have C0 : BestOk n E 0 B := ⟨K3, fun i j t hi hj h => by
        rcases h with ⟨rfl, rfl⟩ | h
        · exact K4 i hi
        · exact K5 i j t h⟩
      clear K3 K4 K5
      simp
      refine ⟨by omega, loop_rng (T := BT) (fun _ => [some (.int n), some d, some (.ref M.length), none, none, none, none, none, none]) (fun t => M ++ [some (.dit t.1)])
        (fun i t => t.1.length ≤ n + E.length + i * (n * n) ∧ RlB t.1 t.2 ∧ BestOk n E i t.2) (nx_go (l, B) (by simp [lessS]) ⟨by simp only; omega, K2, C0⟩ (by simp) (.inl (by simp))) (fun m t hm K => ?_) fun t K => ?_⟩
      · obtain ⟨l, B⟩ := t
        obtain ⟨K1, K2, K3⟩ := K
        simp only at K1 K2 K3 ⊢
        refine ⟨trivial, ?_⟩
        have hnn : n * n ≤ 20 * 20 := Nat.mul_le_mul hn hn
        have hmm : m * (n * n) ≤ 20 * (20 * 20) := Nat.mul_le_mul (by omega) hnn
        have hmm1 : (m + 1) * (n * n) = m * (n * n) + n * n := Nat.succ_mul _ _
        simp
        refine ⟨by omega, loop_rng (T := BT) (fun _ => [some (.int n), some d, some (.ref M.length), none, none, none, none, some (.int (m : Int)), none]) (fun t => M ++ [some (.dit t.1)])
          (fun b t => t.1.length ≤ n + E.length + m * (n * n) + b * n ∧ RlB t.1 t.2 ∧ BestOk n E m t.2 ∧ ∀ i j t1 t2, i < b → j < n → Pm E m i m t1 → Pm E m m j t2 → ∃ x, t.2 i j = some x ∧ t1 + t2 ≤ x) (nx_go (l, B) (by simp [lessS]) ⟨by simp only; omega, K2, K3, fun i j t1 t2 h => absurd h (by omega)⟩ (by simp) (.inl (by simp))) (fun b t hb2 K => ?_) fun t K => ?_⟩
        · obtain ⟨l, B⟩ := t
          obtain ⟨K1, K2, K3, K4⟩ := K
          simp only at K1 K2 K3 K4 ⊢
          refine ⟨trivial, ?_⟩
          have hbb : b * n ≤ 20 * 20 := Nat.mul_le_mul (by omega) (by omega)
          have hbb1 : (b + 1) * n = b * n + n := Nat.succ_mul _ _
          simp
          refine ⟨by omega, loop_rng (T := BT) (fun _ => [some (.int n), some d, some (.ref M.length), none, some (.int (b : Int)), none, none, some (.int (m : Int)), none]) (fun t => M ++ [some (.dit t.1)])
            (fun e t => t.1.length ≤ n + E.length + m * (n * n) + b * n + e ∧ RlB t.1 t.2 ∧ BestOk n E m t.2 ∧ ∀ i j t1 t2, (i < b ∧ j < n ∨ i = b ∧ j < e) → Pm E m i m t1 → Pm E m m j t2 → ∃ x, t.2 i j = some x ∧ t1 + t2 ≤ x) (nx_go (l, B) (by simp [lessS]) ⟨by simp only; omega, K2, K3, fun i j t1 t2 h => by
              rcases h with h | h
              · exact K4 i j t1 t2 h.1 h.2
              · exact absurd h.2 (by omega)⟩ (by simp) (.inl (by simp))) (fun e t he K => ?_) fun t K => ?_⟩
          · obtain ⟨l, B⟩ := t
            obtain ⟨K1, K2, K3, K4⟩ := K
            simp only at K1 K2 K3 K4 ⊢
            refine ⟨trivial, ?_⟩
            have sz : l.length < sizeLine := by rw [sizeLine_eq]; omega
            have g1 := K2 b m
            have g2 := K2 m e
            have stay : (B b m = none ∨ B m e = none) → ∀ ρ, lessS [some (.int n), some d, some (.ref M.length), none, some (.int (b : Int)), none, none, some (.int (m : Int)), none] ρ → ∀ L, nxP L (fun t : BT => t.1.length ≤ n + E.length + m * (n * n) + b * n + (e + 1) ∧ RlB t.1 t.2 ∧ BestOk n E m t.2 ∧ ∀ i j t1 t2, (i < b ∧ j < n ∨ i = b ∧ j < e + 1) → Pm E m i m t1 → Pm E m m j t2 → ∃ x, t.2 i j = some x ∧ t1 + t2 ≤ x)
                (fun _ => [some (.int n), some d, some (.ref M.length), none, some (.int (b : Int)), none, none, some (.int (m : Int)), none]) (fun t => M ++ [some (.dit t.1)]) ρ (M ++ [some (.dit l)]) := fun hN ρ hρ L => by
              refine nx_go (l, B) hρ ⟨by simp only; omega, K2, K3, fun i j t1 t2 h p1 p2 => ?_⟩ (by simp) (.inl (by simp))
              by_cases hq : i = b ∧ j = e
              · obtain ⟨rfl, rfl⟩ := hq
                obtain ⟨x1, hx1, _⟩ := K3.cpl i m t1 (by omega) (by omega) p1
                obtain ⟨x2, hx2, _⟩ := K3.cpl m j t2 (by omega) (by omega) p2
                rcases hN with hN | hN
                · rw [hx1] at hN; cases hN
                · rw [hx2] at hN; cases hN
              · exact K4 i j t1 t2 (by omega) p1 p2
            simp [dq]
            rw [g1]
            cases e1 : B b m with
            | none =>
              simp
              exact stop2 (stay (.inl e1) _ (by simp [lessS]) _)
            | some x1 =>
              simp [dq]
              rw [g2]
              cases e2 : B m e with
              | none =>
                simp
                exact stop2 (stay (.inr e2) _ (by simp [lessS]) _)
              | some x2 =>
                have gt := K2 b e
                obtain ⟨⟨m1, m2⟩, m3⟩ := wmax_of (x := x1 + x2) (o := B b e)
                have cm : ∀ (M : MH) (Q : DQ), cMax2 [.int (x1 + x2), ((lookD l [.inl (b : Int), .inl (e : Int)]).getD (.int (x1 + x2)))] M Q ↔ Q (.int (wmax (x1 + x2) (B b e))) M := fun M Q => by
                  rw [gt]
                  cases ee : B b e with
                  | none => simp [wmax]
                  | some y => simp [wmax]
                simp [dq, g1, g2, e1, e2, cm, sz]
                have gr := grB_set (B := B) (i := b) (j := e) m2
                refine nx_at (putD l [.inl (b : Int), .inl (e : Int)] (.int (wmax (x1 + x2) (B b e))), setB B b e (wmax (x1 + x2) (B b e))) (by simp [lessS]) ⟨Nat.le_trans putD_len (by omega), K2.put b e _, ⟨snd_set K3.snd ?_, fun i j t hi hj h => ?_⟩, fun i j t1 t2 h p1 p2 => ?_⟩ (by simp) (.inl (by simp))
                · rcases m3 with m3 | m3
                  · obtain ⟨k1, w1⟩ := K3.snd _ _ _ e1
                    obtain ⟨k2, w2⟩ := K3.snd _ _ _ e2
                    rw [m3]; exact ⟨_, wk_app w1 w2⟩
                  · exact K3.snd _ _ _ m3
                · obtain ⟨x, hx, h1⟩ := K3.cpl i j t hi hj h
                  obtain ⟨y, hy, h2⟩ := gr i j x hx
                  exact ⟨y, hy, by omega⟩
                · by_cases hq : i = b ∧ j = e
                  · obtain ⟨rfl, rfl⟩ := hq
                    obtain ⟨y1, hy1, l1⟩ := K3.cpl i m t1 (by omega) (by omega) p1
                    obtain ⟨y2, hy2, l2⟩ := K3.cpl m j t2 (by omega) (by omega) p2
                    rw [e1] at hy1; cases hy1
                    rw [e2] at hy2; cases hy2
                    exact ⟨_, setB_same, by omega⟩
                  · obtain ⟨x, hx, h1⟩ := K4 i j t1 t2 (by omega) p1 p2
                    obtain ⟨y, hy, h2⟩ := gr i j x hx
                    exact ⟨y, hy, by omega⟩
          · obtain ⟨l, B⟩ := t
            obtain ⟨K1, K2, K3, K4⟩ := K
            simp only at K1 K2 K3 K4 ⊢
            refine ⟨trivial, ?_⟩
            exact nx_at (l, B) (by simp [lessS]) ⟨by simp only; omega, K2, K3, fun i j t1 t2 hi hj => K4 i j t1 t2 (by omega)⟩ (by simp) (.inl (by simp))
        · obtain ⟨l, B⟩ := t
          obtain ⟨K1, K2, K3, K4⟩ := K
          simp only at K1 K2 K3 K4 ⊢
          refine ⟨trivial, ?_⟩
          exact nx_at (l, B) (by simp [lessS]) ⟨by simp only; omega, K2, ⟨K3.snd, fun i j t hi hj h => by
            rcases h with h | ⟨t1, t2, p1, p2, rfl⟩
            · exact K3.cpl i j t hi hj h
            · exact K4 i j t1 t2 hi hj p1 p2⟩⟩ (by simp) (.inl (by simp))
      · obtain ⟨l, B⟩ := t
        obtain ⟨K1, K2, K3⟩ := K
        refine ⟨trivial, ?_⟩
        simp
        exact .of (k l B K2 K3)

theorem best_chain {n : Nat} {E : List Ed} {B : BF} {a b : Nat} {is : List Nat} {t : Int} (hE : Below n E) (h : BestOk n E n B) (ha : a < n) (hb : b < n) (hn : is ≠ []) (hc : ChainOk E a b is t) : B a b = some t := by
  obtain ⟨c, nd, S, s1, s2, s3⟩ := hc
  have bel : ∀ x ∈ pts E is, x < n := fun x hx => by
    obtain ⟨i, hi, rfl⟩ := List.mem_map.mp hx
    have := chn_mem c i hi
    have hg : E[i]? = some E[i] := List.getElem?_eq_getElem this
    simp only [List.getD, hg]
    exact (hE _ (List.getElem_mem this)).1
  obtain ⟨x, hx, h1⟩ := h.cpl a b t ha hb (chn_pm n c hn ((List.nodup_append.mp nd).1.sublist (List.tail_sublist _)) fun x hx => bel x (List.mem_of_mem_tail hx))
  obtain ⟨l, w⟩ := h.snd a b x hx
  obtain ⟨y, h2, h3⟩ := wk_srv s1 w 0 s2
  rw [s3] at h2; cases h2
  rw [hx]; congr 1; omega
theorem best_none {n : Nat} {E : List Ed} {B : BF} {a b : Nat} {S : Nat → Option Int} (h : BestOk n E n B) (s1 : Serves E S) (s2 : S a = some 0) (s3 : S b = none) : B a b = none := by
  cases e : B a b with
  | none => rfl
  | some x =>
    obtain ⟨l, w⟩ := h.snd a b x e
    obtain ⟨y, h2, h3⟩ := wk_srv s1 w 0 s2
    rw [s3] at h2; cases h2

/-- a row of different numbers stays one when two change places -/
theorem swap_inj {n : Nat} {l : List Nat} {i j : Nat} (hl : l.length = n) (hi : i < n) (hj : j < n) (h : ∀ a b, a < n → b < n → l.getD a 0 = l.getD b 0 → a = b) :
    ∀ a b, a < n → b < n → ((l.set i (l.getD j 0)).set j (l.getD i 0)).getD a 0 = ((l.set i (l.getD j 0)).set j (l.getD i 0)).getD b 0 → a = b := by
  have e : ∀ a, a < n → ((l.set i (l.getD j 0)).set j (l.getD i 0)).getD a 0 = l.getD (if a = j then i else if a = i then j else a) 0 := fun a ha => by
    simp only [List.getD_eq_getElem?_getD, List.getElem?_set, List.length_set]
    by_cases h1 : j = a
    · subst h1
      simp [hl, hj]
    · have h1' : ¬a = j := fun z => h1 z.symm
      by_cases h2 : i = a
      · subst h2; simp [h1, h1', hl, hi, hj]
      · have h2' : ¬a = i := fun z => h2 z.symm
        simp [h1, h1', h2, h2']
  intro a b ha hb hab
  rw [e a ha, e b hb] at hab
  have hq := h _ _ (by split <;> (try split) <;> assumption) (by split <;> (try split) <;> assumption) hab
  by_cases a1 : a = j <;> by_cases a2 : a = i <;> by_cases b1 : b = j <;> by_cases b2 : b = i <;> simp_all

/-- edges that lead in a row -/
structure RowE (os : Nat → Nat) (w : Nat → Int) (E : List Ed) : Prop where
  ln : E.length = 10
  at_ : ∀ k < 10, E[9 - k]? = some (os k, os (k + 1), w k)
  inj : ∀ i j, i < 11 → j < 11 → os i = os j → i = j
  bel : ∀ i < 11, os i < 11
  wt : ∀ k, 0 ≤ w k ∧ w k ≤ 100
def pre (w : Nat → Int) : Nat → Int
  | 0 => 0
  | k + 1 => pre w k + w k
theorem RowE.from {os : Nat → Nat} {w : Nat → Int} {E : List Ed} (h : RowE os w E) {i : Nat} {e : Ed} (he : E[i]? = some e) : ∃ k < 10, i = 9 - k ∧ e = (os k, os (k + 1), w k) := by
  have hi : i < 10 := by rw [← h.ln]; exact (List.getElem?_eq_some_iff.mp he).1
  refine ⟨9 - i, by omega, by omega, ?_⟩
  have := h.at_ (9 - i) (by omega)
  rw [show 9 - (9 - i) = i by omega, he] at this
  cases this; rfl
theorem RowE.below {os : Nat → Nat} {w : Nat → Int} {E : List Ed} (h : RowE os w E) : Below 11 E := fun e he => by
  obtain ⟨i, hi⟩ := List.mem_iff_getElem?.mp he
  obtain ⟨k, hk, _, rfl⟩ := h.from hi
  exact ⟨h.bel k (by omega), h.bel (k + 1) (by omega)⟩
theorem RowE.pot {os : Nat → Nat} {w : Nat → Int} {E : List Ed} (h : RowE os w E) : ∃ f : Nat → Int, PotOf E f ∧ ∀ k < 11, f (os k) = pre w k := by
  have : ∃ f : Nat → Int, ∀ k < 11, f (os k) = pre w k := by
    classical
    refine ⟨fun x => if h : ∃ v, v < 11 ∧ os v = x then pre w (Classical.choose h) else 0, fun k hk => ?_⟩
    have hx : ∃ u, u < 11 ∧ os u = os k := ⟨k, hk, rfl⟩
    simp only [hx, dif_pos]
    have := Classical.choose_spec hx
    rw [h.inj _ _ this.1 hk this.2]
  obtain ⟨f, hf⟩ := this
  refine ⟨f, fun a b c he => ?_, hf⟩
  obtain ⟨i, hi⟩ := List.mem_iff_getElem?.mp he
  obtain ⟨k, hk, _, e⟩ := h.from hi
  cases e
  rw [hf k (by omega), hf (k + 1) (by omega)]
  exact Int.le_refl _
/-- the chain along the row is the only one -/
theorem RowE.only {os : Nat → Nat} {w : Nat → Int} {E : List Ed} (h : RowE os w E) : ∀ (m k : Nat) {is : List Nat} {t : Int}, k + m = 10 → Chn E is (os k) (os 10) t → is = (List.range m).reverse
  | 0, k, is, t, hk, hc => by
    have : k = 10 := by omega
    subst this
    match is, hc with
    | [], _ => rfl
    | i :: r, ⟨a, c, t', h1, _⟩ =>
      obtain ⟨j, hj, _, e⟩ := h.from h1
      simp only [Prod.mk.injEq] at e
      have := h.inj 10 j (by omega) (by omega) e.1
      omega
  | m + 1, k, is, t, hk, hc => by
    match is, hc with
    | [], ⟨e, _⟩ => have := h.inj k 10 (by omega) (by omega) e; omega
    | i :: r, ⟨a, c, t', h1, h2, _⟩ =>
      obtain ⟨j, hj, hi, e⟩ := h.from h1
      simp only [Prod.mk.injEq] at e
      obtain ⟨e1, e2, e3⟩ := e
      have := h.inj k j (by omega) (by omega) e1
      subst this
      rw [e2] at h2
      have ih := h.only m (k + 1) (by omega) h2
      rw [ih, List.range_succ, List.reverse_append, hi]
      simp
      omega
theorem RowE.sum {os : Nat → Nat} {w : Nat → Int} {E : List Ed} (h : RowE os w E) : (E.map fun e => e.2.2).sum = pre w 10 := by
  have e : E = [(os 9, os 10, w 9), (os 8, os 9, w 8), (os 7, os 8, w 7), (os 6, os 7, w 6), (os 5, os 6, w 5), (os 4, os 5, w 4), (os 3, os 4, w 3), (os 2, os 3, w 2), (os 1, os 2, w 1), (os 0, os 1, w 0)] := by
    apply List.ext_getElem?
    intro i
    by_cases hi : i < 10
    · have := h.at_ (9 - i) (by omega)
      rw [show 9 - (9 - i) = i by omega] at this
      rw [this]
      match i, hi with
      | 0, _ | 1, _ | 2, _ | 3, _ | 4, _ | 5, _ | 6, _ | 7, _ | 8, _ | 9, _ => rfl
    · rw [List.getElem?_eq_none (by rw [h.ln]; omega), List.getElem?_eq_none (by simp; omega)]
  rw [e]
  simp [pre]
  omega
theorem RowE.along {os : Nat → Nat} {w : Nat → Int} {E : List Ed} (h : RowE os w E) : ∀ (m k : Nat), k + m = 10 → Chn E (List.range m).reverse (os k) (os 10) (pre w 10 - pre w k)
  | 0, k, hk => by
    have : k = 10 := by omega
    subst this
    exact ⟨rfl, by omega⟩
  | m + 1, k, hk => by
    have e : (List.range (m + 1)).reverse = m :: (List.range m).reverse := by rw [List.range_succ, List.reverse_append]; rfl
    rw [e]
    refine ⟨os (k + 1), w k, _, ?_, h.along m (k + 1) (by omega), ?_⟩
    · have := h.at_ k (by omega)
      rw [show 9 - k = m by omega] at this; exact this
    · show _ = w k + (pre w 10 - (pre w k + w k)); omega
/-- closed: a ring goes all the way -/
theorem RowE.ring {os : Nat → Nat} {w : Nat → Int} {E : List Ed} (h : RowE os w E) {x : Int} {is : List Nat} (hl : is.length ≤ 11) (hr : RingOk (E ++ [(os 10, os 0, x)]) is) : is.length = 11 := by
  obtain ⟨u, t, hn, hc, _, _⟩ := hr
  have step : ∀ (is : List Nat) (k : Nat) (v : Nat) (t : Int), k < 11 → Chn (E ++ [(os 10, os 0, x)]) is (os k) v t → v = os ((k + is.length) % 11) := by
    intro is
    induction is with
    | nil => intro k v t hk hc; rw [← hc.1]; simp [Nat.mod_eq_of_lt hk]
    | cons i r ih =>
      rintro k v t hk ⟨a, c, t', h1, h2, _⟩
      have ea : a = os ((k + 1) % 11) := by
        by_cases hi : i < 10
        · rw [List.getElem?_append_left (by rw [h.ln]; exact hi)] at h1
          obtain ⟨j, hj, _, e⟩ := h.from h1
          simp only [Prod.mk.injEq] at e
          have := h.inj k j hk (by omega) e.1
          subst this
          rw [Nat.mod_eq_of_lt (by omega)]; exact e.2.1
        · have hi2 : i = 10 := by
            have := (List.getElem?_eq_some_iff.mp h1).1
            simp [h.ln] at this; omega
          subst hi2
          rw [List.getElem?_append_right (by rw [h.ln]; exact Nat.le_refl _), h.ln] at h1
          simp at h1
          have := h.inj k 10 hk (by omega) h1.1.symm
          subst this
          exact h1.2.1.symm
      rw [ea] at h2
      have := ih ((k + 1) % 11) v t' (Nat.mod_lt _ (by omega)) h2
      rw [this]
      congr 1
      simp only [List.length_cons]
      omega
  have hu : ∃ k < 11, u = os k := by
    match is, hn, hc with
    | i :: r, _, ⟨a, c, t', h1, _⟩ =>
      by_cases hi : i < 10
      · rw [List.getElem?_append_left (by rw [h.ln]; exact hi)] at h1
        obtain ⟨j, hj, _, e⟩ := h.from h1
        simp only [Prod.mk.injEq] at e
        exact ⟨j, by omega, e.1⟩
      · have hi2 : i = 10 := by
          have := (List.getElem?_eq_some_iff.mp h1).1
          simp [h.ln] at this; omega
        subst hi2
        rw [List.getElem?_append_right (by rw [h.ln]; exact Nat.le_refl _), h.ln] at h1
        simp at h1
        exact ⟨10, by omega, h1.1.symm⟩
  obtain ⟨k, hk, rfl⟩ := hu
  have e := step is k (os k) t hk hc
  have := h.inj k _ hk (Nat.mod_lt _ (by omega)) e
  have : 0 < is.length := List.length_pos_iff.mpr hn
  omega
theorem ok_f_law_long_row_right : OkD sp_f_law_long_row_right 1 9 t_f_law_long_row_right := by
  rintro ds M X Q ⟨p, rfl, hp, k⟩
  refine ⟨rfl, fun hb hdb => .inl ?_⟩
  have hp' : ∀ l : MH, (M ++ l)[p]? = some (some .pen) := fun l => get_old hp
  have fin : ∀ l : MH, WkD M.length Q (.bl true) (M ++ l) := fun l => .cut hb rfl k
  simp (maxDischargeDepth := 6) [t_f_law_long_row_right]
  refine ⟨⟨by omega, by omega, by omega, by omega, by omega⟩, loop_rng (T := List Nat) (fun os => [some (.ref p), some (.ref M.length), none, none, none, none, none, none, none]) (fun os => M ++ [some (.lst (os.map fun i : Nat => D.int i))])
      (fun _ os => os.length = 11 ∧ (∀ v ∈ os, v < 11) ∧ ∀ i j, i < 11 → j < 11 → os.getD i 0 = os.getD j 0 → i = j) (nx_go (List.range 11) (by simp [lessS]) ⟨by simp, fun v hv => by simpa using hv, fun i j hi hj e => by simpa [List.getD, hi, hj] using e⟩ (by simp [rangeD_map]) (.inl (by simp))) (fun i os hi J => ?_) fun os J => ?_⟩
  · obtain ⟨J1, J2, J3⟩ := J
    refine ⟨trivial, ?_⟩
    simp [show Wide ((11 : Int) - i) from ⟨by omega, by omega⟩, hp']
    intro d d0 d1
    obtain ⟨o, eo⟩ : ∃ o : Nat, (i : Int) + d = o := ⟨((i : Int) + d).toNat, by omega⟩
    have ho : o < 11 := by omega
    rw [eo]
    have hi' : i < 11 := by omega
    have g1 := nat_at (l := os) (j := o) (by omega)
    have g2 := nat_at (l := os) (j := i) (by omega)
    have v1 := nat_in J2 (j := o) (by omega)
    have v2 := nat_in J2 (j := i) (by omega)
    have J4 := swap_inj J1 hi' ho J3
    generalize os.getD o 0 = xo at g1 v1 J4
    generalize os.getD i 0 = xi at g2 v2 J4
    have S1 : ∀ (l : List D) (a : Int) (v : D) (P : MH → Prop), rSet (.ref M.length) (.int a) v (M ++ [some (.lst l)]) P ↔ setQ l a v fun l' => P (M ++ [some (.lst l')]) := fun l a v P => by
      rw [rSet_at (l := l) (by simp)]; simp
    simp [itemQ_nat g1, itemQ_nat g2, S1]
    rw [setQ_nat (by simp; omega)]
    rw [nat_sets]
    simp [S1]
    rw [setQ_nat (by simp; omega)]
    rw [nat_sets]
    exact nx_at ((os.set i xo).set o xi) (by simp [lessS]) ⟨by simp [J1], nat_set (nat_set J2 v1) v2, J4⟩ (by simp) (.inl (by simp))
  · refine ⟨trivial, ?_⟩
    obtain ⟨J1, J2, J3⟩ := J
    have vn : ∀ i, i < 11 → os.getD i 0 < 11 := fun i hi => nat_in J2 (by omega)
    have og : ∀ i, i < 11 → (os.map fun i : Nat => D.int i)[i]? = some (.int (os.getD i 0 : Nat)) := fun i hi => nat_at (by omega)
    generalize hof : (fun i => os.getD i 0) = of
    have og : ∀ i, i < 11 → (os.map fun i : Nat => D.int i)[i]? = some (.int (of i : Nat)) := fun i hi => by rw [og i hi, ← hof]
    have vn : ∀ i, i < 11 → of i < 11 := fun i hi => by rw [← hof]; exact vn i hi
    have J3 : ∀ i j, i < 11 → j < 11 → of i = of j → i = j := fun i j hi hj e => J3 i j hi hj (by rw [← hof] at e; exact e)
    clear hof J2
    simp
    refine ⟨by rw [rangeD_ln]; exact szl 10 (by omega), comp_rel (l := List.range 10) (e := fun i : Nat => D.int i) (by rw [rangeD_map]; simp) edD (fun i x b => ∃ w : Int, 0 ≤ w ∧ w ≤ 100 ∧ b = (of x, of (x + 1), w)) trivial (fun i x hx => ?_) fun bs hbs hh => ?_⟩
    · have hx' : x < 10 := by simpa using List.mem_of_getElem? hx
      have g1 := og x (by omega)
      have g2 := og (x + 1) (by omega)
      have g3 : ∀ M (R : DQ), itemQ (os.map fun i : Nat => D.int i) ((x : Int) + 1) M R ↔ R (.int (of (x + 1) : Nat)) M := fun M R => by
        rw [show (x : Int) + 1 = ((x + 1 : Nat) : Int) by omega]; exact itemQ_nat g2
      simp [itemQ_nat g1, g3, hp']
      intro d d0 d1
      exact stop2 ⟨back_, x, (of x, of (x + 1), 1 + d), hx, rfl, 1 + d, by omega, by omega, rfl⟩
    · simp at hbs
      have hw : ∀ i (hi : i < 10), ∃ w : Int, 0 ≤ w ∧ w ≤ 100 ∧ bs[i] = (of i, of (i + 1), w) := fun i hi => hh i i bs[i] (by simp [hi]) (by simp)
      have row : RowE of (fun i => (bs.getD i (0, 0, 0)).2.2) bs.reverse := by
        refine ⟨by simp [hbs], fun k hk => ?_, J3, vn, fun k => ?_⟩
        · obtain ⟨w, _, _, e⟩ := hw k hk
          rw [List.getElem?_reverse (by omega), hbs, show 10 - 1 - (9 - k) = k by omega, List.getElem?_eq_getElem (by omega), e]
          have e2 : bs.getD k (0, 0, 0) = (of k, of (k + 1), w) := by rw [List.getD, List.getElem?_eq_getElem (by omega), e]; rfl
          show _ = some (of k, of (k + 1), (bs.getD k (0, 0, 0)).2.2)
          rw [e2]
        · by_cases hk : k < 10
          · obtain ⟨w, w0, w1, e⟩ := hw k hk
            have e2 : bs.getD k (0, 0, 0) = (of k, of (k + 1), w) := by rw [List.getD, List.getElem?_eq_getElem (by omega), e]; rfl
            show 0 ≤ (bs.getD k (0, 0, 0)).2.2 ∧ (bs.getD k (0, 0, 0)).2.2 ≤ 100
            rw [e2]; exact ⟨w0, w1⟩
          · show 0 ≤ (bs.getD k (0, 0, 0)).2.2 ∧ (bs.getD k (0, 0, 0)).2.2 ≤ 100
            have : bs.getD k (0, 0, 0) = (0, 0, 0) := by simp [List.getD, List.getElem?_eq_none (show bs.length ≤ k by omega)]
            rw [this]; decide
      clear hw hh
      generalize (fun i => (bs.getD i (0, 0, 0)).2.2) = w at row
      obtain ⟨E, rfl⟩ : ∃ E : List Ed, bs = E.reverse := ⟨bs.reverse, by simp⟩
      rw [List.reverse_reverse] at row
      clear hbs
      have rl := row.ln
      have sz : E.length ≤ sizeLine := szl _ (by omega)
      have belE := row.below
      obtain ⟨f, hf, hfo⟩ := row.pot
      have al := row.along 10 0 (by omega)
      have p0 : pre w 0 = 0 := rfl
      have T0 : 0 ≤ pre w 10 ∧ pre w 10 ≤ 1000 := by
        have h0 := row.wt 0; have h1 := row.wt 1; have h2 := row.wt 2; have h3 := row.wt 3; have h4 := row.wt 4
        have h5 := row.wt 5; have h6 := row.wt 6; have h7 := row.wt 7; have h8 := row.wt 8; have h9 := row.wt 9
        simp only [pre]; omega
      have wE : ∀ e ∈ E, e.2.2 ≤ 100 := fun e he => by
        obtain ⟨i, hi⟩ := List.mem_iff_getElem?.mp he
        obtain ⟨k, _, _, rfl⟩ := row.from hi
        exact (row.wt k).2
      have sm := row.sum
      have SI : ∀ R : List D → (MH → Prop) → MH → Prop, seqI (.ref (M.length + 1)) (M ++ [some (MO.lst (os.map fun i : Nat => D.int i)), some (MO.lst (E.map edD))]) R ↔ R (E.map edD) _ (M ++ [some (MO.lst (os.map fun i : Nat => D.int i)), some (MO.lst (E.map edD))]) := fun R => seqI_at (by simp)
      have bel1 : ∀ x : Int, Below 11 (E ++ [(of 10, of 0, x)]) := fun x => below_one belE (vn 10 (by omega)) (vn 0 (by omega))
      have o0 := og 0 (by omega)
      have o10 := og 10 (by omega)
      have hat : ∀ l : List D, edsAt (M ++ [some (MO.lst l), some (MO.lst (E.map edD))]) (.ref (M.length + 1)) E := fun l => .inr ⟨_, rfl, by simp⟩
      simp [sz, SI]
      refine comp_fn (l := E) (e := edD) rfl (fun e => some (.int e.2.2)) (by simp) (fun i e he => ?_) ?_
      · simp [edD]
        exact stop2 ⟨back_, e, he, rfl⟩
      simp
      rw [sm]
      refine se_times (n := 11) (.inl rfl) belE (by omega) (by omega) (by omega) hf fun t ht => ?_
      simp
      refine sat_at (n := 11) (hat _) belE (by omega) (by omega) ht.1 (ht.small (by omega) fun e he => by have := wE e he; omega) ht.2.1 ?_
      have q0 : ∀ M (R : DQ), itemQ (os.map fun i : Nat => D.int i) 0 M R ↔ R (.int (of 0 : Nat)) M := fun M R => itemQ_nat (j := 0) o0
      have q10 : ∀ M (R : DQ), itemQ (os.map fun i : Nat => D.int i) 10 M R ↔ R (.int (of 10 : Nat)) M := fun M R => itemQ_nat (j := 10) o10
      simp [q0, q10]
      refine gc_chain (n := 11) (st := of 0) (en := of 10) (f := f) (.inl rfl) belE (vn 0 (by omega)) (vn 10 (by omega)) (by omega) (by omega) hf (fun e => by have := J3 0 10 (by omega) (by omega) e; omega) (fun is t hn hl hc => ?_) fun ⟨S, s1, s2, s3⟩ => ?_
      · have ei := row.only 10 0 (by omega) hc.1
        subst ei
        simp
        refine ⟨⟨by omega, by omega, by omega, by omega, by omega⟩, rNe_same rfl rfl (by decide) ?_⟩
        simp [q0, q10]
        refine ⟨by simpa using szl _ (show E.length + 1 ≤ 1000 by omega), ?_⟩
        refine se_times (n := 11) (E := E ++ [(of 10, of 0, 0 - pre w 10)]) (.inl (by simp [edD])) (bel1 _) (by omega) (by omega) (by simp; omega) (pot_app.mpr ⟨hf, pot_one.mpr (by rw [hfo 10 (by omega), hfo 0 (by omega), p0]; omega)⟩) fun t ht => ?_
        simp
        refine sat_at (n := 11) (hat _) belE (by omega) (by omega) ht.1 (ht.small (by omega) fun e he => ?_) (srv_sub (fun e he => List.mem_append_left _ he) ht.2.1) ?_
        · rcases List.mem_append.mp he with he | he
          · have := wE e he; omega
          · simp at he; subst he; show -pre w 10 ≤ _; omega
        simp [q0, q10]
        refine ⟨szl' _ (by omega), ?_⟩
        refine se_ring (n := 11) (E := E ++ [(of 10, of 0, 1 - pre w 10)]) (.inl (by simp [edD])) (bel1 _) (by omega) (by omega) (by simp; omega) (fun t ht => ?_) fun is hr hl => ?_
        · have pt := ht.pot (bel1 _)
          have h1 := chn_pot (pot_app.mp pt).1 al
          have h2 := pot_one.mp (pot_app.mp pt).2
          omega
        · have hl2 := row.ring hl hr
          simp
          refine ⟨_, E ++ [(of 10, of 0, 1 - pre w 10)], is, rfl, .inr ⟨_, rfl, by simp [edD]⟩, by omega, hr, ?_⟩
          simp [hl2]
          exact fin _
      · obtain ⟨y, y1, y2⟩ := chn_srv s1 al 0 s2
        rw [s3] at y1; cases y1
theorem ok_law : OkD sp_law 1 11 t_law := by
  rintro ds M X Q ⟨ns, rfl, hn, rfl, k⟩
  refine ⟨rfl, fun hb hdb => .inl ?_⟩
  have wW : Wide (10 ^ 61) := ⟨by decide, by exact of_decide_eq_true rfl⟩
  simp [t_law]
  refine ⟨by rw [rangeD_ln]; exact szl 11 (by omega), comp_rel (β := Int) (l := List.range 11) (e := fun i : Nat => D.int i) (by rw [rangeD_map]; simp) D.int (fun _ _ w => 0 ≤ w ∧ w < 10 ^ 61) trivial (fun i x hx => ?_) fun hs hl hh => ?_⟩
  · simp [c61]
    refine ⟨wW, fun d d0 d1 => stop2 ⟨back_, x, d, hx, rfl, d0, by omega⟩⟩
  · simp at hl
    have pot : ∀ v, 0 ≤ hs.getD v 0 ∧ hs.getD v 0 < 10 ^ 61 := fun v => by
      by_cases hv : v < 11
      · have e : hs[v]? = some (hs.getD v 0) := by simp [List.getD, hl, hv]
        exact hh v v _ (by simp [hv]) e
      · simp [List.getD, List.getElem?_eq_none (show hs.length ≤ v by omega)]
    clear hh
    simp
    refine loop_rng (T := List Ed) (fun E => [some (.lis (ns.map D.int)), some (.ref 0), some (.lis (hs.map D.int)), some (.ref 1), none, none, none, none, none, none, none]) (fun E => [some .pen, some (.lst (E.map edD))])
      (fun i E => E.length = i ∧ Below 11 E ∧ PotOf E (fun v => hs.getD v 0) ∧ (∀ e ∈ E, e.2.2 ≤ 10 ^ 61) ∧ ∀ e ∈ E, e.1 ≠ e.2.1) (nx_go [] (by simp [lessS]) ⟨rfl, fun e he => (nomatch he), fun a b w he => (nomatch he), fun e he => (nomatch he), fun e he => (nomatch he)⟩ (by simp) (.inl rfl)) (fun i E hi J => ?_) fun E J => ?_
    · refine ⟨trivial, ?_⟩
      obtain ⟨J1, J2, J3, J4, J5⟩ := J
      have PA : ∀ {X : XQ} {Q : DQ}, sp_f_law_pair [.ref 0, .int 11] [some MO.pen, some (.lst (E.map edD))] X Q ↔ ∀ a b : Nat, a < 11 → b < 11 → a ≠ b → Q (.tup [.int a, .int b]) [some MO.pen, some (.lst (E.map edD))] := pair_at (n := 11) (by omega) (by omega) rfl
      simp [PA]
      intro a b ha hb hab
      have ga := t_at hl ha
      have gb := t_at hl hb
      have pa := pot a
      have pb := pot b
      generalize ea : hs.getD a 0 = xa at ga pa
      generalize eb : hs.getD b 0 = xb at gb pb
      simp [itemQ_nat ga, itemQ_nat gb]
      intro d d0 d1
      refine ⟨szl' _ (by omega), nx_at (E ++ [(a, b, xb - xa - d)]) (by simp [lessS]) ⟨by simp [J1], below_one J2 ha hb, pot_app.mpr ⟨J3, pot_one.mpr ?_⟩, fun e he => ?_, fun e he => ?_⟩ (by simp [edD]) (.inl rfl)⟩
      · rw [ea, eb]; omega
      · rcases List.mem_append.mp he with he | he
        · exact J4 e he
        · simp at he; subst he; show xb - xa - d ≤ _; omega
      · rcases List.mem_append.mp he with he | he
        · exact J5 e he
        · simp at he; subst he; exact hab
    · refine ⟨trivial, ?_⟩
      obtain ⟨J1, J2, J3, J4, J5⟩ := J
      simp
      refine se_times (n := 11) (.inl rfl) J2 (by omega) (by omega) (by omega) J3 fun t ht => ?_
      simp
      refine sat_at (n := 11) (.inr ⟨1, rfl, rfl⟩) J2 (by omega) (by omega) ht.1 (ht.small (by omega) fun e he => by have := J4 e he; omega) ht.2.1 ?_
      have PA : ∀ {X : XQ} {Q : DQ}, sp_f_law_pair [.ref 0, .int 11] [some MO.pen, some (.lst (E.map edD))] X Q ↔ ∀ a b : Nat, a < 11 → b < 11 → a ≠ b → Q (.tup [.int a, .int b]) [some MO.pen, some (.lst (E.map edD))] := pair_at (n := 11) (by omega) (by omega) rfl
      simp [PA]
      intro a b ha hb hab
      refine ⟨11, _, E, rfl, .inr ⟨1, rfl, rfl⟩, J2, by omega, by omega, by omega, fun l B hB bo => ?_⟩
      have dq : ∀ (i j : Nat) (R : List (List Key × D) → List Key → Prop), ditQ [some .pen, some (.lst (E.map edD)), some (MO.dit l)] (.ref 2) [.int (i : Int), .int (j : Int)] R ↔ R l [.inl (i : Int), .inl (j : Int)] := fun i j R => ditQ_at rfl rfl
      have lk := hB a b
      simp
      have tl : ∀ o : D, (dSeq (dAsg (dCall sp_f_law_draw (dCons (dVar 1) (dCons (dC (.int 200)) (dNil)))) (.nm 10)) (dSeq (dSetIx (dOp (rPlus newZ) (dSl newZ (dOp rItem (dVar 3) (dVar 10)) dNone (dSome (dC (.int 2)))) (dTup (dCons (dOp (rPlus newZ) (dOp rPow (dC (.int 10)) (dC (.int 61))) (dOp rPow (dC (.int 10)) (dC (.int 61)))) (dNil)))) (dVar 3) (dVar 10)) (dSeq (dSetIx (dTup (dCons (dOp rItem (dOp rItem (dVar 3) (dVar 10)) (dC (.int 1))) (dCons (dOp rItem (dOp rItem (dVar 3) (dVar 10)) (dC (.int 0))) (dCons (dOp rSub (dC (.int 1)) (dOp rPow (dC (.int 10)) (dC (.int 61)))) (dNil))))) (dVar 3) (dOp rMod (dOp (rPlus newZ) (dVar 10) (dC (.int 1))) (dC (.int 200)))) (dSeq (dAsg (dCall sp_solve_edges (dCons (dC (.int 11)) (dCons (dCallB cTuple (dCons (dVar 3) (dNil))) (dNil)))) (.nm 5)) (dRet (dAndV (dOp rEq (dOp rItem (dVar 5) (dC (.int 0))) (dC (.str "ring"))) (dAndV (dCall sp_f_law_ring_fits (dCons (dVar 3) (dCons (dOp rItem (dVar 5) (dC (.int 1))) (dNil)))) (dCall sp_f_law_long_row_right (dCons (dVar 1) (dNil))))))))) : DS)
          (ends 0 X Q) [some (.lis (ns.map D.int)), some (.ref 0), some (.lis (hs.map D.int)), some (.ref 1), none, some (.tup [.str "times", .tup (t.map D.int)]), some (.int a), some (.int b), some (.ref 2), some o, none] [some .pen, some (.lst (E.map edD)), some (MO.dit l)] := fun o => by
        simp [c61]
        intro q q0 q1
        obtain ⟨q, rfl⟩ := Int.eq_ofNat_of_zero_le q0
        have hq : q < 200 := by omega
        obtain ⟨⟨x, y, w⟩, he⟩ : ∃ e : Ed, E[q]? = some e := ⟨_, List.getElem?_eq_getElem (by omega)⟩
        have hm := List.mem_of_getElem? he
        obtain ⟨hx, hy⟩ := J2 _ hm
        have gq : (E.map edD)[q]? = some (.tup [.int x, .int y, .int w]) := by rw [List.getElem?_map, he]; rfl
        have S2 : ∀ (l : List D) (a : Int) (v : D) (P : MH → Prop) (z : Option MO), rSet (.ref 1) (.int a) v [some MO.pen, some (.lst l), z] P ↔ setQ l a v fun l' => P [some MO.pen, some (.lst l'), z] := fun l a v P z => rSet_at rfl
        simp only at hx hy
        have l1 : ∀ v : D, ((E.map edD).set q v)[q]? = some v := fun v => List.getElem?_set_self (by simp; omega)
        have hr : (q + 1) % 200 < 200 := Nat.mod_lt _ (by omega)
        have er : ((q : Int) + 1) % 200 = ((q + 1) % 200 : Nat) := by push_cast; rfl
        have nr : q ≠ (q + 1) % 200 := by omega
        have SR : ∀ (l : List D) (v : D) (P : List D → Prop), l.length = 200 → (setQ l (((q : Int) + 1) % 200) v P ↔ P (l.set ((q + 1) % 200) v)) := fun l v P hl => by rw [er]; exact setQ_nat (by omega)
        simp [itemQ_nat gq, cutD]
        simp [S2, c61]
        rw [setQ_nat (by simp; omega)]
        simp [itemQ_nat (l1 _), c61]
        simp [S2]
        rw [SR _ _ _ (by simp; omega)]
        generalize (q + 1) % 200 = r at hr nr
        obtain ⟨W1, eW1⟩ : ∃ z : Int, z = 20000000000000000000000000000000000000000000000000000000000000 := ⟨_, rfl⟩
        obtain ⟨W2, eW2⟩ : ∃ z : Int, z = -9999999999999999999999999999999999999999999999999999999999999 := ⟨_, rfl⟩
        rw [← eW1, ← eW2]
        have es : ((E.map edD).set q (.tup [.int x, .int y, .int W1])).set r (.tup [.int y, .int x, .int W2]) = ((E.set q (x, y, W1)).set r (y, x, W2)).map edD := by rw [List.map_set, List.map_set]; rfl
        rw [es]
        have bel2 : Below 11 ((E.set q (x, y, W1)).set r (y, x, W2)) := fun e he => by
          rcases List.mem_or_eq_of_mem_set he with h | h
          · rcases List.mem_or_eq_of_mem_set h with h | h
            · exact J2 e h
            · rw [h]; exact ⟨hx, hy⟩
          · rw [h]; exact ⟨hy, hx⟩
        have ln2 : ((E.set q (x, y, W1)).set r (y, x, W2)).length ≤ 900 := by simp; omega
        have m1 : (x, y, W1) ∈ (E.set q (x, y, W1)).set r (y, x, W2) := by
          refine List.mem_of_getElem? (i := q) ?_
          rw [List.getElem?_set_ne (Ne.symm nr)]
          exact List.getElem?_set_self (by omega)
        have m2 : (y, x, W2) ∈ (E.set q (x, y, W1)).set r (y, x, W2) := List.mem_of_getElem? (i := r) (List.getElem?_set_self (by simp; omega))
        generalize (E.set q (x, y, W1)).set r (y, x, W2) = E2 at bel2 ln2 m1 m2
        refine se_ring (n := 11) (.inl rfl) bel2 (by omega) (by omega) ln2 (fun t ht => ?_) fun is hr hl => ?_
        · have pt := ht.pot bel2
          have h1 := pt _ _ _ m1
          have h2 := pt _ _ _ m2
          simp only at h1 h2
          omega
        · simp
          refine ⟨_, E2, is, rfl, .inr ⟨1, rfl, rfl⟩, by omega, hr, ?_⟩
          simp
          exact ⟨0, rfl, rfl, .of (k _)⟩
      refine gc_chain (n := 11) (f := fun v => hs.getD v 0) (.inl rfl) J2 ha hb (by omega) (by omega) J3 hab (fun is t hn hl hc => ?_) fun ⟨S, s1, s2, s3⟩ => ?_
      · have hB2 := best_chain J2 bo ha hb hn hc
        rw [hB2] at lk
        obtain ⟨hc1, hc2, hc3⟩ := hc
        simp [dq, lk]
        refine ⟨_, E, is, a, b, t, rfl, .inr ⟨1, rfl, rfl⟩, by omega, hc1, (List.nodup_append.mp hc2).1, .inr fun hin => ?_, ?_⟩
        · exact (List.nodup_append.mp hc2).2.2 b hin b (by simp) rfl
        · have h := tl (.tup (is.map fun i : Nat => D.int i))
          simp [c61] at h
          simp [dq, lk, c61]
          exact h
      · have hB2 := best_none bo s1 s2 s3
        rw [hB2] at lk
        have h := tl .non
        simp [c61] at h
        simp [dq, lk, c61]
        exact h

abbrev s_f_law_pen : Stmt := top 5
abbrev L_f_law_pen : Nat := 0 + 1
theorem sc_f_law_pen : FnScope ["_law_script"] ["_law_script"] (defScope s_f_law_pen) := ⟨rfl, rfl, rfl, by decide +kernel, rfl, by decide +kernel, by decide +kernel⟩
theorem dr_f_law_pen {P : Program} {w : World} {K : PySem.W.Frag} {mg : Str → Option Value} {base : Heap} (m_list : mg "list" = none) (f : Addr) (cdv : Value) (A : Around) (outer : List Env) (s : Shared) (H : Hp) (E : XK)
    (hr : Room 0 (A.deeper (envOfC "_law_pen" (defScope s_f_law_pen) s.heap.objs.size f cdv))) (hgd : (A.deeper (envOfC "_law_pen" (defScope s_f_law_pen) s.heap.objs.size f cdv)).guards = some []) :
    PSsd (Xf P w K mg base ["_law_script"] "_law_pen" (defScope s_f_law_pen) f cdv A outer s H E) (defBody s_f_law_pen) t_f_law_pen := by
  have nd := sc_f_law_pen.nd
  have hp : PassesOwn (model P w) (Xf P w K mg base ["_law_script"] "_law_pen" (defScope s_f_law_pen) f cdv A outer s H E).A (Xf P w K mg base ["_law_script"] "_law_pen" (defScope s_f_law_pen) f cdv A outer s H E).env (Xf P w K mg base ["_law_script"] "_law_pen" (defScope s_f_law_pen) f cdv A outer s H E).xe := PassesOwn.leaving
  exact ds_one (ds_ret (de_lst mkD (da_cons (de_callTyZ (cd_list2 rfl mkZ) m_list (da_cons (de_slice mkZ (de_var 0) do_none (do_some (de_int))) (da_nil))) (da_cons (de_int) (da_cons (de_int) (da_nil))))))
theorem kn_f_law_pen {P : Program} {w : World} {K : PySem.W.Frag} {mg : Str → Option Value} {base : Heap} (m_list : mg "list" = none) {f : Addr} {x : Str} {fd : FuncData} (F : FunD K "_law_pen" "_law_pen" (defArgs s_f_law_pen) (defBody s_f_law_pen) (defScope s_f_law_pen) [] [] f fd) (hm : mg x = some (.ref f)) : Known P w K mg base L_f_law_pen x sp_f_law_pen :=
  ⟨f, fd, ["_law_script"], hm, F.kp, fnD_of (lk_of F) sc_f_law_pen (dr_f_law_pen m_list f) ok_f_law_pen, F.bindsN fun _ _ _ _ _ _ us hl => match us, hl with | [_], _ => rfl⟩
abbrev s_Search___init__ : Stmt := (clsOf (top 1)).getD 0 (.Pass ⟨0, 0, 0, 0⟩)
abbrev L_Search___init__ : Nat := 0 + 1
theorem sc_Search___init__ : FnScope ["self", "edges", "sums"] ["self", "edges", "sums"] (defScope s_Search___init__) := ⟨rfl, rfl, rfl, by decide +kernel, rfl, by decide +kernel, by decide +kernel⟩
theorem dr_Search___init__ {P : Program} {w : World} {K : PySem.W.Frag} {mg : Str → Option Value} {base : Heap} (a_edges : FldX K mg cs_edges "edges") (a_sums : FldX K mg cs_sums "sums") (a_last_edges : FldX K mg cs_last_edges "last_edges") (f : Addr) (cdv : Value) (A : Around) (outer : List Env) (s : Shared) (H : Hp) (E : XK)
    (hr : Room 0 (A.deeper (envOfC "Search.__init__" (defScope s_Search___init__) s.heap.objs.size f cdv))) (hgd : (A.deeper (envOfC "Search.__init__" (defScope s_Search___init__) s.heap.objs.size f cdv)).guards = some []) :
    PSsd (Xf P w K mg base ["self", "edges", "sums"] "Search.__init__" (defScope s_Search___init__) f cdv A outer s H E) (defBody s_Search___init__) t_Search___init__ := by
  have nd := sc_Search___init__.nd
  have hp : PassesOwn (model P w) (Xf P w K mg base ["self", "edges", "sums"] "Search.__init__" (defScope s_Search___init__) f cdv A outer s H E).A (Xf P w K mg base ["self", "edges", "sums"] "Search.__init__" (defScope s_Search___init__) f cdv A outer s H E).env (Xf P w K mg base ["self", "edges", "sums"] "Search.__init__" (defScope s_Search___init__) f cdv A outer s H E).xe := PassesOwn.leaving
  exact ds_cons (ds_setF a_edges (de_var 0) (de_var 1)) (ds_cons (ds_setF a_sums (de_var 0) (de_var 2)) (ds_one (ds_setF a_last_edges (de_var 0) (de_dic0 mkD))))
theorem km_Search___init__ {P : Program} {w : World} {K : PySem.W.Frag} {mg : Str → Option Value} {base : Heap} (a_edges : FldX K mg cs_edges "edges") (a_sums : FldX K mg cs_sums "sums") (a_last_edges : FldX K mg cs_last_edges "last_edges") {f : Addr} {fd : FuncData} (F : FunD K "__init__" "Search.__init__" (defArgs s_Search___init__) (defBody s_Search___init__) (defScope s_Search___init__) [] [] f fd) : FnD P w K mg base L_Search___init__ f fd ["self", "edges", "sums"] sp_Search___init__ ∧ Binds K fd ["self", "edges", "sums"] [] :=
  ⟨fnD_of (lk_of F) sc_Search___init__ (dr_Search___init__ a_edges a_sums a_last_edges f) ok_Search___init__, F.bindsN fun _ _ _ _ _ _ us hl => match us, hl with | [_, _, _], _ => rfl⟩
abbrev s_Search_improve : Stmt := (clsOf (top 1)).getD 1 (.Pass ⟨0, 0, 0, 0⟩)
abbrev L_Search_improve : Nat := 0 + 1
theorem sc_Search_improve : FnScope ["self", "grown", "index", "start", "end", "weight"] ["self"] (defScope s_Search_improve) := ⟨rfl, rfl, rfl, by decide +kernel, rfl, by decide +kernel, by decide +kernel⟩
theorem dr_Search_improve {P : Program} {w : World} {K : PySem.W.Frag} {mg : Str → Option Value} {base : Heap} (m_enumerate : mg "enumerate" = none) (a_edges : FldX K mg cs_edges "edges") (a_sums : FldX K mg cs_sums "sums") (a_last_edges : FldX K mg cs_last_edges "last_edges") (f : Addr) (cdv : Value) (A : Around) (outer : List Env) (s : Shared) (H : Hp) (E : XK)
    (hr : Room 0 (A.deeper (envOfC "Search.improve" (defScope s_Search_improve) s.heap.objs.size f cdv))) (hgd : (A.deeper (envOfC "Search.improve" (defScope s_Search_improve) s.heap.objs.size f cdv)).guards = some []) :
    PSsd (Xf P w K mg base ["self", "grown", "index", "start", "end", "weight"] "Search.improve" (defScope s_Search_improve) f cdv A outer s H E) (defBody s_Search_improve) t_Search_improve := by
  have nd := sc_Search_improve.nd
  have hp : PassesOwn (model P w) (Xf P w K mg base ["self", "grown", "index", "start", "end", "weight"] "Search.improve" (defScope s_Search_improve) f cdv A outer s H E).A (Xf P w K mg base ["self", "grown", "index", "start", "end", "weight"] "Search.improve" (defScope s_Search_improve) f cdv A outer s H E).env (Xf P w K mg base ["self", "grown", "index", "start", "end", "weight"] "Search.improve" (defScope s_Search_improve) f cdv A outer s H E).xe := PassesOwn.leaving
  exact ds_cons (ds_set (i := 1) nd (de_non)) (ds_cons (ds_for hp rfl (di_enum m_enumerate (da_cons (de_fld a_edges (de_var 0)) (da_nil))) (dg_tp rfl (dgs_cons (dg_nm 2 nd) (dgs_cons (dg_tp rfl (dgs_cons (dg_nm 3 nd) (dgs_cons (dg_nm 4 nd) (dgs_cons (dg_nm 5 nd) (dgs_nil))))) (dgs_nil)))) (ds_one (ds_if (dt_bool (dw_and (dt_cmp (od_in (hu_of hr)) (de_var 3) (de_fld a_sums (de_var 0))) (dw_and1 (dt_cmp od_gt (de_opZ (od_plus mkZ) (de_ix (xd_any (hu_of hr)) (de_fld a_sums (de_var 0)) (de_var 3)) (de_var 5)) (de_get2 (hu_of hr) (de_fld a_sums (de_var 0)) (de_var 4) (de_op od_sub (de_opZ (od_plus mkZ) (de_ix (xd_any (hu_of hr)) (de_fld a_sums (de_var 0)) (de_var 3)) (de_var 5)) (de_int))))))) (ds_cons (ds_setIx (hu_of hr) (de_opZ (od_plus mkZ) (de_ix (xd_any (hu_of hr)) (de_fld a_sums (de_var 0)) (de_var 3)) (de_var 5)) (de_fld a_sums (de_var 0)) (de_var 4)) (ds_cons (ds_setIx (hu_of hr) (de_var 2) (de_fld a_last_edges (de_var 0)) (de_var 4)) (ds_one (ds_set (i := 1) nd (de_var 4))))) (ds_nil)))) (ds_one (ds_ret (de_var 1))))
theorem km_Search_improve {P : Program} {w : World} {K : PySem.W.Frag} {mg : Str → Option Value} {base : Heap} (m_enumerate : mg "enumerate" = none) (a_edges : FldX K mg cs_edges "edges") (a_sums : FldX K mg cs_sums "sums") (a_last_edges : FldX K mg cs_last_edges "last_edges") {f : Addr} {fd : FuncData} (F : FunD K "improve" "Search.improve" (defArgs s_Search_improve) (defBody s_Search_improve) (defScope s_Search_improve) [] [] f fd) : FnD P w K mg base L_Search_improve f fd ["self"] sp_Search_improve ∧ Binds K fd ["self"] [] :=
  ⟨fnD_of (lk_of F) sc_Search_improve (dr_Search_improve m_enumerate a_edges a_sums a_last_edges f) ok_Search_improve, F.bindsN fun _ _ _ _ _ _ us hl => match us, hl with | [_], _ => rfl⟩
abbrev s_Search_before : Stmt := (clsOf (top 1)).getD 2 (.Pass ⟨0, 0, 0, 0⟩)
abbrev L_Search_before : Nat := 0 + 1
theorem sc_Search_before : FnScope ["self", "point"] ["self", "point"] (defScope s_Search_before) := ⟨rfl, rfl, rfl, by decide +kernel, rfl, by decide +kernel, by decide +kernel⟩
theorem dr_Search_before {P : Program} {w : World} {K : PySem.W.Frag} {mg : Str → Option Value} {base : Heap} (a_edges : FldX K mg cs_edges "edges") (a_last_edges : FldX K mg cs_last_edges "last_edges") (f : Addr) (cdv : Value) (A : Around) (outer : List Env) (s : Shared) (H : Hp) (E : XK)
    (hr : Room 0 (A.deeper (envOfC "Search.before" (defScope s_Search_before) s.heap.objs.size f cdv))) (hgd : (A.deeper (envOfC "Search.before" (defScope s_Search_before) s.heap.objs.size f cdv)).guards = some []) :
    PSsd (Xf P w K mg base ["self", "point"] "Search.before" (defScope s_Search_before) f cdv A outer s H E) (defBody s_Search_before) t_Search_before := by
  have nd := sc_Search_before.nd
  have hp : PassesOwn (model P w) (Xf P w K mg base ["self", "point"] "Search.before" (defScope s_Search_before) f cdv A outer s H E).A (Xf P w K mg base ["self", "point"] "Search.before" (defScope s_Search_before) f cdv A outer s H E).env (Xf P w K mg base ["self", "point"] "Search.before" (defScope s_Search_before) f cdv A outer s H E).xe := PassesOwn.leaving
  exact ds_one (ds_ret (de_ix (xd_any (hu_of hr)) (de_ix (xd_any (hu_of hr)) (de_fld a_edges (de_var 0)) (de_ix (xd_any (hu_of hr)) (de_fld a_last_edges (de_var 0)) (de_var 1))) (de_int)))
theorem km_Search_before {P : Program} {w : World} {K : PySem.W.Frag} {mg : Str → Option Value} {base : Heap} (a_edges : FldX K mg cs_edges "edges") (a_last_edges : FldX K mg cs_last_edges "last_edges") {f : Addr} {fd : FuncData} (F : FunD K "before" "Search.before" (defArgs s_Search_before) (defBody s_Search_before) (defScope s_Search_before) [] [] f fd) : FnD P w K mg base L_Search_before f fd ["self", "point"] sp_Search_before ∧ Binds K fd ["self", "point"] [] :=
  ⟨fnD_of (lk_of F) sc_Search_before (dr_Search_before a_edges a_last_edges f) ok_Search_before, F.bindsN fun _ _ _ _ _ _ us hl => match us, hl with | [_, _], _ => rfl⟩
abbrev Lm_before : Nat := L_Search_before
abbrev s_Search_way_back : Stmt := (clsOf (top 1)).getD 3 (.Pass ⟨0, 0, 0, 0⟩)
abbrev L_Search_way_back : Nat := Lm_before + 1
theorem sc_Search_way_back : FnScope ["self", "point", "goal", "indices"] ["self", "point", "goal"] (defScope s_Search_way_back) := ⟨rfl, rfl, rfl, by decide +kernel, rfl, by decide +kernel, by decide +kernel⟩
theorem dr_Search_way_back {P : Program} {w : World} {K : PySem.W.Frag} {mg : Str → Option Value} {base : Heap} (m_tuple : mg "tuple" = none) (t_m_before : MethX P w K mg base Lm_before "before" tbl_before) (a_last_edges : FldX K mg cs_last_edges "last_edges") (f : Addr) (cdv : Value) (A : Around) (outer : List Env) (s : Shared) (H : Hp) (E : XK)
    (hr : Room Lm_before (A.deeper (envOfC "Search.way_back" (defScope s_Search_way_back) s.heap.objs.size f cdv))) (hgd : (A.deeper (envOfC "Search.way_back" (defScope s_Search_way_back) s.heap.objs.size f cdv)).guards = some []) :
    PSsd (Xf P w K mg base ["self", "point", "goal", "indices"] "Search.way_back" (defScope s_Search_way_back) f cdv A outer s H E) (defBody s_Search_way_back) t_Search_way_back := by
  have nd := sc_Search_way_back.nd
  have hp : PassesOwn (model P w) (Xf P w K mg base ["self", "point", "goal", "indices"] "Search.way_back" (defScope s_Search_way_back) f cdv A outer s H E).A (Xf P w K mg base ["self", "point", "goal", "indices"] "Search.way_back" (defScope s_Search_way_back) f cdv A outer s H E).env (Xf P w K mg base ["self", "point", "goal", "indices"] "Search.way_back" (defScope s_Search_way_back) f cdv A outer s H E).xe := PassesOwn.leaving
  exact ds_cons (ds_set (i := 3) nd (de_lst mkD (da_cons (de_ix (xd_any (hu_of hr)) (de_fld a_last_edges (de_var 0)) (de_var 1)) (da_nil)))) (ds_cons (ds_set (i := 1) nd (de_callM t_m_before (hr.mono (by decide)) hgd (de_var 0) (da_cons (de_var 1) (da_nil)))) (ds_cons (ds_while hp (dt_cmp (od_ne hr.units) (de_var 1) (de_var 2)) (ds_cons (ds_expr (de_meth PySem.F.plainAttrs_list PySem.F.slot_list_append PySem.F.type_list_append md_append ty_lst (de_var 3) (da_cons (de_ix (xd_any (hu_of hr)) (de_fld a_last_edges (de_var 0)) (de_var 1)) (da_nil)))) (ds_one (ds_set (i := 1) nd (de_callM t_m_before (hr.mono (by decide)) hgd (de_var 0) (da_cons (de_var 1) (da_nil))))))) (ds_one (ds_ret (de_callTy cd_tuple m_tuple (da_cons (de_rev mkZ (de_var 3)) (da_nil)))))))
theorem km_Search_way_back {P : Program} {w : World} {K : PySem.W.Frag} {mg : Str → Option Value} {base : Heap} (m_tuple : mg "tuple" = none) (t_m_before : MethX P w K mg base Lm_before "before" tbl_before) (a_last_edges : FldX K mg cs_last_edges "last_edges") {f : Addr} {fd : FuncData} (F : FunD K "way_back" "Search.way_back" (defArgs s_Search_way_back) (defBody s_Search_way_back) (defScope s_Search_way_back) [] [] f fd) : FnD P w K mg base L_Search_way_back f fd ["self", "point", "goal"] sp_Search_way_back ∧ Binds K fd ["self", "point", "goal"] [] :=
  ⟨fnD_of (lk_of F) sc_Search_way_back (dr_Search_way_back m_tuple t_m_before a_last_edges f) ok_Search_way_back, F.bindsN fun _ _ _ _ _ _ us hl => match us, hl with | [_, _, _], _ => rfl⟩
abbrev Lm_improve : Nat := L_Search_improve
abbrev Lm_way_back : Nat := L_Search_way_back
abbrev s_solve_edges : Stmt := top 2
abbrev L_solve_edges : Nat := (Nat.max (Nat.max (Nat.max Lm_improve Lm_before) Lm_way_back) (L_Search___init__ + 1)) + 1
theorem sc_solve_edges : FnScope ["points", "edges", "search", "turn", "grown", "point"] ["points", "edges"] (defScope s_solve_edges) := ⟨rfl, rfl, rfl, by decide +kernel, rfl, by decide +kernel, by decide +kernel⟩
theorem dr_solve_edges {P : Program} {w : World} {K : PySem.W.Frag} {mg : Str → Option Value} {base : Heap} (m_range : mg "range" = none) (m_tuple : mg "tuple" = none) (t_m_improve : MethX P w K mg base Lm_improve "improve" tbl_improve) (t_m_before : MethX P w K mg base Lm_before "before" tbl_before) (t_m_way_back : MethX P w K mg base Lm_way_back "way_back" tbl_way_back) (n_Search : NewX P w K mg base L_Search___init__ "Search" sp_Search___init__) (a_sums : FldX K mg cs_sums "sums") (f : Addr) (cdv : Value) (A : Around) (outer : List Env) (s : Shared) (H : Hp) (E : XK)
    (hr : Room (Nat.max (Nat.max (Nat.max Lm_improve Lm_before) Lm_way_back) (L_Search___init__ + 1)) (A.deeper (envOfC "solve_edges" (defScope s_solve_edges) s.heap.objs.size f cdv))) (hgd : (A.deeper (envOfC "solve_edges" (defScope s_solve_edges) s.heap.objs.size f cdv)).guards = some []) :
    PSsd (Xf P w K mg base ["points", "edges", "search", "turn", "grown", "point"] "solve_edges" (defScope s_solve_edges) f cdv A outer s H E) (defBody s_solve_edges) t_solve_edges := by
  have nd := sc_solve_edges.nd
  have hp : PassesOwn (model P w) (Xf P w K mg base ["points", "edges", "search", "turn", "grown", "point"] "solve_edges" (defScope s_solve_edges) f cdv A outer s H E).A (Xf P w K mg base ["points", "edges", "search", "turn", "grown", "point"] "solve_edges" (defScope s_solve_edges) f cdv A outer s H E).env (Xf P w K mg base ["points", "edges", "search", "turn", "grown", "point"] "solve_edges" (defScope s_solve_edges) f cdv A outer s H E).xe := PassesOwn.leaving
  exact ds_cons (ds_set (i := 2) nd (de_new n_Search (hr.mono (by decide)) hgd (da_cons (de_var 1) (da_cons (de_dc mkD rfl nd (own := [("point", 5)]) (di_range1 m_range (da_cons (de_var 0) (da_nil))) (blkC_by (N' := ["points", "edges", "search", "turn", "grown", "point"]) (sc' := defScope s_solve_edges) rfl rfl (by decide +kernel)) (fun _ _ _ _ _ => dg_nm 5 nd) (fun _ _ _ _ _ => dts_nil) (fun _ _ _ _ _ => de_var 5) (fun _ _ _ _ _ => de_int)) (da_nil))))) (ds_cons (ds_for hp rfl (di_range1 m_range (da_cons (de_var 0) (da_nil))) (dg_nm 3 nd) (ds_cons (ds_set (i := 4) nd (de_callM0 t_m_improve (hr.mono (by decide)) hgd (de_var 2))) (ds_one (ds_if (dt_isN (de_var 4)) (ds_one (ds_ret (de_tup (da_cons (de_str) (da_cons (de_callTy cd_tuple m_tuple (da_cons (de_lc mkZ rfl nd (own := [("point", 5)]) (di_range1 m_range (da_cons (de_var 0) (da_nil))) (blkC_by (N' := ["points", "edges", "search", "turn", "grown", "point"]) (sc' := defScope s_solve_edges) rfl rfl (by decide +kernel)) (fun _ _ _ _ _ => dg_nm 5 nd) (fun _ _ _ _ _ => dts_nil) (fun _ _ _ _ _ => de_ix (xd_any (hu_of hr)) (de_fld a_sums (de_var 2)) (de_var 5))) (da_nil))) (da_nil)))))) (ds_nil))))) (ds_cons (ds_for hp rfl (di_range1 m_range (da_cons (de_var 0) (da_nil))) (dg_nm 3 nd) (ds_one (ds_set (i := 4) nd (de_callM t_m_before (hr.mono (by decide)) hgd (de_var 2) (da_cons (de_var 4) (da_nil)))))) (ds_one (ds_ret (de_tup (da_cons (de_str) (da_cons (de_callM t_m_way_back (hr.mono (by decide)) hgd (de_var 2) (da_cons (de_var 4) (da_cons (de_var 4) (da_nil)))) (da_nil))))))))
theorem kn_solve_edges {P : Program} {w : World} {K : PySem.W.Frag} {mg : Str → Option Value} {base : Heap} (m_range : mg "range" = none) (m_tuple : mg "tuple" = none) (t_m_improve : MethX P w K mg base Lm_improve "improve" tbl_improve) (t_m_before : MethX P w K mg base Lm_before "before" tbl_before) (t_m_way_back : MethX P w K mg base Lm_way_back "way_back" tbl_way_back) (n_Search : NewX P w K mg base L_Search___init__ "Search" sp_Search___init__) (a_sums : FldX K mg cs_sums "sums") {f : Addr} {x : Str} {fd : FuncData} (F : FunD K "solve_edges" "solve_edges" (defArgs s_solve_edges) (defBody s_solve_edges) (defScope s_solve_edges) [] [] f fd) (hm : mg x = some (.ref f)) : Known P w K mg base L_solve_edges x sp_solve_edges :=
  ⟨f, fd, ["points", "edges"], hm, F.kp, fnD_of (lk_of F) sc_solve_edges (dr_solve_edges m_range m_tuple t_m_improve t_m_before t_m_way_back n_Search a_sums f) ok_solve_edges, F.bindsN fun _ _ _ _ _ _ us hl => match us, hl with | [_, _], _ => rfl⟩
abbrev s_f_law_fresh : Stmt := top 6
abbrev L_f_law_fresh : Nat := 0 + 1
theorem sc_f_law_fresh : FnScope ["_law_pen_here", "_law_index", "_law_cell", "_law_prime", "_law_state", "_law_mixed", "_law_step"] ["_law_pen_here"] (defScope s_f_law_fresh) := ⟨rfl, rfl, rfl, by decide +kernel, rfl, by decide +kernel, by decide +kernel⟩
theorem dr_f_law_fresh {P : Program} {w : World} {K : PySem.W.Frag} {mg : Str → Option Value} {base : Heap} (m_len : mg "len" = none) (m_range : mg "range" = none) (f : Addr) (cdv : Value) (A : Around) (outer : List Env) (s : Shared) (H : Hp) (E : XK)
    (hr : Room 0 (A.deeper (envOfC "_law_fresh" (defScope s_f_law_fresh) s.heap.objs.size f cdv))) (hgd : (A.deeper (envOfC "_law_fresh" (defScope s_f_law_fresh) s.heap.objs.size f cdv)).guards = some []) :
    PSsd (Xf P w K mg base ["_law_pen_here", "_law_index", "_law_cell", "_law_prime", "_law_state", "_law_mixed", "_law_step"] "_law_fresh" (defScope s_f_law_fresh) f cdv A outer s H E) (defBody s_f_law_fresh) t_f_law_fresh := by
  have nd := sc_f_law_fresh.nd
  have hp : PassesOwn (model P w) (Xf P w K mg base ["_law_pen_here", "_law_index", "_law_cell", "_law_prime", "_law_state", "_law_mixed", "_law_step"] "_law_fresh" (defScope s_f_law_fresh) f cdv A outer s H E).A (Xf P w K mg base ["_law_pen_here", "_law_index", "_law_cell", "_law_prime", "_law_state", "_law_mixed", "_law_step"] "_law_fresh" (defScope s_f_law_fresh) f cdv A outer s H E).env (Xf P w K mg base ["_law_pen_here", "_law_index", "_law_cell", "_law_prime", "_law_state", "_law_mixed", "_law_step"] "_law_fresh" (defScope s_f_law_fresh) f cdv A outer s H E).xe := PassesOwn.leaving
  exact ds_cons (ds_set (i := 1) nd (de_ix (xd_any (hu_of hr)) (de_var 0) (de_int))) (ds_cons (ds_setIx (hu_of hr) (de_opZ (od_plus mkZ) (de_var 1) (de_int)) (de_var 0) (de_int)) (ds_cons (ds_set (i := 2) nd (de_int)) (ds_cut (ds_if (dt_cmp (od_ne hr.units) (de_ix (xd_any (hu_of hr)) (de_var 0) (de_int)) (de_lst mkZ (da_nil))) (ds_one (ds_set (i := 2) nd (de_ix (xd_any (hu_of hr)) (de_ix (xd_any (hu_of hr)) (de_var 0) (de_int)) (de_op od_mod (de_var 1) (de_callB (cd_len) m_len (da_cons (de_ix (xd_any (hu_of hr)) (de_var 0) (de_int)) (da_nil))))))) (ds_nil)) (ds_cons (ds_if (dt_bool (dw_and (dt_cmp od_lt (de_var 1) (de_callB (cd_len) m_len (da_cons (de_ix (xd_any (hu_of hr)) (de_var 0) (de_int)) (da_nil)))) (dw_and1 (dt_cmp od_ge (de_var 2) (de_op od_pow (de_int) (de_int)))))) (ds_one (ds_ret (de_op od_sub (de_var 2) (de_op od_pow (de_int) (de_int))))) (ds_nil)) (ds_cons (ds_set (i := 3) nd (de_int)) (ds_cons (ds_set (i := 4) nd (de_op od_mod (de_opZ (od_plus mkZ) (de_opZ (od_plus mkZ) (de_op od_mul (de_var 2) (de_int)) (de_op od_mul (de_int) (de_var 1))) (de_int)) (de_var 3))) (ds_cons (ds_set (i := 5) nd (de_var 4)) (ds_cons (ds_for hp rfl (di_range1 m_range (da_cons (de_int) (da_nil))) (dg_nm 6 nd) (ds_cons (ds_set (i := 4) nd (de_opZ (od_plus mkZ) (de_op od_mul (de_var 4) (de_var 4)) (de_op od_mul (de_op od_mul (de_int) (de_opZ (od_plus mkZ) (de_var 6) (de_int))) (de_opZ (od_plus mkZ) (de_var 1) (de_int))))) (ds_cons (ds_set (i := 4) nd (de_op od_mod (de_opZ (od_plus mkZ) (de_var 4) (de_var 2)) (de_var 3))) (ds_one (ds_set (i := 5) nd (de_opZ (od_plus mkZ) (de_op od_mul (de_var 5) (de_var 3)) (de_var 4))))))) (ds_one (ds_ret (de_var 5)))))))))))
theorem kn_f_law_fresh {P : Program} {w : World} {K : PySem.W.Frag} {mg : Str → Option Value} {base : Heap} (m_len : mg "len" = none) (m_range : mg "range" = none) {f : Addr} {x : Str} {fd : FuncData} (F : FunD K "_law_fresh" "_law_fresh" (defArgs s_f_law_fresh) (defBody s_f_law_fresh) (defScope s_f_law_fresh) [] [] f fd) (hm : mg x = some (.ref f)) : Known P w K mg base L_f_law_fresh x sp_f_law_fresh :=
  ⟨f, fd, ["_law_pen_here"], hm, F.kp, fnD_of (lk_of F) sc_f_law_fresh (dr_f_law_fresh m_len m_range f) ok_f_law_fresh, F.bindsN fun _ _ _ _ _ _ us hl => match us, hl with | [_], _ => rfl⟩
abbrev s_f_law_draw : Stmt := top 7
abbrev L_f_law_draw : Nat := L_f_law_fresh + 1
theorem sc_f_law_draw : FnScope ["_law_pen_here", "_law_bound", "_law_digit"] ["_law_pen_here", "_law_bound"] (defScope s_f_law_draw) := ⟨rfl, rfl, rfl, by decide +kernel, rfl, by decide +kernel, by decide +kernel⟩
theorem dr_f_law_draw {P : Program} {w : World} {K : PySem.W.Frag} {mg : Str → Option Value} {base : Heap} (k_f_law_fresh : Known P w K mg base L_f_law_fresh "_law_fresh" sp_f_law_fresh) (f : Addr) (cdv : Value) (A : Around) (outer : List Env) (s : Shared) (H : Hp) (E : XK)
    (hr : Room L_f_law_fresh (A.deeper (envOfC "_law_draw" (defScope s_f_law_draw) s.heap.objs.size f cdv))) (hgd : (A.deeper (envOfC "_law_draw" (defScope s_f_law_draw) s.heap.objs.size f cdv)).guards = some []) :
    PSsd (Xf P w K mg base ["_law_pen_here", "_law_bound", "_law_digit"] "_law_draw" (defScope s_f_law_draw) f cdv A outer s H E) (defBody s_f_law_draw) t_f_law_draw := by
  have nd := sc_f_law_draw.nd
  have hp : PassesOwn (model P w) (Xf P w K mg base ["_law_pen_here", "_law_bound", "_law_digit"] "_law_draw" (defScope s_f_law_draw) f cdv A outer s H E).A (Xf P w K mg base ["_law_pen_here", "_law_bound", "_law_digit"] "_law_draw" (defScope s_f_law_draw) f cdv A outer s H E).env (Xf P w K mg base ["_law_pen_here", "_law_bound", "_law_digit"] "_law_draw" (defScope s_f_law_draw) f cdv A outer s H E).xe := PassesOwn.leaving
  exact ds_cut (ds_if (dt_cmp od_lt (de_ix (xd_any (hu_of hr)) (de_var 0) (de_int)) (de_var 1)) (ds_one (ds_setIx (hu_of hr) (de_call k_f_law_fresh (hr.mono (by decide)) hgd (da_cons (de_var 0) (da_nil))) (de_var 0) (de_int))) (ds_nil)) (ds_cons (ds_set (i := 2) nd (de_op od_mod (de_ix (xd_any (hu_of hr)) (de_var 0) (de_int)) (de_var 1))) (ds_cons (ds_setIx (hu_of hr) (de_op od_div (de_ix (xd_any (hu_of hr)) (de_var 0) (de_int)) (de_var 1)) (de_var 0) (de_int)) (ds_one (ds_ret (de_var 2)))))
theorem kn_f_law_draw {P : Program} {w : World} {K : PySem.W.Frag} {mg : Str → Option Value} {base : Heap} (k_f_law_fresh : Known P w K mg base L_f_law_fresh "_law_fresh" sp_f_law_fresh) {f : Addr} {x : Str} {fd : FuncData} (F : FunD K "_law_draw" "_law_draw" (defArgs s_f_law_draw) (defBody s_f_law_draw) (defScope s_f_law_draw) [] [] f fd) (hm : mg x = some (.ref f)) : Known P w K mg base L_f_law_draw x sp_f_law_draw :=
  ⟨f, fd, ["_law_pen_here", "_law_bound"], hm, F.kp, fnD_of (lk_of F) sc_f_law_draw (dr_f_law_draw k_f_law_fresh f) ok_f_law_draw, F.bindsN fun _ _ _ _ _ _ us hl => match us, hl with | [_, _], _ => rfl⟩
abbrev s_f_law_pair : Stmt := top 8
abbrev L_f_law_pair : Nat := L_f_law_draw + 1
theorem sc_f_law_pair : FnScope ["_law_pen_here", "_law_points", "_law_begin"] ["_law_pen_here", "_law_points"] (defScope s_f_law_pair) := ⟨rfl, rfl, rfl, by decide +kernel, rfl, by decide +kernel, by decide +kernel⟩
theorem dr_f_law_pair {P : Program} {w : World} {K : PySem.W.Frag} {mg : Str → Option Value} {base : Heap} (k_f_law_draw : Known P w K mg base L_f_law_draw "_law_draw" sp_f_law_draw) (f : Addr) (cdv : Value) (A : Around) (outer : List Env) (s : Shared) (H : Hp) (E : XK)
    (hr : Room L_f_law_draw (A.deeper (envOfC "_law_pair" (defScope s_f_law_pair) s.heap.objs.size f cdv))) (hgd : (A.deeper (envOfC "_law_pair" (defScope s_f_law_pair) s.heap.objs.size f cdv)).guards = some []) :
    PSsd (Xf P w K mg base ["_law_pen_here", "_law_points", "_law_begin"] "_law_pair" (defScope s_f_law_pair) f cdv A outer s H E) (defBody s_f_law_pair) t_f_law_pair := by
  have nd := sc_f_law_pair.nd
  have hp : PassesOwn (model P w) (Xf P w K mg base ["_law_pen_here", "_law_points", "_law_begin"] "_law_pair" (defScope s_f_law_pair) f cdv A outer s H E).A (Xf P w K mg base ["_law_pen_here", "_law_points", "_law_begin"] "_law_pair" (defScope s_f_law_pair) f cdv A outer s H E).env (Xf P w K mg base ["_law_pen_here", "_law_points", "_law_begin"] "_law_pair" (defScope s_f_law_pair) f cdv A outer s H E).xe := PassesOwn.leaving
  exact ds_cons (ds_set (i := 2) nd (de_call k_f_law_draw (hr.mono (by decide)) hgd (da_cons (de_var 0) (da_cons (de_var 1) (da_nil))))) (ds_one (ds_ret (de_tup (da_cons (de_var 2) (da_cons (de_op od_mod (de_opZ (od_plus mkZ) (de_opZ (od_plus mkZ) (de_var 2) (de_int)) (de_call k_f_law_draw (hr.mono (by decide)) hgd (da_cons (de_var 0) (da_cons (de_op od_sub (de_var 1) (de_int)) (da_nil))))) (de_var 1)) (da_nil))))))
theorem kn_f_law_pair {P : Program} {w : World} {K : PySem.W.Frag} {mg : Str → Option Value} {base : Heap} (k_f_law_draw : Known P w K mg base L_f_law_draw "_law_draw" sp_f_law_draw) {f : Addr} {x : Str} {fd : FuncData} (F : FunD K "_law_pair" "_law_pair" (defArgs s_f_law_pair) (defBody s_f_law_pair) (defScope s_f_law_pair) [] [] f fd) (hm : mg x = some (.ref f)) : Known P w K mg base L_f_law_pair x sp_f_law_pair :=
  ⟨f, fd, ["_law_pen_here", "_law_points"], hm, F.kp, fnD_of (lk_of F) sc_f_law_pair (dr_f_law_pair k_f_law_draw f) ok_f_law_pair, F.bindsN fun _ _ _ _ _ _ us hl => match us, hl with | [_, _], _ => rfl⟩
abbrev s_f_law_best_sums : Stmt := top 9
abbrev L_f_law_best_sums : Nat := 0 + 1
theorem sc_f_law_best_sums : FnScope ["_law_points", "_law_edges", "_law_best", "_law_k", "_law_begin", "_law_end", "_law_weight", "_law_middle", "_law_total"] ["_law_points", "_law_edges"] (defScope s_f_law_best_sums) := ⟨rfl, rfl, rfl, by decide +kernel, rfl, by decide +kernel, by decide +kernel⟩
theorem dr_f_law_best_sums {P : Program} {w : World} {K : PySem.W.Frag} {mg : Str → Option Value} {base : Heap} (m_max : mg "max" = none) (m_range : mg "range" = none) (f : Addr) (cdv : Value) (A : Around) (outer : List Env) (s : Shared) (H : Hp) (E : XK)
    (hr : Room 0 (A.deeper (envOfC "_law_best_sums" (defScope s_f_law_best_sums) s.heap.objs.size f cdv))) (hgd : (A.deeper (envOfC "_law_best_sums" (defScope s_f_law_best_sums) s.heap.objs.size f cdv)).guards = some []) :
    PSsd (Xf P w K mg base ["_law_points", "_law_edges", "_law_best", "_law_k", "_law_begin", "_law_end", "_law_weight", "_law_middle", "_law_total"] "_law_best_sums" (defScope s_f_law_best_sums) f cdv A outer s H E) (defBody s_f_law_best_sums) t_f_law_best_sums := by
  have nd := sc_f_law_best_sums.nd
  have hp : PassesOwn (model P w) (Xf P w K mg base ["_law_points", "_law_edges", "_law_best", "_law_k", "_law_begin", "_law_end", "_law_weight", "_law_middle", "_law_total"] "_law_best_sums" (defScope s_f_law_best_sums) f cdv A outer s H E).A (Xf P w K mg base ["_law_points", "_law_edges", "_law_best", "_law_k", "_law_begin", "_law_end", "_law_weight", "_law_middle", "_law_total"] "_law_best_sums" (defScope s_f_law_best_sums) f cdv A outer s H E).env (Xf P w K mg base ["_law_points", "_law_edges", "_law_best", "_law_k", "_law_begin", "_law_end", "_law_weight", "_law_middle", "_law_total"] "_law_best_sums" (defScope s_f_law_best_sums) f cdv A outer s H E).xe := PassesOwn.leaving
  exact ds_cons (ds_set (i := 2) nd de_dicT) (ds_cons (ds_for hp rfl (di_range1 m_range (da_cons (de_var 0) (da_nil))) (dg_nm 3 nd) (ds_one (ds_setT (hu_of hr) (de_int) (de_var 2) (da_cons (de_var 3) (da_cons (de_var 3) (da_nil)))))) (ds_cons (ds_for hp rfl (di_seq (de_var 1)) (dg_tp rfl (dgs_cons (dg_nm 4 nd) (dgs_cons (dg_nm 5 nd) (dgs_cons (dg_nm 6 nd) (dgs_nil))))) (ds_one (ds_setT (hu_of hr) (de_callB (cd_max2 rfl) m_max (da_cons (de_var 6) (da_cons (de_getT2 (hu_of hr) (de_var 2) (da_cons (de_var 4) (da_cons (de_var 5) (da_nil))) (de_var 6)) (da_nil)))) (de_var 2) (da_cons (de_var 4) (da_cons (de_var 5) (da_nil)))))) (ds_cons (ds_for hp rfl (di_range1 m_range (da_cons (de_var 0) (da_nil))) (dg_nm 7 nd) (ds_one (ds_for hp rfl (di_range1 m_range (da_cons (de_var 0) (da_nil))) (dg_nm 4 nd) (ds_one (ds_for hp rfl (di_range1 m_range (da_cons (de_var 0) (da_nil))) (dg_nm 5 nd) (ds_one (ds_if (dt_bool (dw_and (dt_inT (hu_of hr) (da_cons (de_var 4) (da_cons (de_var 7) (da_nil))) (de_var 2)) (dw_and1 (dt_inT (hu_of hr) (da_cons (de_var 7) (da_cons (de_var 5) (da_nil))) (de_var 2))))) (ds_cons (ds_set (i := 8) nd (de_opZ (od_plus mkZ) (de_ixT (hu_of hr) (de_var 2) (da_cons (de_var 4) (da_cons (de_var 7) (da_nil)))) (de_ixT (hu_of hr) (de_var 2) (da_cons (de_var 7) (da_cons (de_var 5) (da_nil)))))) (ds_one (ds_setT (hu_of hr) (de_callB (cd_max2 rfl) m_max (da_cons (de_var 8) (da_cons (de_getT2 (hu_of hr) (de_var 2) (da_cons (de_var 4) (da_cons (de_var 5) (da_nil))) (de_var 8)) (da_nil)))) (de_var 2) (da_cons (de_var 4) (da_cons (de_var 5) (da_nil)))))) (ds_nil)))))))) (ds_one (ds_ret (de_var 2))))))
theorem kn_f_law_best_sums {P : Program} {w : World} {K : PySem.W.Frag} {mg : Str → Option Value} {base : Heap} (m_max : mg "max" = none) (m_range : mg "range" = none) {f : Addr} {x : Str} {fd : FuncData} (F : FunD K "_law_best_sums" "_law_best_sums" (defArgs s_f_law_best_sums) (defBody s_f_law_best_sums) (defScope s_f_law_best_sums) [] [] f fd) (hm : mg x = some (.ref f)) : Known P w K mg base L_f_law_best_sums x sp_f_law_best_sums :=
  ⟨f, fd, ["_law_points", "_law_edges"], hm, F.kp, fnD_of (lk_of F) sc_f_law_best_sums (dr_f_law_best_sums m_max m_range f) ok_f_law_best_sums, F.bindsN fun _ _ _ _ _ _ us hl => match us, hl with | [_, _], _ => rfl⟩
abbrev s_greatest_chain : Stmt := top 3
abbrev L_greatest_chain : Nat := (Nat.max (Nat.max Lm_improve Lm_way_back) (L_Search___init__ + 1)) + 1
theorem sc_greatest_chain : FnScope ["points", "edges", "start", "end", "search", "turn"] ["points", "edges", "start", "end"] (defScope s_greatest_chain) := ⟨rfl, rfl, rfl, by decide +kernel, rfl, by decide +kernel, by decide +kernel⟩
theorem dr_greatest_chain {P : Program} {w : World} {K : PySem.W.Frag} {mg : Str → Option Value} {base : Heap} (m_range : mg "range" = none) (t_m_improve : MethX P w K mg base Lm_improve "improve" tbl_improve) (t_m_way_back : MethX P w K mg base Lm_way_back "way_back" tbl_way_back) (n_Search : NewX P w K mg base L_Search___init__ "Search" sp_Search___init__) (a_sums : FldX K mg cs_sums "sums") (f : Addr) (cdv : Value) (A : Around) (outer : List Env) (s : Shared) (H : Hp) (E : XK)
    (hr : Room (Nat.max (Nat.max Lm_improve Lm_way_back) (L_Search___init__ + 1)) (A.deeper (envOfC "greatest_chain" (defScope s_greatest_chain) s.heap.objs.size f cdv))) (hgd : (A.deeper (envOfC "greatest_chain" (defScope s_greatest_chain) s.heap.objs.size f cdv)).guards = some []) :
    PSsd (Xf P w K mg base ["points", "edges", "start", "end", "search", "turn"] "greatest_chain" (defScope s_greatest_chain) f cdv A outer s H E) (defBody s_greatest_chain) t_greatest_chain := by
  have nd := sc_greatest_chain.nd
  have hp : PassesOwn (model P w) (Xf P w K mg base ["points", "edges", "start", "end", "search", "turn"] "greatest_chain" (defScope s_greatest_chain) f cdv A outer s H E).A (Xf P w K mg base ["points", "edges", "start", "end", "search", "turn"] "greatest_chain" (defScope s_greatest_chain) f cdv A outer s H E).env (Xf P w K mg base ["points", "edges", "start", "end", "search", "turn"] "greatest_chain" (defScope s_greatest_chain) f cdv A outer s H E).xe := PassesOwn.leaving
  exact ds_cons (ds_set (i := 4) nd (de_new n_Search (hr.mono (by decide)) hgd (da_cons (de_var 1) (da_cons (de_disp mkD (dp_cons (de_var 2) (de_int) (dp_nil))) (da_nil))))) (ds_cons (ds_for hp rfl (di_range1 m_range (da_cons (de_var 0) (da_nil))) (dg_nm 5 nd) (ds_one (ds_expr (de_callM0 t_m_improve (hr.mono (by decide)) hgd (de_var 4))))) (ds_cons (ds_if (dt_cmp (od_eq hr.units) (de_var 3) (de_var 2)) (ds_one (ds_ret (de_tup (da_nil)))) (ds_nil)) (ds_one (ds_ret (de_ifExp (dt_cmp (od_in (hu_of hr)) (de_var 3) (de_fld a_sums (de_var 4))) (de_callM t_m_way_back (hr.mono (by decide)) hgd (de_var 4) (da_cons (de_var 3) (da_cons (de_var 2) (da_nil)))) (de_non))))))
theorem kn_greatest_chain {P : Program} {w : World} {K : PySem.W.Frag} {mg : Str → Option Value} {base : Heap} (m_range : mg "range" = none) (t_m_improve : MethX P w K mg base Lm_improve "improve" tbl_improve) (t_m_way_back : MethX P w K mg base Lm_way_back "way_back" tbl_way_back) (n_Search : NewX P w K mg base L_Search___init__ "Search" sp_Search___init__) (a_sums : FldX K mg cs_sums "sums") {f : Addr} {x : Str} {fd : FuncData} (F : FunD K "greatest_chain" "greatest_chain" (defArgs s_greatest_chain) (defBody s_greatest_chain) (defScope s_greatest_chain) [] [] f fd) (hm : mg x = some (.ref f)) : Known P w K mg base L_greatest_chain x sp_greatest_chain :=
  ⟨f, fd, ["points", "edges", "start", "end"], hm, F.kp, fnD_of (lk_of F) sc_greatest_chain (dr_greatest_chain m_range t_m_improve t_m_way_back n_Search a_sums f) ok_greatest_chain, F.bindsN fun _ _ _ _ _ _ us hl => match us, hl with | [_, _, _, _], _ => rfl⟩
abbrev s_f_law_chain_sum : Stmt := top 11
abbrev L_f_law_chain_sum : Nat := 0 + 1
theorem sc_f_law_chain_sum : FnScope ["_law_edges", "_law_indices", "_law_begin", "_law_end", "_law_place", "_law_total", "_law_seen", "_law_k"] ["_law_edges", "_law_indices", "_law_begin", "_law_end"] (defScope s_f_law_chain_sum) := ⟨rfl, rfl, rfl, by decide +kernel, rfl, by decide +kernel, by decide +kernel⟩
theorem dr_f_law_chain_sum {P : Program} {w : World} {K : PySem.W.Frag} {mg : Str → Option Value} {base : Heap} (f : Addr) (cdv : Value) (A : Around) (outer : List Env) (s : Shared) (H : Hp) (E : XK)
    (hr : Room 0 (A.deeper (envOfC "_law_chain_sum" (defScope s_f_law_chain_sum) s.heap.objs.size f cdv))) (hgd : (A.deeper (envOfC "_law_chain_sum" (defScope s_f_law_chain_sum) s.heap.objs.size f cdv)).guards = some []) :
    PSsd (Xf P w K mg base ["_law_edges", "_law_indices", "_law_begin", "_law_end", "_law_place", "_law_total", "_law_seen", "_law_k"] "_law_chain_sum" (defScope s_f_law_chain_sum) f cdv A outer s H E) (defBody s_f_law_chain_sum) t_f_law_chain_sum := by
  have nd := sc_f_law_chain_sum.nd
  have hp : PassesOwn (model P w) (Xf P w K mg base ["_law_edges", "_law_indices", "_law_begin", "_law_end", "_law_place", "_law_total", "_law_seen", "_law_k"] "_law_chain_sum" (defScope s_f_law_chain_sum) f cdv A outer s H E).A (Xf P w K mg base ["_law_edges", "_law_indices", "_law_begin", "_law_end", "_law_place", "_law_total", "_law_seen", "_law_k"] "_law_chain_sum" (defScope s_f_law_chain_sum) f cdv A outer s H E).env (Xf P w K mg base ["_law_edges", "_law_indices", "_law_begin", "_law_end", "_law_place", "_law_total", "_law_seen", "_law_k"] "_law_chain_sum" (defScope s_f_law_chain_sum) f cdv A outer s H E).xe := PassesOwn.leaving
  exact ds_cons (ds_par3 (i := 4) (j := 5) (l := 6) rfl nd (da_cons (de_var 2) (da_cons (de_int) (da_cons (de_lst mkD (da_nil)) (da_nil))))) (ds_cons (ds_for hp rfl (di_seq (de_var 1)) (dg_nm 7 nd) (ds_cons (ds_if (dt_bool (dw_or (dt_cmp (od_ne hr.units) (de_ix (xd_any (hu_of hr)) (de_ix (xd_any (hu_of hr)) (de_var 0) (de_var 7)) (de_int)) (de_var 4)) (dw_or1 (dt_cmp (od_in (hu_of hr)) (de_var 4) (de_var 6))))) (ds_one (ds_ret (de_non))) (ds_nil)) (ds_cons (ds_expr (de_meth PySem.F.plainAttrs_list PySem.F.slot_list_append PySem.F.type_list_append md_append ty_lst (de_var 6) (da_cons (de_var 4) (da_nil)))) (ds_one (ds_par (i := 4) (j := 5) rfl nd (da_cons (de_ix (xd_any (hu_of hr)) (de_ix (xd_any (hu_of hr)) (de_var 0) (de_var 7)) (de_int)) (da_cons (de_opZ (od_plus mkZ) (de_var 5) (de_ix (xd_any (hu_of hr)) (de_ix (xd_any (hu_of hr)) (de_var 0) (de_var 7)) (de_int))) da_nil))))))) (ds_one (ds_ret (de_ifExp (dt_bool (dw_and (dt_cmp (od_eq hr.units) (de_var 4) (de_var 3)) (dw_and1 (dt_bool (dw_or (dt_cmp (od_notin (hu_of hr)) (de_var 4) (de_var 6)) (dw_or1 (dt_cmp (od_eq hr.units) (de_var 2) (de_var 3)))))))) (de_var 5) (de_non)))))
theorem kn_f_law_chain_sum {P : Program} {w : World} {K : PySem.W.Frag} {mg : Str → Option Value} {base : Heap} {f : Addr} {x : Str} {fd : FuncData} (F : FunD K "_law_chain_sum" "_law_chain_sum" (defArgs s_f_law_chain_sum) (defBody s_f_law_chain_sum) (defScope s_f_law_chain_sum) [] [] f fd) (hm : mg x = some (.ref f)) : Known P w K mg base L_f_law_chain_sum x sp_f_law_chain_sum :=
  ⟨f, fd, ["_law_edges", "_law_indices", "_law_begin", "_law_end"], hm, F.kp, fnD_of (lk_of F) sc_f_law_chain_sum (dr_f_law_chain_sum f) ok_f_law_chain_sum, F.bindsN fun _ _ _ _ _ _ us hl => match us, hl with | [_, _, _, _], _ => rfl⟩
abbrev s_f_law_are_indices : Stmt := top 10
abbrev L_f_law_are_indices : Nat := 0 + 1
theorem sc_f_law_are_indices : FnScope ["_law_item", "_law_count", "_law_k"] ["_law_item", "_law_count"] (defScope s_f_law_are_indices) := ⟨rfl, rfl, rfl, by decide +kernel, rfl, by decide +kernel, by decide +kernel⟩
theorem dr_f_law_are_indices {P : Program} {w : World} {K : PySem.W.Frag} {mg : Str → Option Value} {base : Heap} (m_all : mg "all" = none) (m_bool : mg "bool" = none) (m_int : mg "int" = none) (m_isinstance : mg "isinstance" = none) (m_tuple : mg "tuple" = none) (f : Addr) (cdv : Value) (A : Around) (outer : List Env) (s : Shared) (H : Hp) (E : XK)
    (hr : Room 0 (A.deeper (envOfC "_law_are_indices" (defScope s_f_law_are_indices) s.heap.objs.size f cdv))) (hgd : (A.deeper (envOfC "_law_are_indices" (defScope s_f_law_are_indices) s.heap.objs.size f cdv)).guards = some []) :
    PSsd (Xf P w K mg base ["_law_item", "_law_count", "_law_k"] "_law_are_indices" (defScope s_f_law_are_indices) f cdv A outer s H E) (defBody s_f_law_are_indices) t_f_law_are_indices := by
  have nd := sc_f_law_are_indices.nd
  have hp : PassesOwn (model P w) (Xf P w K mg base ["_law_item", "_law_count", "_law_k"] "_law_are_indices" (defScope s_f_law_are_indices) f cdv A outer s H E).A (Xf P w K mg base ["_law_item", "_law_count", "_law_k"] "_law_are_indices" (defScope s_f_law_are_indices) f cdv A outer s H E).env (Xf P w K mg base ["_law_item", "_law_count", "_law_k"] "_law_are_indices" (defScope s_f_law_are_indices) f cdv A outer s H E).xe := PassesOwn.leaving
  exact ds_cons (ds_if (dt_not (dt_val (de_isi .tuple m_isinstance m_tuple (de_var 0)))) (ds_one (ds_ret (de_bl))) (ds_nil)) (ds_one (ds_ret (de_callB (cd_all rfl) m_all (da_cons (de_lc mkZ rfl nd (own := [("_law_k", 2)]) (di_seq (de_var 0)) (blkC_by (N' := ["_law_item", "_law_count", "_law_k"]) (sc' := defScope s_f_law_are_indices) rfl rfl (by decide +kernel)) (fun _ _ _ _ _ => dg_nm 2 nd) (fun _ _ _ _ _ => dts_nil) (fun _ _ _ _ _ => de_and (de_isi .int m_isinstance m_int (de_var 2)) (de_and (de_not (de_isi .bool m_isinstance m_bool (de_var 2))) (de_one (de_chain od_le od_lt (de_int) (de_var 2) (de_var 1)))))) (da_nil)))))
theorem kn_f_law_are_indices {P : Program} {w : World} {K : PySem.W.Frag} {mg : Str → Option Value} {base : Heap} (m_all : mg "all" = none) (m_bool : mg "bool" = none) (m_int : mg "int" = none) (m_isinstance : mg "isinstance" = none) (m_tuple : mg "tuple" = none) {f : Addr} {x : Str} {fd : FuncData} (F : FunD K "_law_are_indices" "_law_are_indices" (defArgs s_f_law_are_indices) (defBody s_f_law_are_indices) (defScope s_f_law_are_indices) [] [] f fd) (hm : mg x = some (.ref f)) : Known P w K mg base L_f_law_are_indices x sp_f_law_are_indices :=
  ⟨f, fd, ["_law_item", "_law_count"], hm, F.kp, fnD_of (lk_of F) sc_f_law_are_indices (dr_f_law_are_indices m_all m_bool m_int m_isinstance m_tuple f) ok_f_law_are_indices, F.bindsN fun _ _ _ _ _ _ us hl => match us, hl with | [_, _], _ => rfl⟩
abbrev s_f_law_ring_fits : Stmt := top 12
abbrev L_f_law_ring_fits : Nat := (Nat.max L_f_law_are_indices L_f_law_chain_sum) + 1
theorem sc_f_law_ring_fits : FnScope ["_law_edges", "_law_indices", "_law_begin", "_law_total"] ["_law_edges", "_law_indices"] (defScope s_f_law_ring_fits) := ⟨rfl, rfl, rfl, by decide +kernel, rfl, by decide +kernel, by decide +kernel⟩
theorem dr_f_law_ring_fits {P : Program} {w : World} {K : PySem.W.Frag} {mg : Str → Option Value} {base : Heap} (m_len : mg "len" = none) (k_f_law_are_indices : Known P w K mg base L_f_law_are_indices "_law_are_indices" sp_f_law_are_indices) (k_f_law_chain_sum : Known P w K mg base L_f_law_chain_sum "_law_chain_sum" sp_f_law_chain_sum) (f : Addr) (cdv : Value) (A : Around) (outer : List Env) (s : Shared) (H : Hp) (E : XK)
    (hr : Room (Nat.max L_f_law_are_indices L_f_law_chain_sum) (A.deeper (envOfC "_law_ring_fits" (defScope s_f_law_ring_fits) s.heap.objs.size f cdv))) (hgd : (A.deeper (envOfC "_law_ring_fits" (defScope s_f_law_ring_fits) s.heap.objs.size f cdv)).guards = some []) :
    PSsd (Xf P w K mg base ["_law_edges", "_law_indices", "_law_begin", "_law_total"] "_law_ring_fits" (defScope s_f_law_ring_fits) f cdv A outer s H E) (defBody s_f_law_ring_fits) t_f_law_ring_fits := by
  have nd := sc_f_law_ring_fits.nd
  have hp : PassesOwn (model P w) (Xf P w K mg base ["_law_edges", "_law_indices", "_law_begin", "_law_total"] "_law_ring_fits" (defScope s_f_law_ring_fits) f cdv A outer s H E).A (Xf P w K mg base ["_law_edges", "_law_indices", "_law_begin", "_law_total"] "_law_ring_fits" (defScope s_f_law_ring_fits) f cdv A outer s H E).env (Xf P w K mg base ["_law_edges", "_law_indices", "_law_begin", "_law_total"] "_law_ring_fits" (defScope s_f_law_ring_fits) f cdv A outer s H E).xe := PassesOwn.leaving
  exact ds_cons (ds_if (dt_bool (dw_or (dt_not (dt_val (de_call k_f_law_are_indices (hr.mono (by decide)) hgd (da_cons (de_var 1) (da_cons (de_callB (cd_len) m_len (da_cons (de_var 0) (da_nil))) (da_nil)))))) (dw_or1 (dt_cmp (od_eq hr.units) (de_var 1) (de_tup (da_nil)))))) (ds_one (ds_ret (de_bl))) (ds_nil)) (ds_cons (ds_set (i := 2) nd (de_ix (xd_any (hu_of hr)) (de_ix (xd_any (hu_of hr)) (de_var 0) (de_ix (xd_any (hu_of hr)) (de_var 1) (de_int))) (de_int))) (ds_cons (ds_set (i := 3) nd (de_call k_f_law_chain_sum (hr.mono (by decide)) hgd (da_cons (de_var 0) (da_cons (de_var 1) (da_cons (de_var 2) (da_cons (de_var 2) (da_nil))))))) (ds_one (ds_ret (de_and (de_notN (de_var 3)) (de_one (de_cmp od_gt (de_var 3) (de_int))))))))
theorem kn_f_law_ring_fits {P : Program} {w : World} {K : PySem.W.Frag} {mg : Str → Option Value} {base : Heap} (m_len : mg "len" = none) (k_f_law_are_indices : Known P w K mg base L_f_law_are_indices "_law_are_indices" sp_f_law_are_indices) (k_f_law_chain_sum : Known P w K mg base L_f_law_chain_sum "_law_chain_sum" sp_f_law_chain_sum) {f : Addr} {x : Str} {fd : FuncData} (F : FunD K "_law_ring_fits" "_law_ring_fits" (defArgs s_f_law_ring_fits) (defBody s_f_law_ring_fits) (defScope s_f_law_ring_fits) [] [] f fd) (hm : mg x = some (.ref f)) : Known P w K mg base L_f_law_ring_fits x sp_f_law_ring_fits :=
  ⟨f, fd, ["_law_edges", "_law_indices"], hm, F.kp, fnD_of (lk_of F) sc_f_law_ring_fits (dr_f_law_ring_fits m_len k_f_law_are_indices k_f_law_chain_sum f) ok_f_law_ring_fits, F.bindsN fun _ _ _ _ _ _ us hl => match us, hl with | [_, _], _ => rfl⟩
abbrev s_f_law_satisfies : Stmt := top 13
abbrev L_f_law_satisfies : Nat := 0 + 1
theorem sc_f_law_satisfies : FnScope ["_law_edges", "_law_item", "_law_points", "_law_begin", "_law_end", "_law_weight", "_law_a"] ["_law_edges", "_law_item", "_law_points"] (defScope s_f_law_satisfies) := ⟨rfl, rfl, rfl, by decide +kernel, rfl, by decide +kernel, by decide +kernel⟩
theorem dr_f_law_satisfies {P : Program} {w : World} {K : PySem.W.Frag} {mg : Str → Option Value} {base : Heap} (m_abs : mg "abs" = none) (m_all : mg "all" = none) (m_bool : mg "bool" = none) (m_int : mg "int" = none) (m_isinstance : mg "isinstance" = none) (m_len : mg "len" = none) (m_tuple : mg "tuple" = none) (f : Addr) (cdv : Value) (A : Around) (outer : List Env) (s : Shared) (H : Hp) (E : XK)
    (hr : Room 0 (A.deeper (envOfC "_law_satisfies" (defScope s_f_law_satisfies) s.heap.objs.size f cdv))) (hgd : (A.deeper (envOfC "_law_satisfies" (defScope s_f_law_satisfies) s.heap.objs.size f cdv)).guards = some []) :
    PSsd (Xf P w K mg base ["_law_edges", "_law_item", "_law_points", "_law_begin", "_law_end", "_law_weight", "_law_a"] "_law_satisfies" (defScope s_f_law_satisfies) f cdv A outer s H E) (defBody s_f_law_satisfies) t_f_law_satisfies := by
  have nd := sc_f_law_satisfies.nd
  have hp : PassesOwn (model P w) (Xf P w K mg base ["_law_edges", "_law_item", "_law_points", "_law_begin", "_law_end", "_law_weight", "_law_a"] "_law_satisfies" (defScope s_f_law_satisfies) f cdv A outer s H E).A (Xf P w K mg base ["_law_edges", "_law_item", "_law_points", "_law_begin", "_law_end", "_law_weight", "_law_a"] "_law_satisfies" (defScope s_f_law_satisfies) f cdv A outer s H E).env (Xf P w K mg base ["_law_edges", "_law_item", "_law_points", "_law_begin", "_law_end", "_law_weight", "_law_a"] "_law_satisfies" (defScope s_f_law_satisfies) f cdv A outer s H E).xe := PassesOwn.leaving
  exact ds_cons (ds_if (dt_bool (dw_or (dt_not (dt_val (de_isi .tuple m_isinstance m_tuple (de_var 1)))) (dw_or1 (dt_cmp (od_ne hr.units) (de_callB (cd_len) m_len (da_cons (de_var 1) (da_nil))) (de_var 2))))) (ds_one (ds_ret (de_bl))) (ds_nil)) (ds_cons (ds_if (dt_not (dt_val (de_callB (cd_all rfl) m_all (da_cons (de_lc mkZ rfl nd (own := [("_law_a", 6)]) (di_seq (de_var 1)) (blkC_by (N' := ["_law_edges", "_law_item", "_law_points", "_law_begin", "_law_end", "_law_weight", "_law_a"]) (sc' := defScope s_f_law_satisfies) rfl rfl (by decide +kernel)) (fun _ _ _ _ _ => dg_nm 6 nd) (fun _ _ _ _ _ => dts_nil) (fun _ _ _ _ _ => de_and (de_isi .int m_isinstance m_int (de_var 6)) (de_and (de_not (de_isi .bool m_isinstance m_bool (de_var 6))) (de_one (de_cmp od_lt (de_callB (cd_abs) m_abs (da_cons (de_var 6) (da_nil))) (de_op od_mul (de_op od_pow (de_int) (de_int)) (de_op od_pow (de_int) (de_int)))))))) (da_nil))))) (ds_one (ds_ret (de_bl))) (ds_nil)) (ds_one (ds_ret (de_callB (cd_all rfl) m_all (da_cons (de_lc mkZ rfl nd (own := [("_law_begin", 3), ("_law_end", 4), ("_law_weight", 5)]) (di_seq (de_var 0)) (blkC_by (N' := ["_law_edges", "_law_item", "_law_points", "_law_begin", "_law_end", "_law_weight", "_law_a"]) (sc' := defScope s_f_law_satisfies) rfl rfl (by decide +kernel)) (fun _ _ _ _ _ => dg_tp rfl (dgs_cons (dg_nm 3 nd) (dgs_cons (dg_nm 4 nd) (dgs_cons (dg_nm 5 nd) (dgs_nil))))) (fun _ _ _ _ _ => dts_nil) (fun _ _ _ _ _ => de_cmp od_ge (de_ix (xd_any (hu_of hr)) (de_var 1) (de_var 4)) (de_opZ (od_plus mkZ) (de_ix (xd_any (hu_of hr)) (de_var 1) (de_var 3)) (de_var 5)))) (da_nil))))))
theorem kn_f_law_satisfies {P : Program} {w : World} {K : PySem.W.Frag} {mg : Str → Option Value} {base : Heap} (m_abs : mg "abs" = none) (m_all : mg "all" = none) (m_bool : mg "bool" = none) (m_int : mg "int" = none) (m_isinstance : mg "isinstance" = none) (m_len : mg "len" = none) (m_tuple : mg "tuple" = none) {f : Addr} {x : Str} {fd : FuncData} (F : FunD K "_law_satisfies" "_law_satisfies" (defArgs s_f_law_satisfies) (defBody s_f_law_satisfies) (defScope s_f_law_satisfies) [] [] f fd) (hm : mg x = some (.ref f)) : Known P w K mg base L_f_law_satisfies x sp_f_law_satisfies :=
  ⟨f, fd, ["_law_edges", "_law_item", "_law_points"], hm, F.kp, fnD_of (lk_of F) sc_f_law_satisfies (dr_f_law_satisfies m_abs m_all m_bool m_int m_isinstance m_len m_tuple f) ok_f_law_satisfies, F.bindsN fun _ _ _ _ _ _ us hl => match us, hl with | [_, _, _], _ => rfl⟩
abbrev s_f_law_long_row_right : Stmt := top 14
abbrev L_f_law_long_row_right : Nat := (Nat.max (Nat.max (Nat.max (Nat.max L_f_law_draw L_solve_edges) L_f_law_satisfies) L_greatest_chain) L_f_law_ring_fits) + 1
theorem sc_f_law_long_row_right : FnScope ["_law_pen_here", "_law_order", "_law_k", "_law_edges", "_law_total", "_law_found", "_law_closed", "_law_other", "_law_edge"] ["_law_pen_here"] (defScope s_f_law_long_row_right) := ⟨rfl, rfl, rfl, by decide +kernel, rfl, by decide +kernel, by decide +kernel⟩
theorem dr_f_law_long_row_right {P : Program} {w : World} {K : PySem.W.Frag} {mg : Str → Option Value} {base : Heap} (m_len : mg "len" = none) (m_list : mg "list" = none) (m_range : mg "range" = none) (m_sum : mg "sum" = none) (m_tuple : mg "tuple" = none) (k_f_law_draw : Known P w K mg base L_f_law_draw "_law_draw" sp_f_law_draw) (k_solve_edges : Known P w K mg base L_solve_edges "solve_edges" sp_solve_edges) (k_f_law_satisfies : Known P w K mg base L_f_law_satisfies "_law_satisfies" sp_f_law_satisfies) (k_greatest_chain : Known P w K mg base L_greatest_chain "greatest_chain" sp_greatest_chain) (k_f_law_ring_fits : Known P w K mg base L_f_law_ring_fits "_law_ring_fits" sp_f_law_ring_fits) (f : Addr) (cdv : Value) (A : Around) (outer : List Env) (s : Shared) (H : Hp) (E : XK)
    (hr : Room (Nat.max (Nat.max (Nat.max (Nat.max L_f_law_draw L_solve_edges) L_f_law_satisfies) L_greatest_chain) L_f_law_ring_fits) (A.deeper (envOfC "_law_long_row_right" (defScope s_f_law_long_row_right) s.heap.objs.size f cdv))) (hgd : (A.deeper (envOfC "_law_long_row_right" (defScope s_f_law_long_row_right) s.heap.objs.size f cdv)).guards = some []) :
    PSsd (Xf P w K mg base ["_law_pen_here", "_law_order", "_law_k", "_law_edges", "_law_total", "_law_found", "_law_closed", "_law_other", "_law_edge"] "_law_long_row_right" (defScope s_f_law_long_row_right) f cdv A outer s H E) (defBody s_f_law_long_row_right) t_f_law_long_row_right := by
  have nd := sc_f_law_long_row_right.nd
  have hp : PassesOwn (model P w) (Xf P w K mg base ["_law_pen_here", "_law_order", "_law_k", "_law_edges", "_law_total", "_law_found", "_law_closed", "_law_other", "_law_edge"] "_law_long_row_right" (defScope s_f_law_long_row_right) f cdv A outer s H E).A (Xf P w K mg base ["_law_pen_here", "_law_order", "_law_k", "_law_edges", "_law_total", "_law_found", "_law_closed", "_law_other", "_law_edge"] "_law_long_row_right" (defScope s_f_law_long_row_right) f cdv A outer s H E).env (Xf P w K mg base ["_law_pen_here", "_law_order", "_law_k", "_law_edges", "_law_total", "_law_found", "_law_closed", "_law_other", "_law_edge"] "_law_long_row_right" (defScope s_f_law_long_row_right) f cdv A outer s H E).xe := PassesOwn.leaving
  exact ds_cons (ds_set (i := 1) nd (de_lstRg mkD rfl m_list (prd_1 m_range (de_int)))) (ds_cons (ds_for hp rfl (di_range1 m_range (da_cons (de_int) (da_nil))) (dg_nm 2 nd) (ds_cons (ds_set (i := 7) nd (de_opZ (od_plus mkZ) (de_var 2) (de_call k_f_law_draw (hr.mono (by decide)) hgd (da_cons (de_var 0) (da_cons (de_op od_sub (de_int) (de_var 2)) (da_nil)))))) (ds_one (ds_asgG (de_tup (da_cons (de_ix (xd_any (hu_of hr)) (de_var 1) (de_var 7)) (da_cons (de_ix (xd_any (hu_of hr)) (de_var 1) (de_var 2)) (da_nil)))) (gg_tup rfl (ggs_cons (gg_ix (hu_of hr) (de_var 1) (de_var 2)) (ggs_cons (gg_ix (hu_of hr) (de_var 1) (de_var 7)) (ggs_nil)))))))) (ds_cons (ds_set (i := 3) nd (de_rev mkD (de_lc mkZ rfl nd (own := [("_law_k", 2)]) (di_range1 m_range (da_cons (de_int) (da_nil))) (blkC_by (N' := ["_law_pen_here", "_law_order", "_law_k", "_law_edges", "_law_total", "_law_found", "_law_closed", "_law_other", "_law_edge"]) (sc' := defScope s_f_law_long_row_right) rfl rfl (by decide +kernel)) (fun _ _ _ _ _ => dg_nm 2 nd) (fun _ _ _ _ _ => dts_nil) (fun _ _ _ _ _ => de_tup (da_cons (de_ix (xd_any (hu_of hr)) (de_var 1) (de_var 2)) (da_cons (de_ix (xd_any (hu_of hr)) (de_var 1) (de_opZ (od_plus mkZ) (de_var 2) (de_int))) (da_cons (de_opZ (od_plus mkZ) (de_int) (de_call k_f_law_draw (hr.mono (by decide)) hgd (da_cons (de_var 0) (da_cons (de_int) (da_nil))))) (da_nil)))))))) (ds_cons (ds_set (i := 4) nd (de_callB (cd_sum rfl) m_sum (da_cons (de_lc mkZ rfl nd (own := [("_law_edge", 8)]) (di_seq (de_var 3)) (blkC_by (N' := ["_law_pen_here", "_law_order", "_law_k", "_law_edges", "_law_total", "_law_found", "_law_closed", "_law_other", "_law_edge"]) (sc' := defScope s_f_law_long_row_right) rfl rfl (by decide +kernel)) (fun _ _ _ _ _ => dg_nm 8 nd) (fun _ _ _ _ _ => dts_nil) (fun _ _ _ _ _ => de_ix (xd_any (hu_of hr)) (de_var 8) (de_int))) (da_nil)))) (ds_cons (ds_set (i := 5) nd (de_call k_solve_edges (hr.mono (by decide)) hgd (da_cons (de_int) (da_cons (de_callTy cd_tuple m_tuple (da_cons (de_var 3) (da_nil))) (da_nil))))) (ds_cons (ds_if (dt_bool (dw_or (dt_cmp (od_ne hr.units) (de_ix (xd_any (hu_of hr)) (de_var 5) (de_int)) (de_str)) (dw_or1 (dt_not (dt_val (de_call k_f_law_satisfies (hr.mono (by decide)) hgd (da_cons (de_var 3) (da_cons (de_ix (xd_any (hu_of hr)) (de_var 5) (de_int)) (da_cons (de_int) (da_nil)))))))))) (ds_one (ds_ret (de_bl))) (ds_nil)) (ds_cons (ds_if (dt_cmp (od_ne hr.units) (de_call k_greatest_chain (hr.mono (by decide)) hgd (da_cons (de_int) (da_cons (de_callTy cd_tuple m_tuple (da_cons (de_var 3) (da_nil))) (da_cons (de_ix (xd_any (hu_of hr)) (de_var 1) (de_int)) (da_cons (de_ix (xd_any (hu_of hr)) (de_var 1) (de_int)) (da_nil)))))) (de_rev mkZ (de_tupRg rfl m_tuple (prd_1 m_range (de_int))))) (ds_one (ds_ret (de_bl))) (ds_nil)) (ds_cons (ds_set (i := 6) nd (de_call k_solve_edges (hr.mono (by decide)) hgd (da_cons (de_int) (da_cons (de_opZ (od_plus mkZ) (de_callTy cd_tuple m_tuple (da_cons (de_var 3) (da_nil))) (de_tup (da_cons (de_tup (da_cons (de_ix (xd_any (hu_of hr)) (de_var 1) (de_int)) (da_cons (de_ix (xd_any (hu_of hr)) (de_var 1) (de_int)) (da_cons (de_op od_sub (de_int) (de_var 4)) (da_nil))))) (da_nil)))) (da_nil))))) (ds_cons (ds_if (dt_bool (dw_or (dt_cmp (od_ne hr.units) (de_ix (xd_any (hu_of hr)) (de_var 6) (de_int)) (de_str)) (dw_or1 (dt_not (dt_val (de_call k_f_law_satisfies (hr.mono (by decide)) hgd (da_cons (de_var 3) (da_cons (de_ix (xd_any (hu_of hr)) (de_var 6) (de_int)) (da_cons (de_int) (da_nil)))))))))) (ds_one (ds_ret (de_bl))) (ds_nil)) (ds_cons (ds_expr (de_meth PySem.F.plainAttrs_list PySem.F.slot_list_append PySem.F.type_list_append md_append ty_lst (de_var 3) (da_cons (de_tup (da_cons (de_ix (xd_any (hu_of hr)) (de_var 1) (de_int)) (da_cons (de_ix (xd_any (hu_of hr)) (de_var 1) (de_int)) (da_cons (de_op od_sub (de_int) (de_var 4)) (da_nil))))) (da_nil)))) (ds_cons (ds_set (i := 5) nd (de_call k_solve_edges (hr.mono (by decide)) hgd (da_cons (de_int) (da_cons (de_callTy cd_tuple m_tuple (da_cons (de_var 3) (da_nil))) (da_nil))))) (ds_one (ds_ret (de_and (de_cmp (od_eq hr.units) (de_ix (xd_any (hu_of hr)) (de_var 5) (de_int)) (de_str)) (de_and (de_call k_f_law_ring_fits (hr.mono (by decide)) hgd (da_cons (de_var 3) (da_cons (de_ix (xd_any (hu_of hr)) (de_var 5) (de_int)) (da_nil)))) (de_one (de_cmp (od_eq hr.units) (de_callB (cd_len) m_len (da_cons (de_ix (xd_any (hu_of hr)) (de_var 5) (de_int)) (da_nil))) (de_int)))))))))))))))))
theorem kn_f_law_long_row_right {P : Program} {w : World} {K : PySem.W.Frag} {mg : Str → Option Value} {base : Heap} (m_len : mg "len" = none) (m_list : mg "list" = none) (m_range : mg "range" = none) (m_sum : mg "sum" = none) (m_tuple : mg "tuple" = none) (k_f_law_draw : Known P w K mg base L_f_law_draw "_law_draw" sp_f_law_draw) (k_solve_edges : Known P w K mg base L_solve_edges "solve_edges" sp_solve_edges) (k_f_law_satisfies : Known P w K mg base L_f_law_satisfies "_law_satisfies" sp_f_law_satisfies) (k_greatest_chain : Known P w K mg base L_greatest_chain "greatest_chain" sp_greatest_chain) (k_f_law_ring_fits : Known P w K mg base L_f_law_ring_fits "_law_ring_fits" sp_f_law_ring_fits) {f : Addr} {x : Str} {fd : FuncData} (F : FunD K "_law_long_row_right" "_law_long_row_right" (defArgs s_f_law_long_row_right) (defBody s_f_law_long_row_right) (defScope s_f_law_long_row_right) [] [] f fd) (hm : mg x = some (.ref f)) : Known P w K mg base L_f_law_long_row_right x sp_f_law_long_row_right :=
  ⟨f, fd, ["_law_pen_here"], hm, F.kp, fnD_of (lk_of F) sc_f_law_long_row_right (dr_f_law_long_row_right m_len m_list m_range m_sum m_tuple k_f_law_draw k_solve_edges k_f_law_satisfies k_greatest_chain k_f_law_ring_fits f) ok_f_law_long_row_right, F.bindsN fun _ _ _ _ _ _ us hl => match us, hl with | [_], _ => rfl⟩
abbrev s_law : Stmt := top 15
abbrev L_law : Nat := (Nat.max (Nat.max (Nat.max (Nat.max (Nat.max (Nat.max (Nat.max (Nat.max (Nat.max L_f_law_pen L_f_law_draw) L_f_law_pair) L_solve_edges) L_f_law_satisfies) L_f_law_best_sums) L_greatest_chain) L_f_law_chain_sum) L_f_law_ring_fits) L_f_law_long_row_right) + 1
theorem sc_law : FnScope ["_law_script", "_law_pen_here", "_law_hidden", "_law_made", "_law_k", "_law_found", "_law_first", "_law_last", "_law_best", "_law_chain", "_law_at"] ["_law_script"] (defScope s_law) := ⟨rfl, rfl, rfl, by decide +kernel, rfl, by decide +kernel, by decide +kernel⟩
theorem dr_law {P : Program} {w : World} {K : PySem.W.Frag} {mg : Str → Option Value} {base : Heap} (m_range : mg "range" = none) (m_tuple : mg "tuple" = none) (k_f_law_pen : Known P w K mg base L_f_law_pen "_law_pen" sp_f_law_pen) (k_f_law_draw : Known P w K mg base L_f_law_draw "_law_draw" sp_f_law_draw) (k_f_law_pair : Known P w K mg base L_f_law_pair "_law_pair" sp_f_law_pair) (k_solve_edges : Known P w K mg base L_solve_edges "solve_edges" sp_solve_edges) (k_f_law_satisfies : Known P w K mg base L_f_law_satisfies "_law_satisfies" sp_f_law_satisfies) (k_f_law_best_sums : Known P w K mg base L_f_law_best_sums "_law_best_sums" sp_f_law_best_sums) (k_greatest_chain : Known P w K mg base L_greatest_chain "greatest_chain" sp_greatest_chain) (k_f_law_chain_sum : Known P w K mg base L_f_law_chain_sum "_law_chain_sum" sp_f_law_chain_sum) (k_f_law_ring_fits : Known P w K mg base L_f_law_ring_fits "_law_ring_fits" sp_f_law_ring_fits) (k_f_law_long_row_right : Known P w K mg base L_f_law_long_row_right "_law_long_row_right" sp_f_law_long_row_right) (f : Addr) (cdv : Value) (A : Around) (outer : List Env) (s : Shared) (H : Hp) (E : XK)
    (hr : Room (Nat.max (Nat.max (Nat.max (Nat.max (Nat.max (Nat.max (Nat.max (Nat.max (Nat.max L_f_law_pen L_f_law_draw) L_f_law_pair) L_solve_edges) L_f_law_satisfies) L_f_law_best_sums) L_greatest_chain) L_f_law_chain_sum) L_f_law_ring_fits) L_f_law_long_row_right) (A.deeper (envOfC "law" (defScope s_law) s.heap.objs.size f cdv))) (hgd : (A.deeper (envOfC "law" (defScope s_law) s.heap.objs.size f cdv)).guards = some []) :
    PSsd (Xf P w K mg base ["_law_script", "_law_pen_here", "_law_hidden", "_law_made", "_law_k", "_law_found", "_law_first", "_law_last", "_law_best", "_law_chain", "_law_at"] "law" (defScope s_law) f cdv A outer s H E) (defBody s_law) t_law := by
  have nd := sc_law.nd
  have hp : PassesOwn (model P w) (Xf P w K mg base ["_law_script", "_law_pen_here", "_law_hidden", "_law_made", "_law_k", "_law_found", "_law_first", "_law_last", "_law_best", "_law_chain", "_law_at"] "law" (defScope s_law) f cdv A outer s H E).A (Xf P w K mg base ["_law_script", "_law_pen_here", "_law_hidden", "_law_made", "_law_k", "_law_found", "_law_first", "_law_last", "_law_best", "_law_chain", "_law_at"] "law" (defScope s_law) f cdv A outer s H E).env (Xf P w K mg base ["_law_script", "_law_pen_here", "_law_hidden", "_law_made", "_law_k", "_law_found", "_law_first", "_law_last", "_law_best", "_law_chain", "_law_at"] "law" (defScope s_law) f cdv A outer s H E).xe := PassesOwn.leaving
  exact ds_cons (ds_set (i := 1) nd (de_call k_f_law_pen (hr.mono (by decide)) hgd (da_cons (de_var 0) (da_nil)))) (ds_cons (ds_setLc mkZ (i := 2) rfl nd (sw_true rfl rfl rfl (by decide +kernel)) (own := [("_law_k", 4)]) (di_range1 m_range (da_cons (de_int) (da_nil))) (blkC_by (N' := ["_law_script", "_law_pen_here", "_law_hidden", "_law_made", "_law_k", "_law_found", "_law_first", "_law_last", "_law_best", "_law_chain", "_law_at"]) (sc' := defScope s_law) rfl rfl (by decide +kernel)) (fun _ _ _ _ _ => dg_nm 4 nd) (fun _ _ _ _ _ => dts_nil) (fun _ _ _ _ _ => de_call k_f_law_draw (hr.mono (by decide)) hgd (da_cons (de_var 1) (da_cons (de_op od_pow (de_int) (de_int)) (da_nil))))) (ds_cons (ds_set (i := 3) nd (de_lst mkD (da_nil))) (ds_cons (ds_for hp rfl (di_range1 m_range (da_cons (de_int) (da_nil))) (dg_nm 4 nd) (ds_cons (ds_asg (de_call k_f_law_pair (hr.mono (by decide)) hgd (da_cons (de_var 1) (da_cons (de_int) (da_nil)))) (dg_tp rfl (dgs_cons (dg_nm 6 nd) (dgs_cons (dg_nm 7 nd) (dgs_nil))))) (ds_one (ds_expr (de_meth PySem.F.plainAttrs_list PySem.F.slot_list_append PySem.F.type_list_append md_append ty_lst (de_var 3) (da_cons (de_tup (da_cons (de_var 6) (da_cons (de_var 7) (da_cons (de_op od_sub (de_op od_sub (de_ix (xd_any (hu_of hr)) (de_var 2) (de_var 7)) (de_ix (xd_any (hu_of hr)) (de_var 2) (de_var 6))) (de_call k_f_law_draw (hr.mono (by decide)) hgd (da_cons (de_var 1) (da_cons (de_int) (da_nil))))) (da_nil))))) (da_nil))))))) (ds_cons (ds_set (i := 5) nd (de_call k_solve_edges (hr.mono (by decide)) hgd (da_cons (de_int) (da_cons (de_callTy cd_tuple m_tuple (da_cons (de_var 3) (da_nil))) (da_nil))))) (ds_cons (ds_if (dt_bool (dw_or (dt_cmp (od_ne hr.units) (de_ix (xd_any (hu_of hr)) (de_var 5) (de_int)) (de_str)) (dw_or1 (dt_not (dt_val (de_call k_f_law_satisfies (hr.mono (by decide)) hgd (da_cons (de_var 3) (da_cons (de_ix (xd_any (hu_of hr)) (de_var 5) (de_int)) (da_cons (de_int) (da_nil)))))))))) (ds_one (ds_ret (de_bl))) (ds_nil)) (ds_cons (ds_asg (de_call k_f_law_pair (hr.mono (by decide)) hgd (da_cons (de_var 1) (da_cons (de_int) (da_nil)))) (dg_tp rfl (dgs_cons (dg_nm 6 nd) (dgs_cons (dg_nm 7 nd) (dgs_nil))))) (ds_cons (ds_set (i := 8) nd (de_call k_f_law_best_sums (hr.mono (by decide)) hgd (da_cons (de_int) (da_cons (de_var 3) (da_nil))))) (ds_cons (ds_set (i := 9) nd (de_call k_greatest_chain (hr.mono (by decide)) hgd (da_cons (de_int) (da_cons (de_callTy cd_tuple m_tuple (da_cons (de_var 3) (da_nil))) (da_cons (de_var 6) (da_cons (de_var 7) (da_nil))))))) (ds_cons (ds_if (dt_cmp (od_ne hr.units) (de_isN (de_var 9)) (de_notinT (hu_of hr) (da_cons (de_var 6) (da_cons (de_var 7) (da_nil))) (de_var 8))) (ds_one (ds_ret (de_bl))) (ds_nil)) (ds_cons (ds_if (dt_bool (dw_and (dt_notN (de_var 9)) (dw_and1 (dt_cmp (od_ne hr.units) (de_call k_f_law_chain_sum (hr.mono (by decide)) hgd (da_cons (de_var 3) (da_cons (de_var 9) (da_cons (de_var 6) (da_cons (de_var 7) (da_nil)))))) (de_ixT (hu_of hr) (de_var 8) (da_cons (de_var 6) (da_cons (de_var 7) (da_nil)))))))) (ds_one (ds_ret (de_bl))) (ds_nil)) (ds_cons (ds_set (i := 10) nd (de_call k_f_law_draw (hr.mono (by decide)) hgd (da_cons (de_var 1) (da_cons (de_int) (da_nil))))) (ds_cons (ds_setIx (hu_of hr) (de_opZ (od_plus mkZ) (de_slice mkZ (de_ix (xd_any (hu_of hr)) (de_var 3) (de_var 10)) do_none (do_some (de_int))) (de_tup (da_cons (de_opZ (od_plus mkZ) (de_op od_pow (de_int) (de_int)) (de_op od_pow (de_int) (de_int))) (da_nil)))) (de_var 3) (de_var 10)) (ds_cons (ds_setIx (hu_of hr) (de_tup (da_cons (de_ix (xd_any (hu_of hr)) (de_ix (xd_any (hu_of hr)) (de_var 3) (de_var 10)) (de_int)) (da_cons (de_ix (xd_any (hu_of hr)) (de_ix (xd_any (hu_of hr)) (de_var 3) (de_var 10)) (de_int)) (da_cons (de_op od_sub (de_int) (de_op od_pow (de_int) (de_int))) (da_nil))))) (de_var 3) (de_op od_mod (de_opZ (od_plus mkZ) (de_var 10) (de_int)) (de_int))) (ds_cons (ds_set (i := 5) nd (de_call k_solve_edges (hr.mono (by decide)) hgd (da_cons (de_int) (da_cons (de_callTy cd_tuple m_tuple (da_cons (de_var 3) (da_nil))) (da_nil))))) (ds_one (ds_ret (de_and (de_cmp (od_eq hr.units) (de_ix (xd_any (hu_of hr)) (de_var 5) (de_int)) (de_str)) (de_and (de_call k_f_law_ring_fits (hr.mono (by decide)) hgd (da_cons (de_var 3) (da_cons (de_ix (xd_any (hu_of hr)) (de_var 5) (de_int)) (da_nil)))) (de_one (de_call k_f_law_long_row_right (hr.mono (by decide)) hgd (da_cons (de_var 1) (da_nil))))))))))))))))))))))
theorem kn_law {P : Program} {w : World} {K : PySem.W.Frag} {mg : Str → Option Value} {base : Heap} (m_range : mg "range" = none) (m_tuple : mg "tuple" = none) (k_f_law_pen : Known P w K mg base L_f_law_pen "_law_pen" sp_f_law_pen) (k_f_law_draw : Known P w K mg base L_f_law_draw "_law_draw" sp_f_law_draw) (k_f_law_pair : Known P w K mg base L_f_law_pair "_law_pair" sp_f_law_pair) (k_solve_edges : Known P w K mg base L_solve_edges "solve_edges" sp_solve_edges) (k_f_law_satisfies : Known P w K mg base L_f_law_satisfies "_law_satisfies" sp_f_law_satisfies) (k_f_law_best_sums : Known P w K mg base L_f_law_best_sums "_law_best_sums" sp_f_law_best_sums) (k_greatest_chain : Known P w K mg base L_greatest_chain "greatest_chain" sp_greatest_chain) (k_f_law_chain_sum : Known P w K mg base L_f_law_chain_sum "_law_chain_sum" sp_f_law_chain_sum) (k_f_law_ring_fits : Known P w K mg base L_f_law_ring_fits "_law_ring_fits" sp_f_law_ring_fits) (k_f_law_long_row_right : Known P w K mg base L_f_law_long_row_right "_law_long_row_right" sp_f_law_long_row_right) {f : Addr} {x : Str} {fd : FuncData} (F : FunD K "law" "law" (defArgs s_law) (defBody s_law) (defScope s_law) [] [] f fd) (hm : mg x = some (.ref f)) : Known P w K mg base L_law x sp_law :=
  ⟨f, fd, ["_law_script"], hm, F.kp, fnD_of (lk_of F) sc_law (dr_law m_range m_tuple k_f_law_pen k_f_law_draw k_f_law_pair k_solve_edges k_f_law_satisfies k_f_law_best_sums k_greatest_chain k_f_law_chain_sum k_f_law_ring_fits k_f_law_long_row_right f) ok_law, F.bindsN fun _ _ _ _ _ _ us hl => match us, hl with | [_], _ => rfl⟩

/-! ### the head -/
def d_g_f_law_fresh : He.DefD := ⟨("_law_fresh", none), "_law_fresh", "_law_fresh", defArgs s_f_law_fresh, defBody s_f_law_fresh, defScope s_f_law_fresh, [], []⟩
def d_g_f_law_draw : He.DefD := ⟨("_law_draw", none), "_law_draw", "_law_draw", defArgs s_f_law_draw, defBody s_f_law_draw, defScope s_f_law_draw, [], []⟩
def d_g_f_law_are_indices : He.DefD := ⟨("_law_are_indices", none), "_law_are_indices", "_law_are_indices", defArgs s_f_law_are_indices, defBody s_f_law_are_indices, defScope s_f_law_are_indices, [], []⟩
def d_g_f_law_chain_sum : He.DefD := ⟨("_law_chain_sum", none), "_law_chain_sum", "_law_chain_sum", defArgs s_f_law_chain_sum, defBody s_f_law_chain_sum, defScope s_f_law_chain_sum, [], []⟩
def d_g_solve_edges : He.DefD := ⟨("solve_edges", none), "solve_edges", "solve_edges", defArgs s_solve_edges, defBody s_solve_edges, defScope s_solve_edges, [], []⟩
def d_g_f_law_satisfies : He.DefD := ⟨("_law_satisfies", none), "_law_satisfies", "_law_satisfies", defArgs s_f_law_satisfies, defBody s_f_law_satisfies, defScope s_f_law_satisfies, [], []⟩
def d_g_greatest_chain : He.DefD := ⟨("greatest_chain", none), "greatest_chain", "greatest_chain", defArgs s_greatest_chain, defBody s_greatest_chain, defScope s_greatest_chain, [], []⟩
def d_g_f_law_ring_fits : He.DefD := ⟨("_law_ring_fits", none), "_law_ring_fits", "_law_ring_fits", defArgs s_f_law_ring_fits, defBody s_f_law_ring_fits, defScope s_f_law_ring_fits, [], []⟩
def d_g_f_law_pen : He.DefD := ⟨("_law_pen", none), "_law_pen", "_law_pen", defArgs s_f_law_pen, defBody s_f_law_pen, defScope s_f_law_pen, [], []⟩
def d_g_f_law_pair : He.DefD := ⟨("_law_pair", none), "_law_pair", "_law_pair", defArgs s_f_law_pair, defBody s_f_law_pair, defScope s_f_law_pair, [], []⟩
def d_g_f_law_best_sums : He.DefD := ⟨("_law_best_sums", none), "_law_best_sums", "_law_best_sums", defArgs s_f_law_best_sums, defBody s_f_law_best_sums, defScope s_f_law_best_sums, [], []⟩
def d_g_f_law_long_row_right : He.DefD := ⟨("_law_long_row_right", none), "_law_long_row_right", "_law_long_row_right", defArgs s_f_law_long_row_right, defBody s_f_law_long_row_right, defScope s_f_law_long_row_right, [], []⟩
def d_g_law : He.DefD := ⟨("law", none), "law", "law", defArgs s_law, defBody s_law, defScope s_law, [], []⟩
def d_Search_before : He.DefD := ⟨("Search", some "before"), "before", "Search.before", defArgs s_Search_before, defBody s_Search_before, defScope s_Search_before, [], []⟩
def d_Search_improve : He.DefD := ⟨("Search", some "improve"), "improve", "Search.improve", defArgs s_Search_improve, defBody s_Search_improve, defScope s_Search_improve, [], []⟩
def d_Search_way_back : He.DefD := ⟨("Search", some "way_back"), "way_back", "Search.way_back", defArgs s_Search_way_back, defBody s_Search_way_back, defScope s_Search_way_back, [], []⟩
def d_Search___init__ : He.DefD := ⟨("Search", some "__init__"), "__init__", "Search.__init__", defArgs s_Search___init__, defBody s_Search___init__, defScope s_Search___init__, [], []⟩
def fnl : List He.DefD := [d_g_f_law_fresh, d_g_f_law_draw, d_g_f_law_are_indices, d_g_f_law_chain_sum, d_g_solve_edges, d_g_f_law_satisfies, d_g_greatest_chain, d_g_f_law_ring_fits, d_g_f_law_pen, d_g_f_law_pair, d_g_f_law_best_sums, d_g_f_law_long_row_right, d_g_law, d_Search_before, d_Search_improve, d_Search_way_back, d_Search___init__]
def fal : List He.Fa := [.glo "_law_fresh", .glo "_law_draw", .glo "_law_are_indices", .glo "_law_chain_sum", .glo "solve_edges", .glo "_law_satisfies", .glo "greatest_chain", .glo "_law_ring_fits", .glo "_law_pen", .glo "_law_pair", .glo "_law_best_sums", .glo "_law_long_row_right", .glo "law", .free "list", .free "enumerate", .free "tuple", .free "range", .free "len", .free "max", .free "isinstance", .free "int", .free "bool", .free "all", .free "abs", .free "sum", .glo "Search", .cls "Search", .noat "Search" "edges", .noat "Search" "sums", .noat "Search" "last_edges", .meth "Search" "before", .meth "Search" "improve", .meth "Search" "way_back", .mkr "Search"]
def fbl : FbL := []
abbrev R : PySem.W.OpenRow := PySem.W.OpenLaw.row PySem.Challenge.rw_whenline_k13_chains_at_the_limits
abbrev hk : PySem.W.Hook := hookM 5 fal fnl fbl
def ob (s : PySem.W.SharedT) : ObM := obsM 5 fal fnl fbl (HandSHeadRun.getT s)
theorem ob_eq (s : PySem.W.SharedT) : ob s = hk.obs s.abs := obsM_eq (HandSHeadRun.getT_eq s)
def loose : List Str := (["Search", "solve_edges", "greatest_chain", "_law_pen", "_law_fresh", "_law_draw", "_law_pair", "_law_best_sums", "_law_are_indices", "_law_chain_sum", "_law_ring_fits", "_law_satisfies", "_law_long_row_right"] : List Str)
theorem run (w : World) : HandSHeadRun.RunEq R (PySem.W.view R.prog [15]) hk ob 4000 loose w := by
  intro os
  kernel_rfl
theorem facts {P : Program} {w : World} {K : PySem.W.Frag} {h : Heap} {mg : Str → Option Value} {f : Addr} (X : K.In h) (G : h.Ns mainGlobals mg) (hfa : mg ("law" : Str) = some (.ref f)) (c : He.SaysD fal fnl K) (cb : fbl.all (fun t => t K) = true) (base : Heap) : ∃ fd ps, FnD P w K mg base L_law f fd ps sp_law ∧ Binds K fd ps [] := by
  obtain ⟨fd_f_law_fresh, F_f_law_fresh⟩ := c.def_ 0 (d := d_g_f_law_fresh) rfl
  have g_f_law_fresh : mg "_law_fresh" = _ := He.glo_ok X G (c.fact 0 (f := .glo "_law_fresh") rfl)
  obtain ⟨fd_f_law_draw, F_f_law_draw⟩ := c.def_ 1 (d := d_g_f_law_draw) rfl
  have g_f_law_draw : mg "_law_draw" = _ := He.glo_ok X G (c.fact 1 (f := .glo "_law_draw") rfl)
  obtain ⟨fd_f_law_are_indices, F_f_law_are_indices⟩ := c.def_ 2 (d := d_g_f_law_are_indices) rfl
  have g_f_law_are_indices : mg "_law_are_indices" = _ := He.glo_ok X G (c.fact 2 (f := .glo "_law_are_indices") rfl)
  obtain ⟨fd_f_law_chain_sum, F_f_law_chain_sum⟩ := c.def_ 3 (d := d_g_f_law_chain_sum) rfl
  have g_f_law_chain_sum : mg "_law_chain_sum" = _ := He.glo_ok X G (c.fact 3 (f := .glo "_law_chain_sum") rfl)
  obtain ⟨fd_solve_edges, F_solve_edges⟩ := c.def_ 4 (d := d_g_solve_edges) rfl
  have g_solve_edges : mg "solve_edges" = _ := He.glo_ok X G (c.fact 4 (f := .glo "solve_edges") rfl)
  obtain ⟨fd_f_law_satisfies, F_f_law_satisfies⟩ := c.def_ 5 (d := d_g_f_law_satisfies) rfl
  have g_f_law_satisfies : mg "_law_satisfies" = _ := He.glo_ok X G (c.fact 5 (f := .glo "_law_satisfies") rfl)
  obtain ⟨fd_greatest_chain, F_greatest_chain⟩ := c.def_ 6 (d := d_g_greatest_chain) rfl
  have g_greatest_chain : mg "greatest_chain" = _ := He.glo_ok X G (c.fact 6 (f := .glo "greatest_chain") rfl)
  obtain ⟨fd_f_law_ring_fits, F_f_law_ring_fits⟩ := c.def_ 7 (d := d_g_f_law_ring_fits) rfl
  have g_f_law_ring_fits : mg "_law_ring_fits" = _ := He.glo_ok X G (c.fact 7 (f := .glo "_law_ring_fits") rfl)
  obtain ⟨fd_f_law_pen, F_f_law_pen⟩ := c.def_ 8 (d := d_g_f_law_pen) rfl
  have g_f_law_pen : mg "_law_pen" = _ := He.glo_ok X G (c.fact 8 (f := .glo "_law_pen") rfl)
  obtain ⟨fd_f_law_pair, F_f_law_pair⟩ := c.def_ 9 (d := d_g_f_law_pair) rfl
  have g_f_law_pair : mg "_law_pair" = _ := He.glo_ok X G (c.fact 9 (f := .glo "_law_pair") rfl)
  obtain ⟨fd_f_law_best_sums, F_f_law_best_sums⟩ := c.def_ 10 (d := d_g_f_law_best_sums) rfl
  have g_f_law_best_sums : mg "_law_best_sums" = _ := He.glo_ok X G (c.fact 10 (f := .glo "_law_best_sums") rfl)
  obtain ⟨fd_f_law_long_row_right, F_f_law_long_row_right⟩ := c.def_ 11 (d := d_g_f_law_long_row_right) rfl
  have g_f_law_long_row_right : mg "_law_long_row_right" = _ := He.glo_ok X G (c.fact 11 (f := .glo "_law_long_row_right") rfl)
  obtain ⟨fd_law, F_law⟩ := c.def_ 12 (d := d_g_law) rfl
  have g_law : mg "law" = _ := He.glo_ok X G (c.fact 12 (f := .glo "law") rfl)
  have m_list : mg "list" = none := He.free_ok X G (c.fact 13 (f := .free "list") rfl)
  have m_enumerate : mg "enumerate" = none := He.free_ok X G (c.fact 14 (f := .free "enumerate") rfl)
  have m_tuple : mg "tuple" = none := He.free_ok X G (c.fact 15 (f := .free "tuple") rfl)
  have m_range : mg "range" = none := He.free_ok X G (c.fact 16 (f := .free "range") rfl)
  have m_len : mg "len" = none := He.free_ok X G (c.fact 17 (f := .free "len") rfl)
  have m_max : mg "max" = none := He.free_ok X G (c.fact 18 (f := .free "max") rfl)
  have m_isinstance : mg "isinstance" = none := He.free_ok X G (c.fact 19 (f := .free "isinstance") rfl)
  have m_int : mg "int" = none := He.free_ok X G (c.fact 20 (f := .free "int") rfl)
  have m_bool : mg "bool" = none := He.free_ok X G (c.fact 21 (f := .free "bool") rfl)
  have m_all : mg "all" = none := He.free_ok X G (c.fact 22 (f := .free "all") rfl)
  have m_abs : mg "abs" = none := He.free_ok X G (c.fact 23 (f := .free "abs") rfl)
  have m_sum : mg "sum" = none := He.free_ok X G (c.fact 24 (f := .free "sum") rfl)
  have g_Search : mg "Search" = some (.ref (He.ga K "Search")) := He.glo_ok X G (c.fact 25 (f := .glo "Search") rfl)
  have cl_Search := He.cls_ok (c.fact 26 (f := .cls "Search") rfl)
  have a_edges : FldX K mg cs_edges "edges" := FldX.cons g_Search cl_Search (He.noat_ok (c.fact 27 (f := .noat "Search" "edges") rfl)) (FldX.nil)
  have a_sums : FldX K mg cs_sums "sums" := FldX.cons g_Search cl_Search (He.noat_ok (c.fact 28 (f := .noat "Search" "sums") rfl)) (FldX.nil)
  have a_last_edges : FldX K mg cs_last_edges "last_edges" := FldX.cons g_Search cl_Search (He.noat_ok (c.fact 29 (f := .noat "Search" "last_edges") rfl)) (FldX.nil)
  have k_f_law_pen : Known P w K mg base L_f_law_pen "_law_pen" sp_f_law_pen := kn_f_law_pen m_list F_f_law_pen g_f_law_pen
  obtain ⟨fd_Search___init__, F_Search___init__⟩ := c.def_ 16 (d := d_Search___init__) rfl
  have q_Search___init__ := km_Search___init__ (P := P) (w := w) (base := base) a_edges a_sums a_last_edges F_Search___init__
  obtain ⟨fd_Search_improve, F_Search_improve⟩ := c.def_ 14 (d := d_Search_improve) rfl
  have q_Search_improve := km_Search_improve (P := P) (w := w) (base := base) m_enumerate a_edges a_sums a_last_edges F_Search_improve
  obtain ⟨fd_Search_before, F_Search_before⟩ := c.def_ 13 (d := d_Search_before) rfl
  have q_Search_before := km_Search_before (P := P) (w := w) (base := base) a_edges a_last_edges F_Search_before
  have t_m_before : MethX P w K mg base Lm_before "before" tbl_before := MethX.cons g_Search cl_Search (He.meth_ok (c.fact 30 (f := .meth "Search" "before") rfl)) ⟨q_Search_before.1.mono (by decide), q_Search_before.2⟩ (MethX.nil)
  obtain ⟨fd_Search_way_back, F_Search_way_back⟩ := c.def_ 15 (d := d_Search_way_back) rfl
  have q_Search_way_back := km_Search_way_back (P := P) (w := w) (base := base) m_tuple t_m_before a_last_edges F_Search_way_back
  have t_m_improve : MethX P w K mg base Lm_improve "improve" tbl_improve := MethX.cons g_Search cl_Search (He.meth_ok (c.fact 31 (f := .meth "Search" "improve") rfl)) ⟨q_Search_improve.1.mono (by decide), q_Search_improve.2⟩ (MethX.nil)
  have t_m_way_back : MethX P w K mg base Lm_way_back "way_back" tbl_way_back := MethX.cons g_Search cl_Search (He.meth_ok (c.fact 32 (f := .meth "Search" "way_back") rfl)) ⟨q_Search_way_back.1.mono (by decide), q_Search_way_back.2⟩ (MethX.nil)
  have n_Search : NewX P w K mg base L_Search___init__ "Search" sp_Search___init__ := ⟨_, _, _, _, g_Search, He.mkr_ok (c.fact 33 (f := .mkr "Search") rfl), q_Search___init__.1, q_Search___init__.2⟩
  have k_solve_edges : Known P w K mg base L_solve_edges "solve_edges" sp_solve_edges := kn_solve_edges m_range m_tuple t_m_improve t_m_before t_m_way_back n_Search a_sums F_solve_edges g_solve_edges
  have k_f_law_fresh : Known P w K mg base L_f_law_fresh "_law_fresh" sp_f_law_fresh := kn_f_law_fresh m_len m_range F_f_law_fresh g_f_law_fresh
  have k_f_law_draw : Known P w K mg base L_f_law_draw "_law_draw" sp_f_law_draw := kn_f_law_draw k_f_law_fresh F_f_law_draw g_f_law_draw
  have k_f_law_pair : Known P w K mg base L_f_law_pair "_law_pair" sp_f_law_pair := kn_f_law_pair k_f_law_draw F_f_law_pair g_f_law_pair
  have k_f_law_best_sums : Known P w K mg base L_f_law_best_sums "_law_best_sums" sp_f_law_best_sums := kn_f_law_best_sums m_max m_range F_f_law_best_sums g_f_law_best_sums
  have k_greatest_chain : Known P w K mg base L_greatest_chain "greatest_chain" sp_greatest_chain := kn_greatest_chain m_range t_m_improve t_m_way_back n_Search a_sums F_greatest_chain g_greatest_chain
  have k_f_law_chain_sum : Known P w K mg base L_f_law_chain_sum "_law_chain_sum" sp_f_law_chain_sum := kn_f_law_chain_sum F_f_law_chain_sum g_f_law_chain_sum
  have k_f_law_are_indices : Known P w K mg base L_f_law_are_indices "_law_are_indices" sp_f_law_are_indices := kn_f_law_are_indices m_all m_bool m_int m_isinstance m_tuple F_f_law_are_indices g_f_law_are_indices
  have k_f_law_ring_fits : Known P w K mg base L_f_law_ring_fits "_law_ring_fits" sp_f_law_ring_fits := kn_f_law_ring_fits m_len k_f_law_are_indices k_f_law_chain_sum F_f_law_ring_fits g_f_law_ring_fits
  have k_f_law_satisfies : Known P w K mg base L_f_law_satisfies "_law_satisfies" sp_f_law_satisfies := kn_f_law_satisfies m_abs m_all m_bool m_int m_isinstance m_len m_tuple F_f_law_satisfies g_f_law_satisfies
  have k_f_law_long_row_right : Known P w K mg base L_f_law_long_row_right "_law_long_row_right" sp_f_law_long_row_right := kn_f_law_long_row_right m_len m_list m_range m_sum m_tuple k_f_law_draw k_solve_edges k_f_law_satisfies k_greatest_chain k_f_law_ring_fits F_f_law_long_row_right g_f_law_long_row_right
  have k_law : Known P w K mg base L_law "law" sp_law := kn_law m_range m_tuple k_f_law_pen k_f_law_draw k_f_law_pair k_solve_edges k_f_law_satisfies k_f_law_best_sums k_greatest_chain k_f_law_chain_sum k_f_law_ring_fits k_f_law_long_row_right F_law g_law
  obtain ⟨fz, fd, ps, h1, _, h2, h3⟩ := k_law.ex
  rw [hfa] at h1
  cases h1
  exact ⟨fd, ps, h2, h3⟩

end K13
open PySem PySem.W PySem.Calls PyProof.Rows
theorem PySem.Challenge.cw_whenline_k13_chains_at_the_limits_holds : PySem.Challenge.rw_whenline_k13_chains_at_the_limits.Holds := by
  w_on; o_law
  refine HandSHeadRun.head_any (r := OpenLaw.row PySem.Challenge.rw_whenline_k13_chains_at_the_limits) (q := view (OpenLaw.row PySem.Challenge.rw_whenline_k13_chains_at_the_limits).prog [15]) (H := K13.hk) (ob := K13.ob) (M := 4000) (loose := K13.loose) (d := HandSHeadRun.topDef (OpenLaw.row PySem.Challenge.rw_whenline_k13_chains_at_the_limits).prog 15) (kwd := []) K13.ob_eq
    (by kernel_rfl) (fun s => by kernel_rfl) K13.run (by kernel_rfl) (by kernel_rfl) (by kernel_rfl) (by rfl) (by first | assumption | decide +kernel) (by decide +kernel) ⟨rfl, rfl, rfl, rfl, rfl, by decide +kernel⟩ ?hw ?hc
  case hw => w_witness2
  case hc =>
    refine DM.walk_D (l := PySem.Challenge.rw_whenline_k13_chains_at_the_limits) (n := 63) (k := K13.L_law) rfl (by decide) (by kernel_rfl) ⟨rfl, by decide, by decide⟩ ?F
    intro w mg fa h Y G hmg0
    obtain ⟨K, KX, c⟩ := Y
    have hmg : mg ("law" : PySem.Str) = some (.ref fa) := by
      have e : (HandSHeadRun.topDef (OpenLaw.row PySem.Challenge.rw_whenline_k13_chains_at_the_limits).prog 15).name = ("law" : PySem.Str) := by kernel_rfl
      rw [← e]
      exact hmg0
    exact ⟨K, KX, fun base _ _ => K13.facts KX G hmg c.1 c.2 base⟩

