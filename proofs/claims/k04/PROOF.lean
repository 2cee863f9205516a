import PyProof.Rows.All
import HandS.ForMost
import KE.DataEq
import HandS.Wide
import PyProof.Rows.RegStrFacts
import PyProof.ReprLen
import HandS.TupAny
import HandS.Zip
import HandS.Style
import HandS.IsInst
import HandS.Iter
import KE.GoesEnum
import HandS.Defaults
import HandS.Head0
import HandS.Head1
import HandS.Head2
import HandS.HeadEnd
import HandS.HeadHook1
import HandS.HeadHook2
import Lean
import Wide.All
import Wide.FinOn
import PySem.Challenge.RW_whenline_k04_denials
set_option Elab.async false
set_option linter.all false
set_option maxRecDepth 100000
set_option maxHeartbeats 0
/-! DL, the core: data of any depth as values, a small heap of mutable things, readings as predicate transformers over both. No program, no rule of the layer below. -/
namespace DL
open PySem L2

/-- a value: tuples are values here (and a list that nobody writes to: lis); lists, dicts, instances stand at addresses -/
inductive D where
  | non | bl (b : Bool) | int (i : Int) | str (s : Str) | tup (l : List D) | lis (l : List D) | ref (a : Addr)
/-- a mutable thing: a list, a dict, a dict that is only read, an instance -/
inductive MO where
  | lst (l : List D) | dic (l : List (Key × D)) | dir (l : List (Key × D)) | ins (C : Addr) (fs : List (Str × D))
abbrev MH := Addr → Option MO
abbrev DSt := List (Option D)
def up (M : MH) (a : Addr) (o : MO) : MH := fun b => if b = a then some o else M b
@[simp] theorem up_same {M : MH} {a : Addr} {o : MO} : up M a o a = some o := by unfold up; simp
theorem up_ne {M : MH} {a b : Addr} {o : MO} (h : b ≠ a) : up M a o b = M b := by unfold up; simp [h]
@[simp] theorem up_up {M : MH} {a : Addr} {o u : MO} : up (up M a o) a u = up M a u := by funext b; unfold up; split <;> rfl
theorem up_comm {M : MH} {a b : Addr} {o u : MO} (h : a ≠ b) : up (up M a o) b u = up (up M b u) a o := by
  funext c; unfold up
  by_cases h1 : c = b
  · subst h1; simp [Ne.symm h]
  · simp [h1]
theorem ne_free {M : MH} {a b : Addr} {o : MO} (h : M a = some o) (h' : M b = none) : a ≠ b := by
  intro e; subst e; rw [h] at h'; cases h'

/-- what comes later, not looked at before its time: simp does not go into it -/
structure Later {α : Sort _} (Q : α) : Type where
  mk ::
def hold {α : Sort _} (Q : α) (_ : Later Q) : α := Q
/-- the same, and it stays -/
def stop {α : Sort _} (Q : α) (_ : Later Q) : α := Q
@[simp ↓] theorem hold1 {α : Sort _} {Q : α → Prop} {t : Later Q} {a : α} : hold Q t a ↔ Q a := Iff.rfl
@[simp ↓] theorem hold2 {α β : Sort _} {Q : α → β → Prop} {t : Later Q} {a : α} {b : β} : hold Q t a b ↔ Q a b := Iff.rfl
@[simp ↓] theorem hold3 {α β γ : Sort _} {Q : α → β → γ → Prop} {t : Later Q} {a : α} {b : β} {c : γ} : hold Q t a b c ↔ Q a b c := Iff.rfl
/-- two ways -/
def br (b : Bool) (A B : Prop) : Prop := if b = true then A else B
theorem br_of {b : Bool} {A B : Prop} (h : b = true → A) (g : b = false → B) : br b A B := by
  cases b
  · exact g rfl
  · exact h rfl
@[simp] theorem br_t {A B : Prop} : br true A B ↔ A := Iff.rfl
@[simp] theorem br_f {A B : Prop} : br false A B ↔ B := Iff.rfl
def isB (x : D) (B : Bool → Prop) : Prop := ∃ k, x = .bl k ∧ B k
@[simp] theorem isB_bl {k : Bool} {B : Bool → Prop} : isB (.bl k) B ↔ B k := ⟨fun ⟨_, e, h⟩ => by cases e; exact h, fun h => ⟨k, rfl, h⟩⟩
/-- an int; one thing; two -/
def asI (x : D) (B : Int → Prop) : Prop := ∃ i, x = .int i ∧ B i
@[simp] theorem asI_int {i : Int} {B : Int → Prop} : asI (.int i) B ↔ B i := ⟨fun ⟨_, e, h⟩ => by cases e; exact h, fun h => ⟨i, rfl, h⟩⟩
def as1 (ds : List D) (B : D → Prop) : Prop := ∃ x, ds = [x] ∧ B x
@[simp] theorem as1_ {x : D} {B : D → Prop} : as1 [x] B ↔ B x := ⟨fun ⟨_, e, h⟩ => by cases e; exact h, fun h => ⟨x, rfl, h⟩⟩
def as2 (ds : List D) (B : D → D → Prop) : Prop := ∃ x y, ds = [x, y] ∧ B x y
@[simp] theorem as2_ {x y : D} {B : D → D → Prop} : as2 [x, y] B ↔ B x y := ⟨fun ⟨_, _, e, h⟩ => by cases e; exact h, fun h => ⟨x, y, rfl, h⟩⟩
abbrev DQ := D → MH → Prop
def newD (M : MH) (o : MO) (Q : DQ) : Prop := ∀ p, M p = none → Q (.ref p) (up M p o)
abbrev DE := DSt → MH → DQ → Prop
abbrev DT := DSt → MH → (Bool → MH → Prop) → Prop
abbrev DA := DSt → MH → (List D → MH → Prop) → Prop
structure DEnds where
  nx : DSt → MH → Prop
  rt : DQ
  bk : DSt → MH → Prop := fun _ _ => False
  ct : DSt → MH → Prop := fun _ _ => False
abbrev DS := DEnds → DSt → MH → Prop
abbrev SpD := List D → MH → DQ → Prop
/-- less is known -/
def Sub (M' M : MH) : Prop := ∀ a o, M' a = some o → M a = some o
def Less (ρ' ρ : DSt) : Prop := ρ'.length = ρ.length ∧ ∀ (i : Nat) d, ρ'[i]? = some (some d) → ρ[i]? = some (some d)
theorem Sub.rfl {M : MH} : Sub M M := fun _ _ h => h
theorem Less.rfl {ρ : DSt} : Less ρ ρ := ⟨Eq.refl _, fun _ _ h => h⟩
theorem Sub.trans {A B C : MH} (h : Sub A B) (g : Sub B C) : Sub A C := fun a o e => g a o (h a o e)
theorem Sub.up {M M' : MH} {p : Addr} {o : MO} (h : Sub M M') (n : M p = none) : Sub M (up M' p o) := fun a u e => by
  have : a ≠ p := ne_free e n
  rw [up_ne this]; exact h a u e
/-- it may be forgotten -/
def WkM (P : MH → Prop) (M : MH) : Prop := ∃ M', Sub M' M ∧ P M'
def Wk (P : DSt → MH → Prop) (ρ : DSt) (M : MH) : Prop := ∃ ρ' M', Less ρ' ρ ∧ Sub M' M ∧ P ρ' M'
theorem Wk.of {P : DSt → MH → Prop} {ρ : DSt} {M : MH} (h : P ρ M) : Wk P ρ M := ⟨ρ, M, .rfl, .rfl, h⟩
theorem WkM.of {P : MH → Prop} {M : MH} (h : P M) : WkM P M := ⟨M, .rfl, h⟩

/-! ### expressions -/
def dVar (i : Nat) : DE := fun ρ M Q => ∃ d, ρ[i]? = some (some d) ∧ Q d M
def dC (d : D) : DE := fun _ M Q => Q d M
abbrev RD2 := D → D → MH → DQ → Prop
abbrev RD1 := D → MH → DQ → Prop
def dOp (r : RD2) (a b : DE) : DE := fun ρ M Q => a ρ M fun x M1 => b ρ M1 fun y M2 => r x y M2 Q
def dUn (r : RD1) (a : DE) : DE := fun ρ M Q => a ρ M fun x M1 => r x M1 Q
def dNil : DA := fun _ M Q => Q [] M
def dCons (a : DE) (r : DA) : DA := fun ρ M Q => a ρ M fun x M1 => r ρ M1 fun xs M2 => Q (x :: xs) M2
def dTup (a : DA) : DE := fun ρ M Q => a ρ M fun xs M1 => xs.length ≤ sizeLine ∧ Q (.tup xs) M1
def dLst (a : DA) : DE := fun ρ M Q => a ρ M fun xs M1 => xs.length ≤ sizeLine ∧ newD M1 (.lst xs) Q
def dCall (r : SpD) (a : DA) : DE := fun ρ M Q => a ρ M fun xs M1 => r xs M1 Q
def dTest (a : DE) : DT := fun ρ M Q => a ρ M fun x M1 => isB x fun k => Q k M1
def dAnd (t u : DT) : DT := fun ρ M Q => t ρ M fun c M1 => br c (u ρ M1 Q) (Q false M1)
def dOr (t u : DT) : DT := fun ρ M Q => t ρ M fun c M1 => br c (Q true M1) (u ρ M1 Q)
def dNot (t : DT) : DT := fun ρ M Q => t ρ M fun c M1 => Q (!c) M1
def dAndV (a b : DE) : DE := fun ρ M Q => a ρ M fun x M1 => isB x fun c => br c (b ρ M1 Q) (Q (.bl false) M1)
def dOrV (a b : DE) : DE := fun ρ M Q => a ρ M fun x M1 => isB x fun c => br c (Q (.bl true) M1) (b ρ M1 Q)
def dNotV (a : DE) : DE := fun ρ M Q => a ρ M fun x M1 => isB x fun c => Q (.bl (!c)) M1
def dIf (t : DT) (a b : DE) : DE := fun ρ M Q => t ρ M fun c M1 => br c (a ρ M1 Q) (b ρ M1 Q)
def dChain (r r' : RD2) (a b c : DE) : DE := fun ρ M Q => a ρ M fun x M1 => b ρ M1 fun y M2 => r x y M2 fun z M3 => isB z fun k =>
  br k (c ρ M3 fun u M4 => r' y u M4 Q) (Q (.bl false) M3)

/-! ### operations by values -/
def rI (C : Int → Int → Prop) (g : Int → Int → D) : RD2 := fun x y M Q => ∃ i j, x = .int i ∧ y = .int j ∧ C i j ∧ Q (g i j) M
def rAdd : RD2 := rI (fun _ _ => True) fun i j => .int (i + j)
def rSub : RD2 := rI (fun _ _ => True) fun i j => .int (i - j)
def CMulD (i j : Int) : Prop := (i.natAbs < 2 ^ 64) ∨ (j.natAbs < 2 ^ 64)
def rMul : RD2 := rI CMulD fun i j => .int (i * j)
def CDivD (_ j : Int) : Prop := 0 < j ∧ j < 2 ^ 400
def rDiv : RD2 := rI CDivD fun i j => .int (i / j)
def rMod : RD2 := rI (fun _ j => 0 < j) fun i j => .int (i % j)
def CPowD (i j : Int) : Prop := 0 ≤ j ∧ j ≤ 1000 ∧ i.natAbs < 2 ^ 64
def rPow : RD2 := rI CPowD fun i j => .int (i ^ j.toNat)
def rLt : RD2 := rI (fun _ _ => True) fun i j => .bl (decide (i < j))
def rLe : RD2 := rI (fun _ _ => True) fun i j => .bl (decide (i ≤ j))
def rGt : RD2 := rI (fun _ _ => True) fun i j => .bl (decide (j < i))
def rGe : RD2 := rI (fun _ _ => True) fun i j => .bl (decide (j ≤ i))
def rNeg : RD1 := fun x M Q => ∃ i, x = .int i ∧ Q (.int (-i)) M
def D.isN : D → Bool
  | .non => true
  | _ => false
def rIsN : RD1 := fun x M Q => Q (.bl x.isN) M
def rNotN : RD1 := fun x M Q => Q (.bl (!x.isN)) M

/-! ### data as a whole: what ==, repr see -/
mutual
def D.plain : D → Bool
  | .tup l => D.plains l
  | .lis l => D.plains l
  | .ref _ => false
  | _ => true
def D.plains : List D → Bool
  | [] => true
  | x :: r => x.plain && D.plains r
end
mutual
def D.py : D → PyData
  | .non => .none
  | .bl b => .bool b
  | .int i => .int i
  | .str x => .str x
  | .tup l => .tuple (D.pys l)
  | .lis l => .list (D.pys l)
  | .ref _ => .none
def D.pys : List D → List PyData
  | [] => []
  | x :: r => x.py :: D.pys r
end
mutual
inductive Sees (M : MH) : D → PyData → Prop
  | non : Sees M .non .none
  | bl (b : Bool) : Sees M (.bl b) (.bool b)
  | int (i : Int) : Sees M (.int i) (.int i)
  | str (x : Str) : Sees M (.str x) (.str x)
  | tup {l : List D} {ps : List PyData} : SeesL M l ps → Sees M (.tup l) (.tuple ps)
  | lis {l : List D} {ps : List PyData} : SeesL M l ps → Sees M (.lis l) (.list ps)
  | lst {a : Addr} {l : List D} {ps : List PyData} : M a = some (.lst l) → SeesL M l ps → Sees M (.ref a) (.list ps)
inductive SeesL (M : MH) : List D → List PyData → Prop
  | nil : SeesL M [] []
  | cons {x : D} {l : List D} {p : PyData} {ps : List PyData} : Sees M x p → SeesL M l ps → SeesL M (x :: l) (p :: ps)
end
mutual
theorem Sees.py (M : MH) : ∀ x : D, x.plain = true → Sees M x x.py
  | .non, _ => .non
  | .bl b, _ => .bl b
  | .int i, _ => .int i
  | .str x, _ => .str x
  | .tup l, h => .tup (SeesL.pys M l h)
  | .lis l, h => .lis (SeesL.pys M l h)
  | .ref _, h => nomatch h
theorem SeesL.pys (M : MH) : ∀ l : List D, D.plains l = true → SeesL M l (D.pys l)
  | [], _ => .nil
  | x :: r, h => by
    have h' : (x.plain && D.plains r) = true := h
    rw [Bool.and_eq_true] at h'
    exact .cons (Sees.py M x h'.1) (SeesL.pys M r h'.2)
end
def rEq : RD2 := fun x y M Q => ∃ p q, Sees M x p ∧ Sees M y q ∧ p.plain = true ∧ q.plain = true ∧ p.depth ≤ 60 ∧ Q (.bl (PyData.eqv p q)) M
def rNe : RD2 := fun x y M Q => ∃ p q, Sees M x p ∧ Sees M y q ∧ p.plain = true ∧ q.plain = true ∧ p.depth ≤ 60 ∧ Q (.bl (!PyData.eqv p q)) M
def cRepr : SpD := fun ds M Q => ∃ x p, ds = [x] ∧ Sees M x p ∧ p.showable = true ∧ p.hasDict = false ∧ p.shown.length ≤ sizeLine ∧ p.depth ≤ 60 ∧ Q (.str p.shown) M

/-! ### sequences -/
def ixD (n : Nat) (i : Int) : Option Nat := if 0 ≤ i then (if i < n then some i.toNat else none) else (if 0 ≤ i + n then some (i + n).toNat else none)
def sqD (M : MH) (x : D) (l : List D) : Prop := x = .tup l ∨ x = .lis l ∨ ∃ a, x = .ref a ∧ M a = some (.lst l)
def rIx : RD2 := fun x y M Q => ∃ l i j d, sqD M x l ∧ y = .int i ∧ ixD l.length i = some j ∧ l[j]? = some d ∧ Q d M
def cutD {α : Type} (l : List α) (lo hi : Option Nat) : List α := (l.take (hi.getD l.length)).drop (lo.getD 0)
/-- x[lo:hi]; the ends are from 0 on -/
def rSl (x : D) (lo hi : Option Int) (M : MH) (Q : DQ) : Prop := (∀ i, lo = some i → 0 ≤ i) ∧ (∀ i, hi = some i → 0 ≤ i) ∧
  ((∃ l, x = .tup l ∧ Q (.tup (cutD l (lo.map Int.toNat) (hi.map Int.toNat))) M) ∨
   ∃ l, (x = .lis l ∨ ∃ a, x = .ref a ∧ M a = some (.lst l)) ∧ newD M (.lst (cutD l (lo.map Int.toNat) (hi.map Int.toNat))) Q)
def dNone : DSt → MH → (Option Int → MH → Prop) → Prop := fun _ M Q => Q none M
def dSome (a : DE) : DSt → MH → (Option Int → MH → Prop) → Prop := fun ρ M Q => a ρ M fun x M1 => asI x fun i => Q (some i) M1
def dSl (a : DE) (lo hi : DSt → MH → (Option Int → MH → Prop) → Prop) : DE := fun ρ M Q => a ρ M fun x M1 => lo ρ M1 fun i M2 => hi ρ M2 fun j M3 => rSl x i j M3 Q
def cLenS : SpD := fun ds M Q => ∃ x l, ds = [x] ∧ sqD M x l ∧ Q (.int l.length) M
def cList : SpD := fun ds M Q => ∃ x l, ds = [x] ∧ sqD M x l ∧ newD M (.lst l) Q
def cTuple : SpD := fun ds M Q => ∃ x l, ds = [x] ∧ sqD M x l ∧ Q (.tup l) M
def rCat : RD2 := fun x y M Q => (∃ l m, x = .tup l ∧ y = .tup m ∧ l.length + m.length ≤ sizeLine ∧ Q (.tup (l ++ m)) M) ∨
  (∃ a b l m, x = .ref a ∧ y = .ref b ∧ M a = some (.lst l) ∧ M b = some (.lst m) ∧ l.length + m.length ≤ sizeLine ∧ newD M (.lst (l ++ m)) Q)
def rStrCat : RD2 := fun x y M Q => ∃ i j, x = .str i ∧ y = .str j ∧ i.length + j.length ≤ sizeLine ∧ Q (.str (i ++ j)) M
/-- + of ints, tuples, lists, texts -/
def rPlus : RD2 := fun x y M Q => rAdd x y M Q ∨ rCat x y M Q ∨ rStrCat x y M Q
/-- keys, dicts -/
def D.key : D → Option Key
  | .int i => some (.inl i)
  | .str s => some (.inr s)
  | _ => none
def lookD (l : List (Key × D)) (k : Key) : Option D := (l.find? fun p => decide (p.1 = k)).map (·.2)
def isDic (M : MH) (a : Addr) (l : List (Key × D)) : Prop := M a = some (.dic l) ∨ M a = some (.dir l)
def rItemD : RD2 := fun x y M Q => ∃ a l k d, x = .ref a ∧ y.key = some k ∧ isDic M a l ∧ lookD l k = some d ∧ Q d M
/-- x[i] of a list, a tuple, a dict -/
def rItem : RD2 := fun x y M Q => rIx x y M Q ∨ rItemD x y M Q
def rRev : RD1 := fun x M Q => ∃ a l, x = .ref a ∧ M a = some (.lst l) ∧ newD M (.lst l.reverse) Q
def cIntB : SpD := fun ds M Q => (∃ i, ds = [.int i] ∧ Q (.int i) M) ∨ ∃ k, ds = [.bl k] ∧ Q (.int (if k then 1 else 0)) M
def cMax2 : SpD := fun ds M Q => ∃ i j, ds = [.int i, .int j] ∧ Q (.int (if j > i then j else i)) M
def cMin2 : SpD := fun ds M Q => ∃ i j, ds = [.int i, .int j] ∧ Q (.int (if j < i then j else i)) M
def cAbs : SpD := fun ds M Q => ∃ i, ds = [.int i] ∧ Q (.int (if i < 0 then -i else i)) M

inductive Ty where
  | int | bool | str | tuple | list | dict
def Ty.nm : Ty → String
  | .int => "int"
  | .bool => "bool"
  | .str => "str"
  | .tuple => "tuple"
  | .list => "list"
  | .dict => "dict"
/-- isinstance of data -/
def isTy : Ty → D → Bool
  | .int, .int _ | .int, .bl _ | .bool, .bl _ | .str, .str _ | .tuple, .tup _ | .list, .lis _ => true
  | _, _ => false
def rIsi (T : Ty) : RD1 := fun x M Q => ((∀ a, x ≠ .ref a) ∧ Q (.bl (isTy T x)) M) ∨ (∃ a l, x = .ref a ∧ M a = some (.lst l) ∧ Q (.bl (match T with | .list => true | _ => false)) M) ∨
  (∃ a l, x = .ref a ∧ M a = some (.dic l) ∧ Q (.bl (match T with | .dict => true | _ => false)) M)

/-! ### statements -/
def dNext : DS := fun E ρ M => E.nx ρ M
def dSeq (t u : DS) : DS := fun E ρ M => t { E with nx := u E } ρ M
/-- one after another, by what holds in between -/
def dCut (t u : DS) : DS := fun E ρ M => ∃ J : DSt → MH → Prop, t { E with nx := J } ρ M ∧ ∀ ρ' M', J ρ' M' → u E ρ' M'
theorem dCut_of {t u : DS} {E : DEnds} {ρ : DSt} {M : MH} (h : t { E with nx := u E } ρ M) : dCut t u E ρ M := ⟨u E, h, fun _ _ q => q⟩
def dBreak : DS := fun E ρ M => E.bk ρ M
def dCont : DS := fun E ρ M => E.ct ρ M
def dDrop (a : DE) : DS := fun E ρ M => a ρ M fun _ M1 => E.nx ρ M1
def dRet (a : DE) : DS := fun E ρ M => a ρ M E.rt
def dRetN : DS := fun E _ M => E.rt .non M
def dIfS (c : DT) (t u : DS) : DS := fun E ρ M => c ρ M fun b M1 => br b (t E ρ M1) (u E ρ M1)
/-- targets: a name's slot, several targets -/
inductive Tg where
  | nm (i : Nat) | tp (l : List Tg)
mutual
def Tg.store (M : MH) : Tg → D → DSt → (DSt → Prop) → Prop
  | .nm i, d, ρ, Q => Q (ρ.set i (some d))
  | .tp ts, d, ρ, Q => ∃ l, d = .tup l ∧ l.length = ts.length ∧ Tg.stores M ts l ρ Q
def Tg.stores (M : MH) : List Tg → List D → DSt → (DSt → Prop) → Prop
  | t :: ts, d :: ds, ρ, Q => t.store M d ρ fun ρ' => Tg.stores M ts ds ρ' Q
  | _, _, ρ, Q => Q ρ
end
def dAsg (a : DE) (g : Tg) : DS := fun E ρ M => a ρ M fun x M1 => g.store M1 x ρ fun ρ' => E.nx ρ' M1
/-- a, b = e1, e2 -/
def dPar (i j : Nat) (a : DA) : DS := fun E ρ M => a ρ M fun ds M1 => as2 ds fun x y => E.nx ((ρ.set i (some x)).set j (some y)) M1
/-- o[i] = e of a list -/
def rSetL (o i v : D) (M : MH) (Q : MH → Prop) : Prop := ∃ a l k j, o = .ref a ∧ i = .int k ∧ M a = some (.lst l) ∧ ixD l.length k = some j ∧ Q (up M a (.lst (l.set j v)))
def dSetIx (r : D → D → D → MH → (MH → Prop) → Prop) (e o i : DE) : DS := fun E ρ M => e ρ M fun v M1 => o ρ M1 fun x M2 => i ρ M2 fun k M3 => r x k v M3 fun M4 => E.nx ρ M4
/-- x.append(e), x.extend(e) of a list -/
def mAppend : D → SpD := fun x ds M Q => ∃ a l d, x = .ref a ∧ ds = [d] ∧ M a = some (.lst l) ∧ l.length < sizeLine ∧ Q .non (up M a (.lst (l ++ [d])))
def mExtend : D → SpD := fun x ds M Q => ∃ a l y m, x = .ref a ∧ ds = [y] ∧ M a = some (.lst l) ∧ sqD M y m ∧ y ≠ x ∧ l.length + m.length ≤ sizeLine ∧ Q .non (up M a (.lst (l ++ m)))
/-- xs.extend(ys), ys another list that stands -/
def mExtL : D → SpD := fun x ds M Q => ∃ a b l m, x = .ref a ∧ ds = [.ref b] ∧ M a = some (.lst l) ∧ M b = some (.lst m) ∧ l.length + m.length ≤ sizeLine ∧ Q .non (up M a (.lst (l ++ m)))
def isLst (M : MH) (x : D) : Prop := ∃ a l, x = .ref a ∧ M a = some (.lst l)
def dMeth (ty : MH → D → Prop) (r : D → SpD) (o : DE) (a : DA) : DE := fun ρ M Q => o ρ M fun x M1 => ty M1 x ∧ a ρ M1 fun ds M2 => r x ds M2 Q

/-! ### loops, comprehensions -/
/-- what a loop walks: its items, what must stay -/
abbrev DI := DSt → MH → (List D → (MH → Prop) → MH → Prop) → Prop
def iSeq (a : DE) : DI := fun ρ M R => a ρ M fun x M1 => (∃ l, (x = .tup l ∨ x = .lis l) ∧ R l (fun _ => True) M1) ∨
  (∃ p l, x = .ref p ∧ M1 p = some (.lst l) ∧ R l (fun M => M p = some (.lst l)) M1)
def rangeD (lo : Int) : Nat → List D
  | 0 => []
  | n + 1 => .int lo :: rangeD (lo + 1) n
def iRange1 (a : DA) : DI := fun ρ M R => a ρ M fun ds M1 => as1 ds fun x => asI x fun j => j < 2 ^ 62 ∧ -(2 ^ 62) ≤ j ∧ R (rangeD 0 j.toNat) (fun _ => True) M1
def iRange2 (a : DA) : DI := fun ρ M R => a ρ M fun ds M1 => as2 ds fun x y => asI x fun i => asI y fun j => (-(2 ^ 62) ≤ i ∧ i < 2 ^ 62 ∧ j < 2 ^ 62 ∧ -(2 ^ 62) ≤ j) ∧ R (rangeD i (j - i).toNat) (fun _ => True) M1
def enumD (k : Int) : List D → List D
  | [] => []
  | x :: r => .tup [.int k, x] :: enumD (k + 1) r
def iEnum (a : DA) : DI := fun ρ M R => a ρ M fun ds M1 => ∃ x l, ds = [x] ∧ (((x = .tup l ∨ x = .lis l) ∧ R (enumD 0 l) (fun _ => True) M1) ∨ (∃ p, x = .ref p ∧ M1 p = some (.lst l) ∧ R (enumD 0 l) (fun M => M p = some (.lst l)) M1))
def zipD (l m : List D) : List D := (l.zip m).map fun p => .tup [p.1, p.2]
def zipI (x y : D) (M : MH) (R : List D → (MH → Prop) → MH → Prop) : Prop := (∃ l m, x = .tup l ∧ y = .tup m ∧ R (zipD l m) (fun _ => True) M) ∨
  (∃ p q l m, x = .ref p ∧ y = .ref q ∧ M p = some (.lst l) ∧ M q = some (.lst m) ∧ R (zipD l m) (fun M => M p = some (.lst l) ∧ M q = some (.lst m)) M)
def iZip (a : DA) : DI := fun ρ M R => a ρ M fun ds M1 => as2 ds fun x y => zipI x y M1 R
/-- a loop by what holds ahead of its turns -/
def loopD (G : MH → Prop) (g : Tg) (tb : DS) (xs : List D) (E : DEnds) (ρ : DSt) (M : MH) : Prop :=
  ∃ I : Nat → DSt → MH → Prop, I 0 ρ M ∧ (∀ i x ρ M, xs[i]? = some x → I i ρ M → G M ∧ g.store M x ρ fun ρ1 => tb { E with nx := Wk (I (i + 1)), ct := Wk (I (i + 1)), bk := E.nx } ρ1 M) ∧ ∀ ρ M, I xs.length ρ M → G M ∧ E.nx ρ M
/-- .. turn by turn -/
def loopR (G : MH → Prop) (g : Tg) (tb : DS) : List D → DEnds → DSt → MH → Prop
  | [], E, ρ, M => G M ∧ E.nx ρ M
  | x :: xs, E, ρ, M => G M ∧ g.store M x ρ fun ρ1 => tb { E with nx := Wk (loopR G g tb xs E), ct := Wk (loopR G g tb xs E), bk := E.nx } ρ1 M
theorem loopD_of {G : MH → Prop} {g : Tg} {tb : DS} {xs : List D} {E : DEnds} {ρ : DSt} {M : MH} (h : loopR G g tb xs E ρ M) : loopD G g tb xs E ρ M := by
  refine ⟨fun i ρ M => loopR G g tb (xs.drop i) E ρ M, h, fun i x ρ M e q => ?_, fun ρ M q => ?_⟩
  · have hl := (List.getElem?_eq_some_iff.mp e).1
    dsimp only at q
    rw [List.drop_eq_getElem_cons hl] at q
    have : xs[i] = x := (List.getElem?_eq_some_iff.mp e).2
    rw [this] at q
    exact q
  · dsimp only at q; rw [List.drop_length] at q; exact q
def dFor (w : DI) (g : Tg) (tb : DS) : DS := fun E ρ M => w ρ M fun xs G M1 => loopD G g tb xs E ρ M1
def wipeD (ρ : DSt) : List Nat → DSt
  | [] => ρ
  | v :: vs => (wipeD ρ vs).set v none
def tYesD : DT := fun _ M Q => Q true M
def compD (G : MH → Prop) (g : Tg) (tt : DT) (te : DE) (ρ : DSt) (xs : List D) (M : MH) (Q : DQ) : Prop :=
  ∃ I : Nat → List D → MH → Prop, I 0 [] M ∧ (∀ i x acc M, xs[i]? = some x → acc.length ≤ i → I i acc M → G M ∧ g.store M x ρ fun ρ1 => tt ρ1 M fun b M1 =>
      br b (te ρ1 M1 fun y M2 => WkM (I (i + 1) (acc ++ [y])) M2) (WkM (I (i + 1) acc) M1)) ∧
    ∀ acc M, I xs.length acc M → G M ∧ ∀ p, M p = none → Q (.ref p) (up M p (.lst acc))
def dLC (w : DI) (g : Tg) (tt : DT) (te : DE) (vs : List Nat) : DE := fun ρ M Q => w ρ M fun xs G M1 => xs.length ≤ sizeLine ∧ compD G g tt te (wipeD ρ vs) xs M1 Q
def dWhile (c : DT) (tb : DS) : DS := fun E ρ M => ∃ I : Nat → DSt → MH → Prop, (∃ n, I n ρ M) ∧ ∀ n ρ M, I n ρ M →
  c ρ M fun b M1 => br b (tb { E with nx := Wk fun ρ' M' => ∃ m, m < n ∧ I m ρ' M', ct := Wk fun ρ' M' => ∃ m, m < n ∧ I m ρ' M', bk := E.nx } ρ M1) (E.nx ρ M1)
/-- x op= e of a name -/
def dAug (i : Nat) (r : RD2) (e : DE) : DS := fun E ρ M => dVar i ρ M fun x _ => e ρ M fun y M1 => r x y M1 fun z M2 => E.nx (ρ.set i (some z)) M2
/-- at a def's end what it made may be forgotten -/
def ends (Q : DQ) : DEnds := { nx := fun _ M => WkM (Q .non) M, rt := fun d M => WkM (Q d) M }
def startD (n : Nat) (ds : List D) : DSt := ds.map some ++ List.replicate (n - ds.length) none

/-! ### evaluation by simp -/
section
variable {ρ : DSt} {M : MH} {Q : DQ} {a b : Int} {d e : D} {l m : List D} {i : Nat} {p : Addr}
@[simp ↓] theorem dVar_z : dVar 0 (some d :: ρ) M Q ↔ Q d M := by simp [dVar]
@[simp ↓] theorem dVar_s {x : Option D} : dVar (i + 1) (x :: ρ) M Q ↔ dVar i ρ M Q := by simp [dVar]
@[simp] theorem rPlus_int : rPlus (.int a) (.int b) M Q ↔ Q (.int (a + b)) M := by simp [rPlus, rAdd, rI, rCat, rStrCat]
@[simp] theorem rPlus_tup : rPlus (.tup l) (.tup m) M Q ↔ (l.length + m.length ≤ sizeLine ∧ Q (.tup (l ++ m)) M) := by simp [rPlus, rAdd, rI, rCat, rStrCat]
@[simp] theorem rPlus_str {x y : Str} : rPlus (.str x) (.str y) M Q ↔ (x.length + y.length ≤ sizeLine ∧ Q (.str (x ++ y)) M) := by simp [rPlus, rAdd, rI, rCat, rStrCat]
@[simp] theorem rSub_int : rSub (.int a) (.int b) M Q ↔ Q (.int (a - b)) M := by simp [rSub, rI]
@[simp] theorem rAdd_int : rAdd (.int a) (.int b) M Q ↔ Q (.int (a + b)) M := by simp [rAdd, rI]
@[simp] theorem rMul_int : rMul (.int a) (.int b) M Q ↔ ((a.natAbs < 2 ^ 64 ∨ b.natAbs < 2 ^ 64) ∧ Q (.int (a * b)) M) := by simp [rMul, rI, CMulD]
@[simp] theorem rDiv_int : rDiv (.int a) (.int b) M Q ↔ (CDivD a b ∧ Q (.int (a / b)) M) := by simp [rDiv, rI]
@[simp] theorem rMod_int : rMod (.int a) (.int b) M Q ↔ (0 < b ∧ Q (.int (a % b)) M) := by simp [rMod, rI]
@[simp] theorem rPow_int : rPow (.int a) (.int b) M Q ↔ (CPowD a b ∧ Q (.int (a ^ b.toNat)) M) := by simp [rPow, rI]
@[simp] theorem rLt_int : rLt (.int a) (.int b) M Q ↔ Q (.bl (decide (a < b))) M := by simp [rLt, rI]
@[simp] theorem rLe_int : rLe (.int a) (.int b) M Q ↔ Q (.bl (decide (a ≤ b))) M := by simp [rLe, rI]
@[simp] theorem rGt_int : rGt (.int a) (.int b) M Q ↔ Q (.bl (decide (b < a))) M := by simp [rGt, rI]
@[simp] theorem rGe_int : rGe (.int a) (.int b) M Q ↔ Q (.bl (decide (b ≤ a))) M := by simp [rGe, rI]
@[simp] theorem rNeg_int : rNeg (.int a) M Q ↔ Q (.int (-a)) M := by simp [rNeg]
@[simp] theorem isN_non : D.isN .non = true := rfl
@[simp] theorem isN_int : D.isN (.int a) = false := rfl
@[simp] theorem isN_tup : D.isN (.tup l) = false := rfl
@[simp] theorem isN_str {x : Str} : D.isN (.str x) = false := rfl
@[simp] theorem isN_bl {x : Bool} : D.isN (.bl x) = false := rfl
@[simp] theorem isN_ref : D.isN (.ref p) = false := rfl
@[simp] theorem rIsN_ : rIsN d M Q ↔ Q (.bl d.isN) M := Iff.rfl
@[simp] theorem rNotN_ : rNotN d M Q ↔ Q (.bl (!d.isN)) M := Iff.rfl
theorem ixD_nat {n : Nat} (h : i < n) : ixD n (i : Int) = some i := by unfold ixD; simp [h]
/-- the item at a place -/
def itemQ (l : List D) (a : Int) (M : MH) (Q : DQ) : Prop := ∃ j d, ixD l.length a = some j ∧ l[j]? = some d ∧ Q d M
@[simp] theorem rItem_tup : rItem (.tup l) (.int a) M Q ↔ itemQ l a M Q := by
  constructor
  · rintro (⟨l', i, j, d, h1, h2, h3, h4, q⟩ | ⟨_, _, _, _, h, _⟩)
    · rcases h1 with h1 | h1 | ⟨_, h1, _⟩
      · cases h1; cases h2; exact ⟨j, d, h3, h4, q⟩
      · cases h1
      · cases h1
    · cases h
  · rintro ⟨j, d, h1, h2, q⟩
    exact .inl ⟨l, a, j, d, .inl rfl, rfl, h1, h2, q⟩
@[simp] theorem rItem_lis : rItem (.lis l) (.int a) M Q ↔ itemQ l a M Q := by
  constructor
  · rintro (⟨l', i, j, d, h1, h2, h3, h4, q⟩ | ⟨_, _, _, _, h, _⟩)
    · rcases h1 with h1 | h1 | ⟨_, h1, _⟩
      · cases h1
      · cases h1; cases h2; exact ⟨j, d, h3, h4, q⟩
      · cases h1
    · cases h
  · rintro ⟨j, d, h1, h2, q⟩
    exact .inl ⟨l, a, j, d, .inr (.inl rfl), rfl, h1, h2, q⟩
theorem rItem_ref {j : Nat} (hm : M p = some (.lst l)) (hj : ixD l.length a = some j) (hd : l[j]? = some d) (q : Q d M) : rItem (.ref p) (.int a) M Q := .inl ⟨l, a, j, d, .inr (.inr ⟨p, rfl, hm⟩), rfl, hj, hd, q⟩
@[simp] theorem ixD_0 {n : Nat} : ixD (n + 1) 0 = some 0 := by unfold ixD; simp <;> omega
@[simp] theorem ixD_1 {n : Nat} : ixD (n + 2) 1 = some 1 := by unfold ixD; simp <;> omega
@[simp] theorem ixD_2 {n : Nat} : ixD (n + 3) 2 = some 2 := by unfold ixD; simp <;> omega
@[simp] theorem ixD_3 {n : Nat} : ixD (n + 4) 3 = some 3 := by unfold ixD; simp <;> omega
@[simp] theorem ixD_m1 {n : Nat} : ixD (n + 1) (-1) = some n := by unfold ixD; simp <;> omega
theorem itemQ_nat {j : Nat} (h : l[j]? = some d) : itemQ l (j : Int) M Q ↔ Q d M := by
  have hl := (List.getElem?_eq_some_iff.mp h).1
  constructor
  · rintro ⟨k, e, h1, h2, q⟩
    rw [ixD_nat hl] at h1; cases h1
    rw [h] at h2; cases h2; exact q
  · intro q; exact ⟨j, d, ixD_nat hl, h, q⟩
@[simp] theorem itemQ_0 : itemQ (d :: l) 0 M Q ↔ Q d M := itemQ_nat (j := 0) rfl
@[simp] theorem itemQ_1 {x0 : D} : itemQ (x0 :: d :: l) 1 M Q ↔ Q d M := itemQ_nat (j := 1) rfl
@[simp] theorem itemQ_2 {x0 x1 : D} : itemQ (x0 :: x1 :: d :: l) 2 M Q ↔ Q d M := itemQ_nat (j := 2) rfl
@[simp] theorem itemQ_3 {x0 x1 x2 : D} : itemQ (x0 :: x1 :: x2 :: d :: l) 3 M Q ↔ Q d M := itemQ_nat (j := 3) rfl
@[simp] theorem itemQ_4 {x0 x1 x2 x3 : D} : itemQ (x0 :: x1 :: x2 :: x3 :: d :: l) 4 M Q ↔ Q d M := itemQ_nat (j := 4) rfl
theorem itemQ_c {l l' : List D} {a a' : Int} (h : l = l') (h' : a = a') : itemQ l a M Q = itemQ l' a' M Q := by rw [h, h']
theorem dTup_ {t : DA} : dTup t ρ M Q ↔ t ρ M fun xs M1 => xs.length ≤ sizeLine ∧ Q (.tup xs) M1 := Iff.rfl
end
theorem szl (n : Nat) (h : n ≤ 1000) : n ≤ sizeLine := by rw [sizeLine_eq]; omega
theorem szl' (n : Nat) (h : n ≤ 1000) : n < sizeLine := by rw [sizeLine_eq]; omega
end DL

/-! DL: evaluation over data, helpers for promises. Plain Lean. -/
namespace DL
open PySem L2
section
variable {ρ : DSt} {M : MH} {Q : DQ} {d : D} {l : List D} {i : Nat} {t : Tg} {ts : List Tg} {R : DSt → Prop}
@[simp ↓] theorem store_nm : Tg.store M (.nm i) d ρ R ↔ R (ρ.set i (some d)) := by rw [Tg.store]
@[simp ↓] theorem store_tp : Tg.store M (.tp ts) (.tup l) ρ R ↔ l.length = ts.length ∧ Tg.stores M ts l ρ R := by
  rw [Tg.store]
  constructor
  · rintro ⟨m, e, h⟩; cases e; exact h
  · intro h; exact ⟨l, rfl, h⟩
@[simp ↓] theorem stores_cons : Tg.stores M (t :: ts) (d :: l) ρ R ↔ Tg.store M t d ρ fun ρ' => Tg.stores M ts l ρ' R := by rw [Tg.stores]
@[simp ↓] theorem stores_nil : Tg.stores M [] l ρ R ↔ R ρ := by
  rw [Tg.stores]
  intro _ _ _ _ h; cases h
end
/-! ### what simp opens -/
section
variable {ρ : DSt} {M : MH} {Q : DQ} {d : D} {a b c : DE} {r r' : RD2} {r1 : RD1} {t u : DS} {T U : DT} {A : DA} {sp : SpD} {E : DEnds} {R : List D → MH → Prop} {B : Bool → MH → Prop} {i j : Nat} {g : Tg}
@[simp ↓] theorem dC_ : dC d ρ M Q ↔ Q d M := Iff.rfl
@[simp ↓] theorem dOp_ : dOp r a b ρ M Q ↔ a ρ M (hold (fun x M1 => b ρ M1 (hold (fun y M2 => r x y M2 Q) ⟨⟩)) ⟨⟩) := Iff.rfl
@[simp ↓] theorem dUn_ : dUn r1 a ρ M Q ↔ a ρ M (hold (fun x M1 => r1 x M1 Q) ⟨⟩) := Iff.rfl
@[simp ↓] theorem dNil_ : dNil ρ M R ↔ R [] M := Iff.rfl
@[simp ↓] theorem dCons_ : dCons a A ρ M R ↔ a ρ M (hold (fun x M1 => A ρ M1 (hold (fun xs M2 => R (x :: xs) M2) ⟨⟩)) ⟨⟩) := Iff.rfl
@[simp ↓] theorem dTupl_ : dTup A ρ M Q ↔ A ρ M (hold (fun xs M1 => xs.length ≤ sizeLine ∧ Q (.tup xs) M1) ⟨⟩) := Iff.rfl
@[simp ↓] theorem dLst_ : dLst A ρ M Q ↔ A ρ M (hold (fun xs M1 => xs.length ≤ sizeLine ∧ newD M1 (.lst xs) Q) ⟨⟩) := Iff.rfl
@[simp ↓] theorem dCall_ : dCall sp A ρ M Q ↔ A ρ M (hold (fun xs M1 => sp xs M1 Q) ⟨⟩) := Iff.rfl
@[simp ↓] theorem dTest_ : dTest a ρ M B ↔ a ρ M (hold (fun x M1 => isB x (hold (fun k => B k M1) ⟨⟩)) ⟨⟩) := Iff.rfl
@[simp ↓] theorem dAnd_ : dAnd T U ρ M B ↔ T ρ M (hold (fun c M1 => br c (U ρ M1 B) (B false M1)) ⟨⟩) := Iff.rfl
@[simp ↓] theorem dOr_ : dOr T U ρ M B ↔ T ρ M (hold (fun c M1 => br c (B true M1) (U ρ M1 B)) ⟨⟩) := Iff.rfl
@[simp ↓] theorem dNot_ : dNot T ρ M B ↔ T ρ M (hold (fun c M1 => B (!c) M1) ⟨⟩) := Iff.rfl
@[simp ↓] theorem dAndV_ : dAndV a b ρ M Q ↔ a ρ M (hold (fun x M1 => isB x (hold (fun c => br c (b ρ M1 Q) (Q (.bl false) M1)) ⟨⟩)) ⟨⟩) := Iff.rfl
@[simp ↓] theorem dOrV_ : dOrV a b ρ M Q ↔ a ρ M (hold (fun x M1 => isB x (hold (fun c => br c (Q (.bl true) M1) (b ρ M1 Q)) ⟨⟩)) ⟨⟩) := Iff.rfl
@[simp ↓] theorem dNotV_ : dNotV a ρ M Q ↔ a ρ M (hold (fun x M1 => isB x (hold (fun c => Q (.bl (!c)) M1) ⟨⟩)) ⟨⟩) := Iff.rfl
@[simp ↓] theorem dIf_ : dIf T a b ρ M Q ↔ T ρ M (hold (fun c M1 => br c (a ρ M1 Q) (b ρ M1 Q)) ⟨⟩) := Iff.rfl
@[simp ↓] theorem dChain_ : dChain r r' a b c ρ M Q ↔ a ρ M (hold (fun x M1 => b ρ M1 (hold (fun y M2 => r x y M2 (hold (fun z M3 => isB z (hold (fun k => br k (c ρ M3 (hold (fun u M4 => r' y u M4 Q) ⟨⟩)) (Q (.bl false) M3)) ⟨⟩)) ⟨⟩)) ⟨⟩)) ⟨⟩) := Iff.rfl
@[simp ↓] theorem dNext_ : dNext E ρ M ↔ E.nx ρ M := Iff.rfl
@[simp ↓] theorem dSeq_ : dSeq t u E ρ M ↔ t { E with nx := u E } ρ M := Iff.rfl
@[simp ↓] theorem dDrop_ : dDrop a E ρ M ↔ a ρ M (hold (fun _ M1 => E.nx ρ M1) ⟨⟩) := Iff.rfl
@[simp ↓] theorem dRet_ : dRet a E ρ M ↔ a ρ M (hold E.rt ⟨⟩) := Iff.rfl
@[simp ↓] theorem dRetN_ : dRetN E ρ M ↔ E.rt .non M := Iff.rfl
@[simp ↓] theorem dIfS_ : dIfS T t u E ρ M ↔ T ρ M (hold (fun b M1 => br b (t E ρ M1) (u E ρ M1)) ⟨⟩) := Iff.rfl
@[simp ↓] theorem dAsg_ : dAsg a g E ρ M ↔ a ρ M (hold (fun x M1 => g.store M1 x ρ (hold (fun ρ' => E.nx ρ' M1) ⟨⟩)) ⟨⟩) := Iff.rfl
@[simp ↓] theorem dPar_ : dPar i j A E ρ M ↔ A ρ M (hold (fun ds M1 => as2 ds (hold (fun x y => E.nx ((ρ.set i (some x)).set j (some y)) M1) ⟨⟩)) ⟨⟩) := Iff.rfl
theorem dCut_by {J : DSt → MH → Prop} (h : t { E with nx := stop J ⟨⟩ } ρ M) (h' : ∀ ρ' M', J ρ' M' → u E ρ' M') : dCut t u E ρ M := ⟨J, h, h'⟩
@[simp ↓] theorem dBreak_ : dBreak E ρ M ↔ E.bk ρ M := Iff.rfl
@[simp ↓] theorem dCont_ : dCont E ρ M ↔ E.ct ρ M := Iff.rfl
@[simp ↓] theorem dSetIx_ {w} {e : DE} : dSetIx w e a b E ρ M ↔ e ρ M (hold (fun v M1 => a ρ M1 (hold (fun x M2 => b ρ M2 (hold (fun k M3 => w x k v M3 (hold (fun M4 => E.nx ρ M4) ⟨⟩)) ⟨⟩)) ⟨⟩)) ⟨⟩) := Iff.rfl
@[simp ↓] theorem dMeth_ {ty} {w} : dMeth ty w a A ρ M Q ↔ a ρ M (hold (fun x M1 => ty M1 x ∧ A ρ M1 (hold (fun ds M2 => w x ds M2 Q) ⟨⟩)) ⟨⟩) := Iff.rfl
@[simp ↓] theorem dAug_ : dAug i r a E ρ M ↔ dVar i ρ M (hold (fun x _ => a ρ M (hold (fun y M1 => r x y M1 (hold (fun z M2 => E.nx (ρ.set i (some z)) M2) ⟨⟩)) ⟨⟩)) ⟨⟩) := Iff.rfl
@[simp ↓] theorem dSl_ {lo hi} : dSl a lo hi ρ M Q ↔ a ρ M (hold (fun x M1 => lo ρ M1 (hold (fun i M2 => hi ρ M2 (hold (fun j M3 => rSl x i j M3 Q) ⟨⟩)) ⟨⟩)) ⟨⟩) := Iff.rfl
@[simp ↓] theorem dNone_ {S : Option Int → MH → Prop} : dNone ρ M S ↔ S none M := Iff.rfl
@[simp ↓] theorem dSome_ {S : Option Int → MH → Prop} : dSome a ρ M S ↔ a ρ M (hold (fun x M1 => asI x (hold (fun i => S (some i) M1) ⟨⟩)) ⟨⟩) := Iff.rfl
@[simp ↓] theorem tYesD_ : tYesD ρ M B ↔ B true M := Iff.rfl
@[simp ↓] theorem ends_rt : (ends Q).rt d M ↔ WkM (Q d) M := Iff.rfl
@[simp ↓] theorem ends_nx : (ends Q).nx ρ M ↔ WkM (Q .non) M := Iff.rfl
@[simp] theorem startD_ {n : Nat} {ds : List D} : startD n ds = ds.map some ++ List.replicate (n - ds.length) none := rfl
@[simp ↓] theorem iRange1_ {Z : List D → (MH → Prop) → MH → Prop} : iRange1 A ρ M Z ↔ A ρ M (hold (fun ds M1 => as1 ds (hold (fun x => asI x (hold (fun j => j < 2 ^ 62 ∧ -(2 ^ 62) ≤ j ∧ Z (rangeD 0 j.toNat) (fun _ => True) M1) ⟨⟩)) ⟨⟩)) ⟨⟩) := Iff.rfl
@[simp ↓] theorem dFor_ {w : DI} : dFor w g t E ρ M ↔ w ρ M (hold (fun xs G M1 => loopD G g t xs E ρ M1) ⟨⟩) := Iff.rfl
@[simp ↓] theorem dLC_ {w : DI} {vs : List Nat} : dLC w g T a vs ρ M Q ↔ w ρ M (hold (fun xs G M1 => xs.length ≤ sizeLine ∧ compD G g T a (wipeD ρ vs) xs M1 Q) ⟨⟩) := Iff.rfl
@[simp] theorem sl1 : (1 : Nat) ≤ sizeLine := szl 1 (by decide)
@[simp] theorem sl2 : (2 : Nat) ≤ sizeLine := szl 2 (by decide)
@[simp] theorem sl3 : (3 : Nat) ≤ sizeLine := szl 3 (by decide)
@[simp] theorem sl4 : (4 : Nat) ≤ sizeLine := szl 4 (by decide)
@[simp] theorem sl5 : (5 : Nat) ≤ sizeLine := szl 5 (by decide)
@[simp] theorem sl6 : (6 : Nat) ≤ sizeLine := szl 6 (by decide)
@[simp] theorem sl7 : (7 : Nat) ≤ sizeLine := szl 7 (by decide)
@[simp] theorem sl8 : (8 : Nat) ≤ sizeLine := szl 8 (by decide)
@[simp] theorem sl9 : (9 : Nat) ≤ sizeLine := szl 9 (by decide)
@[simp] theorem sl10 : (10 : Nat) ≤ sizeLine := szl 10 (by decide)
@[simp] theorem sl11 : (11 : Nat) ≤ sizeLine := szl 11 (by decide)
@[simp] theorem sl12 : (12 : Nat) ≤ sizeLine := szl 12 (by decide)
@[simp] theorem sl13 : (13 : Nat) ≤ sizeLine := szl 13 (by decide)
@[simp] theorem sl14 : (14 : Nat) ≤ sizeLine := szl 14 (by decide)
@[simp] theorem sl16 : (16 : Nat) ≤ sizeLine := szl 16 (by decide)
@[simp] theorem sl20 : (20 : Nat) ≤ sizeLine := szl 20 (by decide)
@[simp] theorem sl40 : (40 : Nat) ≤ sizeLine := szl 40 (by decide)
end
/-! ### the pen of the laws' draws -/
/-- a list of the script's ints, a count, a rest -/
def PenQ (M : MH) (p q : Addr) : Prop := ∃ (cs : List Int) (at' left : Int), M p = some (.lst [.ref q, .int at', .int left]) ∧ M q = some (.lst (cs.map D.int)) ∧ p ≠ q ∧ 0 ≤ at' ∧ 0 ≤ left ∧ cs.length ≤ 63
def Pen (M : MH) (p : Addr) : Prop := ∃ q, PenQ M p q
/-- nothing that stood was turned but the pen at p -/
def PenTo (M M' : MH) (p : Addr) : Prop := (∃ q, PenQ M p q ∧ PenQ M' p q) ∧ ∀ a o, a ≠ p → M a = some o → M' a = some o
theorem PenQ.uniq {M : MH} {p q q' : Addr} (h : PenQ M p q) (h' : PenQ M p q') : q' = q := by
  obtain ⟨_, _, _, h1, _⟩ := h
  obtain ⟨_, _, _, h2, _⟩ := h'
  rw [h1] at h2; cases h2; rfl
theorem PenTo.keep {M M' : MH} {p q : Addr} (h : PenTo M M' p) (h' : PenQ M p q) : PenQ M' p q := by
  obtain ⟨⟨q', a, b⟩, _⟩ := h
  rw [a.uniq h'] ; exact b
theorem PenTo.pen {M M' : MH} {p : Addr} (h : PenTo M M' p) : Pen M' p := ⟨_, h.1.choose_spec.2⟩
theorem PenTo.trans {M M1 M2 : MH} {p : Addr} (a : PenTo M M1 p) (b : PenTo M1 M2 p) : PenTo M M2 p := by
  obtain ⟨⟨q, a1, a2⟩, a3⟩ := a
  exact ⟨⟨q, a1, b.keep a2⟩, fun c o h e => b.2 c o h (a3 c o h e)⟩
theorem PenQ.up {M : MH} {p q b : Addr} {o : MO} (h : PenQ M p q) (n : M b = none) : PenQ (up M b o) p q := by
  obtain ⟨cs, at', left, h1, h2, r⟩ := h
  exact ⟨cs, at', left, by rw [up_ne (ne_free h1 n)]; exact h1, by rw [up_ne (ne_free h2 n)]; exact h2, r⟩
/-- a store elsewhere -/
theorem PenQ.set {M : MH} {p q b : Addr} {o : MO} (h : PenQ M p q) (n : b ≠ p) (n' : b ≠ q) : PenQ (DL.up M b o) p q := by
  obtain ⟨cs, at', left, h1, h2, r⟩ := h
  exact ⟨cs, at', left, by rw [up_ne (Ne.symm n)]; exact h1, by rw [up_ne (Ne.symm n')]; exact h2, r⟩
theorem PenQ.ne {M : MH} {p q b : Addr} (h : PenQ M p q) (n : M b = none) : b ≠ p ∧ b ≠ q := by
  obtain ⟨_, _, _, h1, h2, _⟩ := h
  exact ⟨(ne_free h1 n).symm, (ne_free h2 n).symm⟩
theorem Pen.up {M : MH} {p b : Addr} {o : MO} (h : Pen M p) (n : M b = none) : Pen (up M b o) p := h.elim fun q h => ⟨q, h.up n⟩
theorem PenTo.up {M M1 : MH} {p b : Addr} {o : MO} (h : PenTo M M1 p) (n : M1 b = none) : PenTo M (up M1 b o) p := by
  obtain ⟨⟨q, a1, a2⟩, a3⟩ := h
  exact ⟨⟨q, a1, a2.up n⟩, fun c u hc e => by have e' := a3 c u hc e; rw [up_ne (ne_free e' n)]; exact e'⟩
/-- the drawing defs: what they promise -/
def pPen : SpD := fun ds M Q => ∃ ns : List Int, ds = [.lis (ns.map D.int)] ∧ ∀ p M', Pen M' p → Q (.ref p) M'
def pFresh : SpD := fun ds M Q => ∃ p, ds = [.ref p] ∧ Pen M p ∧ ∀ (n : Int) M', 0 ≤ n → PenTo M M' p → Q (.int n) M'
def pDraw : SpD := fun ds M Q => ∃ p many, ds = [.ref p, .int many] ∧ 0 < many ∧ many < 2 ^ 400 ∧ Pen M p ∧ ∀ (d : Int) M', 0 ≤ d → d < many → PenTo M M' p → Q (.int d) M'
/-! ### simp stops at what is not known -/
theorem rAdd_c {x x' y y' : D} {M : MH} {Q : DQ} (h : x = x') (h' : y = y') : rAdd x y M Q = rAdd x' y' M Q := by rw [h, h']
theorem rSub_c {x x' y y' : D} {M : MH} {Q : DQ} (h : x = x') (h' : y = y') : rSub x y M Q = rSub x' y' M Q := by rw [h, h']
theorem rMul_c {x x' y y' : D} {M : MH} {Q : DQ} (h : x = x') (h' : y = y') : rMul x y M Q = rMul x' y' M Q := by rw [h, h']
theorem rDiv_c {x x' y y' : D} {M : MH} {Q : DQ} (h : x = x') (h' : y = y') : rDiv x y M Q = rDiv x' y' M Q := by rw [h, h']
theorem rMod_c {x x' y y' : D} {M : MH} {Q : DQ} (h : x = x') (h' : y = y') : rMod x y M Q = rMod x' y' M Q := by rw [h, h']
theorem rPow_c {x x' y y' : D} {M : MH} {Q : DQ} (h : x = x') (h' : y = y') : rPow x y M Q = rPow x' y' M Q := by rw [h, h']
theorem rLt_c {x x' y y' : D} {M : MH} {Q : DQ} (h : x = x') (h' : y = y') : rLt x y M Q = rLt x' y' M Q := by rw [h, h']
theorem rLe_c {x x' y y' : D} {M : MH} {Q : DQ} (h : x = x') (h' : y = y') : rLe x y M Q = rLe x' y' M Q := by rw [h, h']
theorem rGt_c {x x' y y' : D} {M : MH} {Q : DQ} (h : x = x') (h' : y = y') : rGt x y M Q = rGt x' y' M Q := by rw [h, h']
theorem rGe_c {x x' y y' : D} {M : MH} {Q : DQ} (h : x = x') (h' : y = y') : rGe x y M Q = rGe x' y' M Q := by rw [h, h']
theorem rEq_c {x x' y y' : D} {M : MH} {Q : DQ} (h : x = x') (h' : y = y') : rEq x y M Q = rEq x' y' M Q := by rw [h, h']
theorem rNe_c {x x' y y' : D} {M : MH} {Q : DQ} (h : x = x') (h' : y = y') : rNe x y M Q = rNe x' y' M Q := by rw [h, h']
theorem rItem_c {x x' y y' : D} {M : MH} {Q : DQ} (h : x = x') (h' : y = y') : rItem x y M Q = rItem x' y' M Q := by rw [h, h']
theorem rPlus_c {x x' y y' : D} {M : MH} {Q : DQ} (h : x = x') (h' : y = y') : rPlus x y M Q = rPlus x' y' M Q := by rw [h, h']
theorem rNeg_c {x x' : D} {M : MH} {Q : DQ} (h : x = x') : rNeg x M Q = rNeg x' M Q := by rw [h]
theorem rRev_c {x x' : D} {M : MH} {Q : DQ} (h : x = x') : rRev x M Q = rRev x' M Q := by rw [h]
theorem cLenS_c {x x' : List D} {M : MH} {Q : DQ} (h : x = x') : cLenS x M Q = cLenS x' M Q := by rw [h]
theorem cRepr_c {x x' : List D} {M : MH} {Q : DQ} (h : x = x') : cRepr x M Q = cRepr x' M Q := by rw [h]
theorem cList_c {x x' : List D} {M : MH} {Q : DQ} (h : x = x') : cList x M Q = cList x' M Q := by rw [h]
theorem cTuple_c {x x' : List D} {M : MH} {Q : DQ} (h : x = x') : cTuple x M Q = cTuple x' M Q := by rw [h]
theorem cIntB_c {x x' : List D} {M : MH} {Q : DQ} (h : x = x') : cIntB x M Q = cIntB x' M Q := by rw [h]
theorem cAbs_c {x x' : List D} {M : MH} {Q : DQ} (h : x = x') : cAbs x M Q = cAbs x' M Q := by rw [h]
theorem cMax2_c {x x' : List D} {M : MH} {Q : DQ} (h : x = x') : cMax2 x M Q = cMax2 x' M Q := by rw [h]
theorem cMin2_c {x x' : List D} {M : MH} {Q : DQ} (h : x = x') : cMin2 x M Q = cMin2 x' M Q := by rw [h]
theorem pPen_c {x x' : List D} {M : MH} {Q : DQ} (h : x = x') : pPen x M Q = pPen x' M Q := by rw [h]
theorem pFresh_c {x x' : List D} {M : MH} {Q : DQ} (h : x = x') : pFresh x M Q = pFresh x' M Q := by rw [h]
theorem pDraw_c {x x' : List D} {M : MH} {Q : DQ} (h : x = x') : pDraw x M Q = pDraw x' M Q := by rw [h]
theorem rIsi_c {T : Ty} {x x' : D} {M : MH} {Q : DQ} (h : x = x') : rIsi T x M Q = rIsi T x' M Q := by rw [h]
theorem newD_c {o o' : MO} {M : MH} {Q : DQ} (h : o = o') : newD M o Q = newD M o' Q := by rw [h]
theorem br_c {b b' : Bool} {A B : Prop} (h : b = b') : br b A B = br b' A B := by rw [h]
theorem asI_c {x x' : D} {B : Int → Prop} (h : x = x') : asI x B = asI x' B := by rw [h]
theorem as1_c {x x' : List D} {B : D → Prop} (h : x = x') : as1 x B = as1 x' B := by rw [h]
theorem as2_c {x x' : List D} {B : D → D → Prop} (h : x = x') : as2 x B = as2 x' B := by rw [h]
theorem isB_c {x x' : D} {B : Bool → Prop} (h : x = x') : isB x B = isB x' B := by rw [h]
theorem rSl_c {x x' : D} {i j : Option Int} {M : MH} {Q : DQ} (h : x = x') : rSl x i j M Q = rSl x' i j M Q := by rw [h]
theorem rSetL_c {o o' i i' v v' : D} {M : MH} {Q : MH → Prop} (h : o = o') (h1 : i = i') (h2 : v = v') : rSetL o i v M Q = rSetL o' i' v' M Q := by rw [h, h1, h2]
theorem loopD_c {G : MH → Prop} {g : Tg} {t : DS} {xs xs' : List D} {E : DEnds} {ρ ρ' : DSt} {M : MH} (h : xs = xs') (h' : ρ = ρ') : loopD G g t xs E ρ M = loopD G g t xs' E ρ' M := by rw [h, h']
theorem compD_c {G : MH → Prop} {g : Tg} {T : DT} {a : DE} {xs xs' : List D} {ρ ρ' : DSt} {M : MH} {Q : DQ} (h : xs = xs') (h' : ρ = ρ') : compD G g T a ρ xs M Q = compD G g T a ρ' xs' M Q := by rw [h, h']
theorem mAppend_c {x x' : D} {ds ds' : List D} {M : MH} {Q : DQ} (h : x = x') (h' : ds = ds') : mAppend x ds M Q = mAppend x' ds' M Q := by rw [h, h']
theorem WkM_c {P : MH → Prop} {M : MH} : WkM P M = WkM P M := rfl
/-! ### == of plain data -/
mutual
theorem plain_py : ∀ d : D, d.plain = true → d.py.plain = true
  | .non, _ | .bl _, _ | .int _, _ | .str _, _ => rfl
  | .tup l, h => plains_py l h
  | .lis l, h => plains_py l h
  | .ref _, h => nomatch h
theorem plains_py : ∀ l : List D, D.plains l = true → PyData.plainAll (D.pys l) = true
  | [], _ => rfl
  | x :: r, h => by
    have h' : (x.plain && D.plains r) = true := h
    rw [Bool.and_eq_true] at h'
    rw [D.pys, PyData.plainAll, plain_py x h'.1, plains_py r h'.2]; rfl
end
theorem rEq_of {x y : D} {M : MH} {Q : DQ} (hx : x.plain = true) (hy : y.plain = true) (nx : x.py.depth ≤ 60) (q : Q (.bl (PyData.eqv x.py y.py)) M) : rEq x y M Q :=
  ⟨_, _, .py M x hx, .py M y hy, plain_py x hx, plain_py y hy, nx, q⟩
theorem rNe_of {x y : D} {M : MH} {Q : DQ} (hx : x.plain = true) (hy : y.plain = true) (nx : x.py.depth ≤ 60) (q : Q (.bl (!PyData.eqv x.py y.py)) M) : rNe x y M Q :=
  ⟨_, _, .py M x hx, .py M y hy, plain_py x hx, plain_py y hy, nx, q⟩
theorem plain_ints : ∀ ns : List Int, D.plains (ns.map D.int) = true
  | [] => rfl
  | _ :: r => by rw [List.map_cons, D.plains, plain_ints r]; rfl
theorem dep_ints : ∀ ns : List Int, PyData.depthAll (D.pys (ns.map D.int)) = 0
  | [] => rfl
  | _ :: r => by rw [List.map_cons, D.pys, PyData.depthAll, dep_ints r]; rfl
/-- xs != [] of a list of ints -/
theorem rNe_nil {M : MH} {Q : DQ} {a b : Addr} {ns : List Int} (ha : M a = some (.lst (ns.map D.int))) (hb : M b = some (.lst [])) (q : Q (.bl (!ns.isEmpty)) M) : rNe (.ref a) (.ref b) M Q := by
  refine ⟨_, _, .lst ha (.pys M _ (plain_ints ns)), .lst hb .nil, plains_py _ (plain_ints ns), rfl, ?_, ?_⟩
  · rw [PyData.depth, dep_ints]; decide
  · cases ns with
    | nil => exact q
    | cons _ _ => exact q
/-! ### items of lists that stand -/
theorem item_ref {M : MH} {p : Addr} {l : List D} {a : Int} {d : D} {Q : DQ} (hm : M p = some (.lst l)) (j : Nat) (hj : ixD l.length a = some j) (hd : l[j]? = some d) (q : Q d M) : rItem (.ref p) (.int a) M Q := rItem_ref hm hj hd q
theorem rItem_at {M : MH} {p : Addr} {l : List D} {a : Int} {Q : DQ} (hm : M p = some (.lst l)) : rItem (.ref p) (.int a) M Q ↔ itemQ l a M Q := by
  constructor
  · rintro (⟨l', i, j, d, h1, h2, h3, h4, q⟩ | ⟨b, m, k, d, h, h1, h2, _⟩)
    · cases h2
      rcases h1 with h1 | h1 | ⟨b, h1, h5⟩
      · cases h1
      · cases h1
      · cases h1; rw [hm] at h5; cases h5; exact ⟨j, d, h3, h4, q⟩
    · cases h; rcases h2 with h2 | h2 <;> (rw [hm] at h2; cases h2)
  · rintro ⟨j, d, h1, h2, q⟩
    exact rItem_ref hm h1 h2 q
/-- the list behind a store -/
def setQ (l : List D) (a : Int) (v : D) (Q : List D → Prop) : Prop := ∃ j, ixD l.length a = some j ∧ Q (l.set j v)
theorem setQ_nat {l : List D} {j : Nat} {v : D} {Q : List D → Prop} (h : j < l.length) : setQ l (j : Int) v Q ↔ Q (l.set j v) := by
  unfold setQ
  rw [ixD_nat h]
  simp
@[simp] theorem setQ_0 {x v : D} {l : List D} {Q : List D → Prop} : setQ (x :: l) 0 v Q ↔ Q (v :: l) := setQ_nat (j := 0) (by simp)
@[simp] theorem setQ_1 {x y v : D} {l : List D} {Q : List D → Prop} : setQ (x :: y :: l) 1 v Q ↔ Q (x :: v :: l) := setQ_nat (j := 1) (by simp)
@[simp] theorem setQ_2 {x y z v : D} {l : List D} {Q : List D → Prop} : setQ (x :: y :: z :: l) 2 v Q ↔ Q (x :: y :: v :: l) := setQ_nat (j := 2) (by simp)
theorem setQ_c {l l' : List D} {a a' : Int} {v v' : D} {Q : List D → Prop} (h : l = l') (h' : a = a') (h2 : v = v') : setQ l a v Q = setQ l' a' v' Q := by rw [h, h', h2]
theorem rSetL_at {M : MH} {p : Addr} {l : List D} {a : Int} {v : D} {Q : MH → Prop} (hm : M p = some (.lst l)) : rSetL (.ref p) (.int a) v M Q ↔ setQ l a v fun l' => Q (up M p (.lst l')) := by
  constructor
  · rintro ⟨b, l', k, j, h1, h2, h3, h4, q⟩
    cases h1; cases h2; rw [hm] at h3; cases h3; exact ⟨j, h4, q⟩
  · rintro ⟨j, h1, q⟩
    exact ⟨p, l, a, j, rfl, rfl, hm, h1, q⟩
theorem cLenS_at {M : MH} {p : Addr} {l : List D} {Q : DQ} (hm : M p = some (.lst l)) : cLenS [.ref p] M Q ↔ Q (.int l.length) M := by
  constructor
  · rintro ⟨x, l', e, h, q⟩
    cases e
    rcases h with h | h | ⟨b, h, h'⟩
    · cases h
    · cases h
    · cases h; rw [hm] at h'; cases h'; exact q
  · intro q; exact ⟨_, l, rfl, .inr (.inr ⟨p, rfl, hm⟩), q⟩
theorem cTuple_at {M : MH} {p : Addr} {l : List D} {Q : DQ} (hm : M p = some (.lst l)) : cTuple [.ref p] M Q ↔ Q (.tup l) M := by
  constructor
  · rintro ⟨x, l', e, h, q⟩
    cases e
    rcases h with h | h | ⟨b, h, h'⟩
    · cases h
    · cases h
    · cases h; rw [hm] at h'; cases h'; exact q
  · intro q; exact ⟨_, l, rfl, .inr (.inr ⟨p, rfl, hm⟩), q⟩
@[simp] theorem cLenS_tup {M : MH} {l : List D} {Q : DQ} : cLenS [.tup l] M Q ↔ Q (.int l.length) M := by
  constructor
  · rintro ⟨x, l', e, h, q⟩
    cases e
    rcases h with h | h | ⟨b, h, h'⟩
    · cases h; exact q
    · cases h
    · cases h
  · intro q; exact ⟨_, l, rfl, .inl rfl, q⟩
@[simp] theorem cLenS_lis {M : MH} {l : List D} {Q : DQ} : cLenS [.lis l] M Q ↔ Q (.int l.length) M := by
  constructor
  · rintro ⟨x, l', e, h, q⟩
    cases e
    rcases h with h | h | ⟨b, h, h'⟩
    · cases h
    · cases h; exact q
    · cases h
  · intro q; exact ⟨_, l, rfl, .inr (.inl rfl), q⟩
theorem mAppend_at {M : MH} {p : Addr} {l : List D} {d : D} {Q : DQ} (hm : M p = some (.lst l)) : mAppend (.ref p) [d] M Q ↔ l.length < sizeLine ∧ Q .non (up M p (.lst (l ++ [d]))) := by
  constructor
  · rintro ⟨b, l', d', h1, h2, h3, h4, q⟩
    cases h1; cases h2; rw [hm] at h3; cases h3; exact ⟨h4, q⟩
  · rintro ⟨h, q⟩
    exact ⟨p, l, d, rfl, rfl, hm, h, q⟩
theorem isLst_at {M : MH} {p : Addr} {l : List D} (hm : M p = some (.lst l)) : isLst M (.ref p) ↔ True := iff_true_intro ⟨p, l, rfl, hm⟩
section
variable {M : MH} {p : Addr} {l : List D} {a : Int} {d v : D} {Q : DQ} {Z : MH → Prop}
@[simp] theorem rItem_up : rItem (.ref p) (.int a) (up M p (.lst l)) Q ↔ itemQ l a (up M p (.lst l)) Q := rItem_at up_same
@[simp] theorem rSetL_up : rSetL (.ref p) (.int a) v (up M p (.lst l)) Z ↔ setQ l a v fun l' => Z (up M p (.lst l')) := by rw [rSetL_at up_same]; simp
@[simp] theorem cLenS_up : cLenS [.ref p] (up M p (.lst l)) Q ↔ Q (.int l.length) (up M p (.lst l)) := cLenS_at up_same
@[simp] theorem cTuple_up : cTuple [.ref p] (up M p (.lst l)) Q ↔ Q (.tup l) (up M p (.lst l)) := cTuple_at up_same
@[simp] theorem mAppend_up : mAppend (.ref p) [d] (up M p (.lst l)) Q ↔ l.length < sizeLine ∧ Q .non (up M p (.lst (l ++ [d]))) := by rw [mAppend_at up_same]; simp
@[simp] theorem isLst_up : isLst (up M p (.lst l)) (.ref p) ↔ True := isLst_at up_same
end
theorem newD_of {M : MH} {o : MO} {Q : DQ} (h : ∀ p, M p = none → Q (.ref p) (up M p o)) : newD M o Q := h
/-- what simp must not look into -/
theorem stop1 {α : Sort _} {Q : α → Prop} {t : Later Q} {a : α} (h : Q a) : stop Q t a := h
theorem stop2 {α β : Sort _} {Q : α → β → Prop} {t : Later Q} {a : α} {b : β} (h : Q a b) : stop Q t a b := h
theorem wk {P : DSt → MH → Prop} {t : Later P} {ρ : DSt} {M : MH} (h : P ρ M) : Wk (stop P t) ρ M := .of h
theorem wkM {P : MH → Prop} {t : Later P} {M : MH} (h : P M) : WkM (stop P t) M := .of h
theorem wk' {P : DSt → MH → Prop} {t : Later P} {ρ ρ' : DSt} {M M' : MH} (h : P ρ' M') (l : Less ρ' ρ) (s : Sub M' M) : Wk (stop P t) ρ M := ⟨ρ', M', l, s, h⟩
theorem wkM' {P : MH → Prop} {t : Later P} {M M' : MH} (h : P M') (s : Sub M' M) : WkM (stop P t) M := ⟨M', s, h⟩
theorem Wk_c {P : DSt → MH → Prop} {ρ ρ' : DSt} {M M' : MH} (h : ρ = ρ') (h' : M = M') : Wk P ρ M = Wk P ρ' M' := by rw [h, h']
/-! ### loops -/
theorem rangeD_ln : ∀ (k : Nat) (lo : Int), (rangeD lo k).length = k
  | 0, _ => rfl
  | k + 1, lo => by rw [rangeD, List.length_cons, rangeD_ln k]
theorem rangeD_gt : ∀ (k : Nat) (lo : Int) (i : Nat), i < k → (rangeD lo k)[i]? = some (.int (lo + i))
  | 0, _, _, h => by omega
  | k + 1, lo, 0, _ => by simp [rangeD]
  | k + 1, lo, i + 1, h => by
    rw [rangeD, List.getElem?_cons_succ, rangeD_gt k (lo + 1) i (by omega)]
    congr 2
    push_cast
    omega
/-- over range(n) -/
theorem loop_range {n : Nat} {lo : Int} {g : Nat} {tb : DS} {E : DEnds} {ρ : DSt} {M : MH} (I : Nat → DSt → MH → Prop) (i0 : I 0 ρ M)
    (turn : ∀ (i : Nat) ρ M, i < n → I i ρ M → tb { E with nx := Wk (stop (I (i + 1)) ⟨⟩), ct := Wk (stop (I (i + 1)) ⟨⟩), bk := E.nx } (ρ.set g (some (.int (lo + i)))) M) (last : ∀ ρ M, I n ρ M → E.nx ρ M) : loopD (fun _ => True) (.nm g) tb (rangeD lo n) E ρ M := by
  refine ⟨I, i0, fun i x ρ M e q => ?_, fun ρ M q => ⟨trivial, last ρ M (by rw [rangeD_ln] at q; exact q)⟩⟩
  have hl := (List.getElem?_eq_some_iff.mp e).1
  rw [rangeD_ln] at hl
  rw [rangeD_gt _ _ _ hl] at e
  cases e
  rw [store_nm]
  exact ⟨trivial, turn i ρ M hl q⟩
/-- the loop carries nothing from turn to turn but what stands -/
theorem comp_range {n : Nat} {lo : Int} {g : Nat} {tt : DT} {te : DE} {ρ : DSt} {M : MH} {Q : DQ} (I : Nat → List D → MH → Prop) (i0 : I 0 [] M)
    (turn : ∀ (i : Nat) acc M, i < n → I i acc M → tt (ρ.set g (some (.int (lo + i)))) M fun b M1 => br b (te (ρ.set g (some (.int (lo + i)))) M1 fun y M2 => WkM (stop (I (i + 1) (acc ++ [y])) ⟨⟩) M2) (WkM (stop (I (i + 1) acc) ⟨⟩) M1))
    (last : ∀ acc M, I n acc M → newD M (.lst acc) Q) : compD (fun _ => True) (.nm g) tt te ρ (rangeD lo n) M Q := by
  refine ⟨I, i0, fun i x acc M e _ q => ?_, fun acc M q => ⟨trivial, last acc M (by rw [rangeD_ln] at q; exact q)⟩⟩
  have hl := (List.getElem?_eq_some_iff.mp e).1
  rw [rangeD_ln] at hl
  rw [rangeD_gt _ _ _ hl] at e
  cases e
  rw [store_nm]
  exact ⟨trivial, turn i acc M hl q⟩

end DL

/-! DL: more evaluation. Plain Lean. -/
namespace DL
open PySem L2
section
variable {M : MH} {Q : DQ} {a b : Int} {x y : Str} {k l : Bool} {p : PyData}
@[simp] theorem sees_int : Sees M (.int a) p ↔ p = .int a := ⟨fun h => by cases h; rfl, fun h => h ▸ .int a⟩
@[simp] theorem sees_bl : Sees M (.bl k) p ↔ p = .bool k := ⟨fun h => by cases h; rfl, fun h => h ▸ .bl k⟩
@[simp] theorem sees_str : Sees M (.str x) p ↔ p = .str x := ⟨fun h => by cases h; rfl, fun h => h ▸ .str x⟩
@[simp] theorem sees_non : Sees M .non p ↔ p = .none := ⟨fun h => by cases h; rfl, fun h => h ▸ .non⟩
@[simp] theorem eq_int : rEq (.int a) (.int b) M Q ↔ Q (.bl (decide (a = b))) M := by
  constructor
  · rintro ⟨p, q, h1, h2, _, _, _, h⟩
    rw [sees_int] at h1 h2; subst h1; subst h2
    simpa [PyData.eqv, Bool.beq_eq_decide_eq] using h
  · intro q
    refine rEq_of rfl rfl (by simp [D.py, PyData.depth]) ?_
    simpa [D.py, PyData.eqv, Bool.beq_eq_decide_eq] using q
@[simp] theorem eq_bl : rEq (.bl k) (.bl l) M Q ↔ Q (.bl (k == l)) M := by
  constructor
  · rintro ⟨p, q, h1, h2, _, _, _, h⟩
    rw [sees_bl] at h1 h2; subst h1; subst h2
    simpa [PyData.eqv, Bool.beq_eq_decide_eq] using h
  · intro q
    refine rEq_of rfl rfl (by simp [D.py, PyData.depth]) ?_
    simpa [D.py, PyData.eqv, Bool.beq_eq_decide_eq] using q
@[simp] theorem eq_str : rEq (.str x) (.str y) M Q ↔ Q (.bl (x == y)) M := by
  constructor
  · rintro ⟨p, q, h1, h2, _, _, _, h⟩
    rw [sees_str] at h1 h2; subst h1; subst h2
    simpa [PyData.eqv, Bool.beq_eq_decide_eq] using h
  · intro q
    refine rEq_of rfl rfl (by simp [D.py, PyData.depth]) ?_
    simpa [D.py, PyData.eqv, Bool.beq_eq_decide_eq] using q
@[simp] theorem ne_int : rNe (.int a) (.int b) M Q ↔ Q (.bl (!(decide (a = b)))) M := by
  constructor
  · rintro ⟨p, q, h1, h2, _, _, _, h⟩
    rw [sees_int] at h1 h2; subst h1; subst h2
    simpa [PyData.eqv, Bool.beq_eq_decide_eq] using h
  · intro q
    refine rNe_of rfl rfl (by simp [D.py, PyData.depth]) ?_
    simpa [D.py, PyData.eqv, Bool.beq_eq_decide_eq] using q
@[simp] theorem ne_bl : rNe (.bl k) (.bl l) M Q ↔ Q (.bl (!(k == l))) M := by
  constructor
  · rintro ⟨p, q, h1, h2, _, _, _, h⟩
    rw [sees_bl] at h1 h2; subst h1; subst h2
    simpa [PyData.eqv, Bool.beq_eq_decide_eq] using h
  · intro q
    refine rNe_of rfl rfl (by simp [D.py, PyData.depth]) ?_
    simpa [D.py, PyData.eqv, Bool.beq_eq_decide_eq] using q
@[simp] theorem ne_str : rNe (.str x) (.str y) M Q ↔ Q (.bl (!(x == y))) M := by
  constructor
  · rintro ⟨p, q, h1, h2, _, _, _, h⟩
    rw [sees_str] at h1 h2; subst h1; subst h2
    simpa [PyData.eqv, Bool.beq_eq_decide_eq] using h
  · intro q
    refine rNe_of rfl rfl (by simp [D.py, PyData.depth]) ?_
    simpa [D.py, PyData.eqv, Bool.beq_eq_decide_eq] using q
end
/-! ### repr of plain data -/
mutual
/-- what repr takes -/
def D.rok : D → Bool
  | .int i => decide (i.natAbs.log2 < 1920)
  | .str x => PyData.strOk x
  | .tup l | .lis l => D.roks l
  | .ref _ => false
  | _ => true
def D.roks : List D → Bool
  | [] => true
  | x :: r => x.rok && D.roks r
end
mutual
def D.wt : D → Nat
  | .str x => x.length + 1
  | .tup l | .lis l => D.wts l + 1
  | _ => 1
def D.wts : List D → Nat
  | [] => 0
  | x :: r => x.wt + D.wts r
end
theorem strOk_lt {x : Str} (h : PyData.strOk x = true) : ∀ c ∈ x.cps.toList, c < 16 ^ 8 := by
  have h0 : x.cps.all (· < 0x110000) = true := by simpa only [PyData.strOk] using h
  intro c hcm
  have := (Array.all_eq_true_iff_forall_mem.mp h0) c (Array.mem_toList_iff.mp hcm)
  have h1 : c < 0x110000 := by simpa using this
  exact Nat.lt_trans h1 (by decide)
mutual
theorem rok_all : ∀ d : D, d.rok = true → d.plain = true ∧ d.py.showable = true ∧ d.py.hasDict = false ∧ d.py.shown.length + 2 ≤ 1930 * d.wt
  | .non, _ => ⟨rfl, rfl, rfl, by decide⟩
  | .bl b, _ => ⟨rfl, rfl, rfl, by cases b <;> decide⟩
  | .int i, h => ⟨rfl, h, rfl, by
      have := PyProof.Rows.int_text_len_1921 (of_decide_eq_true h)
      show (Str.ofString (toString i)).length + 2 ≤ 1930 * 1
      omega⟩
  | .str x, h => ⟨rfl, rfl, rfl, by
      have := StrLaws.reprText_len x (strOk_lt h)
      show (reprText x).length + 2 ≤ 1930 * (x.length + 1)
      omega⟩
  | .tup l, h => by
    obtain ⟨a, b, c, e⟩ := roks_all l h
    refine ⟨a, b, c, ?_⟩
    have := tupleText_len_le (PyData.shownAll (D.pys l))
    rw [PyData.shownAll_length] at this
    show (tupleText (PyData.shownAll (D.pys l))).length + 2 ≤ 1930 * (D.wts l + 1)
    omega
  | .lis l, h => by
    obtain ⟨a, b, c, e⟩ := roks_all l h
    refine ⟨a, b, c, ?_⟩
    have := listText_len_le (PyData.shownAll (D.pys l))
    rw [PyData.shownAll_length] at this
    show (listText (PyData.shownAll (D.pys l))).length + 2 ≤ 1930 * (D.wts l + 1)
    omega
  | .ref _, h => nomatch h
theorem roks_all : ∀ l : List D, D.roks l = true → D.plains l = true ∧ PyData.showableAll (D.pys l) = true ∧ PyData.hasDictAll (D.pys l) = false ∧ ((PyData.shownAll (D.pys l)).map (·.length)).sum + 2 * (D.pys l).length ≤ 1930 * D.wts l
  | [], _ => ⟨rfl, rfl, rfl, by decide⟩
  | x :: r, h => by
    have h' : (x.rok && D.roks r) = true := h
    rw [Bool.and_eq_true] at h'
    obtain ⟨a, b, c, e⟩ := rok_all x h'.1
    obtain ⟨a', b', c', e'⟩ := roks_all r h'.2
    refine ⟨by rw [D.plains, a, a']; rfl, by rw [D.pys, PyData.showableAll, b, b']; rfl, by rw [D.pys, PyData.hasDictAll, c, c']; rfl, ?_⟩
    simp only [D.pys, PyData.shownAll, D.wts, List.map_cons, List.sum_cons, List.length_cons]
    omega
end
theorem cRepr_of {d : D} {M : MH} {Q : DQ} (h : d.rok = true) (w : d.wt ≤ 8000) (k : d.py.depth ≤ 60) (q : Q (.str d.py.shown) M) : cRepr [d] M Q := by
  obtain ⟨a, b, c, e⟩ := rok_all d h
  exact ⟨d, d.py, rfl, .py M d a, b, c, by rw [sizeLine_eq]; omega, k, q⟩
/-! ### draws -/
def Wide (n : Int) : Prop := 0 < n ∧ n < 2 ^ 400
@[simp] theorem wide_of {n : Int} (h : 0 < n ∧ n < 2 ^ 200) : Wide n ↔ True := iff_true_intro ⟨h.1, Int.lt_trans h.2 (by exact of_decide_eq_true rfl)⟩
theorem draw_at {M : MH} {p : Addr} {many : Int} {Q : DQ} (hp : Pen M p) : pDraw [.ref p, .int many] M Q ↔ Wide many ∧ ∀ (d : Int) M', 0 ≤ d → d < many → PenTo M M' p → Q (.int d) M' := by
  constructor
  · rintro ⟨p', m', e, h1, h2, h3, k⟩
    cases e; exact ⟨⟨h1, h2⟩, k⟩
  · rintro ⟨⟨h1, h2⟩, k⟩
    exact ⟨p, many, rfl, h1, h2, hp, k⟩
theorem PenTo.self {M : MH} {p : Addr} (h : Pen M p) : PenTo M M p := ⟨h.elim fun q h => ⟨q, h, h⟩, fun _ _ _ e => e⟩
theorem PenTo.new {M : MH} {p b : Addr} {o : MO} (h : Pen M p) (n : M b = none) : PenTo M (DL.up M b o) p := (PenTo.self h).up n
theorem Pen.ne {M : MH} {p b : Addr} (h : Pen M p) (n : M b = none) : b ≠ p := by
  obtain ⟨_, _, _, _, h, _⟩ := h
  exact (ne_free h n).symm
theorem PenTo.nx {M M1 M2 : MH} {p : Addr} (a : PenTo M M1 p) (b : PenTo M1 M2 p) : PenTo M M2 p := a.trans b
/-- the list of the items, as a value's -/
theorem PenTo.sub {M M' : MH} {p a : Addr} {o : MO} (h : PenTo M M' p) (n : a ≠ p) (e : M a = some o) : M' a = some o := h.2 a o n e
/-- the promise of a law: a list of ints, nobody writes to it; True comes out -/
def spLaw (n : Nat) : SpD := fun ds M Q => ∃ ns : List Int, ds = [.lis (ns.map D.int)] ∧ ns.length ≤ n ∧ ∀ M', Q (.bl true) M'
/-! ### types -/
section
variable {M : MH} {Q : DQ} {T : Ty} {i : Int} {b : Bool} {x : Str} {l : List D} {p : Addr}
theorem isi_of {d : D} (h : ∀ a, d ≠ .ref a) : rIsi T d M Q ↔ Q (.bl (isTy T d)) M := by
  constructor
  · rintro (⟨_, q⟩ | ⟨a, _, e, _⟩ | ⟨a, _, e, _⟩)
    · exact q
    · exact absurd e (h a)
    · exact absurd e (h a)
  · intro q; exact .inl ⟨h, q⟩
@[simp] theorem isi_int : rIsi T (.int i) M Q ↔ Q (.bl (isTy T (.int i))) M := isi_of (by simp)
@[simp] theorem isi_bl : rIsi T (.bl b) M Q ↔ Q (.bl (isTy T (.bl b))) M := isi_of (by simp)
@[simp] theorem isi_str : rIsi T (.str x) M Q ↔ Q (.bl (isTy T (.str x))) M := isi_of (by simp)
@[simp] theorem isi_non : rIsi T .non M Q ↔ Q (.bl (isTy T .non)) M := isi_of (by simp)
@[simp] theorem isi_tup : rIsi T (.tup l) M Q ↔ Q (.bl (isTy T (.tup l))) M := isi_of (by simp)
@[simp] theorem isi_lis : rIsi T (.lis l) M Q ↔ Q (.bl (isTy T (.lis l))) M := isi_of (by simp)
theorem isi_lst (h : M p = some (.lst l)) : rIsi T (.ref p) M Q ↔ Q (.bl (match T with | .list => true | _ => false)) M := by
  constructor
  · rintro (⟨n, _⟩ | ⟨a, _, e, _, q⟩ | ⟨a, _, e, h', q⟩)
    · exact absurd rfl (n p)
    · exact q
    · cases e; rw [h] at h'; cases h'
  · intro q; exact .inr (.inl ⟨p, l, rfl, h, q⟩)
@[simp] theorem isTy1 : isTy .bool (.bl b) = true := rfl
@[simp] theorem isTy2 : isTy .int (.int i) = true := rfl
@[simp] theorem isTy3 : isTy .bool (.int i) = false := rfl
@[simp] theorem isTy4 : isTy .int (.bl b) = true := rfl
@[simp] theorem isTy5 : isTy .tuple (.tup l) = true := rfl
@[simp] theorem isTy6 : isTy .str (.str x) = true := rfl
@[simp] theorem isTy7 : isTy .int .non = false := rfl
@[simp] theorem isTy8 : isTy .int (.tup l) = false := rfl
@[simp] theorem isTy9 : isTy .tuple .non = false := rfl
@[simp] theorem isTy10 : isTy .str .non = false := rfl
@[simp] theorem isTy11 : isTy .list (.tup l) = false := rfl
@[simp] theorem isTy12 : isTy .list .non = false := rfl
end
theorem pen_at {M : MH} {ns : List Int} {Q : DQ} : pPen [.lis (ns.map D.int)] M Q ↔ ∀ p M', Pen M' p → Q (.ref p) M' := by
  constructor
  · rintro ⟨_, _, h⟩; exact h
  · intro h; exact ⟨ns, rfl, h⟩
/-! ### forgetting slots -/
theorem Less.nil : Less [] [] := .rfl
theorem Less.no {ρ' ρ : DSt} {x : Option D} (h : Less ρ' ρ) : Less (none :: ρ') (x :: ρ) := ⟨by simp [h.1], fun i d e => by
  cases i with
  | zero => simp at e
  | succ i => simpa using h.2 i d (by simpa using e)⟩
theorem Less.eq {ρ' ρ : DSt} {x : Option D} (h : Less ρ' ρ) : Less (x :: ρ') (x :: ρ) := ⟨by simp [h.1], fun i d e => by
  cases i with
  | zero => simpa using e
  | succ i => simpa using h.2 i d (by simpa using e)⟩
/-- .. as one looks through them -/
def lessP : DSt → DSt → Prop
  | none :: a, _ :: b => lessP a b
  | some x :: a, y :: b => some x = y ∧ lessP a b
  | [], [] => True
  | _, _ => False
theorem less_of : ∀ {a b : DSt}, lessP a b → Less a b
  | [], [], _ => .nil
  | none :: a, y :: b, h => .no (less_of (a := a) (b := b) h)
  | some x :: a, y :: b, h => by
    obtain ⟨e, h⟩ := h
    subst e
    exact .eq (less_of h)
  | [], _ :: _, h => h.elim
  | some _ :: _, [], h => h.elim
  | none :: _, [], h => h.elim
theorem wkL {P : DSt → MH → Prop} {t : Later P} {ρ : DSt} {M : MH} (ρ' : DSt) (h : P ρ' M) (l : lessP ρ' ρ) : Wk (stop P t) ρ M := wk' h (less_of l) .rfl
/-! ### lists of numbers as values -/
theorem list_at {M : MH} {a : Addr} {l : List D} {Q : DQ} (h : M a = some (.lst l)) : cList [.ref a] M Q ↔ newD M (.lst l) Q := by
  constructor
  · rintro ⟨x, m, e, h', q⟩
    cases e
    rcases h' with h' | h' | ⟨b, h', h''⟩
    · cases h'
    · cases h'
    · cases h'; rw [h] at h''; cases h''; exact q
  · intro q; exact ⟨_, l, rfl, .inr (.inr ⟨a, rfl, h⟩), q⟩
@[simp] theorem list_tup {M : MH} {l : List D} {Q : DQ} : cList [.tup l] M Q ↔ newD M (.lst l) Q := by
  constructor
  · rintro ⟨x, m, e, h', q⟩
    cases e
    rcases h' with h' | h' | ⟨b, h', h''⟩
    · cases h'; exact q
    · cases h'
    · cases h'
  · intro q; exact ⟨_, l, rfl, .inl rfl, q⟩
@[simp] theorem tuple_tup {M : MH} {l : List D} {Q : DQ} : cTuple [.tup l] M Q ↔ Q (.tup l) M := by
  constructor
  · rintro ⟨x, m, e, h', q⟩
    cases e
    rcases h' with h' | h' | ⟨b, h', h''⟩
    · cases h'; exact q
    · cases h'
    · cases h'
  · intro q; exact ⟨_, l, rfl, .inl rfl, q⟩
/-! ### what loops walk -/
def seqI (x : D) (M : MH) (R : List D → (MH → Prop) → MH → Prop) : Prop := (∃ l, (x = .tup l ∨ x = .lis l) ∧ R l (fun _ => True) M) ∨ (∃ p l, x = .ref p ∧ M p = some (.lst l) ∧ R l (fun M => M p = some (.lst l)) M)
section
variable {M : MH} {l : List D} {p : Addr} {R : List D → (MH → Prop) → MH → Prop} {ρ : DSt} {a : DE}
@[simp ↓] theorem iSeq_ : iSeq a ρ M R ↔ a ρ M (hold (fun x M1 => seqI x M1 R) ⟨⟩) := Iff.rfl
theorem seqI_c {x x' : D} (h : x = x') : seqI x M R = seqI x' M R := by rw [h]
@[simp ↓] theorem seqI_tup : seqI (.tup l) M R ↔ R l (fun _ => True) M := by
  constructor
  · rintro (⟨_, e | e, q⟩ | ⟨_, _, e, _⟩)
    · cases e; exact q
    · cases e
    · cases e
  · intro q; exact .inl ⟨l, .inl rfl, q⟩
@[simp ↓] theorem seqI_lis : seqI (.lis l) M R ↔ R l (fun _ => True) M := by
  constructor
  · rintro (⟨_, e | e, q⟩ | ⟨_, _, e, _⟩)
    · cases e
    · cases e; exact q
    · cases e
  · intro q; exact .inl ⟨l, .inr rfl, q⟩
theorem seqI_at (h : M p = some (.lst l)) : seqI (.ref p) M R ↔ R l (fun M => M p = some (.lst l)) M := by
  constructor
  · rintro (⟨_, e | e, q⟩ | ⟨_, _, e, h', q⟩)
    · cases e
    · cases e
    · cases e; rw [h] at h'; cases h'; exact q
  · intro q; exact .inr ⟨p, l, rfl, h, q⟩
@[simp ↓] theorem seqI_up : seqI (.ref p) (up M p (.lst l)) R ↔ R l (fun M => M p = some (.lst l)) (up M p (.lst l)) := seqI_at up_same
end
/-- over a list, place by place -/
theorem loop_list {xs : List D} {G : MH → Prop} {g : Tg} {tb : DS} {E : DEnds} {ρ : DSt} {M : MH} (I : Nat → DSt → MH → Prop) (i0 : I 0 ρ M)
    (turn : ∀ (i : Nat) x ρ M, xs[i]? = some x → I i ρ M → G M ∧ g.store M x ρ fun ρ1 => tb { E with nx := Wk (stop (I (i + 1)) ⟨⟩), ct := Wk (stop (I (i + 1)) ⟨⟩), bk := E.nx } ρ1 M) (last : ∀ ρ M, I xs.length ρ M → G M ∧ E.nx ρ M) : loopD G g tb xs E ρ M :=
  ⟨I, i0, turn, last⟩
/-- a comprehension that leaves the store -/
theorem comp_map {xs : List D} {G : MH → Prop} {g : Tg} {tt : DT} {te : DE} {ρ : DSt} {M : MH} {Q : DQ} (f : D → Option D)
    (turn : ∀ x, x ∈ xs → G M ∧ g.store M x ρ fun ρ1 => tt ρ1 M fun b M1 => br b (te ρ1 M1 fun y M2 => stop (fun y M2 => f x = some y ∧ Sub M M2) ⟨⟩ y M2) (stop (f x = none ∧ Sub M M1) ⟨⟩))
    (gl : G M) (last : newD M (.lst (xs.filterMap f)) Q) : compD G g tt te ρ xs M Q := by
  refine ⟨fun i acc M' => M' = M ∧ acc = (xs.take i).filterMap f, ⟨rfl, rfl⟩, fun i x acc M' e _ q => ?_, fun acc M' q => ?_⟩
  · obtain ⟨rfl, rfl⟩ := q
    have hl := (List.getElem?_eq_some_iff.mp e).1
    have he : x ∈ xs := List.mem_of_getElem? e
    have tk : xs.take (i + 1) = xs.take i ++ [x] := by
      rw [List.take_add_one, e]; rfl
    obtain ⟨h1, h2⟩ := turn x he
    refine ⟨h1, ?_⟩
    have key : (fun ρ1 => tt ρ1 M' fun b M1 => br b (te ρ1 M1 fun y M2 => stop (fun y M2 => f x = some y ∧ Sub M' M2) ⟨⟩ y M2) (stop (f x = none ∧ Sub M' M1) ⟨⟩)) =
        (fun ρ1 => tt ρ1 M' fun b M1 => br b (te ρ1 M1 fun y M2 => stop (fun y M2 => f x = some y ∧ Sub M' M2) ⟨⟩ y M2) (stop (f x = none ∧ Sub M' M1) ⟨⟩)) := rfl
    have b1 : (fun (y : D) (M2 : MH) => WkM (fun M'' => M'' = M' ∧ (xs.take i).filterMap f ++ [y] = (xs.take (i + 1)).filterMap f) M2) = fun y M2 => f x = some y ∧ Sub M' M2 := by
      funext y M2
      apply propext
      rw [tk, List.filterMap_append]
      constructor
      · rintro ⟨M3, s, rfl, h⟩
        cases hf : f x with
        | none => simp [hf] at h
        | some z => simp [hf] at h; exact ⟨by rw [h], s⟩
      · rintro ⟨h, s⟩
        exact ⟨M', s, rfl, by simp [h]⟩
    have b2 : ∀ M1, WkM (fun M'' => M'' = M' ∧ (xs.take i).filterMap f = (xs.take (i + 1)).filterMap f) M1 = (f x = none ∧ Sub M' M1) := by
      intro M1
      apply propext
      rw [tk, List.filterMap_append]
      constructor
      · rintro ⟨M3, s, rfl, h⟩
        cases hf : f x with
        | none => exact ⟨rfl, s⟩
        | some z => simp [hf] at h
      · rintro ⟨h, s⟩
        exact ⟨M', s, rfl, by simp [h]⟩
    show Tg.store M' g x ρ fun ρ1 => tt ρ1 M' fun b M1 => br b (te ρ1 M1 fun y M2 => WkM (fun M'' => M'' = M' ∧ (xs.take i).filterMap f ++ [y] = (xs.take (i + 1)).filterMap f) M2) (WkM (fun M'' => M'' = M' ∧ (xs.take i).filterMap f = (xs.take (i + 1)).filterMap f) M1)
    simp only [b1, b2]
    exact h2
  · obtain ⟨rfl, rfl⟩ := q
    exact ⟨gl, by rw [List.take_length] ; exact last⟩
/-! ### lists of ints -/
def at_ (t : List Int) (i : Int) : Int := t.getD i.toNat 0
theorem ints_at {t : List Int} {i : Int} {M : MH} {Q : DQ} (h0 : 0 ≤ i) (h1 : i < t.length) : itemQ (t.map D.int) i M Q ↔ Q (.int (at_ t i)) M := by
  have hj : i.toNat < t.length := by omega
  have e : i = ((i.toNat : Nat) : Int) := (Int.toNat_of_nonneg h0).symm
  rw [e, itemQ_nat (d := .int (at_ t i)) (by simp [at_, hj, List.getD])]
  rw [← e]
theorem ints_set {t : List Int} {i v : Int} {R : List D → Prop} (h0 : 0 ≤ i) (h1 : i < t.length) : setQ (t.map D.int) i (.int v) R ↔ R ((t.set i.toNat v).map D.int) := by
  have e : i = ((i.toNat : Nat) : Int) := (Int.toNat_of_nonneg h0).symm
  rw [e, setQ_nat (by simp; omega), List.map_set, ← e]
theorem rok_int {i : Int} (h : i.natAbs < 2 ^ 250) : D.rok (.int i) = true := by
  show decide (i.natAbs.log2 < 1920) = true
  refine decide_eq_true ?_
  by_cases z : i.natAbs = 0
  · rw [z]; decide
  · exact Nat.lt_of_lt_of_le ((Nat.log2_lt z).mpr h) (by decide)
/-- xs == [] of a list of ints -/
theorem rEq_nil {M : MH} {Q : DQ} {a b : Addr} {ns : List Int} (ha : M a = some (.lst (ns.map D.int))) (hb : M b = some (.lst [])) (q : Q (.bl ns.isEmpty) M) : rEq (.ref a) (.ref b) M Q := by
  refine ⟨_, _, .lst ha (.pys M _ (plain_ints ns)), .lst hb .nil, plains_py _ (plain_ints ns), rfl, ?_, ?_⟩
  · rw [PyData.depth, dep_ints]; decide
  · cases ns with
    | nil => exact q
    | cons _ _ => exact q
/-! ### enumerate, zip -/
def enumI (x : D) (M : MH) (R : List D → (MH → Prop) → MH → Prop) : Prop := ∃ l, ((x = .tup l ∨ x = .lis l) ∧ R (enumD 0 l) (fun _ => True) M) ∨ (∃ p, x = .ref p ∧ M p = some (.lst l) ∧ R (enumD 0 l) (fun M => M p = some (.lst l)) M)
section
variable {M : MH} {l m : List D} {p q : Addr} {R : List D → (MH → Prop) → MH → Prop} {ρ : DSt} {A : DA}
@[simp ↓] theorem iEnum_ : iEnum A ρ M R ↔ A ρ M (hold (fun ds M1 => as1 ds (hold (fun x => enumI x M1 R) ⟨⟩)) ⟨⟩) := by
  have : (fun (ds : List D) (M1 : MH) => ∃ x l, ds = [x] ∧ (((x = .tup l ∨ x = .lis l) ∧ R (enumD 0 l) (fun _ => True) M1) ∨ (∃ p, x = .ref p ∧ M1 p = some (.lst l) ∧ R (enumD 0 l) (fun M => M p = some (.lst l)) M1))) =
      fun ds M1 => as1 ds fun x => enumI x M1 R := by
    funext ds M1
    apply propext
    constructor
    · rintro ⟨x, l, e, h⟩; exact ⟨x, e, l, h⟩
    · rintro ⟨x, e, l, h⟩; exact ⟨x, l, e, h⟩
  show A ρ M _ ↔ A ρ M (fun ds M1 => as1 ds fun x => enumI x M1 R)
  rw [← this]
@[simp ↓] theorem enumI_tup : enumI (.tup l) M R ↔ R (enumD 0 l) (fun _ => True) M := by
  constructor
  · rintro ⟨_, ⟨e | e, q⟩ | ⟨_, e, _⟩⟩
    · cases e; exact q
    · cases e
    · cases e
  · intro q; exact ⟨l, .inl ⟨.inl rfl, q⟩⟩
@[simp ↓] theorem enumI_lis : enumI (.lis l) M R ↔ R (enumD 0 l) (fun _ => True) M := by
  constructor
  · rintro ⟨_, ⟨e | e, q⟩ | ⟨_, e, _⟩⟩
    · cases e
    · cases e; exact q
    · cases e
  · intro q; exact ⟨l, .inl ⟨.inr rfl, q⟩⟩
theorem enumI_at (h : M p = some (.lst l)) : enumI (.ref p) M R ↔ R (enumD 0 l) (fun M => M p = some (.lst l)) M := by
  constructor
  · rintro ⟨_, ⟨e | e, q⟩ | ⟨_, e, h', q⟩⟩
    · cases e
    · cases e
    · cases e; rw [h] at h'; cases h'; exact q
  · intro q; exact ⟨l, .inr ⟨p, rfl, h, q⟩⟩
@[simp ↓] theorem enumI_up : enumI (.ref p) (up M p (.lst l)) R ↔ R (enumD 0 l) (fun M => M p = some (.lst l)) (up M p (.lst l)) := enumI_at up_same
@[simp ↓] theorem iZip_ : iZip A ρ M R ↔ A ρ M (hold (fun ds M1 => as2 ds (hold (fun x y => zipI x y M1 R) ⟨⟩)) ⟨⟩) := Iff.rfl
@[simp ↓] theorem zipI_tup : zipI (.tup l) (.tup m) M R ↔ R (zipD l m) (fun _ => True) M := by
  constructor
  · rintro (⟨_, _, e, e', q⟩ | ⟨_, _, _, _, e, _⟩)
    · cases e; cases e'; exact q
    · cases e
  · intro q; exact .inl ⟨l, m, rfl, rfl, q⟩
theorem zipI_at (h : M p = some (.lst l)) (h' : M q = some (.lst m)) : zipI (.ref p) (.ref q) M R ↔ R (zipD l m) (fun M => M p = some (.lst l) ∧ M q = some (.lst m)) M := by
  constructor
  · rintro (⟨_, _, e, _⟩ | ⟨_, _, _, _, e, e', g, g', q⟩)
    · cases e
    · cases e; cases e'; rw [h] at g; cases g; rw [h'] at g'; cases g'; exact q
  · intro z; exact .inr ⟨p, q, l, m, rfl, rfl, h, h', z⟩
@[simp] theorem enumD_nil {k : Int} : enumD k [] = [] := rfl
@[simp] theorem enumD_cons {k : Int} {x : D} : enumD k (x :: l) = .tup [.int k, x] :: enumD (k + 1) l := rfl
theorem enumD_ln : ∀ (l : List D) (k : Int), (enumD k l).length = l.length
  | [], _ => rfl
  | y :: r, k => by rw [enumD, List.length_cons, List.length_cons, enumD_ln r]
theorem enumD_mem {α : Type} {f : α → D} : ∀ {r : List α} {k : Nat} {z : D}, z ∈ enumD k (r.map f) → ∃ (i : Nat) (x : α), r[i]? = some x ∧ z = .tup [.int (k + i : Nat), f x]
  | [], _, _, h => by cases h
  | y :: r, k, z, h => by
    rw [List.map_cons, enumD, List.mem_cons] at h
    rcases h with rfl | h
    · exact ⟨0, y, rfl, rfl⟩
    · obtain ⟨i, x, e, ez⟩ := enumD_mem (r := r) (k := k + 1) (by push_cast; exact h)
      exact ⟨i + 1, x, by simpa using e, by rw [ez]; congr 4; omega⟩
/-- turn by turn, spelled out -/
theorem loopR_cons {G : MH → Prop} {g : Tg} {tb : DS} {x : D} {xs : List D} {E : DEnds} {ρ : DSt} {M : MH} (h : G M ∧ g.store M x ρ fun ρ1 => tb { E with nx := Wk (stop (loopR G g tb xs E) ⟨⟩), ct := Wk (stop (loopR G g tb xs E) ⟨⟩), bk := E.nx } ρ1 M) : loopR G g tb (x :: xs) E ρ M := h
end
/-- a comprehension over mapped items that leaves the store -/
theorem comp_mapT {α : Type} {l : List α} {e : α → D} {xs : List D} {G : MH → Prop} {g : Tg} {tt : DT} {te : DE} {ρ : DSt} {M : MH} {Q : DQ} (f : α → Option D) (hx : xs = l.map e)
    (turn : ∀ x, x ∈ l → G M ∧ g.store M (e x) ρ fun ρ1 => tt ρ1 M fun b M1 => br b (te ρ1 M1 fun y M2 => stop (fun y M2 => f x = some y ∧ Sub M M2) ⟨⟩ y M2) (stop (f x = none ∧ Sub M M1) ⟨⟩))
    (gl : G M) (last : newD M (.lst (l.filterMap f)) Q) : compD G g tt te ρ xs M Q := by
  subst hx
  refine ⟨fun i acc M' => M' = M ∧ acc = (l.take i).filterMap f, ⟨rfl, rfl⟩, fun i x acc M' h _ q => ?_, fun acc M' q => ?_⟩
  · obtain ⟨rfl, rfl⟩ := q
    rw [List.getElem?_map] at h
    cases hl : l[i]? with
    | none => rw [hl] at h; cases h
    | some y =>
      rw [hl] at h
      cases h
      have tk : l.take (i + 1) = l.take i ++ [y] := by
        rw [List.take_add_one, hl]; rfl
      obtain ⟨h1, h2⟩ := turn y (List.mem_of_getElem? hl)
      refine ⟨h1, ?_⟩
      have b1 : (fun (z : D) (M2 : MH) => WkM (fun M'' => M'' = M' ∧ (l.take i).filterMap f ++ [z] = (l.take (i + 1)).filterMap f) M2) = fun z M2 => f y = some z ∧ Sub M' M2 := by
        funext z M2
        apply propext
        rw [tk, List.filterMap_append]
        constructor
        · rintro ⟨M3, s, rfl, h⟩
          cases hf : f y with
          | none => simp [hf] at h
          | some w => simp [hf] at h; exact ⟨by rw [h], s⟩
        · rintro ⟨h, s⟩
          exact ⟨M', s, rfl, by simp [h]⟩
      have b2 : ∀ M1, WkM (fun M'' => M'' = M' ∧ (l.take i).filterMap f = (l.take (i + 1)).filterMap f) M1 = (f y = none ∧ Sub M' M1) := by
        intro M1
        apply propext
        rw [tk, List.filterMap_append]
        constructor
        · rintro ⟨M3, s, rfl, h⟩
          cases hf : f y with
          | none => exact ⟨rfl, s⟩
          | some z => simp [hf] at h
        · rintro ⟨h, s⟩
          exact ⟨M', s, rfl, by simp [h]⟩
      show Tg.store M' g (e y) ρ fun ρ1 => tt ρ1 M' fun b M1 => br b (te ρ1 M1 fun z M2 => WkM (fun M'' => M'' = M' ∧ (l.take i).filterMap f ++ [z] = (l.take (i + 1)).filterMap f) M2) (WkM (fun M'' => M'' = M' ∧ (l.take i).filterMap f = (l.take (i + 1)).filterMap f) M1)
      simp only [b1, b2]
      exact h2
  · obtain ⟨rfl, rfl⟩ := q
    exact ⟨gl, by rw [List.length_map, List.take_length]; exact last⟩
theorem enumD_map {α : Type} {f : α → D} : ∀ (l : List α) (k : Nat), enumD k (l.map f) = (l.zipIdx k).map fun p => .tup [.int p.2, f p.1]
  | [], _ => rfl
  | x :: r, k => by
    rw [List.map_cons, enumD, List.zipIdx_cons, List.map_cons]
    have := enumD_map r (k + 1) (f := f)
    push_cast at this
    rw [this]
theorem ints_fm {α : Type} (l : List α) (g : α → Option Int) : l.filterMap (fun x => (g x).map D.int) = (l.filterMap g).map D.int := by rw [List.map_filterMap]
@[simp] theorem rev_up {M : MH} {p : Addr} {l : List D} {Q : DQ} : rRev (.ref p) (up M p (.lst l)) Q ↔ newD (up M p (.lst l)) (.lst l.reverse) Q := by
  constructor
  · rintro ⟨a, m, e, h, q⟩; cases e; rw [up_same] at h; cases h; exact q
  · intro q; exact ⟨p, l, rfl, up_same, q⟩
theorem rev_at {M : MH} {p : Addr} {l : List D} {Q : DQ} (h : M p = some (.lst l)) : rRev (.ref p) M Q ↔ newD M (.lst l.reverse) Q := by
  constructor
  · rintro ⟨a, m, e, h', q⟩; cases e; rw [h] at h'; cases h'; exact q
  · intro q; exact ⟨p, l, rfl, h, q⟩
theorem none_up {M : MH} {p r : Addr} {o : MO} (h : up M p o r = none) : M r = none := by
  by_cases e : r = p
  · subst e; rw [up_same] at h; cases h
  · rwa [up_ne e] at h
@[simp] theorem intB_bl {M : MH} {k : Bool} {Q : DQ} : cIntB [.bl k] M Q ↔ Q (.int (if k then 1 else 0)) M := by
  constructor
  · rintro (⟨i, e, q⟩ | ⟨b, e, q⟩)
    · cases e
    · cases e; exact q
  · intro q; exact .inr ⟨k, rfl, q⟩
@[simp] theorem intB_int {M : MH} {i : Int} {Q : DQ} : cIntB [.int i] M Q ↔ Q (.int i) M := by
  constructor
  · rintro (⟨j, e, q⟩ | ⟨b, e, q⟩)
    · cases e; exact q
    · cases e
  · intro q; exact .inl ⟨i, rfl, q⟩
theorem PenTo.free {M M1 : MH} {p r : Addr} (h : PenTo M M1 p) (n : M1 r = none) : M r = none := by
  cases e : M r with
  | none => rfl
  | some o =>
    by_cases hp : r = p
    · subst hp
      obtain ⟨_, _, _, _, z, _⟩ := h.pen
      rw [n] at z; cases z
    · have := h.2 r o hp e
      rw [n] at this; cases this
/-- a store at what is newer than M -/
theorem PenTo.mod {M M1 : MH} {p r : Addr} {o : MO} (h : PenTo M M1 p) (n : M r = none) : PenTo M (DL.up M1 r o) p := by
  obtain ⟨⟨q, a, b⟩, f⟩ := h
  exact ⟨⟨q, a, b.set (a.ne n).1 (a.ne n).2⟩, fun c u hc e => by rw [up_ne (ne_free e n)]; exact f c u hc e⟩
theorem roks_map {α : Type} {f : α → D} : ∀ {l : List α}, (∀ x ∈ l, (f x).rok = true) → D.roks (l.map f) = true
  | [], _ => rfl
  | x :: r, h => by rw [List.map_cons, D.roks, h x (by simp), roks_map fun y hy => h y (by simp [hy])]; rfl
theorem wts_map {α : Type} {f : α → D} {c : Nat} : ∀ {l : List α}, (∀ x ∈ l, (f x).wt ≤ c) → D.wts (l.map f) ≤ c * l.length
  | [], _ => Nat.zero_le _
  | x :: r, h => by
    have h1 := h x (by simp)
    have h2 := wts_map (l := r) fun y hy => h y (by simp [hy])
    rw [List.map_cons, D.wts, List.length_cons, Nat.mul_add]
    omega
theorem dep_map {α : Type} {f : α → D} {c : Nat} : ∀ {l : List α}, (∀ x ∈ l, (f x).py.depth ≤ c) → PyData.depthAll (D.pys (l.map f)) ≤ c
  | [], _ => Nat.zero_le _
  | x :: r, h => by
    have h1 := h x (by simp)
    have h2 := dep_map (l := r) fun y hy => h y (by simp [hy])
    rw [List.map_cons, D.pys, PyData.depthAll]
    omega
theorem dep_tup {l : List D} {c : Nat} (h : PyData.depthAll (D.pys l) ≤ c) : (D.py (.tup l)).depth ≤ c + 1 := by
  rw [D.py, PyData.depth]; omega
theorem extL_at {M : MH} {a b : Addr} {l m : List D} {Q : DQ} (h : M a = some (.lst l)) (h' : M b = some (.lst m)) : mExtL (.ref a) [.ref b] M Q ↔ l.length + m.length ≤ sizeLine ∧ Q .non (up M a (.lst (l ++ m))) := by
  constructor
  · rintro ⟨_, _, _, _, e, e', g, g', z, q⟩
    cases e; cases e'; rw [h] at g; cases g; rw [h'] at g'; cases g'; exact ⟨z, q⟩
  · rintro ⟨z, q⟩; exact ⟨a, b, l, m, rfl, rfl, h, h', z, q⟩
theorem Sub.free {M M1 : MH} {r : Addr} (h : Sub M M1) (n : M1 r = none) : M r = none := by
  cases e : M r with
  | none => rfl
  | some o => have := h r o e; rw [n] at this; cases this
/-- over mapped items, place by place -/
theorem loop_map {α : Type} {l : List α} {e : α → D} {G : MH → Prop} {g : Tg} {tb : DS} {E : DEnds} {ρ : DSt} {M : MH} (I : Nat → DSt → MH → Prop) (i0 : I 0 ρ M)
    (turn : ∀ (i : Nat) x ρ M, l[i]? = some x → l.take (i + 1) = l.take i ++ [x] → I i ρ M → G M ∧ g.store M (e x) ρ fun ρ1 => tb { E with nx := Wk (stop (I (i + 1)) ⟨⟩), ct := Wk (stop (I (i + 1)) ⟨⟩), bk := E.nx } ρ1 M) (last : ∀ ρ M, I l.length ρ M → G M ∧ E.nx ρ M) : loopD G g tb (l.map e) E ρ M := by
  refine ⟨I, i0, fun i x ρ M h q => ?_, fun ρ M q => last ρ M (by rw [List.length_map] at q; exact q)⟩
  rw [List.getElem?_map] at h
  cases hl : l[i]? with
  | none => rw [hl] at h; cases h
  | some y =>
    rw [hl] at h
    cases h
    exact turn i y ρ M hl (by rw [List.take_add_one, hl]; rfl) q
theorem rNe_same {x y : D} {M : MH} {Q : DQ} (e : x = y) (hx : x.plain = true) (hk : x.py.depth ≤ 60) (q : Q (.bl false) M) : rNe x y M Q := by
  subst e
  refine rNe_of hx hx hk ?_
  rw [SeqAt.eqv_refl_plain _ (plain_py x hx)]
  exact q
theorem zipD_map2 {α : Type} {f g : α → D} : ∀ l : List α, zipD (l.map f) (l.map g) = l.map fun x => .tup [f x, g x]
  | [] => rfl
  | x :: r => by
    have := zipD_map2 (f := f) (g := g) r
    simp [zipD] at this ⊢
    exact this
end DL

/-! DL, the bridge: what the data are in the abstract heap of the layer below; liftings of readings. -/
namespace DL
open PySem PySem.Spec L2

/-! ### representation -/
/-- a list that nobody writes to: held as it is, or written at the top -/
def SqF (K : PySem.W.Frag) (H : Hp) (a : Addr) (xs : List V) : Prop := SqL K H a xs ∧ ((∃ o, H a = some (.frz o (.lst xs))) ∨ ∀ H', SqL K H' a xs)
section
variable (K : PySem.W.Frag) (H : Hp)
mutual
def Rep : D → V → Prop
  | .non, v => v = .non
  | .bl b, v => v = .bl b
  | .int i, v => v = .int i
  | .str s, v => v = .str s
  | .ref a, v => v = .ref a
  | .tup l, v => ∃ p vs, v = .ref p ∧ SqT K H p vs ∧ Reps l vs
  | .lis l, v => ∃ p vs, v = .ref p ∧ SqF K H p vs ∧ Reps l vs
def Reps : List D → List V → Prop
  | [], vs => vs = []
  | d :: l, vs => ∃ v r, vs = v :: r ∧ Rep d v ∧ Reps l r
end
end
structure KeepT (K : PySem.W.Frag) (H H' : Hp) : Prop where
  t : ∀ a xs, SqT K H a xs → SqT K H' a xs
  f : ∀ a xs, SqF K H a xs → SqF K H' a xs
section
variable {K : PySem.W.Frag} {H H' : Hp}
theorem Reps.len : ∀ {l : List D} {vs : List V}, Reps K H l vs → l.length = vs.length
  | [], _, h => by cases h; rfl
  | _ :: l, _, ⟨v, r, e, _, h⟩ => by subst e; simp [Reps.len h]
theorem Reps.get : ∀ {l : List D} {vs : List V} {j : Nat} {d : D}, Reps K H l vs → l[j]? = some d → ∃ v, vs[j]? = some v ∧ Rep K H d v
  | [], _, _, _, _, e => by simp at e
  | x :: l, _, 0, d, ⟨v, r, e, h1, _⟩, q => by subst e; simp at q; subst q; exact ⟨v, rfl, h1⟩
  | x :: l, _, j + 1, d, ⟨v, r, e, _, h2⟩, q => by
    subst e
    obtain ⟨u, h3, h4⟩ := Reps.get (j := j) h2 (by simpa using q)
    exact ⟨u, by simpa using h3, h4⟩
theorem Reps.getV : ∀ {l : List D} {vs : List V} {j : Nat} {v : V}, Reps K H l vs → vs[j]? = some v → ∃ d, l[j]? = some d ∧ Rep K H d v
  | [], _, _, _, h, e => by cases h; simp at e
  | x :: l, _, 0, w, ⟨v, r, e, h1, _⟩, q => by subst e; simp at q; subst q; exact ⟨x, rfl, h1⟩
  | x :: l, _, j + 1, w, ⟨v, r, e, _, h2⟩, q => by
    subst e
    obtain ⟨u, h3, h4⟩ := Reps.getV (j := j) h2 (by simpa using q)
    exact ⟨u, by simpa using h3, h4⟩
theorem Reps.app : ∀ {l m : List D} {vs ws : List V}, Reps K H l vs → Reps K H m ws → Reps K H (l ++ m) (vs ++ ws)
  | [], _, _, _, h, g => by cases h; exact g
  | _ :: l, _, _, _, ⟨v, r, e, h1, h2⟩, g => by subst e; exact ⟨v, _, rfl, h1, Reps.app h2 g⟩
theorem Reps.take : ∀ {l : List D} {vs : List V} (n : Nat), Reps K H l vs → Reps K H (l.take n) (vs.take n)
  | [], _, n, h => by cases h; simp [Reps]
  | _ :: l, _, 0, _ => by simp [Reps]
  | _ :: l, _, n + 1, ⟨v, r, e, h1, h2⟩ => by subst e; exact ⟨v, _, rfl, h1, Reps.take n h2⟩
theorem Reps.drop : ∀ {l : List D} {vs : List V} (n : Nat), Reps K H l vs → Reps K H (l.drop n) (vs.drop n)
  | [], _, n, h => by cases h; simp [Reps]
  | _ :: l, _, 0, h => h
  | _ :: l, _, n + 1, ⟨v, r, e, h1, h2⟩ => by subst e; exact Reps.drop n h2
theorem Reps.set {d : D} {v : V} (q : Rep K H d v) : ∀ {l : List D} {vs : List V} (j : Nat), Reps K H l vs → Reps K H (l.set j d) (vs.set j v)
  | [], _, _, h => by cases h; simp [Reps]
  | _ :: l, _, 0, ⟨w, r, e, h1, h2⟩ => by subst e; exact ⟨v, _, rfl, q, h2⟩
  | _ :: l, _, j + 1, ⟨w, r, e, h1, h2⟩ => by subst e; exact ⟨w, _, rfl, h1, Reps.set q j h2⟩
theorem Reps.one {d : D} {v : V} (q : Rep K H d v) : Reps K H [d] [v] := ⟨v, [], rfl, q, rfl⟩
theorem Reps.cons {d : D} {v : V} {l : List D} {vs : List V} (q : Rep K H d v) (h : Reps K H l vs) : Reps K H (d :: l) (v :: vs) := ⟨v, vs, rfl, q, h⟩
theorem Reps.nil : Reps K H [] [] := rfl
theorem Reps.rev : ∀ {l : List D} {vs : List V}, Reps K H l vs → Reps K H l.reverse vs.reverse
  | [], _, h => by cases h; exact Reps.nil
  | _ :: l, _, ⟨v, r, e, h1, h2⟩ => by subst e; rw [List.reverse_cons, List.reverse_cons]; exact Reps.app (Reps.rev h2) (Reps.one h1)
mutual
theorem Rep.mono (k : KeepT K H H') : ∀ {d : D} {v : V}, Rep K H d v → Rep K H' d v
  | .non, _, h => h
  | .bl _, _, h => h
  | .int _, _, h => h
  | .str _, _, h => h
  | .ref _, _, h => h
  | .tup l, _, ⟨p, vs, e, h1, h2⟩ => ⟨p, vs, e, k.t _ _ h1, Reps.mono k h2⟩
  | .lis l, _, ⟨p, vs, e, h1, h2⟩ => ⟨p, vs, e, k.f _ _ h1, Reps.mono k h2⟩
theorem Reps.mono (k : KeepT K H H') : ∀ {l : List D} {vs : List V}, Reps K H l vs → Reps K H' l vs
  | [], _, h => h
  | _ :: l, _, ⟨v, r, e, h1, h2⟩ => ⟨v, r, e, Rep.mono k h1, Reps.mono k h2⟩
end
end

def RepKV (K : PySem.W.Frag) (H : Hp) : List (Key × D) → List (Key × V) → Prop
  | [], ks => ks = []
  | (k, d) :: l, ks => ∃ v r, ks = (k, v) :: r ∧ Rep K H d v ∧ RepKV K H l r
def RepF (K : PySem.W.Frag) (H : Hp) : List (Str × D) → List (Str × V) → Prop
  | [], ks => ks = []
  | (k, d) :: l, ks => ∃ v r, ks = (k, v) :: r ∧ Rep K H d v ∧ RepF K H l r
def RepO (K : PySem.W.Frag) (H : Hp) (a : Addr) : MO → Prop
  | .lst l => ∃ vs, H a = some (.lst vs) ∧ Reps K H l vs
  | .dic l => ∃ ks, H a = some (.dK ks) ∧ RepKV K H l ks
  | .dir l => ∃ o ks, H a = some (.frz o (.dK ks)) ∧ RepKV K H l ks
  | .ins C fs => ∃ dx gs, H a = some (.ins C dx gs) ∧ RepF K H fs gs
def MR (K : PySem.W.Frag) (M : MH) (H : Hp) : Prop := ∀ a o, M a = some o → RepO K H a o
def Slots (K : PySem.W.Frag) (H : Hp) (ρ : DSt) (σ : St) : Prop := ρ.length = σ.length ∧ ∀ (i : Nat) d, ρ[i]? = some (some d) → ∃ v, σ[i]? = some (some v) ∧ Rep K H d v
/-- from a moment to a later one -/
structure Ev (M : MH) (H : Hp) (M' : MH) (H' : Hp) : Prop where
  tup : ∀ a xs, H a = some (.tup xs) → H' a = some (.tup xs)
  frz : ∀ a o u, H a = some (.frz o u) → H' a = some (.frz o u)
  frame : ∀ a o, H a = some o → M a = none → H' a = some o
  dom : ∀ a, M a = none → M' a ≠ none → H a = none
section
variable {K : PySem.W.Frag} {M M1 M2 M' : MH} {H H1 H2 H' : Hp} {ρ : DSt} {σ : St}
theorem RepKV.mono (k : KeepT K H H') : ∀ {l : List (Key × D)} {ks : List (Key × V)}, RepKV K H l ks → RepKV K H' l ks
  | [], _, h => h
  | (_, _) :: l, _, ⟨v, r, e, h1, h2⟩ => ⟨v, r, e, h1.mono k, RepKV.mono k h2⟩
theorem RepF.mono (k : KeepT K H H') : ∀ {l : List (Str × D)} {ks : List (Str × V)}, RepF K H l ks → RepF K H' l ks
  | [], _, h => h
  | (_, _) :: l, _, ⟨v, r, e, h1, h2⟩ => ⟨v, r, e, h1.mono k, RepF.mono k h2⟩
theorem Ev.sq (e : Ev M H M' H') : KeepT K H H' := ⟨fun a xs h => by
  rcases h with (h | ⟨o, h⟩) | h
  · exact .inl (.inl (e.tup _ _ h))
  · exact .inl (.inr ⟨o, e.frz _ _ _ h⟩)
  · exact .inr h, fun a xs h => by
  rcases h with ⟨h, ⟨o, g⟩ | g⟩
  · exact ⟨.inl (.inr ⟨o, e.frz _ _ _ g⟩), .inl ⟨o, e.frz _ _ _ g⟩⟩
  · exact ⟨g _, .inr g⟩⟩
theorem Ev.refl : Ev M H M H := ⟨fun _ _ h => h, fun _ _ _ h => h, fun _ _ h _ => h, fun _ h g => absurd h g⟩
theorem Ev.trans (e : Ev M H M1 H1) (f : Ev M1 H1 M2 H2) : Ev M H M2 H2 where
  tup := fun a xs h => f.tup a xs (e.tup a xs h)
  frz := fun a o u h => f.frz a o u (e.frz a o u h)
  frame := fun a o h n => by
    refine f.frame a o (e.frame a o h n) ?_
    cases q : M1 a with
    | none => rfl
    | some u =>
      have := e.dom a n (by rw [q]; simp)
      rw [h] at this; cases this
  dom := fun a n n2 => by
    cases q : M1 a with
    | some u => exact e.dom a n (by rw [q]; simp)
    | none =>
      have := f.dom a q n2
      cases r : H a with
      | none => rfl
      | some o => rw [e.frame a o r n] at this; cases this
theorem Ev.sub (e : Ev M H M1 H1) (s : Sub M' M1) : Ev M H M' H1 := ⟨e.tup, e.frz, e.frame, fun a n n2 => e.dom a n (by
  cases q : M' a with
  | none => exact absurd q n2
  | some o => rw [s a o q]; simp)⟩
theorem MR.sub (h : MR K M H) (s : Sub M' M) : MR K M' H := fun a o e => h a o (s a o e)
theorem Rep.ev {d : D} {v : V} (h : Rep K H d v) (e : Ev M H M' H') : Rep K H' d v := h.mono e.sq
theorem Reps.ev {l : List D} {vs : List V} (h : Reps K H l vs) (e : Ev M H M' H') : Reps K H' l vs := h.mono e.sq
theorem Slots.ev (h : Slots K H ρ σ) (e : Ev M H M' H') : Slots K H' ρ σ := ⟨h.1, fun i d q => by
  obtain ⟨v, h1, h2⟩ := h.2 i d q
  exact ⟨v, h1, h2.ev e⟩⟩
theorem Slots.set {i : Nat} {d : D} {v : V} (h : Slots K H ρ σ) (r : Rep K H d v) : Slots K H (ρ.set i (some d)) (σ.set i (some v)) := by
  refine ⟨by simp [h.1], fun j x e => ?_⟩
  by_cases hj : i = j
  · subst hj
    by_cases hl : i < ρ.length
    · rw [List.getElem?_set_self hl] at e
      cases e
      exact ⟨v, by rw [List.getElem?_set_self (by rw [← h.1]; exact hl)], r⟩
    · rw [List.getElem?_eq_none (by simp; omega)] at e
      cases e
  · rw [List.getElem?_set_ne hj] at e
    obtain ⟨w, h1, h2⟩ := h.2 j x e
    exact ⟨w, by rw [List.getElem?_set_ne hj]; exact h1, h2⟩
theorem Slots.less {ρ' : DSt} (h : Slots K H ρ σ) (l : Less ρ' ρ) : Slots K H ρ' σ := ⟨l.1.trans h.1, fun i d e => h.2 i d (l.2 i d e)⟩
/-- what stands at an address of the small heap is tracked, or written -/
theorem RepO.keep {a : Addr} {o : MO} (h : RepO K H a o) (k : KeepT K H H') (ha : ∀ u, H a = some u → H' a = some u) : RepO K H' a o := by
  cases o with
  | lst l => obtain ⟨vs, h1, h2⟩ := h; exact ⟨vs, ha _ h1, h2.mono k⟩
  | dic l => obtain ⟨vs, h1, h2⟩ := h; exact ⟨vs, ha _ h1, h2.mono k⟩
  | dir l => obtain ⟨o, vs, h1, h2⟩ := h; exact ⟨o, vs, ha _ h1, h2.mono k⟩
  | ins C fs => obtain ⟨dx, gs, h1, h2⟩ := h; exact ⟨dx, gs, ha _ h1, h2.mono k⟩
/-- the heap grows by one object that is not of the small heap -/
theorem Ev.new {p : Addr} {o : HO} (n : H p = none) : Ev M H M (upd H p o) :=
  ⟨fun a xs h => by rw [upd_ne (ne_of_none h n)]; exact h, fun a o u h => by rw [upd_ne (ne_of_none h n)]; exact h, fun a o h _ => by rw [upd_ne (ne_of_none h n)]; exact h, fun a h g => absurd h g⟩
theorem MR.new {p : Addr} {o : HO} (h : MR K M H) (n : H p = none) : MR K M (upd H p o) := fun a u e =>
  (h a u e).keep (Ev.new (M := M) (o := o) n).sq fun w q => by rw [upd_ne (ne_of_none q n)]; exact q
theorem sq_new {p : Addr} {vs : List V} : SqT K (upd H p (.tup vs)) p vs := .inl (.inl upd_same)
/-- a new thing of the small heap -/
theorem Ev.made {p : Addr} {o : HO} {u : MO} (n : H p = none) : Ev M H (up M p u) (upd H p o) :=
  ⟨fun a xs h => by rw [upd_ne (ne_of_none h n)]; exact h, fun a o u h => by rw [upd_ne (ne_of_none h n)]; exact h, fun a o h _ => by rw [upd_ne (ne_of_none h n)]; exact h, fun a h g => by
    by_cases e : a = p
    · subst e; exact n
    · rw [up_ne e] at g; exact absurd h g⟩
theorem MR.made {p : Addr} {o : HO} {u : MO} (h : MR K M H) (n : H p = none) (r : RepO K (upd H p o) p u) : MR K (up M p u) (upd H p o) := fun a w e => by
  by_cases q : a = p
  · subst q; rw [up_same] at e; cases e; exact r
  · rw [up_ne q] at e; exact h.new n a w e
theorem MR.free (R : MR K M H) {p : Addr} (n : H p = none) : M p = none := by
  cases q : M p with
  | none => rfl
  | some o =>
    have r := R p o q
    cases o with
    | lst l => obtain ⟨vs, h1, _⟩ := r; rw [n] at h1; cases h1
    | dic l => obtain ⟨vs, h1, _⟩ := r; rw [n] at h1; cases h1
    | dir l => obtain ⟨o, vs, h1, _⟩ := r; rw [n] at h1; cases h1
    | ins C fs => obtain ⟨dx, gs, h1, _⟩ := r; rw [n] at h1; cases h1
/-- a thing of the small heap is written -/
theorem Ev.put {a : Addr} {o u : HO} {w v : MO} (q : M a = some w) (e : H a = some o) (mu : Mut (some o)) : Ev M H (up M a v) (upd H a u) where
  tup := fun b xs h => by
    have : b ≠ a := fun z => by subst z; rw [e] at h; cases h; exact mu
    rw [upd_ne this]; exact h
  frz := fun b o' u' h => by
    have : b ≠ a := fun z => by subst z; rw [e] at h; cases h; exact mu
    rw [upd_ne this]; exact h
  frame := fun b o' h n => by
    have : b ≠ a := fun z => by subst z; rw [q] at n; cases n
    rw [upd_ne this]; exact h
  dom := fun b n n2 => by
    by_cases z : b = a
    · subst z; rw [q] at n; cases n
    · rw [up_ne z] at n2; exact absurd n n2
theorem MR.put {a : Addr} {o u : HO} {w v : MO} (h : MR K M H) (q : M a = some w) (e : H a = some o) (mu : Mut (some o)) (r : RepO K (upd H a u) a v) : MR K (up M a v) (upd H a u) := fun b x g => by
  by_cases z : b = a
  · subst z; rw [up_same] at g; cases g; exact r
  · rw [up_ne z] at g
    exact (h b x g).keep (Ev.put (M := M) (v := v) (u := u) q e mu).sq fun w' q' => by rw [upd_ne z]; exact q'
end

/-! ### liftings -/
section
variable (K : PySem.W.Frag)
def LE (t : DE) : TE := fun σ H Q => ∃ ρ M Qd, Slots K H ρ σ ∧ MR K M H ∧ t ρ M Qd ∧ ∀ v d M' H', Ev M H M' H' → MR K M' H' → Rep K H' d v → Qd d M' → Q v H'
def LT (t : DT) : TT := fun σ H Q => ∃ ρ M Qd, Slots K H ρ σ ∧ MR K M H ∧ t ρ M Qd ∧ ∀ b M' H', Ev M H M' H' → MR K M' H' → Qd b M' → Q b H'
def LA (t : DA) : TA := fun σ H Q => ∃ ρ M Qd, Slots K H ρ σ ∧ MR K M H ∧ t ρ M Qd ∧ ∀ vs ds M' H', Ev M H M' H' → MR K M' H' → Reps K H' ds vs → Qd ds M' → Q vs H'
/-- the ends of a statement that began at M, H -/
structure EndsOk (M : MH) (H : Hp) (De : DEnds) (D : Ends) : Prop where
  nx : ∀ σ' H' ρ' M', Ev M H M' H' → Slots K H' ρ' σ' → MR K M' H' → De.nx ρ' M' → D.nx σ' H'
  rt : ∀ v d M' H', Ev M H M' H' → MR K M' H' → Rep K H' d v → De.rt d M' → D.rt v H'
  bk : ∀ σ' H' ρ' M', Ev M H M' H' → Slots K H' ρ' σ' → MR K M' H' → De.bk ρ' M' → D.bk σ' H'
  ct : ∀ σ' H' ρ' M', Ev M H M' H' → Slots K H' ρ' σ' → MR K M' H' → De.ct ρ' M' → D.ct σ' H'
def LS (t : DS) : TS := fun D σ H => ∃ ρ M De, Slots K H ρ σ ∧ MR K M H ∧ t De ρ M ∧ EndsOk K M H De D
end
theorem EndsOk.later {K : PySem.W.Frag} {M M1 : MH} {H H1 : Hp} {De : DEnds} {D : Ends} (h : EndsOk K M H De D) (e : Ev M H M1 H1) : EndsOk K M1 H1 De D :=
  ⟨fun σ H ρ M f => h.nx σ H ρ M (e.trans f), fun v d M H f => h.rt v d M H (e.trans f), fun σ H ρ M f => h.bk σ H ρ M (e.trans f), fun σ H ρ M f => h.ct σ H ρ M (e.trans f)⟩
abbrev PEd (X : Cx) (e : Expr) (t : DE) : Prop := PE X e (LE X.K t)
abbrev PTd (X : Cx) (e : Expr) (t : DT) : Prop := PT X e (LT X.K t)
abbrev PWd (X : Cx) (e : Expr) (t : DT) : Prop := PW X e (LT X.K t)
abbrev PAd (X : Cx) (es : List Expr) (t : DA) : Prop := PA X es (LA X.K t)
abbrev PSd (X : Cx) (st : Stmt) (t : DS) : Prop := PS X st (LS X.K t)
abbrev PSsd (X : Cx) (st : List Stmt) (t : DS) : Prop := PSs X st (LS X.K t)
section
variable {X : Cx}
theorem peI {e : Expr} {te te' : TE} (h : PE X e te) (i : ∀ σ H Q, te' σ H Q → te σ H Q) : PE X e te' := ⟨fun pins s σ H Q I q => h.run pins s σ H Q I (i σ H Q q)⟩
theorem ptI {e : Expr} {te te' : TT} (h : PT X e te) (i : ∀ σ H Q, te' σ H Q → te σ H Q) : PT X e te' := ⟨fun pins s σ H Q I q => h.run pins s σ H Q I (i σ H Q q)⟩
theorem pwI {e : Expr} {te te' : TT} (h : PW X e te) (i : ∀ σ H Q, te' σ H Q → te σ H Q) : PW X e te' := ⟨fun wh pins s σ H Q I q => h.run wh pins s σ H Q I (i σ H Q q)⟩
theorem paI {e : List Expr} {te te' : TA} (h : PA X e te) (i : ∀ σ H Q, te' σ H Q → te σ H Q) : PA X e te' := ⟨fun pos pins s σ H Q I q => h.run pos pins s σ H Q I (i σ H Q q)⟩
theorem psI {e : Stmt} {te te' : TS} (h : PS X e te) (i : ∀ D σ H, te' D σ H → te D σ H) : PS X e te' := ⟨fun pins s σ H D I q => h.run pins s σ H D I (i D σ H q)⟩
theorem pssI {e : List Stmt} {te te' : TS} (h : PSs X e te) (i : ∀ D σ H, te' D σ H → te D σ H) : PSs X e te' := ⟨fun pins s σ H D I q => h.run pins s σ H D I (i D σ H q)⟩
end
end DL

/-! DL, the rules: each construct of Python by its reading over data. -/
namespace DL
open PySem PySem.Spec L2
section
variable {X : Cx} {e a b c : Expr} {es : List Expr} {ta tb tc : DE} {tA tB' : DT} {t : DA} {pos : Pos} {rest : List Expr}

/-! ### names, constants -/
theorem de_var (i : Nat) {x : Str} {pos : Pos} (hN : X.N[i]? = some x := by rfl) (hv : Vis X.env.scope x := by first | exact Or.inl rfl | exact Or.inr (Or.inl rfl) | exact Or.inr (Or.inr rfl)) (hd : (x == ("__debug__" : Str)) = false := by decide)
    (hcd : (x == ("__classdict__" : Str)) = false := by decide) : PEd X (.Name x pos) (dVar i) := peI (pe_var hN hv hd hcd) fun σ H Q ⟨ρ, M, Qd, S, R, ⟨d, h1, h2⟩, k⟩ => by
  obtain ⟨v, e1, r⟩ := S.2 i d h1
  exact ⟨v, e1, k v d M H .refl R r h2⟩
theorem de_const {d : D} {v : V} (h : PE X e (tC v)) (r : ∀ H, Rep X.K H d v) : PEd X e (dC d) := peI h fun σ H Q ⟨ρ, M, Qd, S, R, q, k⟩ => k v d M H .refl R (r H) q
theorem de_int {i j pos} : PEd X (.Constant (.int i) j pos) (dC (.int i)) := de_const pe_int fun _ => rfl
theorem de_bl {b j pos} : PEd X (.Constant (.bool b) j pos) (dC (.bl b)) := de_const pe_bl fun _ => rfl
theorem de_non {j pos} : PEd X (.Constant .none j pos) (dC .non) := de_const pe_non fun _ => rfl
theorem de_str {x j pos} : PEd X (.Constant (.str x) j pos) (dC (.str x)) := de_const pe_str fun _ => rfl
/-- a module's constant that is flat -/
theorem de_glob {x : Str} {d : D} {v : V} {u : Value} {pos : Pos} (hm : X.mg x = some u) (r : RelV v u) (rd : ∀ H, Rep X.K H d v) (hg : Gl X x := by rfl) (hd : (x == ("__debug__" : Str)) = false := by decide) : PEd X (.Name x pos) (dC d) :=
  de_const (pe_glob hg hm r hd) rd

/-! ### argument lists, displays -/
theorem da_nil : PAd X [] dNil := paI pa_nil fun σ H Q ⟨ρ, M, Qd, S, R, q, k⟩ => k [] [] M H .refl R .nil q
theorem da_cons (ha : PEd X e ta) (hr : PAd X es t) (hs : starEach (e :: es) X.env = (false, eval e X.env) :: starEach es X.env := by rfl) : PAd X (e :: es) (dCons ta t) :=
  paI (pa_cons ha hr hs) fun σ H Q ⟨ρ, M, Qd, S, R, q, k⟩ => ⟨ρ, M, _, S, R, q, fun v d M1 H1 e1 R1 r1 q1 =>
    ⟨ρ, M1, _, S.ev e1, R1, q1, fun vs ds M2 H2 e2 R2 r2 q2 => k _ _ M2 H2 (e1.trans e2) R2 (.cons (r1.ev e2) r2) q2⟩⟩
theorem de_tup {x1} (h : PAd X es t) : PEd X (.Tuple es x1 pos) (dTup t) := peI (pe_tup h) fun σ H Q ⟨ρ, M, Qd, S, R, q, k⟩ =>
  ⟨ρ, M, _, S, R, q, fun vs ds M1 H1 e1 R1 r1 ⟨z, q1⟩ => ⟨by rw [← r1.len]; exact z, fun p n =>
    k (.ref p) (.tup ds) M1 (upd H1 p (.tup vs)) (e1.trans (.new n)) (R1.new n) ⟨p, vs, rfl, sq_new, r1.ev (Ev.new (M := M1) n)⟩ q1⟩⟩
theorem de_lst (h : PAd X es t) : PEd X (.List es pos) (dLst t) := peI (pe_lst h) fun σ H Q ⟨ρ, M, Qd, S, R, q, k⟩ =>
  ⟨ρ, M, _, S, R, q, fun vs ds M1 H1 e1 R1 r1 ⟨z, q1⟩ => ⟨by rw [← r1.len]; exact z, fun p n =>
    k (.ref p) (.ref p) (up M1 p (.lst ds)) (upd H1 p (.lst vs)) (e1.trans (.made n)) (R1.made n ⟨vs, upd_same, r1.ev (Ev.new (M := M1) n)⟩) rfl (q1 p (R1.free n))⟩⟩

/-! ### operations -/
def OpD (X : Cx) (f : Value → Value → Sem Value) (r : RD2) : Prop := ∃ r' : R2, OpR X f r' ∧ ∀ (x y : D) (v w : V) (M : MH) (H : Hp) (Qd : DQ) (Q : VK), MR X.K M H → Rep X.K H x v → Rep X.K H y w → r x y M Qd →
  (∀ z d M' H', Ev M H M' H' → MR X.K M' H' → Rep X.K H' d z → Qd d M' → Q z H') → r' v w H Q
def UnD (X : Cx) (f : Value → Sem Value) (r : RD1) : Prop := ∃ r', UnR X f r' ∧ ∀ (x : D) (v : V) (M : MH) (H : Hp) (Qd : DQ) (Q : VK), MR X.K M H → Rep X.K H x v → r x M Qd →
  (∀ z d M' H', Ev M H M' H' → MR X.K M' H' → Rep X.K H' d z → Qd d M' → Q z H') → r' v H Q
def CallD (X : Cx) (f : Value) (r : SpD) : Prop := ∃ r', CallR X f r' ∧ ∀ (ds : List D) (vs : List V) (M : MH) (H : Hp) (Qd : DQ) (Q : VK), MR X.K M H → Reps X.K H ds vs → r ds M Qd →
  (∀ z d M' H', Ev M H M' H' → MR X.K M' H' → Rep X.K H' d z → Qd d M' → Q z H') → r' vs H Q
theorem lift_op {r : RD2} {r' : R2} (h : ∀ (x y : D) (v w : V) (M : MH) (H : Hp) (Qd : DQ) (Q : VK), MR X.K M H → Rep X.K H x v → Rep X.K H y w → r x y M Qd →
    (∀ z d M' H', Ev M H M' H' → MR X.K M' H' → Rep X.K H' d z → Qd d M' → Q z H') → r' v w H Q) (σ : L2.St) (H : Hp) (Q : VK) : LE X.K (dOp r ta tb) σ H Q → tOp r' (LE X.K ta) (LE X.K tb) σ H Q := fun ⟨ρ, M, Qd, S, R, q, k⟩ =>
  ⟨ρ, M, _, S, R, q, fun v d M1 H1 e1 R1 r1 q1 => ⟨ρ, M1, _, S.ev e1, R1, q1, fun w d2 M2 H2 e2 R2 r2 q2 =>
    h d d2 v w M2 H2 Qd Q R2 (r1.ev e2) r2 q2 fun z d M' H' e' R' r' q' => k z d M' H' ((e1.trans e2).trans e') R' r' q'⟩⟩
theorem de_op {op : Operator} {r : RD2} (ho : OpD X (binaryOp op) r) (ha : PEd X a ta) (hb : PEd X b tb) : PEd X (.BinOp a op b pos) (dOp r ta tb) := by
  obtain ⟨r', h1, h2⟩ := ho
  exact peI (pe_op h1 ha hb) (lift_op h2)
theorem de_cmp {op : CmpOp} {r : RD2} (ho : OpD X (compareOp op) r) (ha : PEd X a ta) (hb : PEd X b tb) (hm : behindInMarks op b = false := by first | exact nomark _ | rfl) : PEd X (.Compare a [op] [b] pos) (dOp r ta tb) := by
  obtain ⟨r', h1, h2⟩ := ho
  exact peI (pe_cmpR h1 ha hb hm) (lift_op h2)
theorem lift_test {t : DE} {te : TE} (h : ∀ σ H Q, LE X.K t σ H Q → te σ H Q) (σ : L2.St) (H : Hp) (Q : Bool → Hp → Prop) : LT X.K (dTest t) σ H Q → tTest te σ H Q := fun ⟨ρ, M, Qd, S, R, q, k⟩ =>
  h σ H _ ⟨ρ, M, _, S, R, q, fun v d M1 H1 e1 R1 r1 ⟨c, e, q1⟩ => by
    subst e
    exact ⟨c, r1, k c M1 H1 e1 R1 q1⟩⟩
theorem dt_cmp {op : CmpOp} {r : RD2} (ho : OpD X (compareOp op) r) (ha : PEd X a ta) (hb : PEd X b tb) (hm : behindInMarks op b = false := by first | exact nomark _ | rfl) : PTd X (.Compare a [op] [b] pos) (dTest (dOp r ta tb)) := by
  obtain ⟨r', h1, h2⟩ := ho
  exact ptI (pt_cmpR h1 ha hb hm) (lift_test (lift_op h2))
theorem de_un {op : UnaryOp} {r : RD1} (ho : UnD X (unaryOp op) r) (ha : PEd X a ta) : PEd X (.UnaryOp op a pos) (dUn r ta) := by
  obtain ⟨r', h1, h2⟩ := ho
  exact peI (pe_un h1 ha) fun σ H Q ⟨ρ, M, Qd, S, R, q, k⟩ => ⟨ρ, M, _, S, R, q, fun v d M1 H1 e1 R1 r1 q1 => h2 d v M1 H1 Qd Q R1 r1 q1 fun z d M' H' e' R' r' q' => k z d M' H' (e1.trans e') R' r' q'⟩
theorem dt_val (h : PEd X e ta) (he : ∀ whole, isTrue e X.env whole = (do let v ← whole; standAt e.pos; holding [v] (truthy v)) := by intro _; rfl) : PTd X e (dTest ta) :=
  ptI (pt_val h he) fun σ H Q ⟨ρ, M, Qd, S, R, q, k⟩ => ⟨ρ, M, _, S, R, q, fun v d M1 H1 e1 R1 r1 ⟨c, e, q1⟩ => by
    subst e
    exact ⟨c, r1, k c M1 H1 e1 R1 q1⟩⟩
theorem isN_eq {K : PySem.W.Frag} {H : Hp} {d : D} {v : V} (r : Rep K H d v) : decide (v = V.non) = d.isN := by
  cases d with
  | non => cases r; rfl
  | bl _ => cases r; rfl
  | int _ => cases r; rfl
  | str _ => cases r; rfl
  | ref _ => cases r; rfl
  | tup _ => obtain ⟨p, vs, e, _⟩ := r; subst e; rfl
  | lis _ => obtain ⟨p, vs, e, _⟩ := r; subst e; rfl
theorem lift_isN (σ : L2.St) (H : Hp) (Q : VK) : LE X.K (dUn rIsN ta) σ H Q → tIsN (LE X.K ta) σ H Q := fun ⟨ρ, M, Qd, S, R, q, k⟩ =>
  ⟨ρ, M, _, S, R, q, fun v d M1 H1 e1 R1 r1 q1 => by dsimp only; rw [isN_eq r1]; exact k _ (.bl d.isN) M1 H1 e1 R1 rfl q1⟩
theorem lift_notN (σ : L2.St) (H : Hp) (Q : VK) : LE X.K (dUn rNotN ta) σ H Q → tNotN (LE X.K ta) σ H Q := fun ⟨ρ, M, Qd, S, R, q, k⟩ =>
  ⟨ρ, M, _, S, R, q, fun v d M1 H1 e1 R1 r1 q1 => by dsimp only; rw [isN_eq r1]; exact k _ (.bl (!d.isN)) M1 H1 e1 R1 rfl q1⟩
theorem de_isN {j pos'} (ha : PEd X a ta) : PEd X (.Compare a [.Is] [.Constant .none j pos'] pos) (dUn rIsN ta) := peI (pe_cmp (pc_isN ha) rfl) lift_isN
theorem de_notN {j pos'} (ha : PEd X a ta) : PEd X (.Compare a [.IsNot] [.Constant .none j pos'] pos) (dUn rNotN ta) := peI (pe_cmp (pc_notN ha) rfl) lift_notN
theorem dt_isN {j pos'} (ha : PEd X a ta) : PTd X (.Compare a [.Is] [.Constant .none j pos'] pos) (dTest (dUn rIsN ta)) := ptI (pt_cmp (pc_isN ha) rfl) (lift_test lift_isN)
theorem dt_notN {j pos'} (ha : PEd X a ta) : PTd X (.Compare a [.IsNot] [.Constant .none j pos'] pos) (dTest (dUn rNotN ta)) := ptI (pt_cmp (pc_notN ha) rfl) (lift_test lift_notN)
theorem lift_chain {r r2 : RD2} {r' r2' : R2} (h : ∀ (x y : D) (v w : V) (M : MH) (H : Hp) (Qd : DQ) (Q : VK), MR X.K M H → Rep X.K H x v → Rep X.K H y w → r x y M Qd →
    (∀ z d M' H', Ev M H M' H' → MR X.K M' H' → Rep X.K H' d z → Qd d M' → Q z H') → r' v w H Q)
    (h' : ∀ (x y : D) (v w : V) (M : MH) (H : Hp) (Qd : DQ) (Q : VK), MR X.K M H → Rep X.K H x v → Rep X.K H y w → r2 x y M Qd →
    (∀ z d M' H', Ev M H M' H' → MR X.K M' H' → Rep X.K H' d z → Qd d M' → Q z H') → r2' v w H Q) (σ : L2.St) (H : Hp) (Q : VK) : LE X.K (dChain r r2 ta tb tc) σ H Q → tChain r' r2' (LE X.K ta) (LE X.K tb) (LE X.K tc) σ H Q := fun ⟨ρ, M, Qd, S, R, q, k⟩ =>
  ⟨ρ, M, _, S, R, q, fun v d M1 H1 e1 R1 r1 q1 => ⟨ρ, M1, _, S.ev e1, R1, q1, fun w d2 M2 H2 e2 R2 r2 q2 =>
    h d d2 v w M2 H2 _ _ R2 (r1.ev e2) r2 q2 fun z d3 M3 H3 e3 R3 r3 ⟨c, ec, q3⟩ => by
      subst ec
      refine ⟨c, r3, ?_⟩
      cases c with
      | false => exact k _ (.bl false) M3 H3 ((e1.trans e2).trans e3) R3 rfl q3
      | true => exact ⟨ρ, M3, _, S.ev ((e1.trans e2).trans e3), R3, q3, fun u d4 M4 H4 e4 R4 r4 q4 => h' d2 d4 w u M4 H4 Qd Q R4 (r2.ev (e3.trans e4)) r4 q4 fun z d M' H' e' R' r' q' => k z d M' H' ((((e1.trans e2).trans e3).trans e4).trans e') R' r' q'⟩⟩⟩
theorem de_chain {op op' : CmpOp} {r r' : RD2} (ho : OpD X (compareOp op) r) (ho' : OpD X (compareOp op') r') (ha : PEd X a ta) (hb : PEd X b tb) (hc : PEd X c tc)
    (hm : lastMarks [op, op'] [b, c] = false := by with_unfolding_all rfl) : PEd X (.Compare a [op, op'] [b, c] pos) (dChain r r' ta tb tc) := by
  obtain ⟨r1, h1, h2⟩ := ho
  obtain ⟨r2, h3, h4⟩ := ho'
  exact peI (pe_chain h1 h3 ha hb hc hm) (lift_chain h2 h4)
theorem dt_chain {op op' : CmpOp} {r r' : RD2} (ho : OpD X (compareOp op) r) (ho' : OpD X (compareOp op') r') (ha : PEd X a ta) (hb : PEd X b tb) (hc : PEd X c tc)
    (hm : lastMarks [op, op'] [b, c] = false := by with_unfolding_all rfl) : PTd X (.Compare a [op, op'] [b, c] pos) (dTest (dChain r r' ta tb tc)) := by
  obtain ⟨r1, h1, h2⟩ := ho
  obtain ⟨r2, h3, h4⟩ := ho'
  exact ptI (pt_chain h1 h3 ha hb hc hm) (lift_test (lift_chain h2 h4))

/-! ### tests -/
theorem dw_and1 (ha : PTd X a tA) : PWd X (.BoolOp .And [a] pos) tA := pw_and1 ha
theorem dw_or1 (ha : PTd X a tA) : PWd X (.BoolOp .Or [a] pos) tA := pw_or1 ha
theorem dw_and (ha : PTd X a tA) (hb : PWd X (.BoolOp .And (b :: rest) pos) tB') : PWd X (.BoolOp .And (a :: b :: rest) pos) (dAnd tA tB') :=
  pwI (pw_and ha hb) fun σ H Q ⟨ρ, M, Qd, S, R, q, k⟩ => ⟨ρ, M, _, S, R, q, fun c M1 H1 e1 R1 q1 => by
    cases c with
    | false => exact k false M1 H1 e1 R1 q1
    | true => exact ⟨ρ, M1, _, S.ev e1, R1, q1, fun b M' H' e' R' q' => k b M' H' (e1.trans e') R' q'⟩⟩
theorem dw_or (ha : PTd X a tA) (hb : PWd X (.BoolOp .Or (b :: rest) pos) tB') : PWd X (.BoolOp .Or (a :: b :: rest) pos) (dOr tA tB') :=
  pwI (pw_or ha hb) fun σ H Q ⟨ρ, M, Qd, S, R, q, k⟩ => ⟨ρ, M, _, S, R, q, fun c M1 H1 e1 R1 q1 => by
    cases c with
    | true => exact k true M1 H1 e1 R1 q1
    | false => exact ⟨ρ, M1, _, S.ev e1, R1, q1, fun b M' H' e' R' q' => k b M' H' (e1.trans e') R' q'⟩⟩
theorem dt_bool (h : PWd X e tA) : PTd X e tA := PW.pt h
theorem dt_not (ha : PTd X a tA) : PTd X (.UnaryOp .Not a pos) (dNot tA) := ptI (pt_not ha) fun σ H Q ⟨ρ, M, Qd, S, R, q, k⟩ => ⟨ρ, M, _, S, R, q, fun c M1 H1 e1 R1 q1 => k _ M1 H1 e1 R1 q1⟩
theorem de_one {op} (h : PEd X a ta) : PEd X (.BoolOp op [a] pos) ta := pe_one h
theorem de_and (ha : PEd X a ta) (hb : PEd X (.BoolOp .And (b :: rest) pos) tb) : PEd X (.BoolOp .And (a :: b :: rest) pos) (dAndV ta tb) :=
  peI (pe_and ha hb) fun σ H Q ⟨ρ, M, Qd, S, R, q, k⟩ => ⟨ρ, M, _, S, R, q, fun v d M1 H1 e1 R1 r1 ⟨c, ec, q1⟩ => by
    subst ec
    refine ⟨c, r1, ?_⟩
    cases c with
    | false => exact k _ (.bl false) M1 H1 e1 R1 rfl q1
    | true => exact ⟨ρ, M1, _, S.ev e1, R1, q1, fun z d M' H' e' R' r' q' => k z d M' H' (e1.trans e') R' r' q'⟩⟩
theorem de_or (ha : PEd X a ta) (hb : PEd X (.BoolOp .Or (b :: rest) pos) tb) : PEd X (.BoolOp .Or (a :: b :: rest) pos) (dOrV ta tb) :=
  peI (pe_or ha hb) fun σ H Q ⟨ρ, M, Qd, S, R, q, k⟩ => ⟨ρ, M, _, S, R, q, fun v d M1 H1 e1 R1 r1 ⟨c, ec, q1⟩ => by
    subst ec
    refine ⟨c, r1, ?_⟩
    cases c with
    | true => exact k _ (.bl true) M1 H1 e1 R1 rfl q1
    | false => exact ⟨ρ, M1, _, S.ev e1, R1, q1, fun z d M' H' e' R' r' q' => k z d M' H' (e1.trans e') R' r' q'⟩⟩
theorem de_not (ha : PEd X a ta) : PEd X (.UnaryOp .Not a pos) (dNotV ta) := peI (pe_not ha) fun σ H Q ⟨ρ, M, Qd, S, R, q, k⟩ => ⟨ρ, M, _, S, R, q, fun v d M1 H1 e1 R1 r1 ⟨c, ec, q1⟩ => by
  subst ec
  exact ⟨c, r1, k _ (.bl (!c)) M1 H1 e1 R1 rfl q1⟩⟩
theorem de_ifExp (hc : PTd X c tA) (ha : PEd X a ta) (hb : PEd X b tb) : PEd X (.IfExp c a b pos) (dIf tA ta tb) := peI (pe_ifExp hc ha hb) fun σ H Q ⟨ρ, M, Qd, S, R, q, k⟩ => ⟨ρ, M, _, S, R, q, fun c M1 H1 e1 R1 q1 => by
  cases c with
  | true => exact ⟨ρ, M1, _, S.ev e1, R1, q1, fun z d M' H' e' R' r' q' => k z d M' H' (e1.trans e') R' r' q'⟩
  | false => exact ⟨ρ, M1, _, S.ev e1, R1, q1, fun z d M' H' e' R' r' q' => k z d M' H' (e1.trans e') R' r' q'⟩⟩
end
end DL

/-! DL, the operations: which operations on data the model has. -/
namespace DL
open PySem PySem.Spec L2
section
variable {X : Cx}
/-- two ints -/
theorem od_I {f : Value → Value → Sem Value} {C : Int → Int → Prop} {C' : Int → Int → Prop} {g : Int → Int → D} {g' : Int → Int → V} (ho : OpR X f (L2.rI C' g')) (hc : ∀ i j, C i j → C' i j) (hg : ∀ i j, C i j → ∀ H, Rep X.K H (g i j) (g' i j)) : OpD X f (rI C g) :=
  ⟨_, ho, fun x y v w M H Qd Q R rx ry ⟨i, j, ex, ey, c, q⟩ k => by
    subst ex; subst ey
    exact ⟨i, j, rx, ry, hc i j c, k _ (g i j) M H .refl R (hg i j c H) q⟩⟩
theorem od_I0 {f : Value → Value → Sem Value} {g : Int → Int → D} {g' : Int → Int → V} (ho : OpR X f (L2.rI0 g')) (hg : ∀ i j H, Rep X.K H (g i j) (g' i j)) : OpD X f (rI (fun _ _ => True) g) :=
  ⟨_, ho, fun x y v w M H Qd Q R rx ry ⟨i, j, ex, ey, c, q⟩ k => by
    subst ex; subst ey
    exact ⟨i, j, rx, ry, k _ (g i j) M H .refl R (hg i j H) q⟩⟩
theorem OpD.or {f : Value → Value → Sem Value} {r r' : RD2} (h : OpD X f r) (h' : OpD X f r') : OpD X f (fun x y M Q => r x y M Q ∨ r' x y M Q) := by
  obtain ⟨a, h1, h2⟩ := h
  obtain ⟨b, h3, h4⟩ := h'
  refine ⟨_, h1.or h3, fun x y v w M H Qd Q R rx ry q k => ?_⟩
  rcases q with q | q
  · exact .inl (h2 x y v w M H Qd Q R rx ry q k)
  · exact .inr (h4 x y v w M H Qd Q R rx ry q k)
theorem od_sub : OpD X (binaryOp .Sub) rSub := od_I0 op_sub fun _ _ _ => rfl
theorem od_add : OpD X (binaryOp .Add) rAdd := od_I0 op_add fun _ _ _ => rfl
theorem nat64 {i : Int} (h : i.natAbs < 2 ^ 64) : -(2 ^ 64) < i ∧ i < 2 ^ 64 := by omega
theorem od_mul : OpD X (binaryOp .Mult) rMul := od_I op_mul (fun i j c => by rcases c with c | c <;> first | exact .inl (nat64 c) | exact .inr (nat64 c)) fun _ _ _ _ => rfl
theorem od_div : OpD X (binaryOp .FloorDiv) rDiv := od_I op_fdivW (fun i j c => ⟨c.1, by
  have h := c.2
  have : j.natAbs < 2 ^ 400 := by
    have e := Int.natAbs_of_nonneg (Int.le_of_lt c.1)
    exact Int.ofNat_lt.mp (by rw [e]; exact h)
  exact Nat.lt_of_lt_of_le (PySem.Flt.log2_lt_of (by decide : 0 < 400) this) (by decide)⟩) fun _ _ _ _ => rfl
theorem od_mod : OpD X (binaryOp .Mod) rMod := od_I op_mod (fun i j c => c) fun _ _ _ _ => rfl
theorem od_pow : OpD X (binaryOp .Pow) rPow := od_I op_pow (fun i j c => ⟨c.1, by have := c.2.1; omega, c.2.2⟩) fun _ _ _ _ => rfl
theorem od_lt : OpD X (compareOp .Lt) rLt := od_I0 op_lt fun _ _ _ => rfl
theorem od_le : OpD X (compareOp .LtE) rLe := od_I0 op_le fun _ _ _ => rfl
theorem od_gt : OpD X (compareOp .Gt) rGt := od_I0 op_gt fun _ _ _ => rfl
theorem od_ge : OpD X (compareOp .GtE) rGe := od_I0 op_ge fun _ _ _ => rfl
theorem ud_neg : UnD X (unaryOp .USub) rNeg := ⟨_, un_neg, fun x v M H Qd Q R rx ⟨i, e, q⟩ k => by
  subst e
  exact ⟨i, rx, k _ (.int (-i)) M H .refl R rfl q⟩⟩

/-! ### == -/
mutual
theorem Sees.dp {K : PySem.W.Frag} {M : MH} {H : Hp} (R : MR K M H) : ∀ {x : D} {p : PyData} {v : V}, Sees M x p → Rep K H x v → Dp K H v p
  | _, _, _, .non, r => by cases r; exact .non
  | _, _, _, .bl b, r => by cases r; exact .bl b
  | _, _, _, .int i, r => by cases r; exact .int i
  | _, _, _, .str x, r => by cases r; exact .str x
  | _, _, _, .tup h, ⟨p, vs, e, h1, h2⟩ => by subst e; exact .tup h1 (SeesL.dp R h h2)
  | _, _, _, .lis h, ⟨p, vs, e, h1, h2⟩ => by subst e; exact .lst h1.1 (SeesL.dp R h h2)
  | _, _, _, .lst h hl, r => by
    cases r
    obtain ⟨vs, h1, h2⟩ := R _ _ h
    exact .lst (SqL.of h1) (SeesL.dp R hl h2)
theorem SeesL.dp {K : PySem.W.Frag} {M : MH} {H : Hp} (R : MR K M H) : ∀ {l : List D} {ps : List PyData} {vs : List V}, SeesL M l ps → Reps K H l vs → DpAll K H vs ps
  | _, _, _, .nil, r => by cases r; exact .nil
  | _, _, _, .cons h hl, ⟨v, r, e, h1, h2⟩ => by subst e; exact .cons (Sees.dp R h h1) (SeesL.dp R hl h2)
end
theorem od_eq (hu : X.A.units + 64 < cLine) : OpD X (compareOp .Eq) rEq := by
  refine ⟨fun x y H Q => ∃ d e, Dp X.K H x d ∧ Dp X.K H y e ∧ d.plain = true ∧ e.plain = true ∧ d.depth ≤ 60 ∧ Q (.bl (PyData.eqv d e)) H, ?_, fun x y v w M H Qd Q R rx ry ⟨p, q, h1, h2, h3, h4, h5, g⟩ k =>
    ⟨p, q, h1.dp R rx, h2.dp R ry, h3, h4, h5, k _ (.bl _) M H .refl R rfl g⟩⟩
  intro pins s σ H x y v u Q I rx ry ⟨d, e, hd, he, sd, se, hk, q⟩
  obtain ⟨as, r1⟩ := Dp.reads I d x v hd rx
  obtain ⟨bs, r2⟩ := Dp.reads I e y u he ry
  exact SeqAt.eq_plain r1 r2 sd se (Nat.lt_of_le_of_lt (Nat.add_le_add_left (Nat.le_trans (Nat.min_le_left _ _) (Nat.le_trans hk (by decide : 60 ≤ 64))) _) hu) ⟨.bl _, H, I, rfl, q⟩
theorem od_ne (hu : X.A.units + 64 < cLine) : OpD X (compareOp .NotEq) rNe := by
  refine ⟨fun x y H Q => ∃ d e, Dp X.K H x d ∧ Dp X.K H y e ∧ d.plain = true ∧ e.plain = true ∧ d.depth ≤ 60 ∧ Q (.bl (!PyData.eqv d e)) H, ?_, fun x y v w M H Qd Q R rx ry ⟨p, q, h1, h2, h3, h4, h5, g⟩ k =>
    ⟨p, q, h1.dp R rx, h2.dp R ry, h3, h4, h5, k _ (.bl _) M H .refl R rfl g⟩⟩
  intro pins s σ H x y v u Q I rx ry ⟨d, e, hd, he, sd, se, hk, q⟩
  obtain ⟨as, r1⟩ := Dp.reads I d x v hd rx
  obtain ⟨bs, r2⟩ := Dp.reads I e y u he ry
  exact SeqAt.ne_plain r1 r2 sd se (Nat.lt_of_le_of_lt (Nat.add_le_add_left (Nat.le_trans (Nat.min_le_left _ _) (Nat.le_trans hk (by decide : 60 ≤ 64))) _) hu) ⟨.bl _, H, I, rfl, q⟩

/-! ### repr -/
theorem cd_repr (hg : X.A.guards = some []) (hu : X.A.units + 64 < cLine) : CallD X (.builtin "repr") cRepr := by
  refine ⟨fun vs H Q => ∃ v p, vs = [v] ∧ Dp X.K H v p ∧ p.showable = true ∧ p.hasDict = false ∧ p.shown.length ≤ sizeLine ∧ p.depth ≤ 60 ∧ Q (.str p.shown) H, ?_, fun ds vs M H Qd Q R rs ⟨x, p, e, h1, h2, h3, h4, h5, q⟩ k => ?_⟩
  · intro pins s σ H xs us Q I r ⟨v, p, e, h1, h2, h3, h4, h5, q⟩
    subst e
    obtain ⟨u, eu, ru⟩ := vals1 r
    subst eu
    obtain ⟨as, rd⟩ := Dp.reads I p v u h1 ru
    have fin : ∀ tk, EP X pins σ Q (.str p.shown s.toks) { s with toks := tk } := fun tk => ⟨.str _, H, I.tok _, ⟨_, rfl⟩, q⟩
    cases h1 with
    | non => cases (show u = Value.none from ru); exact P.repr_of_none (fin _)
    | bl b => cases (show u = Value.bool b from ru); exact P.repr_of_bool (by cases b <;> exact fin _)
    | int i => obtain ⟨t, rfl⟩ := (show ∃ t, u = Value.int i t from ru); exact P.repr_of_int (of_decide_eq_true h2) (fin _)
    | str y => obtain ⟨t, rfl⟩ := (show ∃ t, u = Value.str y t from ru); exact P.repr_of_str (fin _) h4
    | @lst a xs ds ha hb =>
      cases (show u = Value.ref a from ru)
      exact repr_of_reads' rd h2 (fun z => by rw [h3] at z; cases z) hg (by omega) (fun _ _ z => z) (fun h' u tk kk => ⟨.str _, H, I.kept kk, ⟨u, rfl⟩, q⟩) h4
    | @tup a xs ds ha hb =>
      cases (show u = Value.ref a from ru)
      exact repr_of_reads' rd h2 (fun z => by rw [h3] at z; cases z) hg (by omega) (fun _ _ z => z) (fun h' u tk kk => ⟨.str _, H, I.kept kk, ⟨u, rfl⟩, q⟩) h4
  · subst e
    obtain ⟨v, r, e, rv, er⟩ := rs
    subst e; cases er
    exact ⟨v, p, rfl, h1.dp R rv, h2, h3, h4, h5, k _ (.str _) M H .refl R rfl q⟩

/-! ### sequences -/
theorem SqF.l {K : PySem.W.Frag} {H : Hp} {a : Addr} {xs : List V} (h : SqF K H a xs) : SqL K H a xs := h.1
theorem sq_of {K : PySem.W.Frag} {M : MH} {H : Hp} {x : D} {v : V} {l : List D} (R : MR K M H) (r : Rep K H x v) (h : sqD M x l) : ∃ p vs, v = .ref p ∧ Reps K H l vs ∧ (SqT K H p vs ∨ SqL K H p vs) := by
  rcases h with h | h | ⟨a, h, h'⟩
  · subst h; obtain ⟨p, vs, e, h1, h2⟩ := r; exact ⟨p, vs, e, h2, .inl h1⟩
  · subst h; obtain ⟨p, vs, e, h1, h2⟩ := r; exact ⟨p, vs, e, h2, .inr h1.l⟩
  · subst h; obtain ⟨vs, h1, h2⟩ := R a _ h'; exact ⟨a, vs, r, h2, .inr (.of h1)⟩
theorem ixN_D {n : Nat} {i : Int} {j : Nat} (h : ixD n i = some j) : ixN n i = some j ∧ j < n := by
  unfold ixD at h
  unfold ixN
  by_cases h0 : 0 ≤ i
  · rw [if_pos h0] at h ⊢
    by_cases h1 : i < n
    · rw [if_pos h1] at h ⊢; cases h; exact ⟨rfl, by omega⟩
    · rw [if_neg h1] at h; cases h
  · rw [if_neg h0] at h ⊢
    by_cases h1 : 0 ≤ i + n
    · rw [if_pos h1] at h; cases h; rw [if_pos (by omega)]; exact ⟨rfl, by omega⟩
    · rw [if_neg h1] at h; cases h
def IxD (X : Cx) (r : RD2) : Prop := ∃ r' : R2, IxR X r' ∧ ∀ (x y : D) (v w : V) (M : MH) (H : Hp) (Qd : DQ) (Q : VK), MR X.K M H → Rep X.K H x v → Rep X.K H y w → r x y M Qd →
  (∀ z d M' H', Ev M H M' H' → MR X.K M' H' → Rep X.K H' d z → Qd d M' → Q z H') → r' v w H Q
theorem ix_any : IxR X (fun x y H Q => rIxT X.K x y H Q ∨ rIxL X.K x y H Q) := by
  intro value slice pins s σ H x y v u Q I rx ry h
  rcases h with h | h
  · exact ix_tup value slice pins s σ H x y v u Q I rx ry h
  · exact ix_list value slice pins s σ H x y v u Q I rx ry h
theorem xd_seq : IxD X rIx := ⟨_, ix_any, fun x y v w M H Qd Q R rx ry ⟨l, i, j, d, h1, h2, h3, h4, q⟩ k => by
  subst h2
  obtain ⟨p, vs, e, rs, hs⟩ := sq_of R rx h1
  subst e
  obtain ⟨z, g1, g2⟩ := rs.get h4
  have at' : atI vs i = some z := by
    unfold atI
    rw [← rs.len, (ixN_D h3).1]
    exact g1
  have fin := k z d M H .refl R g2 q
  rcases hs with hs | hs
  · exact .inl ⟨p, vs, i, z, rfl, ry, hs, at', fin⟩
  · exact .inr ⟨p, vs, i, z, rfl, ry, hs, at', fin⟩⟩
theorem de_ix {a b : Expr} {ta tb : DE} {pos : Pos} {r : RD2} (hr : IxD X r) (ha : PEd X a ta) (hb : PEd X b tb) (hs : PlainIx b := by exact fun _ _ => rfl) : PEd X (.Subscript a b pos) (dOp r ta tb) := by
  obtain ⟨r', h1, h2⟩ := hr
  exact peI (pe_ix h1 ha hb hs) (lift_op h2)
theorem sIx_nn (n : Nat) {i : Int} (h : 0 ≤ i) (d : Nat) : HT.sIx n d (some i) = min i.toNat n := by
  show (if i < 0 then (i + (n : Int)).toNat else min i.toNat n) = _
  rw [if_neg (by omega)]
theorem cut_eq {α : Type} (xs : List α) (lo hi : Option Int) (h1 : ∀ i, lo = some i → 0 ≤ i) (h2 : ∀ i, hi = some i → 0 ≤ i) :
    (xs.drop (HT.sIx xs.length 0 lo)).take (HT.sIx xs.length xs.length hi - HT.sIx xs.length 0 lo) = cutD xs (lo.map Int.toNat) (hi.map Int.toNat) := by
  have el : HT.sIx xs.length 0 lo = min ((lo.map Int.toNat).getD 0) xs.length := by
    cases lo with
    | none => simp [HT.sIx]
    | some i => rw [sIx_nn _ (h1 i rfl)]; rfl
  have eh : HT.sIx xs.length xs.length hi = min ((hi.map Int.toNat).getD xs.length) xs.length := by
    cases hi with
    | none => simp [HT.sIx]
    | some i => rw [sIx_nn _ (h2 i rfl)]; rfl
  rw [el, eh]
  unfold cutD
  rw [List.drop_take]
  apply List.ext_getElem?
  intro j
  simp only [List.getElem?_take, List.getElem?_drop]
  generalize (lo.map Int.toNat).getD 0 = a
  generalize (hi.map Int.toNat).getD xs.length = b
  by_cases ha : a ≤ xs.length
  · rw [Nat.min_eq_left ha]
    by_cases hb : b ≤ xs.length
    · rw [Nat.min_eq_left hb]
    · by_cases h : j < xs.length - a
      · rw [if_pos (by omega), if_pos (by omega)]
      · rw [if_neg (by omega)]
        split
        · rw [List.getElem?_eq_none (by omega)]
        · rfl
  · rw [if_neg (by omega)]
    split
    · rw [List.getElem?_eq_none (by omega)]
    · rfl
theorem Reps.cut {K : PySem.W.Frag} {H : Hp} {l : List D} {vs : List V} (r : Reps K H l vs) (lo hi : Option Int) (h1 : ∀ i, lo = some i → 0 ≤ i) (h2 : ∀ i, hi = some i → 0 ≤ i) :
    Reps K H (cutD l (lo.map Int.toNat) (hi.map Int.toNat)) (cutV vs lo hi) := by
  rw [← cut_eq l lo hi h1 h2]
  unfold cutV
  rw [r.len]
  exact (r.drop _).take _
def LO (K : PySem.W.Frag) (t : DSt → MH → (Option Int → MH → Prop) → Prop) : TO := fun σ H Q => ∃ ρ M Qd, Slots K H ρ σ ∧ MR K M H ∧ t ρ M Qd ∧ ∀ i M' H', Ev M H M' H' → MR K M' H' → Qd i M' → Q i H'
theorem do_none : PO X none (LO X.K dNone) := ⟨fun pins s σ H Q I ⟨ρ, M, Qd, S, R, q, k⟩ => po_none.run pins s σ H Q I (k none M H .refl R q)⟩
theorem do_some {e : Expr} {te : DE} (h : PEd X e te) : PO X (some e) (LO X.K (dSome te)) := ⟨fun pins s σ H Q I ⟨ρ, M, Qd, S, R, q, k⟩ => (po_some h).run pins s σ H Q I ⟨ρ, M, _, S, R, q, fun v d M1 H1 e1 R1 r1 ⟨i, e, q1⟩ => by
  subst e
  exact ⟨i, r1, k (some i) M1 H1 e1 R1 q1⟩⟩⟩
theorem de_slice {e : Expr} {lo hi : Option Expr} {te : DE} {tl th : DSt → MH → (Option Int → MH → Prop) → Prop} {p2 pos : Pos} (he : PEd X e te) (hl : PO X lo (LO X.K tl)) (hh : PO X hi (LO X.K th)) :
    PEd X (.Subscript e (.Slice lo hi none p2) pos) (dSl te tl th) :=
  peI (pe_slice (sl_tupA.or sl_list) he hl hh) fun σ H Q ⟨ρ, M, Qd, S, R, q, k⟩ => ⟨ρ, M, _, S, R, q, fun v d M1 H1 e1 R1 r1 q1 => ⟨ρ, M1, _, S.ev e1, R1, q1, fun i M2 H2 e2 R2 q2 =>
    ⟨ρ, M2, _, S.ev (e1.trans e2), R2, q2, fun j M3 H3 e3 R3 ⟨p1, p2, q3⟩ => by
      have r3 := r1.ev (e2.trans e3)
      rcases q3 with ⟨l, e, q3⟩ | ⟨l, hx, q3⟩
      · subst e
        obtain ⟨a, vs, ea, ht, rs⟩ := r3
        subst ea
        refine .inl ⟨a, vs, rfl, ht, fun ⟨z1, z2⟩ => ?_, fun _ p n => ?_⟩
        · have hc := rs.cut i j p1 p2
          have : cutV vs i j = vs := by unfold cutV; rw [z1, z2]; simp
          rw [this] at hc
          exact k _ (.tup (cutD l (i.map Int.toNat) (j.map Int.toNat))) M3 H3 ((e1.trans e2).trans e3) R3 ⟨a, vs, rfl, ht, hc⟩ q3
        · exact k _ (.tup (cutD l (i.map Int.toNat) (j.map Int.toNat))) M3 (upd H3 p (.tup (cutV vs i j))) (((e1.trans e2).trans e3).trans (.new n)) (R3.new n) ⟨p, _, rfl, sq_new, (rs.cut i j p1 p2).ev (Ev.new (M := M3) n)⟩ q3
      · have : ∃ a vs, v = .ref a ∧ SqL X.K H3 a vs ∧ Reps X.K H3 l vs := by
          rcases hx with hx | ⟨a, hx, hm⟩
          · subst hx; obtain ⟨a, vs, ea, ht, rs⟩ := r3; exact ⟨a, vs, ea, ht.l, rs⟩
          · subst hx; obtain ⟨vs, h1, h2⟩ := R3 a _ hm; exact ⟨a, vs, r3, .of h1, h2⟩
        obtain ⟨a, vs, ea, hl, rs⟩ := this
        subst ea
        exact .inr ⟨a, vs, rfl, hl, fun p n => k _ (.ref p) (up M3 p (.lst (cutD l (i.map Int.toNat) (j.map Int.toNat)))) (upd H3 p _) (((e1.trans e2).trans e3).trans (.made n)) (R3.made n ⟨_, upd_same, (rs.cut i j p1 p2).ev (Ev.new (M := M3) n)⟩) rfl (q3 p (R3.free n))⟩⟩⟩⟩

/-! ### calls of builtins -/
theorem de_callB {x : Str} {p pos : Pos} {e : Expr} {es : List Expr} {t : DA} {id : String} {r : SpD} (hc : CallD X (.builtin id) r) (hm : X.mg x = none) (ha : PAd X (e :: es) t) (hv : bootBuiltins x = some (.builtin id) := by decide +kernel) (hg : Gl X x := by rfl)
    (hn : x ≠ "__name__" := by decide) (hdb : (x == ("__debug__" : Str)) = false := by decide) (he : starEach (e :: es) X.env = (false, eval e X.env) :: starEach es X.env := by rfl) (hpl : (backTo pos (starEach es X.env)).any (·.1) = false := by rfl) :
    PEd X (.Call (.Name x p) (e :: es) [] pos) (dCall r t) := by
  obtain ⟨r', h1, h2⟩ := hc
  exact peI (pe_callB h1 hg hm hv ha hn hdb he hpl) fun σ H Q ⟨ρ, M, Qd, S, R, q, k⟩ => ⟨ρ, M, _, S, R, q, fun vs ds M1 H1 e1 R1 r1 q1 => h2 ds vs M1 H1 Qd Q R1 r1 q1 fun z d M' H' e' R' r' q' => k z d M' H' (e1.trans e') R' r' q'⟩
theorem de_callTy {x : Str} {p pos : Pos} {e : Expr} {es : List Expr} {t : DA} {T : String} {r : SpD} (hc : CallD X (.type T) r) (hm : X.mg x = none) (ha : PAd X (e :: es) t) (hv : bootBuiltins x = some (.type T) := by decide +kernel) (hg : Gl X x := by rfl)
    (hn : x ≠ "__name__" := by decide) (hdb : (x == ("__debug__" : Str)) = false := by decide) (he : starEach (e :: es) X.env = (false, eval e X.env) :: starEach es X.env := by rfl) (hpl : (backTo pos (starEach es X.env)).any (·.1) = false := by rfl) :
    PEd X (.Call (.Name x p) (e :: es) [] pos) (dCall r t) := by
  obtain ⟨r', h1, h2⟩ := hc
  exact peI (pe_callTy h1 hg hm hv ha hn hdb he hpl) fun σ H Q ⟨ρ, M, Qd, S, R, q, k⟩ => ⟨ρ, M, _, S, R, q, fun vs ds M1 H1 e1 R1 r1 q1 => h2 ds vs M1 H1 Qd Q R1 r1 q1 fun z d M' H' e' R' r' q' => k z d M' H' (e1.trans e') R' r' q'⟩
theorem Reps.one' {K : PySem.W.Frag} {H : Hp} {d : D} {vs : List V} (h : Reps K H [d] vs) : ∃ v, vs = [v] ∧ Rep K H d v := by
  obtain ⟨v, r, e, h1, h2⟩ := h
  cases h2
  exact ⟨v, e, h1⟩
theorem Reps.two' {K : PySem.W.Frag} {H : Hp} {d e : D} {vs : List V} (h : Reps K H [d, e] vs) : ∃ v w, vs = [v, w] ∧ Rep K H d v ∧ Rep K H e w := by
  obtain ⟨v, r, e, h1, w, r', e', h2, h3⟩ := h
  cases h3; subst e'
  exact ⟨v, w, e, h1, h2⟩
theorem cd_list : CallD X (.type "list") cList := ⟨_, call_list_of, fun ds vs M H Qd Q R rs ⟨x, l, e, h, q⟩ k => by
  subst e
  obtain ⟨v, ev, rv⟩ := rs.one'
  subst ev
  obtain ⟨p, us, ep, ru, hs⟩ := sq_of R rv h
  subst ep
  exact ⟨p, us, rfl, hs.symm, fun a n => k _ (.ref a) (up M a (.lst l)) _ (.made n) (R.made n ⟨_, upd_same, ru.ev (Ev.new (M := M) n)⟩) rfl (q a (R.free n))⟩⟩
theorem cd_tuple : CallD X (.type "tuple") cTuple := ⟨_, call_tuple_of, fun ds vs M H Qd Q R rs ⟨x, l, e, h, q⟩ k => by
  subst e
  obtain ⟨v, ev, rv⟩ := rs.one'
  subst ev
  obtain ⟨p, us, ep, ru, hs⟩ := sq_of R rv h
  subst ep
  rcases hs with hs | hs
  · exact ⟨p, us, rfl, .inr ⟨hs, k _ (.tup l) M H .refl R ⟨p, us, rfl, hs, ru⟩ q⟩⟩
  · exact ⟨p, us, rfl, .inl ⟨hs, fun a n => k _ (.tup l) M _ (.new n) (R.new n) ⟨a, us, rfl, sq_new, ru.ev (Ev.new (M := M) n)⟩ q⟩⟩⟩
theorem cd_int : CallD X (.type "int") cIntB := ⟨_, call_int1, fun ds vs M H Qd Q R rs h k => by
  rcases h with ⟨i, e, q⟩ | ⟨i, e, q⟩
  · subst e
    obtain ⟨v, ev, rv⟩ := rs.one'
    subst ev; cases rv
    exact .inl ⟨i, rfl, k _ (.int i) M H .refl R rfl q⟩
  · subst e
    obtain ⟨v, ev, rv⟩ := rs.one'
    subst ev; cases rv
    exact .inr ⟨i, rfl, k _ (.int _) M H .refl R rfl q⟩⟩
theorem cd_abs : CallD X (.builtin "abs") cAbs := ⟨_, call_abs, fun ds vs M H Qd Q R rs ⟨i, e, q⟩ k => by
  subst e
  obtain ⟨v, ev, rv⟩ := rs.one'
  subst ev; cases rv
  exact ⟨i, rfl, k _ (.int _) M H .refl R rfl q⟩⟩
theorem cd_max2 (hc : X.calm = true) : CallD X (.builtin "max") cMax2 := ⟨_, call_max2 hc, fun ds vs M H Qd Q R rs ⟨i, j, e, q⟩ k => by
  subst e
  obtain ⟨v, w, ev, rv, rw'⟩ := rs.two'
  subst ev; cases rv; cases rw'
  exact ⟨i, j, rfl, k _ (.int _) M H .refl R rfl q⟩⟩
theorem cd_min2 (hc : X.calm = true) : CallD X (.builtin "min") cMin2 := ⟨_, call_min2 hc, fun ds vs M H Qd Q R rs ⟨i, j, e, q⟩ k => by
  subst e
  obtain ⟨v, w, ev, rv, rw'⟩ := rs.two'
  subst ev; cases rv; cases rw'
  exact ⟨i, j, rfl, k _ (.int _) M H .refl R rfl q⟩⟩
theorem cd_len : CallD X (.builtin "len") cLenS := ⟨_, call_len, fun ds vs M H Qd Q R rs ⟨x, l, e, h, q⟩ k => by
  subst e
  obtain ⟨v, ev, rv⟩ := rs.one'
  subst ev
  obtain ⟨p, us, ep, ru, hs⟩ := sq_of R rv h
  subst ep
  refine ⟨.ref p, us.length, rfl, ?_, k _ (.int _) M H .refl R rfl (by rw [← ru.len]; exact q)⟩
  rcases hs with hs | hs
  · exact .inr ⟨us, hs, rfl⟩
  · exact .inl ⟨us, hs, rfl⟩⟩

/-! ### isinstance of a builtin type -/
theorem kit_non (T : Ty) : kitB "NoneType" T.nm = some false := by cases T <;> decide +kernel
theorem kit_bl (T : Ty) : kitB "bool" T.nm = some (match T with | .int => true | .bool => true | _ => false) := by cases T <;> decide +kernel
theorem kit_int (T : Ty) : kitB "int" T.nm = some (match T with | .int => true | _ => false) := by cases T <;> decide +kernel
theorem kit_str (T : Ty) : kitB "str" T.nm = some (match T with | .str => true | _ => false) := by cases T <;> decide +kernel
theorem kit_tup (T : Ty) : kitB "tuple" T.nm = some (match T with | .tuple => true | _ => false) := by cases T <;> decide +kernel
theorem kit_lis (T : Ty) : kitB "list" T.nm = some (match T with | .list => true | _ => false) := by cases T <;> decide +kernel
theorem kit_dic (T : Ty) : kitB "dict" T.nm = some (match T with | .dict => true | _ => false) := by cases T <;> decide +kernel
theorem ty_of {K : PySem.W.Frag} {M : MH} {H : Hp} (R : MR K M H) {x : D} {v : V} (r : Rep K H x v) (T : Ty) {M' : MH} {Q : DQ} (h : rIsi T x M Q) : ∃ t b, TyX K H v (.type t) ∧ kitB t T.nm = some b ∧ Q (.bl b) M := by
  rcases h with ⟨hn, q⟩ | ⟨a, l, e, hm, q⟩ | ⟨a, l, e, hm, q⟩
  · cases x with
    | non => cases r; exact ⟨"NoneType", _, .base .non, kit_non T, by cases T <;> exact q⟩
    | bl b => cases r; exact ⟨"bool", _, .base (.bl b), kit_bl T, by cases T <;> exact q⟩
    | int i => cases r; exact ⟨"int", _, .base (.int i), kit_int T, by cases T <;> exact q⟩
    | str i => cases r; exact ⟨"str", _, .base (.str i), kit_str T, by cases T <;> exact q⟩
    | ref a => exact absurd rfl (hn a)
    | tup l =>
      obtain ⟨p, vs, e, h1, h2⟩ := r
      subst e
      refine ⟨"tuple", _, ?_, kit_tup T, by cases T <;> exact q⟩
      rcases h1 with (h1 | ⟨o, h1⟩) | ⟨o, its, n, h1, h3, _⟩
      · exact .base (.tup h1)
      · exact .fTuple h1
      · exact .kTuple h1 h3
    | lis l =>
      obtain ⟨p, vs, e, ⟨h1, _⟩, h2⟩ := r
      subst e
      refine ⟨"list", _, ?_, kit_lis T, by cases T <;> exact q⟩
      rcases h1 with (h1 | ⟨o, h1⟩) | ⟨o, its, n, h1, h3, _⟩
      · exact .base (.lst h1)
      · exact .base (.frz h1)
      · exact .kList h1 h3
  · subst e; cases r
    obtain ⟨vs, h1, h2⟩ := R a _ hm
    exact ⟨"list", _, .base (.lst h1), kit_lis T, by cases T <;> exact q⟩
  · subst e; cases r
    obtain ⟨vs, h1, h2⟩ := R a _ hm
    exact ⟨"dict", _, .base (.dK h1), kit_dic T, by cases T <;> exact q⟩
theorem de_isi (T : Ty) {e : Expr} {te : DE} {x y : Str} {p p' pos : Pos} (hi : X.mg "isinstance" = none) (hT : X.mg y = none) (he : PEd X e te) (hx : x = "isinstance" := by rfl) (hv : bootBuiltins y = some (.type T.nm) := by decide +kernel)
    (hg : Gl X x := by rfl) (hg' : Gl X y := by rfl) (hn : y ≠ "__name__" := by decide) (hd : (y == ("__debug__" : Str)) = false := by decide)
    (h1 : starEach [e, .Name y p'] X.env = (false, eval e X.env) :: starEach [.Name y p'] X.env := by rfl) (h2 : starEach [.Name y p'] X.env = (false, eval (.Name y p') X.env) :: starEach [] X.env := by rfl) (hpl : (backTo pos (starEach [.Name y p'] X.env)).any (·.1) = false := by rfl) :
    PEd X (.Call (.Name x p) [e, .Name y p'] [] pos) (dUn (rIsi T) te) := by
  subst hx
  refine peI (pe_callB call_isi hg hi (by decide +kernel) (pa_cons he (pa_cons (pe_bltn (v := .ty T.nm) hg' hT hv rfl hn hd) pa_nil h2) h1) (by decide) (by decide) h1 hpl) fun σ H Q ⟨ρ, M, Qd, S, R, q, k⟩ => ?_
  refine ⟨ρ, M, _, S, R, q, fun v d M1 H1 e1 R1 r1 q1 => ?_⟩
  obtain ⟨t, b, h1, h2, h3⟩ := ty_of (M' := M1) R1 r1 T q1
  exact ⟨v, .ty T.nm, .type t, .type T.nm, b, rfl, .ty _, h1, kit_ty h2, k _ (.bl b) M1 H1 e1 R1 rfl h3⟩

/-! ### + of tuples, of lists -/
theorem Reps.ne {K : PySem.W.Frag} {H : Hp} {l : List D} {vs : List V} (r : Reps K H l vs) : l = [] ↔ vs = [] := by
  have := r.len
  cases l <;> cases vs <;> simp_all
theorem od_cat : OpD X (binaryOp .Add) rCat := by
  refine ⟨_, (op_catA (X := X)).or op_cat, fun x y v w M H Qd Q R rx ry h k => ?_⟩
  rcases h with ⟨l, m, ex, ey, z, q⟩ | ⟨a, b, l, m, ex, ey, ha, hb, z, q⟩
  · subst ex; subst ey
    obtain ⟨p, vs, ev, h1, r1⟩ := rx
    obtain ⟨p2, ws, ew, h2, r2⟩ := ry
    subst ev; subst ew
    refine .inl ⟨p, p2, vs, ws, rfl, rfl, h1, h2, by rw [← r1.len, ← r2.len]; exact z, fun e => ?_, fun e e' => ?_, fun e e' a n => ?_⟩
    · have := r1.ne.mpr e
      subst this
      exact k _ (.tup m) M H .refl R ⟨p2, ws, rfl, h2, r2⟩ q
    · have := r2.ne.mpr e'
      subst this
      exact k _ (.tup l) M H .refl R ⟨p, vs, rfl, h1, r1⟩ (by simpa using q)
    · exact k _ (.tup (l ++ m)) M _ (.new n) (R.new n) ⟨a, _, rfl, sq_new, (r1.app r2).ev (Ev.new (M := M) n)⟩ q
  · subst ex; subst ey; cases rx; cases ry
    obtain ⟨vs, h1, r1⟩ := R a _ ha
    obtain ⟨ws, h2, r2⟩ := R b _ hb
    exact .inr ⟨a, b, vs, ws, rfl, rfl, h1, h2, by rw [← r1.len, ← r2.len]; exact z, fun p n => k _ (.ref p) (up M p (.lst (l ++ m))) _ (.made n) (R.made n ⟨_, upd_same, (r1.app r2).ev (Ev.new (M := M) n)⟩) rfl (q p (R.free n))⟩
theorem od_cats : OpD X (binaryOp .Add) rStrCat := ⟨_, op_add_str, fun x y v w M H Qd Q R rx ry ⟨i, j, ex, ey, c, q⟩ k => by
  subst ex; subst ey
  exact ⟨i, j, rx, ry, c, k _ (.str (i ++ j)) M H .refl R rfl q⟩⟩
theorem od_plus : OpD X (binaryOp .Add) rPlus := od_add.or (od_cat.or od_cats)
theorem de_globI {x : Str} {i : Int} {pos : Pos} (h : ∃ t, X.mg x = some (.int i t)) (hg : Gl X x := by rfl) (hd : (x == ("__debug__" : Str)) = false := by decide) : PEd X (.Name x pos) (dC (.int i)) := by
  obtain ⟨t, e⟩ := h
  exact de_const (pe_glob (v := .int i) hg e ⟨t, rfl⟩ hd) fun _ => rfl
/-- d[k] -/
theorem ix_dict (hu : X.A.units + 1 < cLine) : IxR X (fun x y H Q => ∃ a v, x = .ref a ∧ DGet H a y (some v) ∧ Q v H) := by
  intro value slice pins s σ H x y v u Q I rx ry ⟨a, w, ex, g, q⟩ hs
  subst ex; cases rx
  have hT := dict_typeIs I g
  have core : wpAny (model X.prog X.w) X.A (getItem (.ref a) u) (EP X pins σ Q) X.xe s := d_getItem hu I g ry fun w' s3 I3 rw' => ⟨w, H, I3, rw', q⟩
  unfold PyProof.Rows.subscriptTail
  refine wpAny_bind ?_
  rw [getitemInPython_of_ne hT.not_modules]
  refine wpAny_bind (wpAny_specialOf hT PySem.F.slot_dict_getitem.lookup ?_)
  have last : wpAny (model X.prog X.w) X.A (subscripted slice false (.ref a) u) (fun r s₃ => wpAny (model X.prog X.w) X.A (letTemporaryGo value (.ref a) r >>= fun _ => pure r) (EP X pins σ Q) X.xe s₃) X.xe s := by
    rw [hs]
    exact wpAny_operating (wpAny_mono core (fun r s₃ h₃ => wpAny_bind (wpAny_letTemporaryGo (wpAny_pure h₃))) fun _ _ x => x)
  first
    | exact wpAny_pure (wpAny_bind last)
    | exact wpAny_bind (wpAny_pure (wpAny_bind last))
    | exact wpAny_bind last
theorem RepKV.val {K : PySem.W.Frag} {H : Hp} {k : Key} : ∀ {l : List (Key × D)} {ks : List (Key × V)}, RepKV K H l ks → (∀ d, lookD l k = some d → ∃ v, valV ks k = some v ∧ Rep K H d v) ∧ (lookD l k = none → valV ks k = none)
  | [], _, h => by cases h; exact ⟨fun d e => by simp [lookD] at e, fun _ => rfl⟩
  | (j, d) :: l, _, ⟨v, r, e, h1, h2⟩ => by
    subst e
    by_cases hj : j = k
    · refine ⟨fun d' e => ?_, fun e => ?_⟩
      · simp [lookD, List.find?_cons, hj] at e
        subst e
        exact ⟨v, by simp [valV, List.find?_cons, hj], h1⟩
      · simp [lookD, List.find?_cons, hj] at e
    · have ih := RepKV.val (k := k) h2
      refine ⟨fun d' e => ?_, fun e => ?_⟩
      · simp [lookD, List.find?_cons, hj] at e
        obtain ⟨v', e1, r1⟩ := ih.1 d' (by simp [lookD]; exact e)
        exact ⟨v', by simpa [valV, List.find?_cons, hj] using e1, r1⟩
      · simp [lookD, List.find?_cons, hj] at e
        simpa [valV, List.find?_cons, hj] using ih.2 (by simp [lookD]; exact e)
theorem key_rep {K : PySem.W.Frag} {H : Hp} {d : D} {k : Key} {v : V} (h : d.key = some k) (r : Rep K H d v) : v = kV k := by
  cases d <;> simp [D.key] at h <;> subst h <;> cases r <;> rfl
theorem dic_rd {K : PySem.W.Frag} {M : MH} {H : Hp} {a : Addr} {l : List (Key × D)} (R : MR K M H) (h : isDic M a l) : ∃ ks, Rd H a (.dK ks) ∧ RepKV K H l ks := by
  rcases h with h | h
  · obtain ⟨ks, h1, h2⟩ := R a _ h; exact ⟨ks, .inl h1, h2⟩
  · obtain ⟨o, ks, h1, h2⟩ := R a _ h; exact ⟨ks, .inr ⟨o, h1⟩, h2⟩
theorem xd_any (hu : X.A.units + 1 < cLine) : IxD X rItem := by
  obtain ⟨r', h1, h2⟩ := xd_seq (X := X)
  refine ⟨_, h1.or (ix_dict hu), fun x y v w M H Qd Q R rx ry q k => ?_⟩
  rcases q with q | ⟨a, l, j, d, ex, ek, hm, hd, q⟩
  · exact .inl (h2 x y v w M H Qd Q R rx ry q k)
  · subst ex; cases rx
    obtain ⟨ks, h3, h4⟩ := dic_rd R hm
    obtain ⟨u, h5, h6⟩ := (h4.val (k := j)).1 d hd
    exact .inr ⟨a, u, rfl, .inl ⟨ks, j, h3, key_rep ek ry, h5.symm⟩, k _ d M H .refl R h6 q⟩
end
end DL

/-! DL: statements, loops, comprehensions. -/
namespace DL
open PySem PySem.Spec L2
section
variable {X : Cx} {e a b c : Expr} {es : List Expr} {ta tb tc te : DE} {tA : DT} {t u : DS} {pos : Pos} {st : Stmt} {rest : List Stmt}

theorem ds_nil : PSsd X [] dNext := pssI pss_nil fun D σ H ⟨ρ, M, De, S, R, q, k⟩ => k.nx σ H ρ M .refl S R q
theorem ds_cons (h1 : PSd X st t) (h2 : PSsd X rest u) : PSsd X (st :: rest) (dSeq t u) := pssI (pss_cons h1 h2) fun D σ H ⟨ρ, M, De, S, R, q, k⟩ =>
  ⟨ρ, M, _, S, R, q, ⟨fun σ1 H1 ρ1 M1 e1 S1 R1 q1 => ⟨ρ1, M1, De, S1, R1, q1, k.later e1⟩, k.rt, k.bk, k.ct⟩⟩
theorem ds_cut (h1 : PSd X st t) (h2 : PSsd X rest u) : PSsd X (st :: rest) (dCut t u) := pssI (pss_cons h1 h2) fun D σ H ⟨ρ, M, De, S, R, ⟨J, q, hj⟩, k⟩ =>
  ⟨ρ, M, _, S, R, q, ⟨fun σ1 H1 ρ1 M1 e1 S1 R1 q1 => ⟨ρ1, M1, De, S1, R1, hj ρ1 M1 q1, k.later e1⟩, k.rt, k.bk, k.ct⟩⟩
theorem ds_one (h1 : PSd X st t) : PSsd X [st] t := pss_one h1
theorem ds_pass : PSd X (.Pass pos) dNext := psI ps_pass fun D σ H ⟨ρ, M, De, S, R, q, k⟩ => k.nx σ H ρ M .refl S R q
theorem ds_break : PSd X (.Break pos) dBreak := psI ps_break fun D σ H ⟨ρ, M, De, S, R, q, k⟩ => k.bk σ H ρ M .refl S R q
theorem ds_continue : PSd X (.Continue pos) dCont := psI ps_continue fun D σ H ⟨ρ, M, De, S, R, q, k⟩ => k.ct σ H ρ M .refl S R q
theorem ds_expr (he : PEd X e te) (hs : swapsWith e none pos.line X.env = pure false := by rfl) : PSd X (.Expr e pos) (dDrop te) := psI (ps_expr he hs) fun D σ H ⟨ρ, M, De, S, R, q, k⟩ =>
  ⟨ρ, M, _, S, R, q, fun v d M1 H1 e1 R1 r1 q1 => k.nx σ H1 ρ M1 e1 (S.ev e1) R1 q1⟩
theorem ds_ret (he : PEd X e te) : PSd X (.Return (some e) pos) (dRet te) := psI (ps_ret he) fun D σ H ⟨ρ, M, De, S, R, q, k⟩ =>
  ⟨ρ, M, _, S, R, q, fun v d M1 H1 e1 R1 r1 q1 => k.rt v d M1 H1 e1 R1 r1 q1⟩
theorem ds_retN : PSd X (.Return none pos) dRetN := psI ps_retN fun D σ H ⟨ρ, M, De, S, R, q, k⟩ => k.rt .non .non M H .refl R rfl q
theorem ds_if {c : Expr} {a b : List Stmt} (hc : PTd X c tA) (ha : PSsd X a t) (hb : PSsd X b u) : PSd X (.If c a b pos) (dIfS tA t u) := psI (ps_if hc ha hb) fun D σ H ⟨ρ, M, De, S, R, q, k⟩ =>
  ⟨ρ, M, _, S, R, q, fun c M1 H1 e1 R1 q1 => by
    cases c with
    | true => exact ⟨ρ, M1, De, S.ev e1, R1, q1, k.later e1⟩
    | false => exact ⟨ρ, M1, De, S.ev e1, R1, q1, k.later e1⟩⟩

/-! ### targets -/
mutual
/-- a target's reading below -/
def LG (K : PySem.W.Frag) : Tg → TG
  | .nm i => gName i
  | .tp ts => gTup K ts.length (LGs K ts)
def LGs (K : PySem.W.Frag) : List Tg → TGs
  | [] => gNil
  | t :: ts => gCons (LG K t) (LGs K ts)
end
mutual
theorem LG_ok {K : PySem.W.Frag} {M : MH} {H : Hp} (R : MR K M H) : ∀ (g : Tg) {d : D} {v : V} {ρ : DSt} {σ : L2.St} {Qd : DSt → Prop} {Q : L2.St → Hp → Prop}, Rep K H d v → Slots K H ρ σ → g.store M d ρ Qd → (∀ ρ' σ', Slots K H ρ' σ' → Qd ρ' → Q σ' H) → LG K g v σ H Q
  | .nm i, _, _, _, _, _, _, r, S, q, k => by rw [LG]; exact k _ _ (S.set r) (by rw [Tg.store] at q; exact q)
  | .tp ts, _, _, _, _, _, _, r, S, q, k => by
    rw [Tg.store] at q
    rw [LG]
    obtain ⟨l, e, hl, q⟩ := q
    subst e
    obtain ⟨p, vs, ev, ht, rs⟩ := r
    subst ev
    exact ⟨p, vs, rfl, ht, by rw [← rs.len, hl], LGs_ok R ts rs hl S q k⟩
theorem LGs_ok {K : PySem.W.Frag} {M : MH} {H : Hp} (R : MR K M H) : ∀ (ts : List Tg) {l : List D} {vs : List V} {ρ : DSt} {σ : L2.St} {Qd : DSt → Prop} {Q : L2.St → Hp → Prop}, Reps K H l vs → l.length = ts.length → Slots K H ρ σ → Tg.stores M ts l ρ Qd → (∀ ρ' σ', Slots K H ρ' σ' → Qd ρ' → Q σ' H) → LGs K ts vs σ H Q
  | [], l, vs, _, _, _, _, r, hl, S, q, k => by
    have : l = [] := by cases l with | nil => rfl | cons _ _ => simp at hl
    subst this
    cases r
    rw [LGs]
    rw [Tg.stores] at q
    · exact ⟨rfl, k _ _ S q⟩
    · intro _ _ _ _ h; cases h
  | t :: ts, l, vs, _, _, _, _, r, hl, S, q, k => by
    cases l with
    | nil => simp at hl
    | cons d l =>
      obtain ⟨v, vr, ev, h1, h2⟩ := r
      subst ev
      rw [Tg.stores] at q
      rw [LGs]
      exact ⟨v, vr, rfl, LG_ok R t h1 S q fun ρ' σ' S' q' => LGs_ok R ts h2 (by simpa using hl) S' q' k⟩
end
structure PGd (X : Cx) (tg : Expr) (g : Tg) : Prop where
  of : PG X tg (LG X.K g)
structure PGsd (X : Cx) (tgs : List Expr) (gs : List Tg) : Prop where
  of : PGs X tgs (LGs X.K gs)
theorem dg_nm (i : Nat) {x : Str} {pos : Pos} (hN : X.N.Nodup) (hi : X.N[i]? = some x := by rfl) (hx : Loc X.env.scope x := by first | exact Or.inl rfl | exact Or.inr rfl) (hf : X.fn x = true ∨ X.env.scope.names.lookup x = some .local := by first | exact .inl rfl | exact .inr rfl | assumption) : PGd X (.Name x pos) (.nm i) :=
  ⟨by rw [LG]; exact pg_name hN hi hx hf⟩
theorem dgs_nil : PGsd X [] [] := ⟨by rw [LGs]; exact pgs_nil⟩
theorem dgs_cons {g : Tg} {gs : List Tg} (h1 : PGd X e g) (h2 : PGsd X es gs) (hs : (assignEach (e :: es) X.env).map (·.2) = assign e X.env :: (assignEach es X.env).map (·.2) := by rfl) : PGsd X (e :: es) (g :: gs) :=
  ⟨by rw [LGs]; exact pgs_cons h1.of h2.of hs⟩
theorem dg_tp {gs : List Tg} {k : Nat} (hc : X.calm = true) (h : PGsd X es gs) (hn : (assignEach es X.env).length = gs.length := by rfl) (hst : (assignEach es X.env).findIdx? (·.1) = none := by rfl) : PGd X (.Tuple es k pos) (.tp gs) :=
  ⟨by rw [LG]; exact pg_tup hc h.of hn hst⟩
theorem ds_set {i : Nat} {x : Str} {pos' : Pos} (hN : X.N.Nodup) (he : PEd X e te) (hi : X.N[i]? = some x := by rfl) (hx : Loc X.env.scope x := by first | exact Or.inl rfl | exact Or.inr rfl) (hs : swapsWith e (some (.Name x pos')) pos.line X.env = pure false := by rfl) (hf : X.fn x = true ∨ X.env.scope.names.lookup x = some .local := by first | exact .inl rfl | exact .inr rfl | assumption) :
    PSd X (.Assign [.Name x pos'] e pos) (dAsg te (.nm i)) := psI (ps_set hN hi hx he hs hf) fun D σ H ⟨ρ, M, De, S, R, q, k⟩ =>
  ⟨ρ, M, _, S, R, q, fun v d M1 H1 e1 R1 r1 q1 => k.nx _ H1 _ M1 e1 ((S.ev e1).set r1) R1 (by simpa only [Tg.store] using q1)⟩
theorem ds_asg {tg : Expr} {g : Tg} (he : PEd X e te) (hg : PGd X tg g) (hs : swapsWithSole [tg] e pos.line X.env = pure false := by rfl) (hw : swappedStores [tg] e X.env = pure none := by rfl) (h1 : (assignEach [tg] X.env).map (·.2) = [assign tg X.env] := by rfl) :
    PSd X (.Assign [tg] e pos) (dAsg te g) := psI (ps_asg he hg.of hs hw h1) fun D σ H ⟨ρ, M, De, S, R, q, k⟩ =>
  ⟨ρ, M, _, S, R, q, fun v d M1 H1 e1 R1 r1 q1 => LG_ok R1 g r1 (S.ev e1) q1 fun ρ' σ' S' q' => k.nx σ' H1 ρ' M1 e1 S' R1 q'⟩
theorem ds_par {i j : Nat} {x y : Str} {a b : Expr} {t : DA} {px py pt : Pos} {kt k2 pt2} (hc : X.calm = true) (hN : X.N.Nodup) (ha : PAd X [a, b] t) (hi : X.N[i]? = some x := by rfl) (hj : X.N[j]? = some y := by rfl) (hij : i ≠ j := by decide)
    (hx : X.env.scope.names.lookup x = some .local := by rfl) (hy : X.env.scope.names.lookup y = some .local := by rfl)
    (hw : swappedStores [.Tuple [.Name x px, .Name y py] kt pt] (.Tuple [a, b] k2 pt2) X.env = pure (some [x, y]) := by rfl)
    (hs : swapsWithSole [.Tuple [.Name x px, .Name y py] kt pt] (.Tuple [a, b] k2 pt2) pos.line X.env = pure false := by rfl) :
    PSd X (.Assign [.Tuple [.Name x px, .Name y py] kt pt] (.Tuple [a, b] k2 pt2) pos) (dPar i j t) := psI (ps_par hc hN hi hj hij hx hy ha hw hs) fun D σ H ⟨ρ, M, De, S, R, q, k⟩ =>
  ⟨ρ, M, _, S, R, q, fun vs ds M1 H1 e1 R1 r1 ⟨x, y, ed, q1⟩ => by
    subst ed
    obtain ⟨v, w, ev, rv, rw'⟩ := r1.two'
    subst ev
    exact ⟨v, w, rfl, k.nx _ H1 _ M1 e1 (((S.ev e1).set rv).set rw') R1 q1⟩⟩
/-- o[i] = e of a list -/
theorem pset_list {pins : List (Addr × Obj)} : True := trivial
theorem ds_setIx {o i e : Expr} {to ti te : DE} {tpos : Pos} (he : PEd X e te) (ho : PEd X o to) (hi : PEd X i ti)
    (ha : ∀ v, assign (.Subscript o i tpos) X.env v = (do
      let ov ← holding [v] (eval o X.env)
      let iv ← holding [v, ov] (eval i X.env)
      standAt tpos
      holding [v, ov, iv] (setItem ov iv v)
      release [v, ov, iv] []) := by intro _; rfl)
    (hs : swapsWithSole [.Subscript o i tpos] e pos.line X.env = pure false := by rfl) (hw : swappedStores [.Subscript o i tpos] e X.env = pure none := by rfl) (h1 : (assignEach [.Subscript o i tpos] X.env).map (·.2) = [assign (.Subscript o i tpos) X.env] := by rfl) :
    PSd X (.Assign [.Subscript o i tpos] e pos) (dSetIx DL.rSetL te to ti) := psI (ps_asg he (pg_sub ho hi set_list ha) hs hw h1) fun D σ H ⟨ρ, M, De, S, R, q, k⟩ =>
  ⟨ρ, M, _, S, R, q, fun v d M1 H1 e1 R1 r1 q1 => ⟨ρ, M1, _, S.ev e1, R1, q1, fun w d2 M2 H2 e2 R2 r2 q2 => ⟨ρ, M2, _, S.ev (e1.trans e2), R2, q2, fun z d3 M3 H3 e3 R3 r3 ⟨a, l, n, j, ea, en, hm, hj, q3⟩ => by
    subst ea; subst en
    have r2' := r2.ev e3
    cases r2'; cases r3
    obtain ⟨vs, g1, g2⟩ := R3 a _ hm
    refine ⟨a, vs, n, j, rfl, rfl, g1, by rw [← g2.len]; exact (ixN_D hj).1, ?_⟩
    have E := Ev.put (M := M3) (H := H3) (v := .lst (l.set j d)) (u := .lst (vs.set j v)) hm g1 trivial
    exact k.nx _ _ ρ _ (((e1.trans e2).trans e3).trans E) (S.ev (((e1.trans e2).trans e3).trans E)) (R3.put hm g1 trivial ⟨_, upd_same, (g2.set ((r1.ev e2).ev e3) j).ev E⟩) q3⟩⟩⟩
/-- x op= e of a name -/
def IpD (X : Cx) (op : Operator) (r : RD2) : Prop := ∃ r' : TIp, PIp X op r' ∧ ∀ (x y : D) (v w : V) (M : MH) (H : Hp) (Qd : DQ) (Q : VK), MR X.K M H → Rep X.K H x v → Rep X.K H y w → r x y M Qd →
  (∀ z d M' H', Ev M H M' H' → MR X.K M' H' → Rep X.K H' d z → Qd d M' → Q z H') → r' v w H Q
theorem pd_add : IpD X .Add rAdd := ⟨_, ip_add, fun x y v w M H Qd Q R rx ry ⟨i, j, ex, ey, c, q⟩ k => by
  subst ex; subst ey
  exact ⟨i, j, rx, ry, k _ (.int (i + j)) M H .refl R rfl q⟩⟩
theorem pd_sub : IpD X .Sub rSub := ⟨_, ip_sub, fun x y v w M H Qd Q R rx ry ⟨i, j, ex, ey, c, q⟩ k => by
  subst ex; subst ey
  exact ⟨i, j, rx, ry, k _ (.int (i - j)) M H .refl R rfl q⟩⟩
theorem pip_mul : PIp X .Mult (fun x y H Q => ∃ i j, x = .int i ∧ y = .int j ∧ CMul i j ∧ Q (.int (i * j)) H) := fun pins s σ H x y v u Q I r1 r2 h => iop_mul pins s σ H x y v u Q I r1 r2 h
theorem pd_mul : IpD X .Mult DL.rMul := ⟨_, pip_mul, fun x y v w M H Qd Q R rx ry ⟨i, j, ex, ey, c, q⟩ k => by
  subst ex; subst ey
  exact ⟨i, j, rx, ry, (by rcases c with c | c <;> first | exact .inl (nat64 c) | exact .inr (nat64 c)), k _ (.int (i * j)) M H .refl R rfl q⟩⟩
theorem ds_aug {i : Nat} {x : Str} {op : Operator} {r : RD2} {pos' : Pos} (hN : X.N.Nodup) (ho : IpD X op r) (he : PEd X e te) (hi : X.N[i]? = some x := by rfl) (hx : Loc X.env.scope x := by first | exact Or.inl rfl | exact Or.inr rfl) (hf : X.fn x = true ∨ X.env.scope.names.lookup x = some .local := by first | exact .inl rfl | exact .inr rfl | assumption) :
    PSd X (.AugAssign (.Name x pos') op e pos) (dAug i r te) := by
  obtain ⟨r', h1, h2⟩ := ho
  exact psI (ps_aug hN hi hx he h1 hf) fun D σ H ⟨ρ, M, De, S, R, ⟨x, ex, q⟩, k⟩ => by
    obtain ⟨v, ev, rv⟩ := S.2 i x ex
    exact ⟨v, ev, ρ, M, _, S, R, q, fun w d M1 H1 e1 R1 r1 q1 => h2 x d v w M1 H1 _ _ R1 (rv.ev e1) r1 q1 fun z dz M2 H2 e2 R2 r2 q2 => k.nx _ H2 _ M2 (e1.trans e2) ((S.ev (e1.trans e2)).set r2) R2 q2⟩

/-! ### methods of lists -/
def MtD (X : Cx) (id : String) (r : D → SpD) : Prop := ∃ r', MtM X id r' ∧ ∀ (x : D) (ds : List D) (v : V) (vs : List V) (M : MH) (H : Hp) (Qd : DQ) (Q : VK), MR X.K M H → Rep X.K H x v → Reps X.K H ds vs → r x ds M Qd →
  (∀ z d M' H', Ev M H M' H' → MR X.K M' H' → Rep X.K H' d z → Qd d M' → Q z H') → r' v vs H Q
def TyD (K : PySem.W.Frag) (T : String) (ty : MH → D → Prop) : Prop := ∀ x v M H, MR K M H → Rep K H x v → ty M x → tyV K T v H
theorem ty_lst {K : PySem.W.Frag} : TyD K "list" isLst := fun x v M H R r ⟨a, l, e, hm⟩ => by
  subst e; cases r
  obtain ⟨vs, h1, _⟩ := R a _ hm
  exact .inl ⟨rfl, _, .inl (.inl h1)⟩
theorem de_meth {o e : Expr} {es : List Expr} {to : DE} {t : DA} {name : Str} {apos cpos : Pos} {T id : String} {r : D → SpD} {ty : MH → D → Prop} (pa : PlainAttrs T) (slot : Slot T name id) (hty : typeOf (.builtin id) = pure (.type "method_descriptor")) (hm : MtD X id r) (hT : TyD X.K T ty) (ho : PEd X o to) (ha : PAd X (e :: es) t)
    (hbase : attributeBase o name X.env (eval o X.env) = eval o X.env := by rfl)
    (hfew : ((backTo cpos (starEach (e :: es) X.env)).all (fun x => !x.1) && (backToKw cpos (keywordEach [] X.env)).all (fun x => x.1.isSome)
      && decide ((e :: es).length + ([] : List Keyword).length + (if ([] : List Keyword).isEmpty then 0 else 1) < 30)) = true := by rfl)
    (hline : (apos.endLine == cpos.line) = true := by rfl) (hs : starEach (e :: es) X.env = (false, eval e X.env) :: starEach es X.env := by rfl) (hplain : (backTo cpos (starEach es X.env)).any (·.1) = false := by rfl) :
    PEd X (.Call (.Attribute o name apos) (e :: es) [] cpos) (dMeth ty r to t) := by
  obtain ⟨r', h1, h2⟩ := hm
  exact peI (pe_bm pa slot hty h1 ho ha hbase hfew hline hs hplain) fun σ H Q ⟨ρ, M, Qd, S, R, q, k⟩ => ⟨ρ, M, _, S, R, q, fun v d M1 H1 e1 R1 r1 ⟨q0, q1⟩ => ⟨hT d v M1 H1 R1 r1 q0, ρ, M1, _, S.ev e1, R1, q1, fun vs ds M2 H2 e2 R2 r2 q2 =>
    h2 d ds v vs M2 H2 Qd Q R2 (r1.ev e2) r2 q2 fun z d M' H' e' R' r' q' => k z d M' H' ((e1.trans e2).trans e') R' r' q'⟩⟩
theorem md_append : MtD X "list.append" mAppend := ⟨_, mt_append, fun x ds v vs M H Qd Q R rx rs ⟨a, l, d, ex, ed, hm, hz, q⟩ k => by
  subst ex; subst ed; cases rx
  obtain ⟨w, ew, rw'⟩ := rs.one'
  subst ew
  obtain ⟨us, h1, h2⟩ := R a _ hm
  have E := Ev.put (M := M) (H := H) (v := .lst (l ++ [d])) (u := .lst (us ++ [w])) hm h1 trivial
  exact ⟨a, us, w, rfl, rfl, h1, by rw [← h2.len]; exact hz, k _ .non (up M a (.lst (l ++ [d]))) _ E (R.put hm h1 trivial ⟨_, upd_same, (h2.app (.one rw')).ev E⟩) rfl q⟩⟩
theorem md_extend : MtD X "list.extend" mExtL := ⟨_, mt_extend, fun x ds v vs M H Qd Q R rx rs ⟨a, b, l, m, ex, ed, hm, hb, hz, q⟩ k => by
  subst ex; subst ed; cases rx
  obtain ⟨w, ew, rw'⟩ := rs.one'
  subst ew; cases rw'
  obtain ⟨us, h1, h2⟩ := R a _ hm
  obtain ⟨ws, g1, g2⟩ := R b _ hb
  have E := Ev.put (M := M) (H := H) (v := .lst (l ++ m)) (u := .lst (us ++ ws)) hm h1 trivial
  exact ⟨a, b, us, ws, rfl, rfl, h1, g1, by rw [← h2.len, ← g2.len]; exact hz, k _ .non (up M a (.lst (l ++ m))) _ E (R.put hm h1 trivial ⟨_, upd_same, (h2.app g2).ev E⟩) rfl q⟩⟩
end
end DL

/-! DL: loops, comprehensions. -/
namespace DL
open PySem PySem.Spec L2
/-- an iterator yields the items xs while G stands -/
structure Snd (K : PySem.W.Frag) (H0 : Hp) (J : It) (xs : List D) (G : MH → Prop) : Prop where
  go : ∀ i x M H, KeepT K H0 H → MR K M H → G M → xs[i]? = some x → J.go i H
  yld : ∀ i x M H v H', KeepT K H0 H → MR K M H → G M → xs[i]? = some x → J.yld i H v H' → Ev M H M H' ∧ MR K M H' ∧ Rep K H' x v
  stop : ∀ M H, KeepT K H0 H → MR K M H → G M → J.stop xs.length H
def PId (X : Cx) (tg iter : Expr) (ti : DI) : Prop := ∃ wi, PI X tg iter wi ∧ ∀ (σ : L2.St) (H : Hp) (R : It → Hp → Prop) (ρ : DSt) (M : MH) (Rd : List D → (MH → Prop) → MH → Prop), Slots X.K H ρ σ → MR X.K M H → ti ρ M Rd →
  (∀ J xs G M' H', Ev M H M' H' → MR X.K M' H' → Snd X.K H' J xs G → Rd xs G M' → R J H') → wi σ H R
theorem KeepT.refl {K : PySem.W.Frag} {H : Hp} : KeepT K H H := ⟨fun _ _ h => h, fun _ _ h => h⟩
theorem KeepT.trans {K : PySem.W.Frag} {H H1 H2 : Hp} (a : KeepT K H H1) (b : KeepT K H1 H2) : KeepT K H H2 := ⟨fun x y h => b.t x y (a.t x y h), fun x y h => b.f x y (a.f x y h)⟩
section
variable {X : Cx} {tg iter : Expr} {pos : Pos}
theorem Inv.seq_inj {K : PySem.W.Frag} : True := trivial
/-- over a tuple, a list -/
def itAny (K : PySem.W.Frag) (tl : TE) : TI := fun σ H R => tl σ H fun x H1 => ∃ a, x = .ref a ∧ ((∃ xs, SqT K H1 a xs ∧ R (Itt K a) H1) ∨ (∃ xs, SqL K H1 a xs ∧ R (Itl K a) H1))
theorem pi_seq {l : Expr} {tl : TE} (hl : PE X l tl) : PI X tg l (itAny X.K tl) := by
  refine ⟨fun pins s σ H R I h => ?_⟩
  refine thn (hl.run pins s σ H _ I h) fun v s1 ⟨x, H1, I1, r1, a, e, q⟩ => ?_
  subst e
  cases r1
  have step : ∀ {o : Obj} {J : It} {tn : Nat → Heap → Prop}, Turn X.prog X.w X.K tg J [s1.heap.objs.size] s1.heap.objs.size tn → tn 0 (s1.heap.push o) → R J H1 →
      PIE X pins σ tg R (.ref s1.heap.objs.size) { s1 with heap := s1.heap.push o } := fun {o J tn} T t0 q => by
    refine ⟨s1.heap.objs.size, [s1.heap.objs.size], _, _, H1, rfl, I1.kept (t' := s1.toks) fun b o e => Heap.get?_push_of_some _ e, T, t0, fun b hb => ?_, q⟩
    have e : b = s1.heap.objs.size := by simpa using hb
    subst e
    exact I1.fpOk (Nat.le_refl _) (I1.hok.fresh (Nat.le_refl _))
  rcases q with ⟨xs, hq, q⟩ | ⟨xs, hq, q⟩
  · obtain ⟨its, rv, p, hz⟩ := I1.tuple hq
    exact wpAny_pyIter_tuple (show s1.heap.IsTuple a its.toArray from p) (step (turn_tuple a _) ⟨_, Heap.get?_push_size _ rfl, rfl, rfl⟩ q)
  · obtain ⟨its, rv, p, hz⟩ := I1.list hq
    exact wpAny_pyIter_list p.isList (step (turn_list a _) ⟨_, Heap.get?_push_size _ rfl, rfl, rfl⟩ q)
theorem Snd.t {K : PySem.W.Frag} {H : Hp} {a : Addr} {vs : List V} {xs : List D} (h : SqT K H a vs) (r : Reps K H xs vs) : Snd K H (Itt K a) xs (fun _ => True) where
  go := fun i x M H' k R g e => by
    obtain ⟨v, e1, _⟩ := r.get e
    exact ⟨vs, v, k.t _ _ h, e1⟩
  yld := fun i x M H' v H'' k R g e y => by
    obtain ⟨e0, y⟩ := y
    subst e0
    obtain ⟨v', e1, r1⟩ := r.get e
    have := y vs (k.t _ _ h)
    rw [e1] at this; cases this
    exact ⟨.refl, R, r1.mono k⟩
  stop := fun M H' k R g => ⟨vs, k.t _ _ h, Nat.le_of_eq r.len.symm⟩
theorem Snd.f {K : PySem.W.Frag} {H : Hp} {a : Addr} {vs : List V} {xs : List D} (h : SqF K H a vs) (r : Reps K H xs vs) : Snd K H (Itl K a) xs (fun _ => True) where
  go := fun i x M H' k R g e => by
    obtain ⟨v, e1, _⟩ := r.get e
    exact ⟨vs, v, (k.f _ _ h).l, e1⟩
  yld := fun i x M H' v H'' k R g e y => by
    obtain ⟨e0, y⟩ := y
    subst e0
    obtain ⟨v', e1, r1⟩ := r.get e
    have := y vs (k.f _ _ h).l
    rw [e1] at this; cases this
    exact ⟨.refl, R, r1.mono k⟩
  stop := fun M H' k R g => ⟨vs, (k.f _ _ h).l, Nat.le_of_eq r.len.symm⟩
theorem Snd.l {K : PySem.W.Frag} {H : Hp} {a : Addr} {xs : List D} : Snd K H (Itl K a) xs (fun M => M a = some (.lst xs)) where
  go := fun i x M H' k R g e => by
    obtain ⟨vs, h1, r⟩ := R a _ g
    obtain ⟨v, e1, _⟩ := r.get e
    exact ⟨vs, v, .of h1, e1⟩
  yld := fun i x M H' v H'' k R g e y => by
    obtain ⟨e0, y⟩ := y
    subst e0
    obtain ⟨vs, h1, r⟩ := R a _ g
    obtain ⟨v', e1, r1⟩ := r.get e
    have := y vs (.of h1)
    rw [e1] at this; cases this
    exact ⟨.refl, R, r1⟩
  stop := fun M H' k R g => by
    obtain ⟨vs, h1, r⟩ := R a _ g
    exact ⟨vs, .of h1, Nat.le_of_eq r.len.symm⟩
theorem rangeD_get : ∀ (n : Nat) (lo : Int) (i : Nat), i < n → (rangeD lo n)[i]? = some (.int (lo + i))
  | 0, _, _, h => by omega
  | n + 1, lo, 0, _ => by simp [rangeD]
  | n + 1, lo, i + 1, h => by
    rw [rangeD, List.getElem?_cons_succ, rangeD_get n (lo + 1) i (by omega)]
    congr 2
    push_cast
    omega
theorem rangeD_len : ∀ (n : Nat) (lo : Int), (rangeD lo n).length = n
  | 0, _ => rfl
  | n + 1, lo => by rw [rangeD, List.length_cons, rangeD_len n]
theorem Snd.r {K : PySem.W.Frag} {H : Hp} {lo : Int} {n : Nat} : Snd K H (Itr lo n) (rangeD lo n) (fun _ => True) where
  go := fun i x M H' k R g e => by
    have := (List.getElem?_eq_some_iff.mp e).1
    rw [rangeD_len] at this
    exact this
  yld := fun i x M H' v H'' k R g e y => by
    obtain ⟨e0, y⟩ := y
    subst e0; subst y
    have h := (List.getElem?_eq_some_iff.mp e).1
    rw [rangeD_len] at h
    rw [rangeD_get n lo i h] at e
    cases e
    exact ⟨.refl, R, rfl⟩
  stop := fun M H' k R g => by
    show n ≤ (rangeD lo n).length
    rw [rangeD_len]; exact Nat.le_refl _
theorem di_seq {e : Expr} {te : DE} (he : PEd X e te) : PId X tg e (iSeq te) := ⟨_, pi_seq he, fun σ H R ρ M Rd S Rm q k => ⟨ρ, M, _, S, Rm, q, fun v d M1 H1 e1 R1 r1 q1 => by
  rcases q1 with ⟨l, ed, q1⟩ | ⟨p, l, ed, hm, q1⟩
  · rcases ed with ed | ed
    · subst ed
      obtain ⟨a, vs, ev, h1, h2⟩ := r1
      subst ev
      exact ⟨a, rfl, .inl ⟨vs, h1, k _ l _ M1 H1 e1 R1 (.t h1 h2) q1⟩⟩
    · subst ed
      obtain ⟨a, vs, ev, h1, h2⟩ := r1
      subst ev
      exact ⟨a, rfl, .inr ⟨vs, h1.l, k _ l _ M1 H1 e1 R1 (.f h1 h2) q1⟩⟩
  · subst ed; cases r1
    obtain ⟨vs, h1, h2⟩ := R1 p _ hm
    exact ⟨p, rfl, .inr ⟨vs, .of h1, k _ l _ M1 H1 e1 R1 .l q1⟩⟩⟩⟩
theorem di_range1 {a : Expr} {ta : DA} {p pos : Pos} (hm : X.mg "range" = none) (ha : PAd X [a] ta) (hg : Gl X "range" := by rfl) (hs : starEach [a] X.env = [(false, eval a X.env)] := by rfl) : PId X tg (.Call (.Name "range" p) [a] [] pos) (iRange1 ta) :=
  ⟨_, pi_range1 hg hm ha hs, fun σ H R ρ M Rd S Rm q k => ⟨ρ, M, _, S, Rm, q, fun vs ds M1 H1 e1 R1 r1 ⟨x, ed, j, ej, h1, h2, q1⟩ => by
    subst ed; subst ej
    obtain ⟨v, ev, rv⟩ := r1.one'
    subst ev; cases rv
    exact ⟨j, rfl, h2, h1, k _ _ _ M1 H1 e1 R1 .r q1⟩⟩⟩
theorem di_range2 {a b : Expr} {ta : DA} {p pos : Pos} (hm : X.mg "range" = none) (ha : PAd X [a, b] ta) (hg : Gl X "range" := by rfl) (hs : starEach [a, b] X.env = [(false, eval a X.env), (false, eval b X.env)] := by rfl) (hs2 : starEach [b] X.env = [(false, eval b X.env)] := by rfl) :
    PId X tg (.Call (.Name "range" p) [a, b] [] pos) (iRange2 ta) :=
  ⟨_, pi_range2 hg hm ha hs hs2, fun σ H R ρ M Rd S Rm q k => ⟨ρ, M, _, S, Rm, q, fun vs ds M1 H1 e1 R1 r1 ⟨x, y, ed, i, ei, j, ej, ⟨h1, h2, h3, h4⟩, q1⟩ => by
    subst ed; subst ei; subst ej
    obtain ⟨v, w, ev, rv, rw'⟩ := r1.two'
    subst ev; cases rv; cases rw'
    exact ⟨i, j, rfl, ⟨h1, h2, h4, h3⟩, k _ _ _ M1 H1 e1 R1 .r q1⟩⟩⟩

/-! ### for -/
theorem drop_get {α : Type} {xs : List α} {i : Nat} (h : i < xs.length) : xs.drop i = xs[i] :: xs.drop (i + 1) := List.drop_eq_getElem_cons h
theorem ds_for {body : List Stmt} {ti : DI} {g : Tg} {tb : DS} (hp : PassesOwn (model X.prog X.w) X.A X.env X.xe) (hc : X.calm = true) (hi : PId X tg iter ti) (hg : PGd X tg g) (hb : PSsd X body tb)
    (hs : ∀ x, foldedSetIterable iter X.env x = pure x := by intro _; rfl) : PSd X (.For tg iter body [] pos) (dFor ti g tb) := by
  obtain ⟨wi, h1, h2⟩ := hi
  refine psI (ps_for hp hc h1 hg.of hb hs) fun D σ H ⟨ρ, M, De, S, R, q, k⟩ => h2 σ H _ ρ M _ S R q fun J xs G M1 H1 e1 R1 sn ⟨I, i0, it, il⟩ => ?_
  refine ⟨fun i m σ' H' => ∃ ρ' M', m = xs.length - i ∧ i ≤ xs.length ∧ Slots X.K H' ρ' σ' ∧ MR X.K M' H' ∧ KeepT X.K H1 H' ∧ I i ρ' M' ∧ EndsOk X.K M' H' De D,
    ⟨_, ρ, M1, rfl, Nat.zero_le _, S.ev e1, R1, .refl, i0, k.later e1⟩, ?_⟩
  rintro i m σ2 H2 ⟨ρ2, M2, rfl, hi, S2, R2, k2, q2, E2⟩
  by_cases hlt : i < xs.length
  · have ex : xs[i]? = some xs[i] := List.getElem?_eq_getElem hlt
    obtain ⟨g2, q2⟩ := it i _ ρ2 M2 ex q2
    refine .inr ⟨sn.go i _ M2 H2 k2 R2 g2 ex, fun σ' H' => ∃ ρ' M', i + 1 ≤ xs.length ∧ Slots X.K H' ρ' σ' ∧ MR X.K M' H' ∧ KeepT X.K H1 H' ∧ I (i + 1) ρ' M' ∧ EndsOk X.K M' H' De D,
      fun σ' H' ⟨ρ', M', h, r⟩ => ⟨xs.length - (i + 1), by omega, ρ', M', rfl, h, r⟩, fun x H3 y => ?_⟩
    obtain ⟨e3, R3, r3⟩ := sn.yld i _ M2 H2 x H3 k2 R2 g2 ex y
    refine LG_ok R3 g r3 (S2.ev e3) q2 fun ρ4 σ4 S4 q4 => ⟨ρ4, M2, _, S4, R3, q4, ?_⟩
    have E3 := E2.later e3
    have again : ∀ σ5 H5 ρ5 M5, Ev M2 H3 M5 H5 → Slots X.K H5 ρ5 σ5 → MR X.K M5 H5 → Wk (I (i + 1)) ρ5 M5 → ∃ ρ' M', i + 1 ≤ xs.length ∧ Slots X.K H5 ρ' σ5 ∧ MR X.K M' H5 ∧ KeepT X.K H1 H5 ∧ I (i + 1) ρ' M' ∧ EndsOk X.K M' H5 De D := fun σ5 H5 ρ5 M5 e5 S5 R5 ⟨ρ6, M6, l6, s6, q6⟩ =>
      ⟨ρ6, M6, hlt, S5.less l6, R5.sub s6, k2.trans (e3.sq.trans e5.sq), q6, (E3.later e5).later (Ev.refl.sub s6)⟩
    exact ⟨again, E3.rt, E3.nx, again⟩
  · have e : i = xs.length := by omega
    subst e
    obtain ⟨g2, q2⟩ := il ρ2 M2 q2
    exact .inl ⟨sn.stop M2 H2 k2 R2 g2, E2.nx _ _ _ _ .refl S2 R2 q2⟩

/-! ### while -/
theorem ds_while {c : Expr} {body : List Stmt} {tc : DT} {tb : DS} (hp : PassesOwn (model X.prog X.w) X.A X.env X.xe) (hc : PTd X c tc) (hb : PSsd X body tb) : PSd X (.While c body [] pos) (dWhile tc tb) :=
  psI (ps_while hp hc hb) fun D σ H ⟨ρ, M, De, S, R, ⟨I, ⟨n, i0⟩, it⟩, k⟩ => by
    refine ⟨fun m σ' H' => ∃ ρ' M', Slots X.K H' ρ' σ' ∧ MR X.K M' H' ∧ I m ρ' M' ∧ EndsOk X.K M' H' De D, ⟨n, ρ, M, S, R, i0, k⟩, ?_⟩
    rintro m σ2 H2 ⟨ρ2, M2, S2, R2, q2, E2⟩
    refine ⟨ρ2, M2, _, S2, R2, it m ρ2 M2 q2, fun b M3 H3 e3 R3 q3 => ?_⟩
    have E3 := E2.later e3
    cases b with
    | false => exact E3.nx _ _ _ _ .refl (S2.ev e3) R3 q3
    | true =>
      refine ⟨fun σ' H' => ∃ m', m' < m ∧ ∃ ρ' M', Slots X.K H' ρ' σ' ∧ MR X.K M' H' ∧ I m' ρ' M' ∧ EndsOk X.K M' H' De D, fun σ' H' h => h, ρ2, M3, _, S2.ev e3, R3, q3, ?_⟩
      have again : ∀ σ5 H5 ρ5 M5, Ev M3 H3 M5 H5 → Slots X.K H5 ρ5 σ5 → MR X.K M5 H5 → Wk (fun ρ' M' => ∃ m', m' < m ∧ I m' ρ' M') ρ5 M5 → ∃ m', m' < m ∧ ∃ ρ' M', Slots X.K H5 ρ' σ5 ∧ MR X.K M' H5 ∧ I m' ρ' M' ∧ EndsOk X.K M' H5 De D := fun σ5 H5 ρ5 M5 e5 S5 R5 ⟨ρ6, M6, l6, s6, m', hm, q6⟩ =>
        ⟨m', hm, ρ6, M6, S5.less l6, R5.sub s6, q6, (E3.later e5).later (Ev.refl.sub s6)⟩
      exact ⟨again, E3.rt, E3.nx, again⟩

/-! ### [.. for .. in .. if ..] -/
def PTsd (X : Cx) (ifs : List Expr) (t : DT) : Prop := PTs X ifs (LT X.K t)
theorem dts_nil : PTsd X [] tYesD := ⟨fun pins s σ H Q I ⟨ρ, M, Qd, S, R, q, k⟩ => pts_nil.run pins s σ H Q I (k true M H .refl R q)⟩
theorem dts_one {c : Expr} {t : DT} (h : PTd X c t) : PTsd X [c] t := pts_one h
theorem wipe_eq {K : PySem.W.Frag} {H : Hp} {ρ : DSt} {σ : L2.St} (S : Slots K H ρ σ) : ∀ vs : List Nat, Slots K H (wipeD ρ vs) (wipe σ vs)
  | [] => S
  | v :: vs => by
    have h := wipe_eq S vs
    unfold wipeD wipe
    refine ⟨by simp [h.1], fun i d e => ?_⟩
    by_cases hi : v = i
    · subst hi
      by_cases hl : v < (wipeD ρ vs).length
      · rw [List.getElem?_set_self hl] at e; cases e
      · rw [List.getElem?_eq_none (by simp; omega)] at e; cases e
    · rw [List.getElem?_set_ne hi] at e
      obtain ⟨w, e1, r⟩ := h.2 i d e
      exact ⟨w, by rw [List.getElem?_set_ne hi]; exact e1, r⟩
mutual
/-- the slots that a target stores -/
def Tg.slots : Tg → List Nat
  | .nm i => [i]
  | .tp ts => Tg.slotss ts
def Tg.slotss : List Tg → List Nat
  | [] => []
  | t :: ts => t.slots ++ Tg.slotss ts
end
theorem wipe_set {σ : L2.St} {v : Option V} {i : Nat} : ∀ {vs : List Nat}, i ∈ vs → wipe (σ.set i v) vs = wipe σ vs
  | w :: vs, h => by
    unfold wipe
    by_cases hi : i ∈ vs
    · rw [wipe_set hi]
    · have : w = i := by
        rcases List.mem_cons.mp h with z | z
        · exact z.symm
        · exact absurd z hi
      subst this
      have aux : ∀ us : List Nat, w ∉ us → wipe (σ.set w v) us = (wipe σ us).set w v := fun us => by
        induction us with
        | nil => intro _; rfl
        | cons u us ih =>
          intro hn
          unfold wipe
          rw [ih (fun z => hn (List.mem_cons_of_mem _ z))]
          exact List.set_comm _ _ (fun z => hn (by rw [z]; exact List.mem_cons_self))
      rw [aux vs hi, List.set_set]
mutual
theorem LG_wipe {K : PySem.W.Frag} {M : MH} {H : Hp} (R : MR K M H) (vs : List Nat) : ∀ (g : Tg) {d : D} {v : V} {ρ : DSt} {σ : L2.St} {Qd : DSt → Prop} {Q : L2.St → Hp → Prop}, (∀ i ∈ g.slots, i ∈ vs) → Rep K H d v → Slots K H ρ σ → g.store M d ρ Qd →
    (∀ ρ' σ', Slots K H ρ' σ' → wipe σ' vs = wipe σ vs → Qd ρ' → Q σ' H) → LG K g v σ H Q
  | .nm i, _, _, _, _, _, _, hs, r, S, q, k => by
    rw [LG]
    rw [Tg.store] at q
    exact k _ _ (S.set r) (wipe_set (hs i (by simp [Tg.slots]))) q
  | .tp ts, _, _, _, _, _, _, hs, r, S, q, k => by
    rw [Tg.store] at q
    rw [LG]
    obtain ⟨l, e, hl, q⟩ := q
    subst e
    obtain ⟨p, us, ev, ht, rs⟩ := r
    subst ev
    exact ⟨p, us, rfl, ht, by rw [← rs.len, hl], LGs_wipe R vs ts (fun i h => hs i (by simpa [Tg.slots] using h)) rs hl S q k⟩
theorem LGs_wipe {K : PySem.W.Frag} {M : MH} {H : Hp} (R : MR K M H) (ws : List Nat) : ∀ (ts : List Tg) {l : List D} {vs : List V} {ρ : DSt} {σ : L2.St} {Qd : DSt → Prop} {Q : L2.St → Hp → Prop}, (∀ i ∈ Tg.slotss ts, i ∈ ws) → Reps K H l vs → l.length = ts.length → Slots K H ρ σ → Tg.stores M ts l ρ Qd →
    (∀ ρ' σ', Slots K H ρ' σ' → wipe σ' ws = wipe σ ws → Qd ρ' → Q σ' H) → LGs K ts vs σ H Q
  | [], l, vs, _, _, _, _, hs, r, hl, S, q, k => by
    have : l = [] := by cases l with | nil => rfl | cons _ _ => simp at hl
    subst this
    cases r
    rw [LGs]
    rw [Tg.stores] at q
    · exact ⟨rfl, k _ _ S rfl q⟩
    · intro _ _ _ _ h; cases h
  | t :: ts, l, vs, _, _, _, _, hs, r, hl, S, q, k => by
    cases l with
    | nil => simp at hl
    | cons d l =>
      obtain ⟨v, vr, ev, h1, h2⟩ := r
      subst ev
      rw [Tg.stores] at q
      rw [LGs]
      exact ⟨v, vr, rfl, LG_wipe R ws t (fun i h => hs i (by rw [Tg.slotss]; exact List.mem_append_left _ h)) h1 S q fun ρ' σ' S' w' q' =>
        LGs_wipe R ws ts (fun i h => hs i (by rw [Tg.slotss]; exact List.mem_append_right _ h)) h2 (by simpa using hl) S' q' fun ρ2 σ2 S2 w2 q2 => k ρ2 σ2 S2 (w2.trans w') q2⟩
end
theorem wipe_get (σ : L2.St) (j : Nat) : ∀ vs : List Nat, (wipe σ vs)[j]? = if j ∈ vs ∧ j < σ.length then some none else σ[j]?
  | [] => by simp [wipe]
  | v :: vs => by
    unfold wipe
    by_cases hj : v = j
    · subst hj
      by_cases hl : v < σ.length
      · rw [List.getElem?_set_self (by rw [wipe_length]; exact hl)]; simp [hl]
      · rw [List.getElem?_eq_none (by simp [wipe_length]; omega)]
        have : ¬ v < σ.length := hl
        simp [this]
    · rw [List.getElem?_set_ne hj, wipe_get σ j vs]
      simp only [List.mem_cons, Ne.symm hj, false_or]
theorem wipe_wipe (σ : L2.St) (vs : List Nat) : wipe (wipe σ vs) vs = wipe σ vs := by
  apply List.ext_getElem?
  intro j
  rw [wipe_get, wipe_length, wipe_get]
  split <;> rfl
theorem KeepT.put {K : PySem.W.Frag} {H : Hp} {p : Addr} {av bv : List V} (h : H p = some (.lst av)) : KeepT K H (upd H p (.lst bv)) := by
  have ne : ∀ b o, H b = some o → (∀ xs, o ≠ .lst xs) → b ≠ p := fun b o e n z => by subst z; rw [h] at e; cases e; exact n _ rfl
  refine ⟨fun a xs q => ?_, fun a xs q => ?_⟩
  · rcases q with (q | ⟨o, q⟩) | q
    · exact .inl (.inl (by rw [upd_ne (ne _ _ q fun _ z => nomatch z)]; exact q))
    · exact .inl (.inr ⟨o, by rw [upd_ne (ne _ _ q fun _ z => nomatch z)]; exact q⟩)
    · exact .inr q
  · rcases q with ⟨q, ⟨o, g⟩ | g⟩
    · have e : upd H p (.lst bv) a = some (.frz o (.lst xs)) := by rw [upd_ne (ne _ _ g fun _ z => nomatch z)]; exact g
      exact ⟨.inl (.inr ⟨o, e⟩), .inl ⟨o, e⟩⟩
    · exact ⟨g _, .inr g⟩
theorem MR.hid {K : PySem.W.Frag} {M : MH} {H : Hp} {p : Addr} {av bv : List V} (R : MR K M H) (h : H p = some (.lst av)) (n : M p = none) : MR K M (upd H p (.lst bv)) := fun a o e =>
  (R a o e).keep (KeepT.put h) fun u q => by rw [upd_ne (ne_free e n)]; exact q
theorem Ev.hid {M M' : MH} {H H' : Hp} {p : Addr} {o : HO} (e : Ev M H M' H') (n : H p = none) : Ev M H M' (upd H' p o) :=
  ⟨fun a xs h => by rw [upd_ne (ne_of_none h n)]; exact e.tup a xs h, fun a o u h => by rw [upd_ne (ne_of_none h n)]; exact e.frz a o u h, fun a o h m => by rw [upd_ne (ne_of_none h n)]; exact e.frame a o h m, e.dom⟩
theorem lift_lc {K : PySem.W.Frag} {wi : TI} {ti : DI} {g : Tg} {tt : DT} {te : DE} {vs : List Nat} (hg : ∀ i ∈ g.slots, i ∈ vs)
    (h2 : ∀ (σ : L2.St) (H : Hp) (R : It → Hp → Prop) (ρ : DSt) (M : MH) (Rd : List D → (MH → Prop) → MH → Prop), Slots K H ρ σ → MR K M H → ti ρ M Rd → (∀ J xs G M' H', Ev M H M' H' → MR K M' H' → Snd K H' J xs G → Rd xs G M' → R J H') → wi σ H R)
    (σ : L2.St) (H : Hp) (Q : VK) : LE K (dLC ti g tt te vs) σ H Q → tLc wi (LG K g) (LT K tt) (LE K te) vs σ H Q := fun ⟨ρ, M, Qd, S, R, q, k⟩ => by
  refine h2 σ H _ ρ M _ S R q fun J xs G M1 H1 e1 R1 sn ⟨hz, I, i0, it, il⟩ => fun D nD => ?_
  have mD : M1 D = none := R1.free nD
  -- between two turns
  let W : Nat → Nat → Hp → Prop := fun i m H' => ∃ M' acc av, m = xs.length - i ∧ i ≤ xs.length ∧ acc.length ≤ i ∧ Ev M1 H1 M' H' ∧ MR K M' H' ∧ M' D = none ∧ H' D = some (.lst av) ∧ Reps K H' acc av ∧ I i acc M'
  refine ⟨W, ⟨_, M1, [], [], rfl, Nat.zero_le _, Nat.le_refl _, .new nD, R1.new nD, mD, upd_same, .nil, i0⟩, ?_⟩
  rintro i m H2 ⟨M2, acc, av, rfl, hi, hl, E12, R2, n2, hD, ra, q2⟩
  by_cases hlt : i < xs.length
  · have ex : xs[i]? = some xs[i] := List.getElem?_eq_getElem hlt
    obtain ⟨g2, q2⟩ := it i _ acc M2 ex hl q2
    refine .inr ⟨sn.go i _ M2 H2 E12.sq R2 g2 ex, fun H' => W (i + 1) (xs.length - (i + 1)) H', fun H' w => ⟨_, by omega, w⟩, fun x H3 y => ?_⟩
    obtain ⟨e3, R3, r3⟩ := sn.yld i _ M2 H2 x H3 E12.sq R2 g2 ex y
    refine LG_wipe R3 vs g hg r3 ((wipe_eq S vs).ev (e1.trans (E12.trans e3))) q2 fun ρ4 σ4 S4 w4 q4 => ⟨by rw [w4, wipe_wipe], ρ4, M2, _, S4, R3, q4, fun b M5 H5 e5 R5 q5 => ?_⟩
    have E35 := e3.trans e5
    have n5 : M5 D = none := by
      cases z : M5 D with
      | none => rfl
      | some o => have := E35.dom D n2 (by rw [z]; simp); rw [hD] at this; cases this
    have hD5 := E35.frame D _ hD n2
    cases b with
    | false =>
      obtain ⟨M6, s6, q6⟩ := q5
      refine ⟨M6, acc, av, rfl, hlt, Nat.le_succ_of_le hl, E12.trans (E35.sub s6), R5.sub s6, ?_, hD5, ra.ev E35, q6⟩
      cases z : M6 D with
      | none => rfl
      | some o => have := s6 D o z; rw [n5] at this; cases this
    | true =>
      refine ⟨ρ4, M5, _, S4.ev e5, R5, q5, fun v d M6 H6 e6 R6 r6 ⟨M7, s7, q7⟩ => ?_⟩
      have n6 : M6 D = none := by
        cases z : M6 D with
        | none => rfl
        | some o => have := e6.dom D n5 (by rw [z]; simp); rw [hD5] at this; cases this
      have hD6 := e6.frame D _ hD5 n5
      have E := (E35.trans e6).sub s7
      refine ⟨av, hD6, ?_, M7, acc ++ [d], av ++ [v], rfl, hlt, by simp; omega, (E12.trans E).hid nD, (R6.sub s7).hid hD6 ?_, ?_, upd_same, (((ra.ev E).app (.one r6)).mono (KeepT.put hD6)), q7⟩
      · rw [← ra.len]; omega
      · cases z : M7 D with
        | none => rfl
        | some o => have := s7 D o z; rw [n6] at this; cases this
      · cases z : M7 D with
        | none => rfl
        | some o => have := s7 D o z; rw [n6] at this; cases this
  · have e : i = xs.length := by omega
    subst e
    obtain ⟨g2, q2⟩ := il acc M2 q2
    refine .inl ⟨sn.stop M2 H2 E12.sq R2 g2, k (.ref D) (.ref D) (up M2 D (.lst acc)) H2 (e1.trans ⟨E12.tup, E12.frz, E12.frame, fun a n n' => ?_⟩) (fun a o h => ?_) rfl (q2 D n2)⟩
    · by_cases ha : a = D
      · subst ha; exact nD
      · rw [up_ne ha] at n'; exact E12.dom a n n'
    · by_cases ha : a = D
      · subst ha; rw [up_same] at h; cases h; exact ⟨av, hD, ra⟩
      · rw [up_ne ha] at h; exact R2 a o h
theorem blkC_by {N N' : List Str} {sc sc' scope : Scope} {own : List (Str × Nat)} (h1 : N = N') (h2 : sc = sc') (h : blkC N' sc' scope own = true) : blkC N sc scope own = true := by subst h1; subst h2; exact h
abbrev blkE (X : Cx) (scope : Scope) (s : Shared) (H : Hp) (C : Addr) (cl : List (Str × Addr)) (fp : List Addr) : Cx := X.blk s H scope (compEnvC scope cl C X.env) fp
theorem de_lc {elt : Expr} {ifs : List Expr} {scope : Scope} {own : List (Str × Nat)} {ti : DI} {g : Tg} {tt : DT} {te : DE} (hc : X.calm = true) (hN : X.N.Nodup) (hi : PId X tg iter ti) (ok : blkC X.N X.env.scope scope own = true)
    (hg : ∀ s H C cl fp, PGd (blkE X scope s H C cl fp) tg g) (ht : ∀ s H C cl fp, PTsd (blkE X scope s H C cl fp) ifs tt) (he : ∀ s H C cl fp, PEd (blkE X scope s H C cl fp) elt te)
    (hv : ∀ i ∈ g.slots, i ∈ own.map (·.2) := by decide) (hs : ∀ x, foldedSetIterable iter X.env x = pure x := by intro _; rfl) :
    PEd X (.ListComp elt [⟨tg, iter, ifs, 0⟩] scope pos) (dLC ti g tt te (own.map (·.2))) := by
  obtain ⟨wi, h1, h2⟩ := hi
  exact peI (pe_lc (tt := LT X.K tt) (te := LE X.K te) hc hN h1 (blkOk_by ok) (fun s H C cl fp => (hg s H C cl fp).of) (fun s H C cl fp => ht s H C cl fp) (fun s H C cl fp => he s H C cl fp) hs) (lift_lc hv h2)
theorem ds_setLc {i : Nat} {y : Str} {py spos : Pos} {elt : Expr} {ifs : List Expr} {scope : Scope} {own : List (Str × Nat)} {ti : DI} {g : Tg} {tt : DT} {te : DE} (hc : X.calm = true) (hN : X.N.Nodup) (hsw : swapsWith (.ListComp elt [⟨tg, iter, ifs, 0⟩] scope pos) (some (.Name y py)) spos.line X.env = pure true)
    (hi : PId X tg iter ti) (ok : blkC X.N X.env.scope scope own = true)
    (hg : ∀ s H C cl fp, PGd (blkE X scope s H C cl fp) tg g) (ht : ∀ s H C cl fp, PTsd (blkE X scope s H C cl fp) ifs tt) (he : ∀ s H C cl fp, PEd (blkE X scope s H C cl fp) elt te) (hy : X.N[i]? = some y := by rfl) (hyl : X.env.scope.names.lookup y = some .local := by rfl)
    (hv : ∀ i ∈ g.slots, i ∈ own.map (·.2) := by decide) (hs : ∀ x, foldedSetIterable iter X.env x = pure x := by intro _; rfl) :
    PSd X (.Assign [.Name y py] (.ListComp elt [⟨tg, iter, ifs, 0⟩] scope pos) spos) (dAsg (dLC ti g tt te (own.map (·.2))) (.nm i)) := by
  obtain ⟨wi, h1, h2⟩ := hi
  refine psI (ps_setLc (g := LG X.K g) (tt := LT X.K tt) (te := LE X.K te) hc hN hy hyl hsw h1 (blkOk_by ok) (fun s H C cl fp => (hg s H C cl fp).of) (fun s H C cl fp => ht s H C cl fp) (fun s H C cl fp => he s H C cl fp) hs) fun D σ H ⟨ρ, M, De, S, R, q, k⟩ => ?_
  exact lift_lc hv h2 σ H _ ⟨ρ, M, _, S, R, q, fun v d M1 H1 e1 R1 r1 q1 => k.nx _ H1 _ M1 e1 ((S.ev e1).set r1) R1 (by simpa only [Tg.store] using q1)⟩
end
end DL

/-! DL: enumerate over tuples and lists, zip. -/
namespace DL
open PySem PySem.Spec PyProof.Rows L2
/-- enumerate(v) of anything whose iterator is known: one argument -/
theorem enum_new1 {v : Value} {ob : Obj} {Hh : Heap → Prop} (B : Begins v ob Hh) : Meets (Builtin.«enumerate.__new__» ⟨[.type "enumerate", v], []⟩) (fun _ R s => Hh s.heap ∧ R (.ok (.ret (.ref (s.heap.push ob).objs.size)))
    { s with heap := (s.heap.push ob).push { cls := .type "enumerate", data := .fields #[.none, .bool false, .ref s.heap.objs.size, rawInt 0, .none, .none] } }) := .of_wp fun prog w A R ss hh => by
  obtain ⟨hp, gg, dd, tt, oo⟩ := ss
  obtain ⟨z1, z2⟩ := hh
  have hsub := sub_enumerate
  have begin1 : ∀ {A2 : Around} {E2 Q2 : Value → Shared → Prop}, Q2 (.ref hp.objs.size) ⟨hp.push ob, gg, dd, tt, oo⟩ → wpAny (model prog w) A2 (pyIter v) Q2 E2 ⟨hp, gg, dd, tt, oo⟩ := fun qq => B.iter prog w _ _ ⟨hp, gg, dd, tt, oo⟩ _ z1 qq
  wp_walk using begin1
  refine wpAny_stack_any fun _ => wpAny_pure ?_
  split
  case h_1 c _ _ _ _ _ =>
    cases (c == Value.type "enumerate") <;> (wp_walk using begin1; exact ⟨_, rfl, z2⟩)
  all_goals (wp_walk using begin1; exact ⟨_, rfl, z2⟩)
section
variable {prog : Program} {w : World} {A : Around} {E : Value → Shared → Prop} {s : Shared}
theorem enum_call1 {v : Value} {ob : Obj} {Hh : Heap → Prop} {Q : Value → Shared → Prop} (B : Begins v ob Hh) (z1 : Hh s.heap)
    (k : ∀ h', IsEnum h' (s.heap.objs.size + 1) s.heap.objs.size 0 .none → h'.get? s.heap.objs.size = some ob → h'.objs.size = s.heap.objs.size + 2 → (∀ b o, s.heap.get? b = some o → h'.get? b = some o) → Q (.ref (s.heap.objs.size + 1)) { s with heap := h' }) :
    wpAny (model prog w) A (call (.type "enumerate") [v]) Q E s := by
  refine callType_new F.called_enumerate (by decide) (F.typeCall_enumerate_1 _) (F.newCall_enumerate_1 _) (fun o2 => F.args_object_init_2 o2 _) F.entry_enumerate_new (enum_new1 B) ⟨z1, ?_⟩
  have sz : (s.heap.push ob).objs.size = s.heap.objs.size + 1 := Heap.size_push ..
  show _ ∧ _
  rw [sz]
  have at1 := Heap.get?_push_size (s.heap.push ob) (o := { cls := .type "enumerate", data := .fields #[.none, .bool false, .ref s.heap.objs.size, rawInt 0, .none, .none] }) rfl
  rw [sz] at at1
  exact ⟨⟨_, at1, rfl⟩, k _ at1 (Heap.get?_push_of_some _ (Heap.get?_push_size _ B.free)) (by rw [Heap.size_push, sz]) fun b o x => Heap.get?_push_of_some _ (Heap.get?_push_of_some _ x)⟩
end
/-- the tuple at a, each item with its place in a new pair -/
def IteT (K : PySem.W.Frag) (a : Addr) : It where
  go := fun i H => ∃ (xs : List V) (x : V), SqT K H a xs ∧ xs[i]? = some x
  yld := fun i H v H' => ∃ T x, v = .ref T ∧ H T = none ∧ H' = upd H T (.tup [.int (i : Nat), x]) ∧ ∀ xs, SqT K H a xs → xs[i]? = some x
  stop := fun i H => ∃ xs : List V, SqT K H a xs ∧ xs.length = i
theorem turn_enumT {P : Program} {w : World} {K : PySem.W.Frag} {elts : List Expr} {kk : Nat} {tpos : Pos} (a e it : Addr) :
    Turn P w K (.Tuple elts kk tpos) (IteT K a) [e, it] e (fun i h => (∃ old, IsEnum h e it ((i : Nat) : Int) old) ∧ h.IsTupleIter it a i ∧ e ≠ it ∧ e ≠ a ∧ a ≠ it) where
  mem := by simp
  obj := fun i h ⟨⟨_, he⟩, ⟨o, ho, _, hd⟩, _⟩ b hb => by
    rcases (show b = e ∨ b = it by simpa using hb) with rfl | rfl
    · exact ⟨_, he, fun v q => nomatch q⟩
    · exact ⟨o, ho, fun v q => by rw [hd] at q; cases q⟩
  keep := fun i h h' ⟨⟨old, he⟩, hi, hne⟩ k => ⟨⟨old, k e (by simp) _ he⟩, hi.at fun o q => k it (by simp) o q, hne⟩
  item := by
    intro X hP hw hK hc i pins s σ H E I hf ⟨⟨old, he⟩, hit, hne, hea, hai⟩ ⟨xs, x, hq, hx⟩
    subst hP hw hK
    obtain ⟨its, rv, p, hz⟩ := I.tuple hq
    obtain ⟨u, hu, ru⟩ := rv.get hx
    have hT0 : s.heap.IsTuple a its.toArray := p
    have hel := Heap.lt_size he
    have hil : it < s.heap.objs.size := by obtain ⟨_, q, _⟩ := hit; exact Heap.lt_size q
    have hi' : i < its.toArray.size := by
      have := (List.getElem?_eq_some_iff.mp hu).1
      simpa using this
    refine wpAny_pyNext_enum_itemD (Draws.tuple (A := X.A.in1) (I.ok.hd hc) it a hai its.toArray) he ⟨hit, hT0⟩ hi' hne (by simp [hne, hea]) fun y h' tk hy ho hs' hT hsz hk => ?_
    have eu : y = u := by
      have : its[i]? = some y := by simpa using hy
      rw [hu] at this; cases this; rfl
    subst eu
    refine ⟨_, rfl, wpAny_letOwnedTupleGo_enum (s := { s with heap := h', toks := tk + 1 }) ho fun h'' he' sb => ?_⟩
    have hT2 : h''.get? s.heap.objs.size = some { cls := .type "tuple", data := .seq #[.int i tk, y] } := (sb.2 _ (Nat.ne_of_gt hel)).trans hT
    have made : ObjOk X.prog X.w (upd H s.heap.objs.size (.tup [.int (i : Nat), x])) h'' s.heap.objs.size (.tup [.int (i : Nat), x]) := ⟨by show 2 ≤ sizeLine; decide, [.int i tk, y], .cons ⟨_, rfl⟩ (.cons ru .nil), ⟨_, hT2, rfl, _, rfl⟩⟩
    have I1 : Inv X pins σ (upd H s.heap.objs.size (.tup [.int (i : Nat), x])) { s with heap := h'', toks := tk + 1 } :=
      I.turnedNew (ch := [e, it]) (fun b ob hb q => (sb.2 b fun z => hb (by simp [z])).trans (hk b ob (fun z => hb (by simp [z])) (fun z => hb (by simp [z])) q)) hf (Nat.le_refl _) made
    have ic : (((i + 1 : Nat) : Nat) : Int) = (i : Int) + 1 := by omega
    refine ⟨.ref s.heap.objs.size, _, I1, rfl, ⟨_, x, rfl, I.hok.fresh (Nat.le_refl _), rfl, fun ys hy => by rw [I.tuple_inj hy hq]; exact hx⟩, ⟨⟨y, by rw [ic]; exact he'⟩, hs'.1.at fun o q => (sb.2 it (Ne.symm hne)).trans q, hne, hea, hai⟩, fun b hb => ?_⟩
    have hb' : b < s.heap.objs.size := by
      rcases (show b = e ∨ b = it by simpa using hb) with rfl | rfl
      · exact hel
      · exact hil
    rw [upd_ne (Nat.ne_of_lt hb')]
    exact (hf b hb).1
  done := by
    intro X hP hw hK hc i pins s σ H E I hf ⟨⟨old, he⟩, hit, hne, hea, hai⟩ ⟨xs, hq, hx⟩
    subst hP hw hK
    obtain ⟨its, rv, p, hz⟩ := I.tuple hq
    obtain ⟨f0, f1, f2, f3, f4, f5⟩ := hf it (by simp)
    have hl := rv.length
    have hT0 : s.heap.IsTuple a its.toArray := p
    have ei : i = its.toArray.size := by simp; omega
    rw [ei] at hit
    exact wpAny_pyNext_enum_endD (Draws.tuple (A := X.A.in1) (I.ok.hd hc) it a hai its.toArray) he ⟨hit, hT0⟩ fun h' eb => ⟨rfl, I.turned (t' := s.toks) (fun b o hb q => eb b o hb q) f0 f1 f3 f4 f5⟩
  self := fun A i s Q E ⟨⟨_, he⟩, _⟩ h => wpAny_pyIter_enum he h
section
variable {X : Cx} {tg : Expr} {pos : Pos}
def itEnum (K : PySem.W.Frag) (ta : TA) : TI := fun σ H R => ta σ H fun vs H1 => ∃ a xs, vs = [.ref a] ∧ ((SqL K H1 a xs ∧ R (Ite K a) H1) ∨ (SqT K H1 a xs ∧ R (IteT K a) H1))
theorem pi_enumA {e : Expr} {ta : TA} {p tpos : Pos} {elts : List Expr} {kk : Nat} (hg : Gl X "enumerate") (hm : X.mg "enumerate" = none) (ha : PA X [e] ta) (hs : starEach [e] X.env = [(false, eval e X.env)] := by rfl) :
    PI X (.Tuple elts kk tpos) (.Call (.Name "enumerate" p) [e] [] pos) (itEnum X.K ta) := by
  refine ⟨fun pins s σ H R I h => Call_ (ld_blt I hg hm boot_enumerate (PyProof.Rows.callWith_type1 (thn (ha.run pos pins s σ H _ I h) fun us s1 ⟨vs, H1, I1, r1, a, xs, ex, q⟩ => ?_) hs rfl))⟩
  subst ex
  cases r1 with
  | cons r rr =>
    cases rr
    cases r
    have fp : ∀ b, b ∈ [s1.heap.objs.size + 1, s1.heap.objs.size] → FpOk X pins H1 b := fun b hb => by
      have hle : s1.heap.objs.size ≤ b := by
        rcases (show b = s1.heap.objs.size + 1 ∨ b = s1.heap.objs.size by simpa using hb) with z | z <;> rw [z] <;> omega
      exact I1.fpOk hle (I1.hok.fresh hle)
    rcases q with ⟨hq, q⟩ | ⟨hq, q⟩
    · obtain ⟨its, rv, p', hz⟩ := I1.list hq
      refine call_enumerate_list p'.isList fun h' he hit hsz hk => wpAny_pyIter_enum he ?_
      exact ⟨s1.heap.objs.size + 1, _, _, _, H1, rfl, I1.kept (t' := s1.toks) hk, turn_enum a (s1.heap.objs.size + 1) s1.heap.objs.size, ⟨⟨.none, he⟩, hit, Nat.succ_ne_self _⟩, fp, q⟩
    · obtain ⟨its, rv, p', hz⟩ := I1.tuple hq
      have hT0 : s1.heap.IsTuple a its.toArray := p'
      have hal : a < s1.heap.objs.size := by obtain ⟨_, z, _⟩ := hT0; exact Heap.lt_size z
      refine enum_call1 (begins_tuple a its.toArray) hT0 fun h' he ho hsz hk => wpAny_pyIter_enum he ?_
      exact ⟨s1.heap.objs.size + 1, _, _, _, H1, rfl, I1.kept (t' := s1.toks) hk, turn_enumT a (s1.heap.objs.size + 1) s1.heap.objs.size, ⟨⟨.none, he⟩, ⟨_, ho, rfl, rfl⟩, Nat.succ_ne_self _, Nat.ne_of_gt (Nat.lt_succ_of_lt hal), Nat.ne_of_lt hal⟩, fp, q⟩
theorem enumD_get : ∀ (xs : List D) (k : Int) (i : Nat) (x : D), xs[i]? = some x → (enumD k xs)[i]? = some (.tup [.int (k + i), x])
  | [], _, _, _, h => by simp at h
  | y :: r, k, 0, x, h => by simp at h; simp [enumD, h]
  | y :: r, k, i + 1, x, h => by
    rw [enumD, List.getElem?_cons_succ, enumD_get r (k + 1) i x (by simpa using h)]
    congr 4
    push_cast
    omega
theorem enumD_len : ∀ (xs : List D) (k : Int), (enumD k xs).length = xs.length
  | [], _ => rfl
  | y :: r, k => by rw [enumD, List.length_cons, List.length_cons, enumD_len r]
theorem enumD_inv {xs : List D} {k : Int} {i : Nat} {z : D} (h : (enumD k xs)[i]? = some z) : ∃ x, xs[i]? = some x ∧ z = .tup [.int (k + i), x] := by
  have hl := (List.getElem?_eq_some_iff.mp h).1
  rw [enumD_len] at hl
  have := enumD_get xs k i xs[i] (by simp [hl])
  rw [h] at this
  exact ⟨xs[i], by simp [hl], by cases this; rfl⟩
/-- a new pair is a tuple of values -/
theorem pair_made {K : PySem.W.Frag} {M : MH} {H : Hp} {T : Addr} {d e : D} {v u : V} (n : H T = none) (R : MR K M H) (r : Rep K H d v) (r' : Rep K H e u) :
    Ev M H M (upd H T (.tup [v, u])) ∧ MR K M (upd H T (.tup [v, u])) ∧ Rep K (upd H T (.tup [v, u])) (.tup [d, e]) (.ref T) :=
  have rs : Reps K H [d, e] [v, u] := ⟨_, _, rfl, r, _, _, rfl, r', rfl⟩
  ⟨.new n, R.new n, T, _, rfl, sq_new, Reps.ev rs (Ev.new (M := M) n)⟩
theorem Snd.et {K : PySem.W.Frag} {H : Hp} {a : Addr} {vs : List V} {xs : List D} (h : SqT K H a vs) (r : Reps K H xs vs) : Snd K H (IteT K a) (enumD 0 xs) (fun _ => True) where
  go := fun i z M H' k R g e => by
    obtain ⟨x, ex, ez⟩ := enumD_inv e
    obtain ⟨v, e1, _⟩ := r.get ex
    exact ⟨vs, v, k.t _ _ h, e1⟩
  yld := fun i z M H' v H'' k R g e y => by
    obtain ⟨x, ex, rfl⟩ := enumD_inv e
    obtain ⟨T, u, rfl, n, rfl, y⟩ := y
    obtain ⟨v', e1, r1⟩ := r.get ex
    have := y vs (k.t _ _ h)
    rw [e1] at this; cases this
    have ei : (0 : Int) + (i : Nat) = (i : Nat) := by omega
    rw [ei]
    exact pair_made n R rfl (r1.mono k)
  stop := fun M H' k R g => ⟨vs, k.t _ _ h, by rw [enumD_len]; exact r.len.symm⟩
theorem Snd.ef {K : PySem.W.Frag} {H : Hp} {a : Addr} {vs : List V} {xs : List D} (h : SqF K H a vs) (r : Reps K H xs vs) : Snd K H (Ite K a) (enumD 0 xs) (fun _ => True) where
  go := fun i z M H' k R g e => by
    obtain ⟨x, ex, ez⟩ := enumD_inv e
    obtain ⟨v, e1, _⟩ := r.get ex
    exact ⟨vs, v, (k.f _ _ h).l, e1⟩
  yld := fun i z M H' v H'' k R g e y => by
    obtain ⟨x, ex, rfl⟩ := enumD_inv e
    obtain ⟨T, u, rfl, n, rfl, y⟩ := y
    obtain ⟨v', e1, r1⟩ := r.get ex
    have := y vs (k.f _ _ h).l
    rw [e1] at this; cases this
    have ei : (0 : Int) + (i : Nat) = (i : Nat) := by omega
    rw [ei]
    exact pair_made n R rfl (r1.mono k)
  stop := fun M H' k R g => ⟨vs, (k.f _ _ h).l, Nat.le_of_eq (by rw [enumD_len]; exact r.len.symm)⟩
theorem Snd.el {K : PySem.W.Frag} {H : Hp} {a : Addr} {xs : List D} : Snd K H (Ite K a) (enumD 0 xs) (fun M => M a = some (.lst xs)) where
  go := fun i z M H' k R g e => by
    obtain ⟨x, ex, ez⟩ := enumD_inv e
    obtain ⟨vs, h1, r⟩ := R a _ g
    obtain ⟨v, e1, _⟩ := r.get ex
    exact ⟨vs, v, .of h1, e1⟩
  yld := fun i z M H' v H'' k R g e y => by
    obtain ⟨x, ex, rfl⟩ := enumD_inv e
    obtain ⟨T, u, rfl, n, rfl, y⟩ := y
    obtain ⟨vs, h1, r⟩ := R a _ g
    obtain ⟨v', e1, r1⟩ := r.get ex
    have := y vs (.of h1)
    rw [e1] at this; cases this
    have ei : (0 : Int) + (i : Nat) = (i : Nat) := by omega
    rw [ei]
    exact pair_made n R rfl r1
  stop := fun M H' k R g => by
    obtain ⟨vs, h1, r⟩ := R a _ g
    exact ⟨vs, .of h1, Nat.le_of_eq (by rw [enumD_len]; exact r.len.symm)⟩
theorem di_enum {e : Expr} {ta : DA} {p tpos : Pos} {elts : List Expr} {kk : Nat} (hm : X.mg "enumerate" = none) (ha : PAd X [e] ta) (hg : Gl X "enumerate" := by rfl) (hs : starEach [e] X.env = [(false, eval e X.env)] := by rfl) :
    PId X (.Tuple elts kk tpos) (.Call (.Name "enumerate" p) [e] [] pos) (iEnum ta) := ⟨_, pi_enumA hg hm ha hs, fun σ H R ρ M Rd S Rm q k => ⟨ρ, M, _, S, Rm, q, fun vs ds M1 H1 e1 R1 r1 q1 => by
  obtain ⟨x, l, ed, q1⟩ := q1
  subst ed
  obtain ⟨v, ev, r⟩ := r1.one'
  subst ev
  rcases q1 with ⟨hx, q1⟩ | ⟨p, hx, hm, q1⟩
  · rcases hx with hx | hx
    · subst hx
      obtain ⟨a, vs, ev, h1, h2⟩ := r
      subst ev
      exact ⟨a, vs, rfl, .inr ⟨h1, k _ _ _ M1 H1 e1 R1 (.et h1 h2) q1⟩⟩
    · subst hx
      obtain ⟨a, vs, ev, h1, h2⟩ := r
      subst ev
      exact ⟨a, vs, rfl, .inl ⟨h1.l, k _ _ _ M1 H1 e1 R1 (.ef h1 h2) q1⟩⟩
  · subst hx; cases r
    obtain ⟨vs, h1, h2⟩ := R1 p _ hm
    exact ⟨p, vs, rfl, .inl ⟨.of h1, k _ _ _ M1 H1 e1 R1 .el q1⟩⟩⟩⟩
/-! ### zip -/
theorem zipD_inv {l m : List D} {i : Nat} {z : D} (h : (zipD l m)[i]? = some z) : ∃ x y, l[i]? = some x ∧ m[i]? = some y ∧ z = .tup [x, y] := by
  unfold zipD at h
  rw [List.getElem?_map] at h
  cases e : (l.zip m)[i]? with
  | none => rw [e] at h; cases h
  | some q =>
    rw [e] at h
    rw [List.getElem?_zip_eq_some] at e
    cases h
    exact ⟨q.1, q.2, e.1, e.2, rfl⟩
theorem zipD_len {l m : List D} : (zipD l m).length = min l.length m.length := by simp [zipD]
theorem Snd.zt {K : PySem.W.Frag} {H : Hp} {a b : Addr} {vs us : List V} {l m : List D} (h : SqT K H a vs) (h' : SqT K H b us) (r : Reps K H l vs) (r' : Reps K H m us) : Snd K H (RZ.ItzT K a b) (zipD l m) (fun _ => True) where
  go := fun i z M H' k R g e => by
    obtain ⟨x, y, ex, ey, rfl⟩ := zipD_inv e
    obtain ⟨v, e1, _⟩ := r.get ex
    obtain ⟨u, e2, _⟩ := r'.get ey
    exact ⟨vs, us, v, u, k.t _ _ h, k.t _ _ h', e1, e2⟩
  yld := fun i z M H' v H'' k R g e q => by
    obtain ⟨x, y, ex, ey, rfl⟩ := zipD_inv e
    obtain ⟨T, v1, u1, rfl, n, rfl, q1, q2⟩ := q
    obtain ⟨v2, e1, r1⟩ := r.get ex
    obtain ⟨u2, e2, r2⟩ := r'.get ey
    have t1 := q1 vs (k.t _ _ h)
    have t2 := q2 us (k.t _ _ h')
    rw [e1] at t1; cases t1
    rw [e2] at t2; cases t2
    exact pair_made n R (r1.mono k) (r2.mono k)
  stop := fun M H' k R g => ⟨vs, us, k.t _ _ h, k.t _ _ h', by
    have l1 := r.len
    have l2 := r'.len
    rw [zipD_len]; omega⟩
theorem Snd.zl {K : PySem.W.Frag} {H : Hp} {a b : Addr} {l m : List D} : Snd K H (Itz K a b) (zipD l m) (fun M => M a = some (.lst l) ∧ M b = some (.lst m)) where
  go := fun i z M H' k R g e => by
    obtain ⟨x, y, ex, ey, rfl⟩ := zipD_inv e
    obtain ⟨vs, h1, r⟩ := R a _ g.1
    obtain ⟨us, h2, r'⟩ := R b _ g.2
    obtain ⟨v, e1, _⟩ := r.get ex
    obtain ⟨u, e2, _⟩ := r'.get ey
    exact ⟨vs, us, v, u, .of h1, .of h2, e1, e2⟩
  yld := fun i z M H' v H'' k R g e q => by
    obtain ⟨x, y, ex, ey, rfl⟩ := zipD_inv e
    obtain ⟨T, v1, u1, rfl, n, rfl, q1, q2⟩ := q
    obtain ⟨vs, h1, r⟩ := R a _ g.1
    obtain ⟨us, h2, r'⟩ := R b _ g.2
    obtain ⟨v2, e1, r1⟩ := r.get ex
    obtain ⟨u2, e2, r2⟩ := r'.get ey
    have t1 := q1 vs (.of h1)
    have t2 := q2 us (.of h2)
    rw [e1] at t1; cases t1
    rw [e2] at t2; cases t2
    exact pair_made n R r1 r2
  stop := fun M H' k R g => by
    obtain ⟨vs, h1, r⟩ := R a _ g.1
    obtain ⟨us, h2, r'⟩ := R b _ g.2
    have l1 := r.len
    have l2 := r'.len
    exact ⟨vs, us, .of h1, .of h2, by rw [zipD_len]; omega⟩
theorem di_zip {e e2 : Expr} {ta : DA} {p tpos : Pos} {elts : List Expr} {kk : Nat} (hm : X.mg "zip" = none) (ha : PAd X [e, e2] ta) (hg : Gl X "zip" := by rfl) (hs : starEach [e, e2] X.env = (false, eval e X.env) :: starEach [e2] X.env := by rfl)
    (hpl : (backTo pos (starEach [e2] X.env)).any (·.1) = false := by rfl) : PId X (.Tuple elts kk tpos) (.Call (.Name "zip" p) [e, e2] [] pos) (iZip ta) :=
  ⟨_, RZ.pi_zipA hg hm ha hs hpl, fun σ H R ρ M Rd S Rm q k => ⟨ρ, M, _, S, Rm, q, fun vs ds M1 H1 e1 R1 r1 q1 => by
    obtain ⟨x, y, ed, q1⟩ := q1
    subst ed
    obtain ⟨v, w, ev, rv, rw'⟩ := r1.two'
    subst ev
    rcases q1 with ⟨l, m, ex, ey, q1⟩ | ⟨p, q, l, m, ex, ey, h1, h2, q1⟩
    · subst ex; subst ey
      obtain ⟨a, xs, ev, t1, s1⟩ := rv
      obtain ⟨b, ys, ew, t2, s2⟩ := rw'
      subst ev; subst ew
      exact ⟨a, b, xs, ys, rfl, .inr ⟨t1, t2, k _ _ _ M1 H1 e1 R1 (.zt t1 t2 s1 s2) q1⟩⟩
    · subst ex; subst ey
      cases rv; cases rw'
      obtain ⟨xs, g1, s1⟩ := R1 p _ h1
      obtain ⟨ys, g2, s2⟩ := R1 q _ h2
      exact ⟨p, q, xs, ys, rfl, .inl ⟨.of g1, .of g2, k _ _ _ M1 H1 e1 R1 .zl q1⟩⟩⟩⟩
theorem de_rev {e : Expr} {te : DE} {k : Nat} {p1 p2 p3 pos : Pos} (he : PEd X e te) : PEd X (.Subscript e (.Slice none none (some (.UnaryOp .USub (.Constant (.int 1) k p1) p2)) p3) pos) (dUn rRev te) :=
  peI (pe_revL he) fun σ H Q ⟨ρ, M, Qd, S, R, q, k⟩ => ⟨ρ, M, _, S, R, q, fun v d M1 H1 e1 R1 r1 q1 => by
    obtain ⟨a, l, ed, hm, q1⟩ := q1
    subst ed; cases r1
    obtain ⟨vs, h1, h2⟩ := R1 a _ hm
    exact ⟨a, vs, rfl, .of h1, fun p n => k _ (.ref p) (up M1 p (.lst l.reverse)) (upd H1 p _) (e1.trans (.made n)) (R1.made n ⟨_, upd_same, (Reps.rev h2).ev (Ev.new (M := M1) n)⟩) rfl (q1 p (R1.free n))⟩⟩
end
end DL

/-! DL: defs by their promises over data; the law's own call. -/
namespace DL
open PySem PySem.Spec L2
open PyProof.Rows (envOfC)
/-- a promise over data, below -/
def liftSp (K : PySem.W.Frag) (sp : SpD) (vs : List V) (H : Hp) (Q : VK) : Prop := ∃ ds M Qd, Reps K H ds vs ∧ MR K M H ∧ sp ds M Qd ∧ ∀ v d M' H', Ev M H M' H' → MR K M' H' → Rep K H' d v → Qd d M' → Q v H'
/-- the function object at f keeps the promise, where no repr is under way -/
def Keeps (P : Program) (w : World) (K : PySem.W.Frag) (mg : Str → Option Value) (base : Heap) (k : Nat) (f : Addr) (sp : SpD) : Prop :=
  ∀ (A : Around) (outer : List Env) (s : Shared) (H : Hp) (us : List Value) (vs : List V) (Q : VK), Room k A → A.guards = some [] → Env0 P w K mg base A outer s H → Vals vs us → liftSp K sp vs H Q →
    codeAny (model P w) A (.call (.ref f) ⟨us, []⟩) (CR CX0 outer P w H s Q E0) s
/-- a def of the module, by its name -/
structure Known (P : Program) (w : World) (K : PySem.W.Frag) (mg : Str → Option Value) (base : Heap) (k : Nat) (x : Str) (sp : SpD) : Prop where
  ex : ∃ f, mg x = some (.ref f) ∧ PySem.W.keepIn K (.ref f) = true ∧ Keeps P w K mg base k f sp
theorem Known.mono {P : Program} {w : World} {K : PySem.W.Frag} {mg : Str → Option Value} {base : Heap} {j k : Nat} {x : Str} {sp : SpD} (h : Known P w K mg base j x sp) (l : j ≤ k) : Known P w K mg base k x sp := by
  obtain ⟨f, h1, h2, h3⟩ := h.ex
  exact ⟨f, h1, h2, fun A outer s H us vs Q hr => h3 A outer s H us vs Q (hr.mono l)⟩
section
variable {X : Cx} {k : Nat} {f : Addr} {sp : SpD} {pos p : Pos}
theorem run_keeps {pins : List (Addr × Obj)} {σ : L2.St} {H : Hp} {s : Shared} {Q : VK} {us : List Value} {vs : List V} (F : Keeps X.prog X.w X.K X.mg X.base k f sp) (hr : Room k X.A) (hg : X.A.guards = some []) (I : Inv X pins σ H s) (r : Vals vs us) (h : liftSp X.K sp vs H Q) :
    wpAny (model X.prog X.w) X.A (call (.ref f) us) (EP X pins σ Q) X.xe s := by
  refine wpAny_call (codeAny_mono (F X.A X.stack s H us vs Q hr hg I.env0 r h) fun r s' hq => ?_)
  cases r with
  | error e => exact False.elim hq
  | ok fl => cases fl <;> first | exact I.after hq | exact False.elim hq
theorem lift_call {t : DA} (σ : L2.St) (H : Hp) (Q : VK) : LE X.K (dCall sp t) σ H Q → LA X.K t σ H (fun vs H1 => liftSp X.K sp vs H1 Q) := fun ⟨ρ, M, Qd, S, R, q, k⟩ =>
  ⟨ρ, M, _, S, R, q, fun vs ds M1 H1 e1 R1 r1 q1 => ⟨ds, M1, Qd, r1, R1, q1, fun v d M' H' e' R' r' q' => k v d M' H' (e1.trans e') R' r' q'⟩⟩
theorem de_call {x : Str} {e : Expr} {es : List Expr} {t : DA} (F : Known X.prog X.w X.K X.mg X.base k x sp) (hr : Room k X.A) (hgd : X.A.guards = some []) (ha : PAd X (e :: es) t) (hg : Gl X x := by rfl)
    (hdb : (x == ("__debug__" : Str)) = false := by decide) (he : starEach (e :: es) X.env = (false, eval e X.env) :: starEach es X.env := by rfl) (hpl : (backTo pos (starEach es X.env)).any (·.1) = false := by rfl) :
    PEd X (.Call (.Name x p) (e :: es) [] pos) (dCall sp t) := by
  obtain ⟨f, hm, hk, F⟩ := F.ex
  refine ⟨fun pins s σ H Q I h => ?_⟩
  refine wpAny_Call_Name_kw (ld_glob I hg hm ?_ hdb)
  refine PySem.W.callWith_K (h₀ := X.base) I.ok.mod.kin hk (thn (ha.run pos pins s σ H _ I (lift_call σ H Q h)) fun us s1 ⟨vs, H1, I1, r, q⟩ => ⟨I1.kIn, ?_⟩) he hpl
  exact run_keeps F hr hgd I1 r q
theorem de_call0 {x : Str} (F : Known X.prog X.w X.K X.mg X.base k x sp) (hr : Room k X.A) (hgd : X.A.guards = some []) (hg : Gl X x := by rfl) (hdb : (x == ("__debug__" : Str)) = false := by decide) :
    PEd X (.Call (.Name x p) [] [] pos) (dCall sp dNil) := by
  obtain ⟨f, hm, hk, F⟩ := F.ex
  refine ⟨fun pins s σ H Q I ⟨ρ, M, Qd, S, R, q, k⟩ => ?_⟩
  refine wpAny_Call_Name_kw (ld_glob I hg hm ?_ hdb)
  exact PySem.W.callWith_K0 I.kIn hk (run_keeps (us := []) (vs := []) F hr hgd I .nil ⟨[], M, Qd, .nil, R, q, k⟩)
end
/-- a def's body, at its entry -/
abbrev Xf (P : Program) (w : World) (K : PySem.W.Frag) (mg : Str → Option Value) (base : Heap) (N : List Str) (qual : Str) (sc : Scope) (f : Addr) (cdv : Value) (A : Around) (outer : List Env) (s : Shared) (H : Hp) : Cx :=
  (cxOf CX0 P w K mg base N qual sc f cdv A outer s H E0).nox
theorem start_slots {K : PySem.W.Frag} {H : Hp} {N : List Str} {ds : List D} {vs : List V} (r : Reps K H ds vs) (hl : ds.length ≤ N.length) : Slots K H (startD N.length ds) (L2.start N vs) := by
  refine ⟨by unfold startD L2.start; simp [r.len], fun i d e => ?_⟩
  unfold startD at e
  unfold L2.start
  by_cases hi : i < ds.length
  · rw [List.getElem?_append_left (by simpa using hi), List.getElem?_map] at e
    rw [List.getElem?_append_left (by simpa [← r.len] using hi), List.getElem?_map]
    cases q : ds[i]? with
    | none => rw [q] at e; cases e
    | some x =>
      rw [q] at e
      cases e
      obtain ⟨v, h1, h2⟩ := r.get q
      exact ⟨v, by rw [h1]; rfl, h2⟩
  · rw [List.getElem?_append_right (by simpa using hi), List.getElem?_replicate] at e
    split at e <;> cases e
section
variable {P : Program} {w : World} {K : PySem.W.Frag} {mg : Str → Option Value} {base : Heap}
theorem keeps_of {x qual : Str} {st : Stmt} {f : Addr} {fd : FuncData} {N ps : List Str} {k : Nat} {sp : SpD} {t : DS} (F : Fun K x qual st f fd) (S : FnScope N ps (defScope st)) (bd : Binds K fd ps [])
    (body : ∀ (cdv : Value) (A : Around) (outer : List Env) (s : Shared) (H : Hp), Room k (A.deeper (envOfC qual (defScope st) s.heap.objs.size f cdv)) → (A.deeper (envOfC qual (defScope st) s.heap.objs.size f cdv)).guards = some [] →
      PSsd (Xf P w K mg base N qual (defScope st) f cdv A outer s H) (defBody st) t)
    (spec : ∀ ds M Q, sp ds M Q → ds.length = ps.length ∧ t (ends Q) (startD N.length ds) M) : Keeps P w K mg base (k + 1) f sp := by
  obtain ⟨oc, od, kV, doc, pm, an, cdv, ct, osl, rfl, lk, hcd⟩ := F.ex
  intro A outer s H us vs Q hr hg e0 rv ⟨ds, M, Qd, rs, R, hsp, kk⟩
  obtain ⟨hl, hq⟩ := spec ds M Qd hsp
  have hlv : vs.length = ps.length := by rw [← rs.len]; exact hl
  have hlu : us.length = ps.length := by rw [← Vals.length rv]; exact hlv
  have KX : K.In s.heap := e0.mod.kin.keeps fun b o e => (e0.bs b o e).1
  have lim : s.heap.NoLimit := e0.mod.nolimit.keeps fun b o e => (e0.bs b o e).1
  have hpl : ps.length ≤ N.length := by have := congrArg List.length S.pre; rw [List.length_take] at this; omega
  have kinds : ∀ y ∈ ps.zip us, (defScope st).names.lookup y.1 = some .local ∨ ((defScope st).names.lookup y.1 = some .cell ∧ ((cellsFrom (s.heap.objs.size + 1) (defScope st).names []).lookup y.1).isSome = true) := by
    rintro ⟨n, v⟩ hy
    have hn := (List.of_mem_zip hy).1
    rcases S.par n hn with q | q
    · left; exact q
    · right; exact ⟨q, PySem.W.cellsFrom_some _ _ _ (.inl q)⟩
  have hb := bd s us KX (by simpa using hlu)
  rw [List.append_nil] at hb
  refine codeAny_call_function hr.depth (KX _ _ lk) rfl S.co S.gen rfl (PySem.W.codeRec_of KX hcd)
    (hb _ _ _ _ ?_)
  refine wpAny_newFunctionEnv_cells S.kind kinds
    fun env he s1 x => ?_
  subst he
  refine ⟨lim.keeps x.toInCall.keep, codeAny_func ?_⟩
  have I0 : Inv (cxOf CX0 P w K mg base N qual (defScope st) f cdv A outer s H E0) [] (L2.start N vs) H s1 := inv_start S hr.hd e0 hlv rv x
  have B := PSs.nox (X := cxOf CX0 P w K mg base N qual (defScope st) f cdv A outer s H E0) (body cdv A outer s H (hr.deeper _) hg)
  refine wpAny_mono (B.run [] s1 (L2.start N vs) H { nx := fun _ H' => Q .non H', rt := Q } I0 ⟨startD N.length ds, M, ends Qd, start_slots rs (by omega), R, hq, ?_, ?_, ?_, ?_⟩)
    (fun fl s' hs => ?_) fun e s' hs => hs
  · rintro σ' H' ρ' M' e' S' R' ⟨M'', s'', q''⟩
    exact kk .non .non M'' H' (e'.sub s'') (R'.sub s'') rfl q''
  · rintro v d M' H' e' R' r' ⟨M'', s'', q''⟩
    exact kk v d M'' H' (e'.sub s'') (R'.sub s'') r' q''
  · rintro σ' H' ρ' M' e' S' R' q'; exact q'
  · rintro σ' H' ρ' M' e' S' R' q'; exact q'
  · have last : ∀ {σ' : L2.St} {H' : Hp} {v : V} {u : Value}, Inv (cxOf CX0 P w K mg base N qual (defScope st) f cdv A outer s H E0) [] σ' H' s' → RelV v u → Q v H' → CE outer P w H s Q u s' :=
      fun {σ' H' v u} J ru q => ⟨v, H', J.os, J.bare, J.base, J.hok, ru, q⟩
    cases fl
    all_goals first
      | (obtain ⟨v, σ', H', J, ru, q⟩ := hs; exact last J ru q)
      | (obtain ⟨σ', H', J, q⟩ := hs; exact last (v := V.non) (u := Value.none) J rfl q)
      | (obtain ⟨_, _, _, q⟩ := hs; exact False.elim q)
theorem Known.of {x : Str} {f : Addr} {k : Nat} {sp : SpD} {st : Stmt} {qual : Str} {fd : FuncData} (F : Fun K x qual st f fd) (hm : mg x = some (.ref f)) (h : Keeps P w K mg base k f sp) : Known P w K mg base k x sp := ⟨f, hm, F.kp, h⟩
end
end DL

/-! DL: the law's own call. -/
namespace DL
open PySem PySem.Spec L2
open PyProof.Rows (IntsAre AllBare)
theorem only_sq {K : PySem.W.Frag} {H : Hp} {a : Addr} {xs : List V} (o : Only H) (h : SqL K H a xs) : SqF K H a xs := by
  refine ⟨h, ?_⟩
  rcases h with (h | ⟨ob, h⟩) | h
  · rcases o a with z | ⟨_, _, z⟩
    · rw [z] at h; cases h
    · rw [z] at h; cases h
  · exact .inl ⟨ob, h⟩
  · exact .inr fun _ => .inr h
theorem reps_ints {K : PySem.W.Frag} {H : Hp} : ∀ ns : List Int, Reps K H (ns.map D.int) (ns.map V.int)
  | [] => rfl
  | n :: ns => ⟨_, _, rfl, rfl, reps_ints ns⟩
theorem law_callD {P : Program} {w : World} {K : PySem.W.Frag} {mg mb : Str → Option Value} {k n : Nat} {fa a : Addr} {s₁ : Shared} {vs : List Value} {ns : List Int}
    (KX : K.In s₁.heap) (hns : s₁.heap.Ns mainGlobals mg) (hb : s₁.heap.Ns builtinsNs mb) (hbb : ∀ x : Str, x ≠ "__name__" → mb x = bootBuiltins x) (hlim : s₁.heap.NoLimit) (hg : s₁.gens = #[])
    (ha : s₁.heap.get? a = some { cls := .type "list", data := .seq vs.toArray }) (hi : IntsAre vs ns) (hl : ns.length ≤ sizeLine) (hn : ns.length ≤ n) (hr : Room k callerA)
    (F : ∀ base : Heap, K.In base → base.Ns mainGlobals mg → Keeps P w K mg base k fa (spLaw n)) :
    codeAny (model P w) callerA (.call (.ref fa) ⟨[.ref a], []⟩) (fun r s' => r = .ok (.ret (.bool true)) ∧ OldK s₁.heap s'.heap ∧ s'.os = s₁.os ∧ AllBare s'.gens) s₁ := by
  have rv := vals_ints hi
  have lenV := hi.length
  have main : ∀ H : Hp, Only H → SqL K H a (ns.map V.int) → HOk P w H s₁.heap → (∀ b, H b ≠ none → b = a) → (H a ≠ none → K.lookup a = none) →
      codeAny (model P w) callerA (.call (.ref fa) ⟨[.ref a], []⟩) (fun r s' => r = .ok (.ret (.bool true)) ∧ OldK s₁.heap s'.heap ∧ s'.os = s₁.os ∧ AllBare s'.gens) s₁ := by
    intro H hO hS hok hA hK
    have at_ : ∀ {b : Addr}, H b ≠ none → s₁.heap.get? b = some { cls := .type "list", data := .seq vs.toArray } := fun z => by rw [hA _ z]; exact ha
    have free : ∀ {b : Addr} {o : Obj} {es : Array DictEntry} {ep : Nat}, s₁.heap.get? b = some o → o.data = .dict es ep → H b = none := by
      intro b o es ep e d
      cases q : H b with
      | none => rfl
      | some u =>
        rw [at_ (b := b) (by rw [q]; simp)] at e
        cases e; cases d
    have nsK : ∀ {b : Addr} {m : Str → Option Value}, s₁.heap.Ns b m → (hidT s₁.heap H).Ns b m := by
      intro b m ⟨o, es, ep, e, d, r⟩
      exact ⟨o, es, ep, hidT_get e (free e d), d, r⟩
    have hKb : K.In (hidT s₁.heap H) := by
      intro b o e
      refine hidT_get (KX b o e) ?_
      cases q : H b with
      | none => rfl
      | some u =>
        have z : H b ≠ none := by rw [q]; simp
        have := hA b z
        subst this
        rw [hK z] at e; cases e
    have hM : Mod K mg (hidT s₁.heap H) := by
      obtain ⟨mc, l1, l2⟩ := hlim
      exact ⟨hKb, nsK hns, ⟨mb, nsK hb, hbb⟩, ⟨mc, nsK l1, l2⟩⟩
    have e0 : Env0 P w K mg (hidT s₁.heap H) callerA [] s₁ H := by
      refine ⟨rfl, hM, fun b o e => of_hidT e, Nat.le_of_eq (hidT_size _ _), trivial, fun b hb => ?_, hok, .of_eq hg⟩
      exact absurd (show b ∈ ([] : List Addr) from hb) (by simp)
    have start : liftSp K (spLaw n) [.ref a] H (fun v _ => v = .bl true) := by
      refine ⟨[.lis (ns.map D.int)], fun _ => none, fun d _ => d = .bl true, .one ⟨a, _, rfl, only_sq hO hS, reps_ints ns⟩, (fun _ _ e => by cases e), ⟨ns, rfl, hn, fun _ => rfl⟩, ?_⟩
      intro v d M' H' _ _ r e
      subst e
      exact r
    refine codeAny_mono (F _ hKb (nsK hns) callerA [] s₁ H [.ref a] [.ref a] _ hr rfl e0 (.cons rfl .nil) start) fun r s' h => ?_
    cases r with
    | error e => exact False.elim h
    | ok fl =>
      cases fl with
      | ret u =>
        obtain ⟨v, H', os, bare, un, hok', r', q⟩ := h
        have q' : v = .bl true := q
        subst q'
        have eu : u = Value.bool true := r'
        subst eu
        refine ⟨rfl, OldK.of_keep fun b o e => ?_, os, bare⟩
        cases q2 : H b with
        | none => exact un.keep b o e q2 (fun z => absurd (show b ∈ ([] : List Addr) from z) (by simp)) (by simp)
        | some u2 =>
          rcases hO b with z | ⟨ob, xs, z⟩
          · rw [q2] at z; cases z
          · obtain ⟨g1, _⟩ := hok b _ z
            obtain ⟨g2, _⟩ := hok' b _ (un.frzs b ob _ z)
            rw [e] at g1; cases g1
            exact g2
      | next => exact False.elim h
      | brk => exact False.elim h
      | cont => exact False.elim h
  cases hk : K.lookup a with
  | some o =>
    have e := KX a o hk
    rw [ha] at e
    cases e
    refine main (fun _ => none) (fun _ => .inl rfl) (.inr ⟨_, vs.toArray, _, hk, rfl, rfl, rfl, ?_, by simpa using rv⟩) (fun b u z => ?_) (fun b z => absurd rfl z) fun z => absurd rfl z
    · rw [List.size_toArray, lenV]; exact hl
    · have z' : (none : Option HO) = some u := z
      cases z'
  | none =>
    let ho : HO := .frz { cls := .type "list", data := .seq vs.toArray } (.lst (ns.map V.int))
    refine main (fun b => if b = a then some ho else none) (fun b => ?_) (.inl (.inr ⟨{ cls := .type "list", data := .seq vs.toArray }, if_pos rfl⟩)) (fun b u z => ?_) (fun b z => ?_) fun _ => hk
    · by_cases hb : b = a
      · exact .inr ⟨_, _, if_pos hb⟩
      · exact .inl (if_neg hb)
    · by_cases hb : b = a
      · have z' := (if_pos hb).symm.trans z
        cases z'
        subst hb
        exact ⟨ha, by rw [List.length_map]; exact hl, vs, _, rv, ha⟩
      · have z' := (if_neg hb).symm.trans z
        cases z'
    · by_cases hb : b = a
      · exact hb
      · exact absurd (if_neg hb) z
/-- the goal that a head leaves -/
theorem walk_D {l : PySem.W.OpenLaw} {n k : Nat} {q : Program} {loose : List Str} {XP : (Str → Option Value) → Heap → Prop} {YP : World → Heap → Prop} {d : DefRec}
    (hn : l.most = some n) (hn2 : n ≤ sizeLine) (hdf : d.params.defaults = []) (hr : Room k callerA)
    (F : ∀ (w : World) (mg : Str → Option Value) (fa : Addr) (h : Heap), YP w h → h.Ns mainGlobals mg → mg d.name = some (.ref fa) →
      ∃ K : PySem.W.Frag, K.In h ∧ ∀ base : Heap, K.In base → base.Ns mainGlobals mg → Keeps l.prog w K mg base k fa (spLaw n)) :
    PySem.W.WalkO q loose XP YP l.row.toRowW d [] (fun f vs => PySem.call f vs) := by
  refine Att.attach_call hn hdf
    fun w s₀ s₁ mg mb fa o pm cd doc a vs ns G Y ho hd hcd hmg hobj hints hlen hg => ?_
  obtain ⟨K, KX, hF⟩ := F w mg fa _ Y G.T.g hmg
  exact law_callD KX G.T.g G.T.b G.T.builtins G.T.nolimit hg hobj hints (Nat.le_trans hlen hn2) hlen hr hF
end DL

namespace K04
open PySem PySem.Spec L2 DL
open PyProof.Rows (envOfC)
def top (i : Nat) : Stmt := PySem.Challenge.pw_whenline_k04_denials.main.body.getD i (.Pass ⟨0, 0, 0, 0⟩)
theorem fun_of {K : PySem.W.Frag} {x qual : Str} {st : Stmt} {f : Addr} {fd : FuncData} (F : FunD K x qual (defArgs st) (defBody st) (defScope st) [] [] f fd) : Fun K x qual st f fd := by
  obtain ⟨oc, od, dV, kV, doc, pm, an, cdv, ct, osl, e, lk, hc, hD, hK⟩ := F.ex
  have : dV = .none := by
    rcases hD with ⟨_, h⟩ | ⟨h, _⟩
    · exact h
    · exact absurd rfl h
  subst this
  exact ⟨⟨oc, od, kV, doc, pm, an, cdv, ct, osl, e, lk, hc⟩, F.kp⟩

/-- a difference -/
structure Diff where
  a : Int
  b : Int
  lo : Option Int
  hi : Option Int
def oi : Option Int → D
  | none => .non
  | some i => .int i
@[simp] theorem oi_n : oi none = .non := rfl
@[simp] theorem oi_s {i : Int} : oi (some i) = .int i := rfl
def Diff.d (x : Diff) : D := .tup [.int x.a, .int x.b, oi x.lo, oi x.hi]
def tm (t : List Int) : D := .tup (t.map D.int)
/-- the side that does not hold -/
def Diff.side (x : Diff) (t : List Int) : Option Bool :=
  match x.lo, x.hi with
  | some l, some h => if at_ t x.b - at_ t x.a < l then some false else if h < at_ t x.b - at_ t x.a then some true else none
  | some l, none => if at_ t x.b - at_ t x.a < l then some false else none
  | none, some h => if h < at_ t x.b - at_ t x.a then some true else none
  | none, none => none
def os : Option Bool → D
  | none => .non
  | some false => .str "low"
  | some true => .str "high"
def Diff.inT (x : Diff) (n : Nat) : Prop := 0 ≤ x.a ∧ x.a < n ∧ 0 ≤ x.b ∧ x.b < n
/-- the sides with their edges -/
def Diff.edges (x : Diff) : List (Bool × Int × Int × Int) := (match x.lo with | some l => [(false, x.a, x.b, l)] | none => []) ++ (match x.hi with | some h => [(true, x.b, x.a, -h)] | none => [])
def edgeD (e : Int × Int × Int) : D := .tup [.int e.1, .int e.2.1, .int e.2.2]
def sideD (s : Bool × Int × Int × Int) : D := .tup [os (some s.1), edgeD s.2]
def okB (b : Option Int) : Prop := ∀ i, b = some i → i.natAbs < 2 ^ 210
abbrev sp_broken_side : SpD := fun ds M Q => ∃ x t, ds = [Diff.d x, tm t] ∧ x.inT t.length ∧ Q (os (x.side t)) M
def sp_difference_holds : SpD := fun ds M Q => ∃ x t, ds = [Diff.d x, tm t] ∧ x.inT t.length ∧ Q (.bl (x.side t).isNone) M
def sp_edges_of : SpD := fun ds M Q => ∃ x, ds = [Diff.d x] ∧ Q (.tup (x.edges.map sideD)) M
def sp_f_law_pen : SpD := pPen
def sp_f_law_fresh : SpD := pFresh
def sp_f_law_draw : SpD := pDraw
def sp_f_law_bound : SpD := fun ds M Q => ∃ p, ds = [.ref p] ∧ Pen M p ∧ ∀ b M', okB b → PenTo M M' p → Q (oi b) M'
def sp_f_law_difference : SpD := fun ds M Q => ∃ (p : Addr) (n : Nat), ds = [.ref p, .int n] ∧ 2 ≤ n ∧ n ≤ 1000 ∧ Pen M p ∧ ∀ x M', x.inT n → x.a ≠ x.b → okB x.lo → okB x.hi → (x.lo ≠ none ∨ x.hi ≠ none) → PenTo M M' p → Q (Diff.d x) M'
def sp_f_law_times : SpD := fun ds M Q => ∃ (p : Addr) (n : Nat), ds = [.ref p, .int n] ∧ n ≤ 1000 ∧ Pen M p ∧ ∀ t M', t.length = n → PenTo M M' p → Q (tm t) M'

def altD (a : List Diff) : D := .tup (a.map Diff.d)
def altsD (A : List (List Diff)) : D := .tup (A.map altD)
/-- a value that reads as a timeline -/
def IsTm (M : MH) (y : D) (t : List Int) : Prop := y = tm t ∨ ∃ a, y = .ref a ∧ M a = some (.lst (t.map D.int))
def inA (n : Nat) (a : List Diff) : Prop := ∀ x ∈ a, x.inT n
def okA (n m : Nat) (A : List (List Diff)) : Prop := 0 < A.length ∧ A.length ≤ m ∧ ∀ a ∈ A, 0 < a.length ∧ a.length ≤ 2 ∧ inA n a
def okAB (A : List (List Diff)) : Prop := ∀ a ∈ A, ∀ x ∈ a, okB x.lo ∧ okB x.hi ∧ (x.lo ≠ none ∨ x.hi ≠ none)
/-- the first that does not hold, with its side -/
def firstB (t : List Int) : List Diff → Nat → Option (Nat × Bool)
  | [], _ => none
  | x :: r, k => match x.side t with | some s => some (k, s) | none => firstB t r (k + 1)
def fbD : Option (Nat × Bool) → D
  | none => .non
  | some (k, s) => .tup [.int k, os (some s)]
/-- what judge_alternatives finds: the index of the first that holds, or the way -/
def judge (t : List Int) : List (List Diff) → Nat → List (Nat × Bool) → Nat ⊕ List (Nat × Bool)
  | [], _, w => .inr w
  | a :: r, k, w => match firstB t a 0 with | some f => judge t r (k + 1) (w ++ [f]) | none => .inl k
def judgeD : Nat ⊕ List (Nat × Bool) → D
  | .inl k => .tup [.str "holds", .int k]
  | .inr w => .tup [.str "fails", .tup (w.map fun f => fbD (some f))]
def sp_first_break : SpD := fun ds M Q => ∃ a t, ds = [altD a, tm t] ∧ inA t.length a ∧ Q (fbD (firstB t a 0)) M
def sp_judge_alternatives : SpD := fun ds M Q => ∃ A t, ds = [altsD A, tm t] ∧ A.length ≤ 1000 ∧ (∀ a ∈ A, inA t.length a) ∧ Q (judgeD (judge t A 0 [])) M
def sp_f_law_alternatives : SpD := fun ds M Q => ∃ (p : Addr) (n m : Nat), ds = [.ref p, .int n, .int m] ∧ 2 ≤ n ∧ n ≤ 1000 ∧ 1 ≤ m ∧ m ≤ 100 ∧ Pen M p ∧ ∀ A M', okA n m A → okAB A → PenTo M M' p → Q (altsD A) M'
def sp_f_law_alternative_holds : SpD := fun ds M Q => ∃ a t y, ds = [altD a, y] ∧ IsTm M y t ∧ a.length ≤ 1000 ∧ inA t.length a ∧ Q (.bl (firstB t a 0).isNone) M

/-- the ways in which a difference fails, as differences -/
def Diff.den (x : Diff) : List Diff := (match x.lo with | some l => [⟨x.a, x.b, none, some (l - 1)⟩] | none => []) ++ (match x.hi with | some h => [⟨x.a, x.b, some (h + 1), none⟩] | none => [])
def dens (a : List Diff) : List (List Diff) := (a.flatMap Diff.den).map fun x => [x]
def waysN (A : List (List Diff)) : Nat := (A.map fun a => (dens a).length).foldl (· * ·) 1
def sp_denials_of : SpD := fun ds M Q => ∃ x, ds = [Diff.d x] ∧ newD M (.lst (x.den.map Diff.d)) Q
def sp_denials : SpD := fun ds M Q => ∃ A, ds = [altsD A] ∧ A.length ≤ 1000 ∧ (∀ a ∈ A, a.length ≤ 1000) ∧ Q (.tup (A.map fun a => altsD (dens a))) M
def sp_way_count : SpD := fun ds M Q => ∃ A, ds = [altsD A] ∧ A.length ≤ 1000 ∧ (∀ a ∈ A, a.length ≤ 1000) ∧ Q (.int (waysN A)) M

def sp_f_law_side : SpD := fun ds M Q => ∃ x t y, ds = [Diff.d x, y] ∧ IsTm M y t ∧ x.inT t.length ∧ Q (os (x.side t)) M
abbrev sp_law : SpD := spLaw 63

abbrev t_broken_side : DS := dSeq (dAsg (dVar 0) (.tp [.nm 2, .nm 3, .nm 4, .nm 5])) (dSeq (dAsg (dOp rSub (dOp rItem (dVar 1) (dVar 3)) (dOp rItem (dVar 1) (dVar 2))) (.nm 6)) (dSeq (dIfS (dAnd (dTest (dUn rNotN (dVar 4))) (dTest (dOp rLt (dVar 6) (dVar 4)))) (dRet (dC (.str "low"))) (dNext)) (dSeq (dIfS (dAnd (dTest (dUn rNotN (dVar 5))) (dTest (dOp rGt (dVar 6) (dVar 5)))) (dRet (dC (.str "high"))) (dNext)) (dRet (dC .non)))))
abbrev t_first_break : DS := dSeq (dFor (iEnum (dCons (dVar 0) (dNil))) (.tp [.nm 2, .nm 3]) (dSeq (dAsg (dCall sp_broken_side (dCons (dVar 3) (dCons (dVar 1) (dNil)))) (.nm 4)) (dIfS (dTest (dUn rNotN (dVar 4))) (dRet (dTup (dCons (dVar 2) (dCons (dVar 4) (dNil))))) (dNext)))) (dRet (dC .non))
abbrev t_judge_alternatives : DS := dSeq (dAsg (dLst (dNil)) (.nm 2)) (dSeq (dFor (iEnum (dCons (dVar 0) (dNil))) (.tp [.nm 3, .nm 4]) (dSeq (dAsg (dCall sp_first_break (dCons (dVar 4) (dCons (dVar 1) (dNil)))) (.nm 5)) (dSeq (dIfS (dTest (dUn rIsN (dVar 5))) (dRet (dTup (dCons (dC (.str "holds")) (dCons (dVar 3) (dNil))))) (dNext)) (dDrop (dMeth isLst mAppend (dVar 2) (dCons (dVar 5) (dNil))))))) (dRet (dTup (dCons (dC (.str "fails")) (dCons (dCall cTuple (dCons (dVar 2) (dNil))) (dNil))))))
abbrev t_denials_of : DS := dSeq (dAsg (dVar 0) (.tp [.nm 1, .nm 2, .nm 3, .nm 4])) (dSeq (dAsg (dLst (dNil)) (.nm 5)) (dCut (dIfS (dTest (dUn rNotN (dVar 3))) (dDrop (dMeth isLst mAppend (dVar 5) (dCons (dTup (dCons (dVar 1) (dCons (dVar 2) (dCons (dC .non) (dCons (dOp rSub (dVar 3) (dC (.int 1))) (dNil)))))) (dNil)))) (dNext)) (dCut (dIfS (dTest (dUn rNotN (dVar 4))) (dDrop (dMeth isLst mAppend (dVar 5) (dCons (dTup (dCons (dVar 1) (dCons (dVar 2) (dCons (dOp rPlus (dVar 4) (dC (.int 1))) (dCons (dC .non) (dNil)))))) (dNil)))) (dNext)) (dRet (dVar 5)))))
abbrev t_denials : DS := dSeq (dAsg (dLst (dNil)) (.nm 1)) (dSeq (dFor (iSeq (dVar 0)) (.nm 2) (dSeq (dAsg (dLst (dNil)) (.nm 3)) (dSeq (dFor (iSeq (dVar 2)) (.nm 4) (dDrop (dMeth isLst mExtL (dVar 3) (dCons (dLC (iSeq (dCall sp_denials_of (dCons (dVar 4) (dNil)))) (.nm 5) (tYesD) (dTup (dCons (dVar 5) (dNil))) [5]) (dNil))))) (dDrop (dMeth isLst mAppend (dVar 1) (dCons (dCall cTuple (dCons (dVar 3) (dNil))) (dNil))))))) (dRet (dCall cTuple (dCons (dVar 1) (dNil)))))
abbrev t_way_count : DS := dSeq (dAsg (dC (.int 1)) (.nm 1)) (dSeq (dFor (iSeq (dCall sp_denials (dCons (dVar 0) (dNil)))) (.nm 2) (dAug 1 rMul (dCall cLenS (dCons (dVar 2) (dNil))))) (dRet (dVar 1)))
abbrev t_f_law_pen : DS := dRet (dLst (dCons (dCall cList (dCons (dSl (dVar 0) dNone (dSome (dC (.int 63)))) (dNil))) (dCons (dC (.int 0)) (dCons (dC (.int 0)) (dNil)))))
abbrev t_f_law_fresh : DS := dSeq (dAsg (dOp rItem (dVar 0) (dC (.int 1))) (.nm 1)) (dSeq (dSetIx rSetL (dOp rPlus (dVar 1) (dC (.int 1))) (dVar 0) (dC (.int 1))) (dSeq (dAsg (dC (.int 0)) (.nm 2)) (dCut (dIfS (dTest (dOp rNe (dOp rItem (dVar 0) (dC (.int 0))) (dLst (dNil)))) (dAsg (dOp rItem (dOp rItem (dVar 0) (dC (.int 0))) (dOp rMod (dVar 1) (dCall cLenS (dCons (dOp rItem (dVar 0) (dC (.int 0))) (dNil))))) (.nm 2)) (dNext)) (dSeq (dIfS (dAnd (dTest (dOp rLt (dVar 1) (dCall cLenS (dCons (dOp rItem (dVar 0) (dC (.int 0))) (dNil))))) (dTest (dOp rGe (dVar 2) (dOp rPow (dC (.int 10)) (dC (.int 18)))))) (dRet (dOp rSub (dVar 2) (dOp rPow (dC (.int 10)) (dC (.int 18))))) (dNext)) (dSeq (dAsg (dC (.int 2305843009213693951)) (.nm 3)) (dSeq (dAsg (dOp rMod (dOp rPlus (dOp rPlus (dOp rMul (dVar 2) (dC (.int 48271))) (dOp rMul (dC (.int 40692)) (dVar 1))) (dC (.int 31))) (dVar 3)) (.nm 4)) (dSeq (dAsg (dVar 4) (.nm 5)) (dSeq (dFor (iRange1 (dCons (dC (.int 6)) (dNil))) (.nm 6) (dSeq (dAsg (dOp rMod (dOp rPlus (dOp rPlus (dOp rMul (dVar 4) (dVar 4)) (dOp rMul (dOp rMul (dC (.int 69621)) (dOp rPlus (dVar 6) (dC (.int 1)))) (dOp rPlus (dVar 1) (dC (.int 1))))) (dVar 2)) (dVar 3)) (.nm 4)) (dAsg (dOp rPlus (dOp rMul (dVar 5) (dVar 3)) (dVar 4)) (.nm 5)))) (dRet (dVar 5))))))))))
abbrev t_f_law_draw : DS := dCut (dIfS (dTest (dOp rLt (dOp rItem (dVar 0) (dC (.int 2))) (dVar 1))) (dSetIx rSetL (dCall sp_f_law_fresh (dCons (dVar 0) (dNil))) (dVar 0) (dC (.int 2))) (dNext)) (dSeq (dAsg (dOp rMod (dOp rItem (dVar 0) (dC (.int 2))) (dVar 1)) (.nm 2)) (dSeq (dSetIx rSetL (dOp rDiv (dOp rItem (dVar 0) (dC (.int 2))) (dVar 1)) (dVar 0) (dC (.int 2))) (dRet (dVar 2))))
abbrev t_f_law_bound : DS := dSeq (dAsg (dCall sp_f_law_draw (dCons (dVar 0) (dCons (dC (.int 9)) (dNil)))) (.nm 1)) (dSeq (dIfS (dTest (dOp rEq (dVar 1) (dC (.int 0)))) (dRet (dC .non)) (dNext)) (dSeq (dIfS (dTest (dOp rEq (dVar 1) (dC (.int 1)))) (dRet (dOp rMul (dOp rSub (dCall sp_f_law_draw (dCons (dVar 0) (dCons (dC (.int 3)) (dNil)))) (dC (.int 1))) (dOp rPlus (dOp rPow (dC (.int 10)) (dC (.int 20))) (dCall sp_f_law_draw (dCons (dVar 0) (dCons (dOp rPow (dC (.int 10)) (dC (.int 20))) (dNil))))))) (dNext)) (dSeq (dIfS (dAnd (dTest (dOp rEq (dVar 1) (dC (.int 2)))) (dTest (dOp rEq (dCall sp_f_law_draw (dCons (dVar 0) (dCons (dC (.int 4)) (dNil)))) (dC (.int 0))))) (dRet (dOp rMul (dOp rSub (dCall sp_f_law_draw (dCons (dVar 0) (dCons (dC (.int 3)) (dNil)))) (dC (.int 1))) (dOp rSub (dOp rSub (dOp rPow (dC (.int 10)) (dC (.int 60))) (dC (.int 1))) (dCall sp_f_law_draw (dCons (dVar 0) (dCons (dC (.int 9)) (dNil))))))) (dNext)) (dRet (dOp rSub (dCall sp_f_law_draw (dCons (dVar 0) (dCons (dC (.int 9)) (dNil)))) (dC (.int 4)))))))
abbrev t_f_law_difference : DS := dSeq (dAsg (dCall sp_f_law_draw (dCons (dVar 0) (dCons (dVar 1) (dNil)))) (.nm 2)) (dSeq (dAsg (dOp rMod (dOp rPlus (dOp rPlus (dVar 2) (dC (.int 1))) (dCall sp_f_law_draw (dCons (dVar 0) (dCons (dOp rSub (dVar 1) (dC (.int 1))) (dNil))))) (dVar 1)) (.nm 3)) (dSeq (dPar 4 5 (dCons (dCall sp_f_law_bound (dCons (dVar 0) (dNil))) (dCons (dCall sp_f_law_bound (dCons (dVar 0) (dNil))) (dNil)))) (dCut (dIfS (dAnd (dTest (dUn rIsN (dVar 4))) (dTest (dUn rIsN (dVar 5)))) (dAsg (dOp rSub (dCall sp_f_law_draw (dCons (dVar 0) (dCons (dC (.int 5)) (dNil)))) (dC (.int 2))) (.nm 4)) (dNext)) (dCut (dIfS (dAnd (dTest (dUn rNotN (dVar 4))) (dAnd (dTest (dUn rNotN (dVar 5))) (dAnd (dTest (dOp rGt (dVar 4) (dVar 5))) (dTest (dOp rGt (dCall sp_f_law_draw (dCons (dVar 0) (dCons (dC (.int 4)) (dNil)))) (dC (.int 0))))))) (dPar 4 5 (dCons (dVar 5) (dCons (dVar 4) (dNil)))) (dNext)) (dRet (dTup (dCons (dVar 2) (dCons (dVar 3) (dCons (dVar 4) (dCons (dVar 5) (dNil)))))))))))
abbrev t_f_law_alternatives : DS := dSeq (dAsg (dC (.int 1)) (.nm 3)) (dCut (dIfS (dTest (dOp rEq (dCall sp_f_law_draw (dCons (dVar 0) (dCons (dC (.int 3)) (dNil)))) (dC (.int 0)))) (dAsg (dOp rPlus (dC (.int 1)) (dCall sp_f_law_draw (dCons (dVar 0) (dCons (dVar 2) (dNil))))) (.nm 3)) (dNext)) (dSeq (dAsg (dLst (dNil)) (.nm 4)) (dSeq (dFor (iRange1 (dCons (dVar 3) (dNil))) (.nm 5) (dDrop (dMeth isLst mAppend (dVar 4) (dCons (dCall cTuple (dCons (dLC (iRange1 (dCons (dOp rPlus (dC (.int 1)) (dCall cIntB (dCons (dOp rEq (dCall sp_f_law_draw (dCons (dVar 0) (dCons (dC (.int 4)) (dNil)))) (dC (.int 0))) (dNil)))) (dNil))) (.nm 6) (tYesD) (dCall sp_f_law_difference (dCons (dVar 0) (dCons (dVar 1) (dNil)))) [6]) (dNil))) (dNil))))) (dRet (dCall cTuple (dCons (dVar 4) (dNil)))))))
abbrev t_f_law_times : DS := dSeq (dAsg (dOp rItem (dLst (dCons (dC (.int 5)) (dCons (dC (.int 5)) (dCons (dC (.int 9)) (dCons (dOp rPow (dC (.int 10)) (dC (.int 21))) (dNil)))))) (dCall sp_f_law_draw (dCons (dVar 0) (dCons (dC (.int 4)) (dNil))))) (.nm 2)) (dRet (dCall cTuple (dCons (dLC (iRange1 (dCons (dVar 1) (dNil))) (.nm 3) (tYesD) (dOp rSub (dCall sp_f_law_draw (dCons (dVar 0) (dCons (dOp rPlus (dOp rMul (dC (.int 2)) (dVar 2)) (dC (.int 1))) (dNil)))) (dVar 2)) [3]) (dNil))))
abbrev t_f_law_side : DS := dSeq (dAsg (dVar 0) (.tp [.nm 2, .nm 3, .nm 4, .nm 5])) (dSeq (dAsg (dOp rSub (dOp rItem (dVar 1) (dVar 3)) (dOp rItem (dVar 1) (dVar 2))) (.nm 6)) (dSeq (dIfS (dAnd (dTest (dUn rNotN (dVar 4))) (dTest (dOp rLt (dVar 6) (dVar 4)))) (dRet (dC (.str "low"))) (dNext)) (dRet (dIf (dAnd (dTest (dUn rNotN (dVar 5))) (dTest (dOp rGt (dVar 6) (dVar 5)))) (dC (.str "high")) (dC .non)))))
abbrev t_f_law_alternative_holds : DS := dRet (dOp rEq (dLC (iSeq (dVar 0)) (.nm 2) (dTest (dUn rNotN (dCall sp_f_law_side (dCons (dVar 2) (dCons (dVar 1) (dNil)))))) (dC (.int 1)) [2]) (dLst (dNil)))
abbrev t_law : DS := dSeq (dAsg (dCall sp_f_law_pen (dCons (dVar 0) (dNil))) (.nm 1)) (dSeq (dAsg (dOp rSub (dOp rPow (dC (.int 10)) (dC (.int 60))) (dC (.int 1))) (.nm 2)) (dSeq (dIfS (dTest (dOp rNe (dCall sp_denials (dCons (dTup (dCons (dTup (dCons (dTup (dCons (dC (.int 0)) (dCons (dC (.int 1)) (dCons (dUn rNeg (dVar 2)) (dCons (dVar 2) (dNil)))))) (dNil))) (dNil))) (dNil))) (dTup (dCons (dTup (dCons (dTup (dCons (dTup (dCons (dC (.int 0)) (dCons (dC (.int 1)) (dCons (dC .non) (dCons (dOp rSub (dUn rNeg (dVar 2)) (dC (.int 1))) (dNil)))))) (dNil))) (dCons (dTup (dCons (dTup (dCons (dC (.int 0)) (dCons (dC (.int 1)) (dCons (dOp rPlus (dVar 2) (dC (.int 1))) (dCons (dC .non) (dNil)))))) (dNil))) (dNil)))) (dNil))))) (dRet (dC (.bl false))) (dNext)) (dSeq (dFor (iRange1 (dCons (dC (.int 8)) (dNil))) (.nm 3) (dSeq (dAsg (dCall sp_f_law_times (dCons (dVar 1) (dCons (dOp rPlus (dC (.int 2)) (dCall sp_f_law_draw (dCons (dVar 1) (dCons (dC (.int 6)) (dNil))))) (dNil)))) (.nm 4)) (dSeq (dAsg (dCall sp_f_law_alternatives (dCons (dVar 1) (dCons (dCall cLenS (dCons (dVar 4) (dNil))) (dCons (dC (.int 3)) (dNil))))) (.nm 5)) (dSeq (dPar 6 7 (dCons (dLst (dNil)) (dCons (dC (.int 1)) (dNil)))) (dSeq (dFor (iSeq (dVar 5)) (.nm 8) (dSeq (dAsg (dLst (dNil)) (.nm 10)) (dSeq (dFor (iSeq (dVar 8)) (.tp [.nm 11, .nm 12, .nm 13, .nm 14]) (dCut (dIfS (dTest (dUn rNotN (dVar 13))) (dDrop (dMeth isLst mAppend (dVar 10) (dCons (dTup (dCons (dTup (dCons (dVar 11) (dCons (dVar 12) (dCons (dC .non) (dCons (dOp rSub (dVar 13) (dC (.int 1))) (dNil)))))) (dNil))) (dNil)))) (dNext)) (dIfS (dTest (dUn rNotN (dVar 14))) (dDrop (dMeth isLst mAppend (dVar 10) (dCons (dTup (dCons (dTup (dCons (dVar 11) (dCons (dVar 12) (dCons (dOp rPlus (dVar 14) (dC (.int 1))) (dCons (dC .non) (dNil)))))) (dNil))) (dNil)))) (dNext)))) (dSeq (dDrop (dMeth isLst mAppend (dVar 6) (dCons (dCall cTuple (dCons (dVar 10) (dNil))) (dNil)))) (dAsg (dOp rMul (dVar 7) (dCall cLenS (dCons (dVar 10) (dNil)))) (.nm 7)))))) (dSeq (dAsg (dCall sp_denials (dCons (dVar 5) (dNil))) (.nm 9)) (dSeq (dIfS (dOr (dTest (dOp rNe (dCall cRepr (dCons (dVar 9) (dNil))) (dCall cRepr (dCons (dCall cTuple (dCons (dVar 6) (dNil))) (dNil))))) (dTest (dOp rNe (dCall sp_way_count (dCons (dVar 5) (dNil))) (dVar 7)))) (dRet (dC (.bl false))) (dNext)) (dFor (iZip (dCons (dVar 5) (dCons (dVar 9) (dNil)))) (.tp [.nm 8, .nm 10]) (dIfS (dTest (dOp rEq (dCall sp_f_law_alternative_holds (dCons (dVar 8) (dCons (dVar 4) (dNil)))) (dOp rEq (dOp rItem (dCall sp_judge_alternatives (dCons (dVar 10) (dCons (dVar 4) (dNil)))) (dC (.int 0))) (dC (.str "holds"))))) (dRet (dC (.bl false))) (dNext)))))))))) (dRet (dC (.bl true))))))

theorem ok_f_law_pen : ∀ ds M Q, pPen ds M Q → ds.length = 1 ∧ t_f_law_pen (ends Q) (startD 1 ds) M := by
  rintro ds M Q ⟨ns, rfl, q⟩
  refine ⟨rfl, ?_⟩
  simp [t_f_law_pen]
  refine ⟨by simp, by simp, .inr ⟨_, .inl rfl, newD_of fun a na => ?_⟩⟩
  simp
  refine ⟨_, _, rfl, .inr (.inr ⟨a, rfl, up_same⟩), newD_of fun b nb => ?_⟩
  simp
  refine newD_of fun c nc => ?_
  have e : cutD (ns.map D.int) none (some 63) = (ns.take 63).map D.int := by simp [cutD, List.map_take]
  refine .of (q c _ ⟨b, ns.take 63, 0, 0, by simp, ?_, Ne.symm (ne_free up_same nc), by omega, by omega, by simp; omega⟩)
  rw [up_ne (ne_free up_same nc), up_same, ← e]
theorem ok_f_law_draw : ∀ ds M Q, pDraw ds M Q → ds.length = 2 ∧ t_f_law_draw (ends Q) (startD 3 ds) M := by
  rintro ds M Q ⟨p, many, rfl, h0, h1, hp, k⟩
  refine ⟨rfl, ?_⟩
  have tl : ∀ M', PenTo M M' p → dSeq (dAsg (dOp rMod (dOp rItem (dVar 0) (dC (.int 2))) (dVar 1)) (.nm 2)) (dSeq (dSetIx rSetL (dOp rDiv (dOp rItem (dVar 0) (dC (.int 2))) (dVar 1)) (dVar 0) (dC (.int 2))) (dRet (dVar 2))) (ends Q) [some (.ref p), some (.int many), none] M' := by
    rintro M' ⟨⟨q, pq, cs, a2, l2, g2, g3, g4, g5, g6, g7⟩, fr⟩
    simp [rItem_at g2, rSetL_at g2, h0, CDivD, h1]
    refine .of (k _ _ (Int.emod_nonneg _ (by omega)) (Int.emod_lt_of_pos _ h0) ⟨⟨q, pq, cs, a2, l2 / many, by simp, by rw [up_ne (Ne.symm g4)]; exact g3, g4, g5, Int.ediv_nonneg g6 (by omega), g7⟩, fun a o ha e => by rw [up_ne ha]; exact fr a o ha e⟩)
  refine dCut_by (J := fun ρ' M' => ρ' = [some (.ref p), some (.int many), none] ∧ PenTo M M' p) ?_ ?_
  · obtain ⟨q, cs, at', left, h2, h3, h4, h5, h6, h7⟩ := hp
    have hq : PenQ M p q := ⟨cs, at', left, h2, h3, h4, h5, h6, h7⟩
    simp [rItem_at h2]
    refine br_of (fun _ => ?_) fun _ => stop2 ⟨rfl, .self ⟨q, hq⟩⟩
    refine ⟨p, rfl, ⟨q, hq⟩, fun n M' hn pt => ?_⟩
    obtain ⟨cs', a2, l2, g2, g3, g4, g5, g6, g7⟩ := pt.keep hq
    simp [rSetL_at g2]
    exact stop2 ⟨rfl, ⟨⟨q, hq, cs', a2, n, by simp, by rw [up_ne (Ne.symm g4)]; exact g3, g4, g5, hn, g7⟩, fun a o ha e => by rw [up_ne ha]; exact pt.2 a o ha e⟩⟩
  · rintro ρ' M' ⟨rfl, pt⟩
    exact tl M' pt
theorem pow18 : CPowD 10 18 ↔ True := by unfold CPowD; simp
theorem ok_f_law_fresh : ∀ ds M Q, pFresh ds M Q → ds.length = 1 ∧ t_f_law_fresh (ends Q) (startD 7 ds) M := by
  rintro ds M Q ⟨p, rfl, ⟨q, cs, at', left, h2, h3, h4, h5, h6, h7⟩, k⟩
  refine ⟨rfl, ?_⟩
  simp [t_f_law_fresh, rItem_at h2, rSetL_at h2]
  have sub : ∀ n : Int, 0 ≤ n → WkM (Q (.int n)) (up M p (.lst [.ref q, .int (at' + 1), .int left])) := fun n hn =>
    .of (k n _ hn ⟨⟨q, ⟨cs, at', left, h2, h3, h4, h5, h6, h7⟩, cs, at' + 1, left, by simp, by rw [up_ne (Ne.symm h4)]; exact h3, h4, by omega, h6, h7⟩, fun a o ha e => by rw [up_ne ha]; exact e⟩)
  generalize hM1 : up M p (MO.lst [D.ref q, D.int (at' + 1), D.int left]) = M1 at sub ⊢
  have g2 : M1 p = some (.lst [D.ref q, D.int (at' + 1), D.int left]) := by rw [← hM1, up_same]
  have g3 : M1 q = some (.lst (cs.map D.int)) := by rw [← hM1, up_ne (Ne.symm h4), h3]
  refine dCut_by (J := fun ρ' M' => ∃ cell : Int, ρ' = [some (.ref p), some (.int at'), some (.int cell), none, none, none, none] ∧ Sub M1 M') ?_ ?_
  · simp [rItem_at g2]
    refine newD_of fun r nr => ?_
    have g2' : up M1 r (MO.lst []) p = some (.lst [D.ref q, D.int (at' + 1), D.int left]) := by rw [up_ne (ne_free g2 nr)]; exact g2
    have g3' : up M1 r (MO.lst []) q = some (.lst (cs.map D.int)) := by rw [up_ne (ne_free g3 nr)]; exact g3
    have sb : Sub M1 (up M1 r (MO.lst [])) := Sub.rfl.up nr
    refine rNe_nil g3' up_same ?_
    simp
    refine br_of (fun hc => ?_) fun hc => stop2 ⟨0, rfl, sb⟩
    have hl : 0 < cs.length := by
      cases cs with
      | nil => simp at hc
      | cons _ _ => simp
    simp [rItem_at g2', rItem_at g3', cLenS_at g3', hl]
    have hm1 : 0 ≤ at' % (cs.length : Int) := Int.emod_nonneg _ (by omega)
    have hm2 : at' % (cs.length : Int) < cs.length := Int.emod_lt_of_pos _ (by omega)
    have e : at' % (cs.length : Int) = ((at' % (cs.length : Int)).toNat : Nat) := (Int.toNat_of_nonneg hm1).symm
    rw [e]
    have hj : (at' % (cs.length : Int)).toNat < cs.length := by omega
    refine (itemQ_nat (d := .int cs[(at' % (cs.length : Int)).toNat]) (by simp [hj])).mpr ?_
    simp
    exact stop2 ⟨_, rfl, sb⟩
  · rintro ρ' M2 ⟨cell, rfl, sb⟩
    have g2' := sb _ _ g2
    have g3' := sb _ _ g3
    have fin : ∀ n : Int, 0 ≤ n → WkM (Q (.int n)) M2 := fun n hn => by
      obtain ⟨M3, s3, q3⟩ := sub n hn
      exact ⟨M3, s3.trans sb, q3⟩
    have tail : loopD (fun _ => True) (.nm 6) (dSeq (dAsg (dOp rMod (dOp rPlus (dOp rPlus (dOp DL.rMul (dVar 4) (dVar 4)) (dOp DL.rMul (dOp DL.rMul (dC (.int 69621)) (dOp rPlus (dVar 6) (dC (.int 1)))) (dOp rPlus (dVar 1) (dC (.int 1))))) (dVar 2)) (dVar 3)) (.nm 4)) (dAsg (dOp rPlus (dOp DL.rMul (dVar 5) (dVar 3)) (dVar 4)) (.nm 5))) (rangeD 0 6)
        { nx := dRet (dVar 5) (ends Q), rt := (ends Q).rt, bk := (ends Q).bk, ct := (ends Q).ct } [some (.ref p), some (.int at'), some (.int cell), some (.int 2305843009213693951), some (.int ((cell * 48271 + 40692 * at' + 31) % 2305843009213693951)), some (.int ((cell * 48271 + 40692 * at' + 31) % 2305843009213693951)), none] M2 := by
      refine loop_range (fun i ρ M => ∃ (st fo : Int) (x : Option D), ρ = [some (.ref p), some (.int at'), some (.int cell), some (.int 2305843009213693951), some (.int st), some (.int fo), x] ∧ 0 ≤ st ∧ st < 2305843009213693951 ∧ 0 ≤ fo ∧ M = M2) ⟨_, _, _, rfl, by omega, by omega, by omega, rfl⟩ ?_ ?_
      · rintro i ρ M hi ⟨st, fo, x, rfl, h8, h9, h10, rfl⟩
        have e1 : st.natAbs < 2 ^ 64 := by omega
        have e2 : ((69621 : Int) * ((i : Int) + 1)).natAbs < 2 ^ 64 := by omega
        simp [e1, e2]
        exact wk ⟨_, _, _, rfl, by omega, by omega, by omega, rfl⟩
      · rintro ρ M ⟨st, fo, x, rfl, h8, h9, h10, rfl⟩
        simp
        exact fin fo h10
    simp [rItem_at g2', cLenS_at g3', pow18]
    refine br_of (fun h1 => br_of (fun h2 => ?_) fun _ => tail) fun _ => tail
    exact fin _ (by have := of_decide_eq_true h2; omega)

@[simp] theorem rItem_tm {t : List Int} {i : Int} {M : MH} {Q : DQ} : rItem (tm t) (.int i) M Q ↔ itemQ (t.map D.int) i M Q := by rw [tm, rItem_tup]
theorem ok_broken_side : ∀ ds M Q, sp_broken_side ds M Q → ds.length = 2 ∧ t_broken_side (ends Q) (startD 7 ds) M := by
  rintro ds M Q ⟨⟨a, b, lo, hi⟩, t, rfl, ⟨h1, h2, h3, h4⟩, q⟩
  refine ⟨rfl, ?_⟩
  dsimp only at h1 h2 h3 h4
  have fin : ∀ s, Diff.side ⟨a, b, lo, hi⟩ t = s → WkM (Q (os s)) M := fun s e => by rw [e] at q; exact .of q
  cases lo <;> cases hi <;> simp [t_broken_side, Diff.d, ints_at h1 h2, ints_at h3 h4]
  · exact fin none rfl
  · refine br_of (fun e => fin (some true) ?_) fun e => fin none ?_ <;> simp at e <;> simp [Diff.side] <;> omega
  · refine br_of (fun e => fin (some false) ?_) fun e => fin none ?_ <;> simp at e <;> simp [Diff.side] <;> omega
  · refine br_of (fun e => fin (some false) ?_) fun e => br_of (fun e' => fin (some true) ?_) fun e' => fin none ?_ <;> simp at e <;> try simp at e'
    · simp [Diff.side, e]
    · simp [Diff.side, e', show ¬ (at_ t b - at_ t a < _) from Int.not_lt.mpr e]
    · simp [Diff.side, Int.not_lt.mpr e, Int.not_lt.mpr e']
theorem isN_os (s : Option Bool) : (os s).isN = s.isNone := by cases s with | none => rfl | some b => cases b <;> rfl

theorem ok_f_law_bound : ∀ ds M Q, sp_f_law_bound ds M Q → ds.length = 1 ∧ t_f_law_bound (ends Q) (startD 2 ds) M := by
  rintro ds M Q ⟨p, rfl, hp, k⟩
  refine ⟨rfl, ?_⟩
  have c20 : CPowD 10 20 ↔ True := by unfold CPowD; simp
  have c60 : CPowD 10 60 ↔ True := by unfold CPowD; simp
  have fin : ∀ i M', i.natAbs < 2 ^ 210 → PenTo M M' p → WkM (Q (.int i)) M' := fun i M' h t => .of (k (some i) M' (fun j e => by cases e; exact h) t)
  simp [t_f_law_bound, sp_f_law_draw, draw_at hp]
  intro kind M1 g0 g1 p1
  refine br_of (fun e => .of (k none M1 (fun j e => by cases e) p1)) fun e => ?_
  refine br_of (fun e1 => ?_) fun e1 => ?_
  · simp [draw_at p1.pen, c20]
    intro d M2 g2 g3 p2
    simp [draw_at p2.pen]
    intro d' M3 g4 g5 p3
    refine ⟨.inl (by omega), fin _ _ ?_ ((p1.nx p2).nx p3)⟩
    have : d = 0 ∨ d = 1 ∨ d = 2 := by omega
    rcases this with rfl | rfl | rfl <;> simp <;> omega
  · refine br_of (fun e2 => ?_) fun e2 => ?_
    · simp [draw_at p1.pen]
      intro d M2 g2 g3 p2
      refine br_of (fun e3 => ?_) fun e3 => ?_
      · simp [draw_at p2.pen, c60]
        intro d' M3 g4 g5 p3
        simp [draw_at p3.pen]
        intro d2 M4 g6 g7 p4
        refine ⟨.inl (by omega), fin _ _ ?_ (((p1.nx p2).nx p3).nx p4)⟩
        have : d' = 0 ∨ d' = 1 ∨ d' = 2 := by omega
        rcases this with rfl | rfl | rfl <;> simp <;> omega
      · simp [draw_at p2.pen]
        intro d' M3 g4 g5 p3
        exact fin _ _ (by omega) ((p1.nx p2).nx p3)
    · simp [draw_at p1.pen]
      intro d' M3 g4 g5 p3
      exact fin _ _ (by omega) (p1.nx p3)
theorem ok_f_law_difference : ∀ ds M Q, sp_f_law_difference ds M Q → ds.length = 2 ∧ t_f_law_difference (ends Q) (startD 6 ds) M := by
  rintro ds M Q ⟨p, n, rfl, n1, n2, hp, k⟩
  refine ⟨rfl, ?_⟩
  have wn : Wide (n : Int) := ⟨by omega, by omega⟩
  have wn' : Wide ((n : Int) - 1) := ⟨by omega, by omega⟩
  have at_b : ∀ {M1 Q1}, Pen M1 p → (sp_f_law_bound [.ref p] M1 Q1 ↔ ∀ b M', okB b → PenTo M1 M' p → Q1 (oi b) M') := fun {M1 Q1} h => ⟨by rintro ⟨_, e, _, q⟩; cases e; exact q, fun q => ⟨p, rfl, h, q⟩⟩
  simp [t_f_law_difference, sp_f_law_draw, draw_at hp, wn]
  intro a M1 a0 a1 p1
  simp [draw_at p1.pen, wn']
  intro s M2 s0 s1 p2
  refine ⟨by omega, ?_⟩
  have b0 : 0 ≤ (a + 1 + s) % (n : Int) := Int.emod_nonneg _ (by omega)
  have b1 : (a + 1 + s) % (n : Int) < n := Int.emod_lt_of_pos _ (by omega)
  have ne : a ≠ (a + 1 + s) % (n : Int) := by
    intro e
    have h := Int.emod_def (a + 1 + s) n
    by_cases hq : (a + 1 + s) / (n : Int) = 0
    · rw [hq] at h; simp at h; omega
    · by_cases hq1 : (a + 1 + s) / (n : Int) ≤ -1
      · have := Int.mul_le_mul_of_nonneg_left hq1 (show (0 : Int) ≤ n by omega)
        omega
      · have := Int.mul_le_mul_of_nonneg_left (show 1 ≤ (a + 1 + s) / (n : Int) by omega) (show (0 : Int) ≤ n by omega)
        omega
  generalize (a + 1 + s) % (n : Int) = b at b0 b1 ne ⊢
  have p12 := p1.nx p2
  simp [at_b p2.pen]
  intro lo M3 l0 p3
  simp [at_b p3.pen]
  intro hi M4 h0 p4
  have p14 := (p12.nx p3).nx p4
  refine dCut_by (J := fun ρ M' => ∃ lo' hi', ρ = [some (.ref p), some (.int n), some (.int a), some (.int b), some (oi lo'), some (oi hi')] ∧ okB lo' ∧ okB hi' ∧ (lo' ≠ none ∨ hi' ≠ none) ∧ PenTo M M' p) ?_ ?_
  · have sk : (lo ≠ none ∨ hi ≠ none) → (∃ lo' hi', [some (D.ref p), some (D.int n), some (.int a), some (.int b), some (oi lo), some (oi hi)] = [some (D.ref p), some (.int n), some (.int a), some (.int b), some (oi lo'), some (oi hi')] ∧ okB lo' ∧ okB hi' ∧ (lo' ≠ none ∨ hi' ≠ none) ∧ PenTo M M4 p) := fun h => ⟨_, _, rfl, l0, h0, h, p14⟩
    cases lo with
    | some l => simp; exact stop2 (sk (.inl (by simp)))
    | none =>
      cases hi with
      | some h => simp; exact stop2 (sk (.inr (by simp)))
      | none =>
        simp [draw_at p4.pen]
        intro d M5 d0 d1 p5
        exact stop2 ⟨some (d - 2), none, rfl, fun j e => by cases e; omega, h0, .inl (by simp), p14.nx p5⟩
  · rintro ρ M5 ⟨lo, hi, rfl, l0, h0, h, p5⟩
    refine dCut_by (J := fun ρ M' => ∃ lo' hi', ρ = [some (.ref p), some (.int n), some (.int a), some (.int b), some (oi lo'), some (oi hi')] ∧ okB lo' ∧ okB hi' ∧ (lo' ≠ none ∨ hi' ≠ none) ∧ PenTo M M' p) ?_ ?_
    · have sk : ∀ M', PenTo M M' p → (∃ lo' hi', [some (D.ref p), some (D.int n), some (.int a), some (.int b), some (oi lo), some (oi hi)] = [some (D.ref p), some (.int n), some (.int a), some (.int b), some (oi lo'), some (oi hi')] ∧ okB lo' ∧ okB hi' ∧ (lo' ≠ none ∨ hi' ≠ none) ∧ PenTo M M' p) := fun M' h' => ⟨_, _, rfl, l0, h0, h, h'⟩
      cases lo with
      | none => simp; exact stop2 (sk _ p5)
      | some l =>
        cases hi with
        | none => simp; exact stop2 (sk _ p5)
        | some h1 =>
          simp
          refine br_of (fun e => ?_) fun e => stop2 (sk _ p5)
          simp [draw_at p5.pen]
          intro d M6 d0 d1 p6
          refine br_of (fun e => ?_) fun e => stop2 (sk _ (p5.nx p6))
          exact stop2 ⟨some h1, some l, rfl, h0, l0, .inl (by simp), p5.nx p6⟩
    · rintro ρ M6 ⟨lo, hi, rfl, l0, h0, h, p6⟩
      simp
      exact .of (k ⟨a, b, lo, hi⟩ M6 ⟨a0, a1, b0, b1⟩ ne l0 h0 h p6)
theorem ok_f_law_times : ∀ ds M Q, sp_f_law_times ds M Q → ds.length = 2 ∧ t_f_law_times (ends Q) (startD 4 ds) M := by
  rintro ds M Q ⟨p, n, rfl, n1, hp, k⟩
  refine ⟨rfl, ?_⟩
  have c21 : CPowD 10 21 ↔ True := by unfold CPowD; simp
  simp [t_f_law_times, sp_f_law_draw, c21]
  refine newD_of fun r nr => ?_
  have hp1 := hp.up nr (o := .lst [.int 5, .int 5, .int 9, .int 1000000000000000000000])
  simp [draw_at hp1]
  intro d M1 d0 d1 p1
  have : M1 r = some (.lst [.int 5, .int 5, .int 9, .int 1000000000000000000000]) := p1.sub (hp.ne nr) up_same
  rw [rItem_at this]
  have w : ∃ w : Int, 0 ≤ w ∧ w < 10 ^ 22 ∧ ∀ Q, Q (.int w) M1 → itemQ [.int 5, .int 5, .int 9, .int 1000000000000000000000] d M1 Q := by
    have : d = 0 ∨ d = 1 ∨ d = 2 ∨ d = 3 := by omega
    rcases this with rfl | rfl | rfl | rfl
    · exact ⟨5, by omega, by omega, fun Q q => by simpa using q⟩
    · exact ⟨5, by omega, by omega, fun Q q => by simpa using q⟩
    · exact ⟨9, by omega, by omega, fun Q q => by simpa using q⟩
    · exact ⟨1000000000000000000000, by omega, by omega, fun Q q => by simpa using q⟩
  obtain ⟨w, w0, w1, hw⟩ := w
  refine hw _ ?_
  simp
  have ww : Wide (2 * w + 1) := ⟨by omega, Int.lt_trans (show _ < (10 : Int) ^ 40 by omega) (by exact of_decide_eq_true rfl)⟩
  refine ⟨by omega, by rw [rangeD_ln]; exact szl _ n1, ?_⟩
  have p1' : PenTo M M1 p := (PenTo.new hp nr).nx p1
  refine comp_range (fun i acc M' => ∃ t : List Int, acc = t.map D.int ∧ t.length = i ∧ PenTo M M' p) ⟨[], rfl, rfl, p1'⟩ ?_ ?_
  · rintro i acc M' hi ⟨t, rfl, tl, pt⟩
    simp [wipeD, draw_at pt.pen, ww]
    intro d M2 d0 d1 p2
    exact wkM ⟨t ++ [d - w], by simp, by simp [tl], pt.nx p2⟩
  · rintro acc M' ⟨t, rfl, tl, pt⟩
    refine newD_of fun r' nr' => ?_
    simp
    exact .of (k t _ tl (pt.up nr'))


theorem istm_at {M : MH} {y : D} {t : List Int} {i : Int} {Q : DQ} (h : IsTm M y t) : rItem y (.int i) M Q ↔ itemQ (t.map D.int) i M Q := by
  rcases h with rfl | ⟨a, rfl, h⟩
  · exact rItem_tm
  · exact rItem_at h
theorem ok_f_law_side : ∀ ds M Q, sp_f_law_side ds M Q → ds.length = 2 ∧ t_f_law_side (ends Q) (startD 7 ds) M := by
  rintro ds M Q ⟨⟨a, b, lo, hi⟩, t, y, rfl, hy, ⟨h1, h2, h3, h4⟩, q⟩
  refine ⟨rfl, ?_⟩
  dsimp only at h1 h2 h3 h4
  have fin : ∀ s, Diff.side ⟨a, b, lo, hi⟩ t = s → WkM (Q (os s)) M := fun s e => by rw [e] at q; exact .of q
  cases lo <;> cases hi <;> simp [t_f_law_side, Diff.d, istm_at hy, ints_at h1 h2, ints_at h3 h4]
  · exact fin none rfl
  · refine br_of (fun e => fin (some true) ?_) fun e => fin none ?_ <;> simp at e <;> simp [Diff.side] <;> omega
  · refine br_of (fun e => fin (some false) ?_) fun e => fin none ?_ <;> simp at e <;> simp [Diff.side] <;> omega
  · refine br_of (fun e => fin (some false) ?_) fun e => br_of (fun e' => fin (some true) ?_) fun e' => fin none ?_ <;> simp at e <;> try simp at e'
    · simp [Diff.side, e]
    · simp [Diff.side, e', show ¬ (at_ t b - at_ t a < _) from Int.not_lt.mpr e]
    · simp [Diff.side, Int.not_lt.mpr e, Int.not_lt.mpr e']
theorem ok_first_break : ∀ ds M Q, sp_first_break ds M Q → ds.length = 2 ∧ t_first_break (ends Q) (startD 5 ds) M := by
  rintro ds M Q ⟨a, t, rfl, ha, q⟩
  refine ⟨rfl, ?_⟩
  simp [t_first_break, altD]
  have main : ∀ (r : List Diff) (k : Nat) (s2 s3 s4 : Option D), inA t.length r → WkM (Q (fbD (firstB t r k))) M →
      loopR (fun _ => True) (.tp [.nm 2, .nm 3]) (dSeq (dAsg (dCall sp_broken_side (dCons (dVar 3) (dCons (dVar 1) (dNil)))) (.nm 4)) (dIfS (dTest (dUn rNotN (dVar 4))) (dRet (dTup (dCons (dVar 2) (dCons (dVar 4) (dNil))))) (dNext))) (enumD k (r.map Diff.d))
        { nx := dRet (dC .non) (ends Q), rt := (ends Q).rt, bk := (ends Q).bk, ct := (ends Q).ct } [some (.tup (a.map Diff.d)), some (tm t), s2, s3, s4] M := by
    intro r
    induction r with
    | nil => intro k s2 s3 s4 _ q; exact ⟨trivial, q⟩
    | cons x r ih =>
      intro k s2 s3 s4 hr q
      refine loopR_cons ⟨trivial, ?_⟩
      simp
      refine ⟨x, t, rfl, hr x (by simp), ?_⟩
      rw [firstB] at q
      cases hs : x.side t with
      | none =>
        rw [hs] at q
        simp
        exact wkL _ (ih (k + 1) none none none (fun y hy => hr y (by simp [hy])) q) (by simp [lessP])
      | some s =>
        rw [hs] at q
        cases s <;> (simp; exact q)
  exact loopD_of (main a 0 none none none ha (.of q))
theorem firstB_none (t : List Int) : ∀ (a : List Diff) (k : Nat), (firstB t a k).isNone = (a.filterMap fun x => if (x.side t).isSome then some (1 : Int) else none).isEmpty
  | [], _ => rfl
  | x :: r, k => by
    rw [firstB]
    cases h : x.side t with
    | none => rw [List.filterMap_cons_none (by simp [h])]; exact firstB_none t r (k + 1)
    | some s => rw [List.filterMap_cons_some (b := 1) (by simp [h])]; rfl
theorem ok_f_law_alternative_holds : ∀ ds M Q, sp_f_law_alternative_holds ds M Q → ds.length = 2 ∧ t_f_law_alternative_holds (ends Q) (startD 3 ds) M := by
  rintro ds M Q ⟨a, t, y, rfl, hy, hl, ha, q⟩
  refine ⟨rfl, ?_⟩
  simp [t_f_law_alternative_holds, altD]
  refine ⟨szl _ hl, ?_⟩
  refine comp_mapT (l := a) (e := Diff.d) (fun x => (if (x.side t).isSome then some (1 : Int) else none).map D.int) rfl ?_ trivial ?_
  · intro x hx
    simp [wipeD]
    refine ⟨x, t, y, rfl, hy, ha x hx, ?_⟩
    simp [isN_os]
    cases h : x.side t with
    | none => simp; exact ⟨rfl, .rfl⟩
    | some s => simp; exact stop2 ⟨rfl, .rfl⟩
  refine newD_of fun p n => ?_
  simp
  refine newD_of fun r nr => ?_
  refine rEq_nil (ns := a.filterMap fun x => if (x.side t).isSome then some (1 : Int) else none) ?_ up_same ?_
  · have e : (a.filterMap fun x => if (x.side t).isSome = true then some (D.int 1) else none) = (a.filterMap fun x => if (x.side t).isSome = true then some (1 : Int) else none).map D.int := by
      rw [← ints_fm]; congr 1; funext x; split <;> rfl
    rw [up_ne (ne_free up_same nr), up_same, e]
  rw [← firstB_none t a 0]
  exact ⟨M, (Sub.rfl.up n).up (none_up nr), q⟩
theorem ok_judge_alternatives : ∀ ds M Q, sp_judge_alternatives ds M Q → ds.length = 2 ∧ t_judge_alternatives (ends Q) (startD 6 ds) M := by
  rintro ds M Q ⟨A, t, rfl, hl, ha, q⟩
  refine ⟨rfl, ?_⟩
  simp [t_judge_alternatives, altsD]
  refine newD_of fun p n => ?_
  simp
  have main : ∀ (r : List (List Diff)) (k : Nat) (w : List (Nat × Bool)) (s3 s4 s5 : Option D), (∀ a ∈ r, inA t.length a) → w.length + r.length ≤ 1000 → (∀ M', WkM (Q (judgeD (judge t r k w))) (up M p M')) →
      loopR (fun _ => True) (.tp [.nm 3, .nm 4]) (dSeq (dAsg (dCall sp_first_break (dCons (dVar 4) (dCons (dVar 1) (dNil)))) (.nm 5)) (dSeq (dIfS (dTest (dUn rIsN (dVar 5))) (dRet (dTup (dCons (dC (.str "holds")) (dCons (dVar 3) (dNil))))) (dNext)) (dDrop (dMeth isLst mAppend (dVar 2) (dCons (dVar 5) (dNil)))))) (enumD k (r.map altD))
        { nx := dRet (dTup (dCons (dC (.str "fails")) (dCons (dCall cTuple (dCons (dVar 2) (dNil))) (dNil)))) (ends Q), rt := (ends Q).rt, bk := (ends Q).bk, ct := (ends Q).ct } [some (.tup (A.map altD)), some (tm t), some (.ref p), s3, s4, s5] (up M p (.lst (w.map fun f => fbD (some f)))) := by
    intro r
    induction r with
    | nil => intro k w s3 s4 s5 _ _ q; refine ⟨trivial, ?_⟩; simp; exact q _
    | cons a r ih =>
      intro k w s3 s4 s5 hr hw q
      refine loopR_cons ⟨trivial, ?_⟩
      simp
      refine ⟨a, t, rfl, hr a (by simp), ?_⟩
      rw [judge] at q
      cases hs : firstB t a 0 with
      | none =>
        rw [hs] at q
        simp [fbD]
        exact q _
      | some f =>
        rw [hs] at q
        simp at hw
        simp [fbD]
        refine ⟨szl' _ (by omega), ?_⟩
        have := ih (k + 1) (w ++ [f]) none none none (fun y hy => hr y (by simp [hy])) (by simp; omega) q
        rw [List.map_append] at this
        exact wkL _ this (by simp [lessP])
  exact loopD_of (main A 0 [] none none none ha (by simpa using hl) fun M' => ⟨M, Sub.rfl.up n, q⟩)

theorem ok_f_law_alternatives : ∀ ds M Q, sp_f_law_alternatives ds M Q → ds.length = 3 ∧ t_f_law_alternatives (ends Q) (startD 7 ds) M := by
  rintro ds M Q ⟨p, n, m, rfl, n1, n2, m1, m2, hp, k⟩
  refine ⟨rfl, ?_⟩
  have wm : Wide (m : Int) := ⟨by omega, by omega⟩
  simp [t_f_law_alternatives, sp_f_law_draw]
  refine dCut_by (J := fun ρ M' => ∃ j : Nat, ρ = [some (.ref p), some (.int n), some (.int m), some (.int j), none, none, none] ∧ 1 ≤ j ∧ j ≤ m ∧ PenTo M M' p) ?_ ?_
  · simp [draw_at hp]
    intro d M1 d0 d1 p1
    refine br_of (fun _ => ?_) fun _ => stop2 ⟨1, rfl, by omega, m1, p1⟩
    simp [draw_at p1.pen, wm]
    intro e M2 e0 e1 p2
    exact stop2 ⟨(1 + e).toNat, by rw [Int.toNat_of_nonneg (by omega)], by omega, by omega, p1.nx p2⟩
  rintro ρ M1 ⟨j, rfl, j1, j2, p1⟩
  simp
  refine newD_of fun r nr => ?_
  simp
  refine ⟨by omega, ?_⟩
  have q1 : PenTo M (up M1 r (.lst [])) p := p1.up nr
  have rp : r ≠ p := p1.pen.ne nr
  refine loop_range (fun i ρ M' => ∃ (A : List (List Diff)) (s5 s6 : Option D), ρ = [some (.ref p), some (.int n), some (.int m), some (.int j), some (.ref r), s5, s6] ∧ A.length = i ∧ (∀ a ∈ A, 0 < a.length ∧ a.length ≤ 2 ∧ inA n a) ∧ okAB A ∧ M' r = some (.lst (A.map altD)) ∧ PenTo M M' p)
    ⟨[], none, none, rfl, rfl, by simp, (by intro a h; cases h), up_same, q1⟩ ?_ ?_
  · rintro i ρ M2 hi ⟨A, s5, s6, rfl, hA, hin, hab, hr, q2⟩
    simp [isLst_at hr, draw_at q2.pen]
    intro d M3 d0 d1 q3
    have hc : ∃ c : Nat, (1 : Int) + (if d = 0 then 1 else 0) = c ∧ 0 < c ∧ c ≤ 2 := by
      by_cases e : d = 0
      · exact ⟨2, by simp [e], by omega, by omega⟩
      · exact ⟨1, by simp [e], by omega, by omega⟩
    obtain ⟨c, ec, c0, c2⟩ := hc
    simp [ec]
    refine ⟨by omega, by rw [rangeD_ln]; exact szl _ (by omega), ?_⟩
    refine comp_range (fun i acc M' => ∃ a : List Diff, acc = a.map Diff.d ∧ a.length = i ∧ inA n a ∧ (∀ x ∈ a, okB x.lo ∧ okB x.hi ∧ (x.lo ≠ none ∨ x.hi ≠ none)) ∧ PenTo M2 M' p) ⟨[], rfl, rfl, (by intro x h; cases h), (by intro x h; cases h), q3⟩ ?_ ?_
    · rintro i' acc M4 hi' ⟨a, rfl, ha, hx, hb, q4⟩
      simp [wipeD]
      refine ⟨p, n, rfl, n1, n2, q4.pen, fun x M5 x1 x2 x3 x4 x5 q5 => ?_⟩
      refine wkM ⟨a ++ [x], by simp, by simp [ha], ?_, ?_, q4.nx q5⟩
      · intro y hy
        rcases List.mem_append.mp hy with hy | hy
        · exact hx y hy
        · rw [List.mem_singleton.mp hy]; exact x1
      · intro y hy
        rcases List.mem_append.mp hy with hy | hy
        · exact hb y hy
        · rw [List.mem_singleton.mp hy]; exact ⟨x3, x4, x5⟩
    · rintro acc M4 ⟨a, rfl, ha, hx, hb, q4⟩
      refine newD_of fun r2 nr2 => ?_
      have hr4 : M4 r = some (.lst (A.map altD)) := q4.sub rp hr
      have hr5 : up M4 r2 (.lst (a.map Diff.d)) r = some (.lst (A.map altD)) := by rw [up_ne (ne_free hr4 nr2)]; exact hr4
      simp [mAppend_at hr5]
      refine ⟨szl' _ (by omega), ?_⟩
      refine wkL [some (.ref p), some (.int n), some (.int m), some (.int j), some (.ref r), none, none] ⟨A ++ [a], none, none, rfl, by simp [hA], ?_, ?_, by rw [List.map_append]; exact up_same, ?_⟩ (by simp [lessP])
      · intro b hb'
        rcases List.mem_append.mp hb' with hb' | hb'
        · exact hin b hb'
        · rw [List.mem_singleton.mp hb']; exact ⟨by omega, by omega, hx⟩
      · intro b hb'
        rcases List.mem_append.mp hb' with hb' | hb'
        · exact hab b hb'
        · rw [List.mem_singleton.mp hb']; exact hb
      · exact ((q2.nx q4).up nr2).mod (p1.free nr)
  · rintro ρ M2 ⟨A, s5, s6, rfl, hA, hin, hab, hr, q2⟩
    simp [cTuple_at hr]
    exact .of (k A M2 ⟨by omega, by omega, hin⟩ hab q2)

theorem firstB_bd (t : List Int) : ∀ (a : List Diff) (k : Nat) (f : Nat × Bool), firstB t a k = some f → f.1 < k + a.length
  | [], _, _, h => by cases h
  | x :: r, k, f, h => by
    rw [firstB] at h
    cases hs : x.side t with
    | none => rw [hs] at h; have := firstB_bd t r (k + 1) f h; simp; omega
    | some s => rw [hs] at h; cases h; simp
theorem judge_bd (t : List Int) {m : Nat} : ∀ (r : List (List Diff)) (k : Nat) (w : List (Nat × Bool)), (∀ a ∈ r, a.length ≤ m) → (∀ f ∈ w, f.1 < m) → (∃ i, judge t r k w = .inl i ∧ i < k + r.length) ∨ ∃ w', judge t r k w = .inr w' ∧ w'.length = w.length + r.length ∧ ∀ f ∈ w', f.1 < m
  | [], k, w, _, hw => .inr ⟨w, rfl, by simp, hw⟩
  | a :: r, k, w, ha, hw => by
    rw [judge]
    cases hs : firstB t a 0 with
    | none => exact .inl ⟨k, rfl, by simp⟩
    | some f =>
      have hf := firstB_bd t a 0 f hs
      have hm := ha a (by simp)
      rcases judge_bd t r (k + 1) (w ++ [f]) (fun b hb => ha b (by simp [hb])) (fun g hg => by
        rcases List.mem_append.mp hg with hg | hg
        · exact hw g hg
        · rw [List.mem_singleton.mp hg]; omega) with ⟨i, h1, h2⟩ | ⟨w', h1, h2, h3⟩
      · exact .inl ⟨i, h1, by simp; omega⟩
      · exact .inr ⟨w', h1, by rw [h2]; simp; omega, h3⟩
theorem fb_wt (f : Nat × Bool) : (fbD (some f)).wt ≤ 20 := by
  obtain ⟨k, s⟩ := f
  cases s <;> simp [fbD, os, D.wt, D.wts, show Str.length "low" = 3 by decide +kernel, show Str.length "high" = 4 by decide +kernel]
theorem fb_rok (f : Nat × Bool) (h : f.1 < 2 ^ 250) : (fbD (some f)).rok = true := by
  obtain ⟨k, s⟩ := f
  have : D.rok (.int (k : Nat)) = true := rok_int (by simpa using h)
  cases s <;> simp [fbD, os, D.rok, D.roks, show PyData.strOk "low" = true by decide +kernel, show PyData.strOk "high" = true by decide +kernel] <;> simpa [D.rok] using this
theorem fb_dep (f : Nat × Bool) : (fbD (some f)).py.depth ≤ 1 := by
  obtain ⟨k, s⟩ := f
  cases s <;> simp [fbD, os, D.py, D.pys, PyData.depth, PyData.depthAll]
theorem judge_rok (t : List Int) {m : Nat} {A : List (List Diff)} (hA : A.length ≤ 100) (hm : m ≤ 1000) (ha : ∀ a ∈ A, a.length ≤ m) : (judgeD (judge t A 0 [])).rok = true ∧ (judgeD (judge t A 0 [])).wt ≤ 8000 ∧ (judgeD (judge t A 0 [])).py.depth ≤ 60 := by
  have l1 : Str.length "holds" = 5 := by decide +kernel
  have l2 : Str.length "fails" = 5 := by decide +kernel
  rcases judge_bd t A 0 [] ha (by simp) with ⟨i, h, hi⟩ | ⟨w, h, hw, hf⟩
  · rw [h]
    have : D.rok (.int (i : Nat)) = true := rok_int (by
      have : i < 1000 := by omega
      simp; omega)
    refine ⟨?_, by simp [judgeD, D.wt, D.wts, l1], by simp [judgeD, D.py, D.pys, PyData.depth, PyData.depthAll]⟩
    simp [judgeD, D.rok, D.roks, show PyData.strOk "holds" = true by decide +kernel]
    simpa [D.rok] using this
  · rw [h]
    have r1 := roks_map (l := w) (f := fun f => fbD (some f)) fun f hf' => fb_rok f (by have := hf f hf'; omega)
    have r2 := wts_map (l := w) (f := fun f => fbD (some f)) (c := 20) fun f hf' => fb_wt f
    have r3 := dep_map (l := w) (f := fun f => fbD (some f)) (c := 1) fun f hf' => fb_dep f
    simp at hw
    refine ⟨?_, ?_, ?_⟩
    · simp [judgeD, D.rok, D.roks, show PyData.strOk "fails" = true by decide +kernel]
      exact r1
    · simp [judgeD, D.wt, D.wts, l2]
      omega
    · simp [judgeD, D.py, D.pys, PyData.depth, PyData.depthAll]
      omega
/-- what stands ahead in a filtered row -/
theorem fb_head (t : List Int) : ∀ (a : List Diff) (k : Nat) (f : Nat × Bool), firstB t a k = some f → ∃ rest, (a.zipIdx k).filterMap (fun p => (p.1.side t).map fun s => D.tup [.int p.2, os (some s)]) = fbD (some f) :: rest
  | [], _, _, h => by cases h
  | x :: r, k, f, h => by
    rw [firstB] at h
    rw [List.zipIdx_cons]
    cases hs : x.side t with
    | none =>
      rw [hs] at h
      rw [List.filterMap_cons_none (by simp [hs])]
      exact fb_head t r (k + 1) f h
    | some s =>
      rw [hs] at h
      cases h
      rw [List.filterMap_cons_some (b := D.tup [.int k, os (some s)]) (by simp [hs])]
      exact ⟨_, rfl⟩
/-- the alternatives that hold -/
def goods (t : List Int) (A : List (List Diff)) (k : Nat) : List Int := (A.zipIdx k).filterMap fun p => if firstB t p.1 0 = none then some (p.2 : Int) else none
theorem goods_some (t : List Int) : ∀ (A : List (List Diff)) (k : Nat) (w : List (Nat × Bool)) (g : Int) (gs : List Int), goods t A k = g :: gs → ∃ i : Nat, g = i ∧ judge t A k w = .inl i
  | [], k, w, g, gs, h => by cases h
  | a :: r, k, w, g, gs, h => by
    rw [goods, List.zipIdx_cons] at h
    rw [judge]
    cases hs : firstB t a 0 with
    | none =>
      rw [List.filterMap_cons_some (b := (k : Int)) (by simp [hs])] at h
      cases h
      exact ⟨k, rfl, rfl⟩
    | some f =>
      rw [List.filterMap_cons_none (by simp [hs])] at h
      exact goods_some t r (k + 1) (w ++ [f]) g gs h
theorem goods_none (t : List Int) : ∀ (A : List (List Diff)) (k : Nat), goods t A k = [] → ∀ a ∈ A, ∃ f, firstB t a 0 = some f
  | [], k, h, a, ha => by cases ha
  | a :: r, k, h, b, hb => by
    rw [goods, List.zipIdx_cons] at h
    cases hs : firstB t a 0 with
    | none =>
      rw [List.filterMap_cons_some (b := (k : Int)) (by simp [hs])] at h
      cases h
    | some f =>
      rw [List.filterMap_cons_none (by simp [hs])] at h
      rcases List.mem_cons.mp hb with rfl | hb
      · exact ⟨f, hs⟩
      · exact goods_none t r (k + 1) h b hb

theorem ok_denials_of : ∀ ds M Q, sp_denials_of ds M Q → ds.length = 1 ∧ t_denials_of (ends Q) (startD 6 ds) M := by
  rintro ds M Q ⟨⟨a, b, lo, hi⟩, rfl, q⟩
  refine ⟨rfl, ?_⟩
  cases lo <;> cases hi <;> simp [t_denials_of, Diff.d] <;> refine newD_of fun p n => ?_ <;> simp <;> refine dCut_of ?_ <;> simp [szl'] <;> refine dCut_of ?_ <;> simp [szl'] <;> exact .of (q p n)
theorem den_two (x : Diff) : x.den.length ≤ 2 := by obtain ⟨a, b, lo, hi⟩ := x; cases lo <;> cases hi <;> simp [Diff.den]
theorem dens_ln (a : List Diff) : (dens a).length ≤ 2 * a.length := by
  induction a with
  | nil => simp [dens]
  | cons x r ih =>
    have := den_two x
    simp only [dens, List.length_map, List.flatMap_cons, List.length_append, List.length_cons] at ih ⊢
    omega
theorem ok_denials : ∀ ds M Q, sp_denials ds M Q → ds.length = 1 ∧ t_denials (ends Q) (startD 6 ds) M := by
  rintro ds M Q ⟨A, rfl, hA, ha, q⟩
  refine ⟨rfl, ?_⟩
  simp [t_denials, altsD]
  refine newD_of fun f nf => ?_
  simp
  refine loop_map (fun i ρ M' => ∃ s2 s3 s4 s5, ρ = [some (altsD A), some (.ref f), s2, s3, s4, s5] ∧ M' f = some (.lst ((A.take i).map fun a => altsD (dens a))) ∧ Sub M M') ⟨none, none, none, none, rfl, up_same, Sub.rfl.up nf⟩ ?_ ?_
  · rintro i a ρ M1 hi tk ⟨s2, s3, s4, s5, rfl, hf, sb⟩
    refine ⟨trivial, ?_⟩
    have il := (List.getElem?_eq_some_iff.mp hi).1
    have haA : a ∈ A := List.mem_of_getElem? hi
    simp
    refine newD_of fun g ng => ?_
    have hf1 : up M1 g (.lst []) f = some (.lst ((A.take i).map fun a => altsD (dens a))) := by rw [up_ne (ne_free hf ng)]; exact hf
    have gM : M g = none := sb.free ng
    have gf : g ≠ f := fun e => by subst e; rw [hf] at ng; cases ng
    simp [altD]
    refine loop_map (fun j ρ M' => ∃ s4 s5, ρ = [some (altsD A), some (.ref f), some (altD a), some (.ref g), s4, s5] ∧ M' f = some (.lst ((A.take i).map fun a => altsD (dens a))) ∧ M' g = some (.lst ((dens (a.take j)).map altD)) ∧ Sub M M') ⟨s4, s5, rfl, hf1, up_same, sb.up gM⟩ ?_ ?_
    · rintro j x ρ M2 hj tk2 ⟨s4, s5, rfl, hf2, hg2, sb2⟩
      refine ⟨trivial, ?_⟩
      have jl := (List.getElem?_eq_some_iff.mp hj).1
      simp [isLst_at hg2]
      refine ⟨x, rfl, newD_of fun r nr => ?_⟩
      simp
      refine ⟨szl _ (by have := den_two x; omega), ?_⟩
      refine comp_mapT (l := x.den) (e := Diff.d) (fun y => some (altD [y])) rfl ?_ up_same ?_
      · intro y hy
        refine ⟨up_same, ?_⟩
        simp [wipeD]
        exact stop2 ⟨rfl, .rfl⟩
      rw [List.filterMap_eq_map']
      refine newD_of fun r2 nr2 => ?_
      have hg3 : up M2 r (.lst (x.den.map Diff.d)) g = some (.lst ((dens (a.take j)).map altD)) := by rw [up_ne (ne_free hg2 nr)]; exact hg2
      have hf3 : up M2 r (.lst (x.den.map Diff.d)) f = some (.lst ((A.take i).map fun a => altsD (dens a))) := by rw [up_ne (ne_free hf2 nr)]; exact hf2
      have hg4 : up (up M2 r (.lst (x.den.map Diff.d))) r2 (.lst (x.den.map fun y => altD [y])) g = some (.lst ((dens (a.take j)).map altD)) := by rw [up_ne (ne_free hg3 nr2)]; exact hg3
      have hf4 : up (up M2 r (.lst (x.den.map Diff.d))) r2 (.lst (x.den.map fun y => altD [y])) f = some (.lst ((A.take i).map fun a => altsD (dens a))) := by rw [up_ne (ne_free hf3 nr2)]; exact hf3
      have sb4 : Sub M (up (up M2 r (.lst (x.den.map Diff.d))) r2 (.lst (x.den.map fun y => altD [y]))) := (sb2.up (sb2.free nr)).up (sb2.free (none_up nr2))
      simp [extL_at hg4 up_same]
      refine ⟨by have h1 := dens_ln (a.take j); have h2 := den_two x; have h3 := ha a haA; have h4 : (a.take j).length ≤ j := by simp; omega
                 rw [sizeLine_eq]; omega, ?_⟩
      refine wkL [some (altsD A), some (.ref f), some (altD a), some (.ref g), none, none] ⟨none, none, rfl, by rw [up_ne (Ne.symm gf)]; exact hf4, ?_, sb4.up gM⟩ (by simp [lessP, altsD, altD])
      rw [up_same, tk2]
      simp [dens]
    · rintro ρ M2 ⟨s4, s5, rfl, hf2, hg2, sb2⟩
      refine ⟨trivial, ?_⟩
      rw [List.take_length] at hg2
      simp [cTuple_at hg2, mAppend_at hf2, isLst_at hf2]
      refine ⟨szl' _ (by omega), ?_⟩
      refine wkL [some (altsD A), some (.ref f), none, none, none, none] ⟨none, none, none, none, rfl, ?_, sb2.up nf⟩ (by simp [lessP])
      rw [up_same, tk]
      simp [altsD]
  · rintro ρ M1 ⟨s2, s3, s4, s5, rfl, hf, sb⟩
    refine ⟨trivial, ?_⟩
    rw [List.take_length] at hf
    simp [cTuple_at hf]
    exact ⟨M, sb, q⟩
theorem ok_way_count : ∀ ds M Q, sp_way_count ds M Q → ds.length = 1 ∧ t_way_count (ends Q) (startD 3 ds) M := by
  rintro ds M Q ⟨A, rfl, hA, ha, q⟩
  refine ⟨rfl, ?_⟩
  simp [t_way_count]
  refine ⟨A, rfl, hA, ha, ?_⟩
  simp
  refine loop_map (fun i ρ M' => ∃ s2, ρ = [some (altsD A), some (.int (waysN (A.take i))), s2] ∧ M' = M) ⟨none, rfl, rfl⟩ ?_ ?_
  · rintro i a ρ M1 hi tk ⟨s2, rfl, rfl⟩
    refine ⟨trivial, ?_⟩
    have haA : a ∈ A := List.mem_of_getElem? hi
    simp [altsD]
    refine ⟨.inr (by have := dens_ln a; have := ha a haA; omega), ?_⟩
    refine wkL [some (altsD A), some (.int (waysN (A.take (i + 1)))), none] ⟨none, rfl, rfl⟩ ?_
    rw [tk]
    simp [lessP, altsD, waysN]
  · rintro ρ M1 ⟨s2, rfl, rfl⟩
    refine ⟨trivial, ?_⟩
    simp
    exact .of q

theorem judge_left (t : List Int) : ∀ (A : List (List Diff)) (k : Nat) (w : List (Nat × Bool)), (judge t A k w).isLeft = A.any fun a => (firstB t a 0).isNone
  | [], _, _ => rfl
  | a :: r, k, w => by
    rw [judge, List.any_cons]
    cases h : firstB t a 0 with
    | none => rfl
    | some f => rw [Option.isNone_some, Bool.false_or]; exact judge_left t r (k + 1) (w ++ [f])
theorem den_side (x : Diff) (t : List Int) : (x.den.any fun y => (y.side t).isNone) = !(x.side t).isNone := by
  obtain ⟨a, b, lo, hi⟩ := x
  cases lo <;> cases hi <;> simp [Diff.den, Diff.side]
  · rename_i h
    by_cases e : h < at_ t b - at_ t a
    · simp [e, show ¬ at_ t b - at_ t a < h + 1 by omega]
    · simp [e, show at_ t b - at_ t a < h + 1 by omega]
  · rename_i l
    by_cases e : at_ t b - at_ t a < l
    · simp [e, show ¬ l - 1 < at_ t b - at_ t a by omega]
    · simp [e, show l - 1 < at_ t b - at_ t a by omega]
  · rename_i l h
    by_cases e : at_ t b - at_ t a < l <;> by_cases e' : h < at_ t b - at_ t a
    · simp [e, e', show ¬ l - 1 < at_ t b - at_ t a by omega]
    · simp [e, e', show ¬ l - 1 < at_ t b - at_ t a by omega]
    · simp [e, e', show ¬ at_ t b - at_ t a < h + 1 by omega, show l - 1 < at_ t b - at_ t a by omega]
    · simp [e, e', show at_ t b - at_ t a < h + 1 by omega, show l - 1 < at_ t b - at_ t a by omega]
theorem firstB_all (t : List Int) : ∀ (a : List Diff) (k : Nat), (firstB t a k).isNone = a.all fun x => (x.side t).isNone
  | [], _ => rfl
  | x :: r, k => by
    rw [firstB, List.all_cons]
    cases h : x.side t with
    | none => rw [Option.isNone_none, Bool.true_and]; exact firstB_all t r (k + 1)
    | some s => rfl
theorem dens_judge (t : List Int) (a : List Diff) : (judge t (dens a) 0 []).isLeft = !(firstB t a 0).isNone := by
  rw [judge_left, firstB_all]
  induction a with
  | nil => rfl
  | cons x r ih =>
    have e : dens (x :: r) = (x.den.map fun y => [y]) ++ dens r := by simp [dens]
    rw [e, List.any_append, ih, List.all_cons, Bool.not_and, ← den_side, List.any_map]
    congr 1
    have : ((fun a => (firstB t a 0).isNone) ∘ fun y => [y]) = fun y : Diff => (y.side t).isNone := by
      funext y
      show (firstB t [y] 0).isNone = _
      rw [firstB_all]; simp
    rw [this]
theorem dens_rok {n : Nat} {A : List (List Diff)} (hn : n ≤ 1000) (hA : okA n 3 A) (hB : okAB A) : (D.tup (A.map fun a => altsD (dens a))).rok = true ∧ (D.tup (A.map fun a => altsD (dens a))).wt ≤ 8000 ∧ (D.tup (A.map fun a => altsD (dens a))).py.depth ≤ 60 := by
  obtain ⟨a1, a2, a3⟩ := hA
  have rI : ∀ i : Int, i.natAbs < 2 ^ 250 → D.rok (.int i) = true := fun i h => rok_int h
  have rD : ∀ a ∈ A, ∀ x ∈ a, ∀ y ∈ x.den, (y.d).rok = true := by
    intro a ha x hx y hy
    obtain ⟨h1, h2, h3, h4⟩ := (a3 a ha).2.2 x hx
    obtain ⟨b1, b2, _⟩ := hB a ha x hx
    obtain ⟨xa, xb, lo, hi⟩ := x
    dsimp only at h1 h2 h3 h4 b1 b2
    have ra := rI xa (by omega)
    have rb := rI xb (by omega)
    simp only [D.rok] at ra rb
    have hy' : (∃ l, lo = some l ∧ y = ⟨xa, xb, none, some (l - 1)⟩) ∨ ∃ h, hi = some h ∧ y = ⟨xa, xb, some (h + 1), none⟩ := by
      cases lo <;> cases hi <;> simp [Diff.den] at hy <;> simp [hy]
    rcases hy' with ⟨l, e, rfl⟩ | ⟨h, e, rfl⟩
    · have rl := rI (l - 1) (by have := b1 l e; omega)
      simp only [D.rok] at rl
      simp only [Diff.d, D.rok, D.roks, oi_n, oi_s, ra, rb, rl, Bool.and_self]
    · have rl := rI (h + 1) (by have := b2 h e; omega)
      simp only [D.rok] at rl
      simp only [Diff.d, D.rok, D.roks, oi_n, oi_s, ra, rb, rl, Bool.and_self]
  have wD : ∀ y : Diff, y.d.wt ≤ 5 := by rintro ⟨a, b, lo, hi⟩; cases lo <;> cases hi <;> simp [Diff.d, D.wt, D.wts]
  have dD : ∀ y : Diff, y.d.py.depth ≤ 1 := by rintro ⟨a, b, lo, hi⟩; cases lo <;> cases hi <;> simp [Diff.d, D.py, D.pys, PyData.depth, PyData.depthAll]
  refine ⟨?_, ?_, ?_⟩
  · refine roks_map fun a ha => roks_map fun z hz => roks_map fun y hy => ?_
    obtain ⟨y', hy', rfl⟩ := List.mem_map.mp hz
    obtain ⟨x, hx, hyx⟩ := List.mem_flatMap.mp hy'
    rw [List.mem_singleton.mp hy]
    exact rD a ha x hx y' hyx
  · have w3 : ∀ a ∈ A, (altsD (dens a)).wt ≤ 25 := by
      intro a ha
      have h1 : D.wts ((dens a).map altD) ≤ 6 * (dens a).length := wts_map fun z hz => by
        obtain ⟨y', hy', rfl⟩ := List.mem_map.mp hz
        have := wD y'
        show D.wts [y'.d] + 1 ≤ 6
        simp [D.wts]; exact this
      have h2 := dens_ln a
      have h3 := (a3 a ha).2.1
      show D.wts ((dens a).map altD) + 1 ≤ 25
      omega
    have h1 := wts_map w3
    show D.wts (A.map fun a => altsD (dens a)) + 1 ≤ 8000
    omega
  · refine Nat.le_trans (dep_tup (c := 3) (dep_map fun a ha => dep_tup (c := 2) (dep_map fun z hz => ?_))) (by decide)
    refine dep_tup (c := 1) (dep_map fun y _ => dD y)

theorem ok_law : ∀ ds M Q, spLaw 63 ds M Q → ds.length = 1 ∧ t_law (ends Q) (startD 15 ds) M := by
  rintro ds M Q ⟨ns, rfl, hn, k⟩
  refine ⟨rfl, ?_⟩
  have c60 : CPowD 10 60 ↔ True := by unfold CPowD; simp
  simp [t_law, sp_f_law_pen, pen_at, c60]
  intro p M0 hp
  refine ⟨[[⟨0, 1, some _, some _⟩]], rfl, by simp, by simp, ?_⟩
  simp
  refine rNe_same (by simp [dens, Diff.den, altsD, altD, Diff.d]) (by simp [dens, Diff.den, altsD, altD, Diff.d, D.plain, D.plains]) (by simp [dens, Diff.den, altsD, altD, Diff.d, D.py, D.pys, PyData.depth, PyData.depthAll]) ?_
  simp
  generalize (999999999999999999999999999999999999999999999999999999999999 : Int) = mo
  refine loop_range (fun i ρ M => ρ = [some (.lis (ns.map D.int)), some (.ref p), some (.int mo), none, none, none, none, none, none, none, none, none, none, none, none] ∧ Pen M p) ⟨rfl, hp⟩ ?_ ?_
  · rintro i ρ M1 hi ⟨rfl, hp⟩
    simp [sp_f_law_draw, draw_at hp]
    intro d M2 d0 d1 p1
    obtain ⟨n, hn⟩ : ∃ n : Nat, 2 + d = n := ⟨(2 + d).toNat, by omega⟩
    rw [hn]
    refine ⟨p, n, rfl, by omega, p1.pen, fun t M3 ht p2 => ?_⟩
    subst ht
    simp [tm]
    refine ⟨p, t.length, 3, rfl, by omega, by omega, by omega, by omega, p2.pen, fun A M4 hA hB p3 => ?_⟩
    obtain ⟨r1, r2, r3⟩ := dens_rok (n := t.length) (by omega) hA hB
    obtain ⟨a1, a2, a3⟩ := hA
    simp
    refine newD_of fun f nf => ?_
    simp [altsD]
    refine loop_map (fun i' ρ M' => ∃ s8 s9 s10 s11 s12 s13 s14, ρ = [some (.lis (ns.map D.int)), some (.ref p), some (.int mo), some (.int i), some (tm t), some (altsD A), some (.ref f), some (.int (waysN (A.take i'))), s8, s9, s10, s11, s12, s13, s14] ∧ M' f = some (.lst ((A.take i').map fun a => altsD (dens a))) ∧ PenTo M4 M' p)
      ⟨none, none, none, none, none, none, none, by simp [waysN, tm, altsD], up_same, PenTo.new p3.pen nf⟩ ?_ ?_
    · rintro i' a ρ M5 hi' tk ⟨s8, s9, s10, s11, s12, s13, s14, rfl, hf, q5⟩
      refine ⟨trivial, ?_⟩
      have il := (List.getElem?_eq_some_iff.mp hi').1
      have haA : a ∈ A := List.mem_of_getElem? hi'
      obtain ⟨l0, l2, lin⟩ := a3 a haA
      simp
      refine newD_of fun g ng => ?_
      have hf1 : up M5 g (.lst []) f = some (.lst ((A.take i').map fun a => altsD (dens a))) := by rw [up_ne (ne_free hf ng)]; exact hf
      have gM : M4 g = none := q5.free ng
      have gf : g ≠ f := fun e => by subst e; rw [hf] at ng; cases ng
      simp [altD]
      refine loop_map (fun j ρ M' => ∃ s11 s12 s13 s14, ρ = [some (.lis (ns.map D.int)), some (.ref p), some (.int mo), some (.int i), some (tm t), some (altsD A), some (.ref f), some (.int (waysN (A.take i'))), some (altD a), s9, some (.ref g), s11, s12, s13, s14] ∧ M' f = some (.lst ((A.take i').map fun a => altsD (dens a))) ∧ M' g = some (.lst ((dens (a.take j)).map altD)) ∧ PenTo M4 M' p)
        ⟨s11, s12, s13, s14, rfl, hf1, up_same, q5.up ng⟩ ?_ ?_
      · rintro j x ρ M6 hj tk2 ⟨s11, s12, s13, s14, rfl, hf2, hg2, q6⟩
        refine ⟨trivial, ?_⟩
        have jl := (List.getElem?_eq_some_iff.mp hj).1
        have hln : (dens (a.take j)).length ≤ 100 := by
          have h1 := dens_ln (a.take j)
          have h4 : (a.take j).length ≤ j := by simp; omega
          omega
        have hd : (dens (a.take (j + 1))) = dens (a.take j) ++ (x.den.map fun y => [y]) := by rw [tk2]; simp [dens]
        have fin : ∀ M', M' = M6 ∧ x.den = [] ∨ (∃ l, M' = up M6 g (.lst ((dens (a.take j)).map altD ++ l)) ∧ l = (x.den.map fun y => altD [y])) →
            (M' f = some (.lst ((A.take i').map fun a => altsD (dens a))) ∧ M' g = some (.lst ((dens (a.take (j + 1))).map altD)) ∧ PenTo M4 M' p) := by
          rintro M' (⟨rfl, e⟩ | ⟨l, rfl, rfl⟩)
          · rw [hd, e]; exact ⟨hf2, by simpa using hg2, q6⟩
          · refine ⟨by rw [up_ne (Ne.symm gf)]; exact hf2, ?_, q6.mod gM⟩
            rw [up_same, hd]
            simp
        obtain ⟨xa, xb, lo, hi2⟩ := x
        cases lo <;> cases hi2 <;> simp [Diff.d]
        · refine dCut_of ?_
          simp
          exact wkL [some (.lis (ns.map D.int)), some (.ref p), some (.int mo), some (.int i), some (tm t), some (altsD A), some (.ref f), some (.int (waysN (A.take i'))), some (altD a), s9, some (.ref g), none, none, none, none] ⟨none, none, none, none, rfl, fin _ (.inl ⟨rfl, rfl⟩)⟩ (by cases s9 <;> simp [lessP, altsD, altD, tm])
        · refine dCut_of ?_
          simp [isLst_at hg2, mAppend_at hg2]
          refine ⟨szl' _ (by omega), ?_⟩
          exact wkL [some (.lis (ns.map D.int)), some (.ref p), some (.int mo), some (.int i), some (tm t), some (altsD A), some (.ref f), some (.int (waysN (A.take i'))), some (altD a), s9, some (.ref g), none, none, none, none] ⟨none, none, none, none, rfl, fin _ (.inr ⟨_, rfl, rfl⟩)⟩ (by cases s9 <;> simp [lessP, altsD, altD, tm])
        · refine dCut_of ?_
          simp [isLst_at hg2, mAppend_at hg2]
          refine ⟨szl' _ (by omega), ?_⟩
          exact wkL [some (.lis (ns.map D.int)), some (.ref p), some (.int mo), some (.int i), some (tm t), some (altsD A), some (.ref f), some (.int (waysN (A.take i'))), some (altD a), s9, some (.ref g), none, none, none, none] ⟨none, none, none, none, rfl, fin _ (.inr ⟨_, rfl, rfl⟩)⟩ (by cases s9 <;> simp [lessP, altsD, altD, tm])
        · refine dCut_of ?_
          simp [isLst_at hg2, mAppend_at hg2]
          refine ⟨szl' _ (by omega), szl' _ (by omega), ?_⟩
          exact wkL [some (.lis (ns.map D.int)), some (.ref p), some (.int mo), some (.int i), some (tm t), some (altsD A), some (.ref f), some (.int (waysN (A.take i'))), some (altD a), s9, some (.ref g), none, none, none, none] ⟨none, none, none, none, rfl, fin _ (.inr ⟨_, rfl, rfl⟩)⟩ (by cases s9 <;> simp [lessP, altsD, altD, tm])
      · rintro ρ M6 ⟨s11, s12, s13, s14, rfl, hf2, hg2, q6⟩
        refine ⟨trivial, ?_⟩
        rw [List.take_length] at hg2
        have gf' : M6 g = some (.lst ((dens a).map altD)) := hg2
        have hdl := dens_ln a
        simp [cTuple_at hg2, mAppend_at hf2, isLst_at hf2]
        refine ⟨szl' _ (by omega), ?_⟩
        have hg3 : ∀ o, up M6 f o g = some (.lst ((dens a).map altD)) := fun o => by rw [up_ne gf]; exact hg2
        simp [cLenS_at (hg3 _)]
        refine ⟨.inr (by omega), ?_⟩
        refine wkL [some (.lis (ns.map D.int)), some (.ref p), some (.int mo), some (.int i), some (tm t), some (altsD A), some (.ref f), some (.int (waysN (A.take (i' + 1)))), none, none, none, none, none, none, none] ⟨none, none, none, none, none, none, none, rfl, ?_, q6.mod nf⟩ ?_
        · rw [up_same, tk]; simp [altsD]
        · rw [tk]; simp [lessP, altsD, tm, waysN]
    · rintro ρ M5 ⟨s8, s9, s10, s11, s12, s13, s14, rfl, hf, q5⟩
      refine ⟨trivial, ?_⟩
      rw [List.take_length] at hf
      simp
      refine ⟨A, rfl, by omega, fun a ha => by have := (a3 a ha).2.1; omega, ?_⟩
      simp
      refine cRepr_of r1 r2 r3 ?_
      simp [cTuple_at hf]
      refine cRepr_of r1 r2 r3 ?_
      simp
      refine ⟨A, rfl, by omega, fun a ha => by have := (a3 a ha).2.1; omega, ?_⟩
      simp [altsD, tm]
      rw [zipD_map2]
      refine loop_map (fun j ρ M' => ∃ s6 s7 s8 s9 s10 s11 s12 s13 s14, ρ = [some (.lis (ns.map D.int)), some (.ref p), some (.int mo), some (.int i), some (tm t), some (altsD A), s6, s7, s8, s9, s10, s11, s12, s13, s14] ∧ M' = M5) ⟨_, _, _, _, _, _, _, _, _, rfl, rfl⟩ ?_ ?_
      · rintro j a ρ M6 hj tk ⟨s6, s7, s8, s9, s10, s11, s12, s13, s14, rfl, rfl⟩
        have haA : a ∈ A := List.mem_of_getElem? hj
        obtain ⟨l0, l2, lin⟩ := a3 a haA
        have hdl := dens_ln a
        refine ⟨trivial, ?_⟩
        simp
        refine ⟨a, t, tm t, rfl, .inl rfl, by omega, lin, ?_⟩
        simp
        refine ⟨dens a, t, rfl, by omega, ?_, ?_⟩
        · intro z hz y hy
          obtain ⟨y', hy', rfl⟩ := List.mem_map.mp hz
          obtain ⟨x, hx, hyx⟩ := List.mem_flatMap.mp hy'
          rw [List.mem_singleton.mp hy]
          have := lin x hx
          obtain ⟨xa, xb, lo, hi2⟩ := x
          cases lo <;> cases hi2 <;> simp [Diff.den] at hyx
          · subst hyx; exact this
          · subst hyx; exact this
          · rcases hyx with rfl | rfl <;> exact this
        have hh := dens_judge t a
        have e1 : (("holds" : Str) == ("holds" : Str)) = true := by decide +kernel
        have e2 : (("fails" : Str) == ("holds" : Str)) = false := by decide +kernel
        cases hj2 : judge t (dens a) 0 [] with
        | inl v =>
          rw [hj2] at hh
          have hh' : (firstB t a 0).isNone = false := by simpa using hh
          simp [judgeD, e1, hh']
          exact wkL [some (.lis (ns.map D.int)), some (.ref p), some (.int mo), some (.int i), some (tm t), some (altsD A), none, none, none, none, none, none, none, none, none] ⟨none, none, none, none, none, none, none, none, none, rfl, rfl⟩ (by simp [lessP, altsD, tm])
        | inr v =>
          rw [hj2] at hh
          have hh' : (firstB t a 0).isNone = true := by simpa using hh
          simp [judgeD, e2, hh']
          exact wkL [some (.lis (ns.map D.int)), some (.ref p), some (.int mo), some (.int i), some (tm t), some (altsD A), none, none, none, none, none, none, none, none, none] ⟨none, none, none, none, none, none, none, none, none, rfl, rfl⟩ (by simp [lessP, altsD, tm])
      · rintro ρ M6 ⟨s6, s7, s8, s9, s10, s11, s12, s13, s14, rfl, rfl⟩
        refine ⟨trivial, ?_⟩
        exact wkL [some (.lis (ns.map D.int)), some (.ref p), some (.int mo), none, none, none, none, none, none, none, none, none, none, none, none] ⟨rfl, q5.pen⟩ (by simp [lessP])
  · rintro ρ M1 ⟨rfl, hp⟩
    simp
    exact .of (k _)


abbrev s_broken_side : Stmt := top 1
abbrev L_broken_side : Nat := 0 + 1
theorem sc_broken_side : FnScope ["difference", "timeline", "a", "b", "low", "high", "found"] ["difference", "timeline"] (defScope s_broken_side) := ⟨rfl, rfl, rfl, by decide +kernel, rfl, by decide +kernel, by decide +kernel⟩
theorem dr_broken_side {P : Program} {w : World} {K : PySem.W.Frag} {mg : Str → Option Value} {base : Heap} (f : Addr) (cdv : Value) (A : Around) (outer : List Env) (s : Shared) (H : Hp)
    (hr : Room 0 (A.deeper (envOfC "broken_side" (defScope s_broken_side) s.heap.objs.size f cdv))) (hgd : (A.deeper (envOfC "broken_side" (defScope s_broken_side) s.heap.objs.size f cdv)).guards = some []) :
    PSsd (Xf P w K mg base ["difference", "timeline", "a", "b", "low", "high", "found"] "broken_side" (defScope s_broken_side) f cdv A outer s H) (defBody s_broken_side) t_broken_side := by
  have nd := sc_broken_side.nd
  exact ds_cons (ds_asg (de_var 0) (dg_tp rfl (dgs_cons (dg_nm 2 nd) (dgs_cons (dg_nm 3 nd) (dgs_cons (dg_nm 4 nd) (dgs_cons (dg_nm 5 nd) (dgs_nil))))))) (ds_cons (ds_set (i := 6) nd (de_op od_sub (de_ix (xd_any (hu_of hr)) (de_var 1) (de_var 3)) (de_ix (xd_any (hu_of hr)) (de_var 1) (de_var 2)))) (ds_cons (ds_if (dt_bool (dw_and (dt_notN (de_var 4)) (dw_and1 (dt_cmp od_lt (de_var 6) (de_var 4))))) (ds_one (ds_ret (de_str))) (ds_nil)) (ds_cons (ds_if (dt_bool (dw_and (dt_notN (de_var 5)) (dw_and1 (dt_cmp od_gt (de_var 6) (de_var 5))))) (ds_one (ds_ret (de_str))) (ds_nil)) (ds_one (ds_ret (de_non))))))
theorem kn_broken_side {P : Program} {w : World} {K : PySem.W.Frag} {mg : Str → Option Value} {base : Heap} {f : Addr} {fd : FuncData} (F : Fun K "broken_side" "broken_side" s_broken_side f fd) (hm : mg "broken_side" = some (.ref f)) : Known P w K mg base L_broken_side "broken_side" sp_broken_side :=
  .of F hm (keeps_of F sc_broken_side (F.binds (ps := ["difference", "timeline"]) fun _ _ _ _ _ _ us hl => match us, hl with | [_, _], _ => rfl) (dr_broken_side f) ok_broken_side)
abbrev s_first_break : Stmt := top 2
abbrev L_first_break : Nat := L_broken_side + 1
theorem sc_first_break : FnScope ["alternative", "timeline", "place", "difference", "side"] ["alternative", "timeline"] (defScope s_first_break) := ⟨rfl, rfl, rfl, by decide +kernel, rfl, by decide +kernel, by decide +kernel⟩
theorem dr_first_break {P : Program} {w : World} {K : PySem.W.Frag} {mg : Str → Option Value} {base : Heap} (m_enumerate : mg "enumerate" = none) (k_broken_side : Known P w K mg base L_broken_side "broken_side" sp_broken_side) (f : Addr) (cdv : Value) (A : Around) (outer : List Env) (s : Shared) (H : Hp)
    (hr : Room L_broken_side (A.deeper (envOfC "first_break" (defScope s_first_break) s.heap.objs.size f cdv))) (hgd : (A.deeper (envOfC "first_break" (defScope s_first_break) s.heap.objs.size f cdv)).guards = some []) :
    PSsd (Xf P w K mg base ["alternative", "timeline", "place", "difference", "side"] "first_break" (defScope s_first_break) f cdv A outer s H) (defBody s_first_break) t_first_break := by
  have nd := sc_first_break.nd
  exact ds_cons (ds_for PassesOwn.never rfl (di_enum m_enumerate (da_cons (de_var 0) (da_nil))) (dg_tp rfl (dgs_cons (dg_nm 2 nd) (dgs_cons (dg_nm 3 nd) (dgs_nil)))) (ds_cons (ds_set (i := 4) nd (de_call k_broken_side (hr.mono (by decide)) hgd (da_cons (de_var 3) (da_cons (de_var 1) (da_nil))))) (ds_one (ds_if (dt_notN (de_var 4)) (ds_one (ds_ret (de_tup (da_cons (de_var 2) (da_cons (de_var 4) (da_nil)))))) (ds_nil))))) (ds_one (ds_ret (de_non)))
theorem kn_first_break {P : Program} {w : World} {K : PySem.W.Frag} {mg : Str → Option Value} {base : Heap} (m_enumerate : mg "enumerate" = none) (k_broken_side : Known P w K mg base L_broken_side "broken_side" sp_broken_side) {f : Addr} {fd : FuncData} (F : Fun K "first_break" "first_break" s_first_break f fd) (hm : mg "first_break" = some (.ref f)) : Known P w K mg base L_first_break "first_break" sp_first_break :=
  .of F hm (keeps_of F sc_first_break (F.binds (ps := ["alternative", "timeline"]) fun _ _ _ _ _ _ us hl => match us, hl with | [_, _], _ => rfl) (dr_first_break m_enumerate k_broken_side f) ok_first_break)
abbrev s_judge_alternatives : Stmt := top 3
abbrev L_judge_alternatives : Nat := L_first_break + 1
theorem sc_judge_alternatives : FnScope ["alternatives", "timeline", "way", "index", "alternative", "found"] ["alternatives", "timeline"] (defScope s_judge_alternatives) := ⟨rfl, rfl, rfl, by decide +kernel, rfl, by decide +kernel, by decide +kernel⟩
theorem dr_judge_alternatives {P : Program} {w : World} {K : PySem.W.Frag} {mg : Str → Option Value} {base : Heap} (m_enumerate : mg "enumerate" = none) (m_tuple : mg "tuple" = none) (k_first_break : Known P w K mg base L_first_break "first_break" sp_first_break) (f : Addr) (cdv : Value) (A : Around) (outer : List Env) (s : Shared) (H : Hp)
    (hr : Room L_first_break (A.deeper (envOfC "judge_alternatives" (defScope s_judge_alternatives) s.heap.objs.size f cdv))) (hgd : (A.deeper (envOfC "judge_alternatives" (defScope s_judge_alternatives) s.heap.objs.size f cdv)).guards = some []) :
    PSsd (Xf P w K mg base ["alternatives", "timeline", "way", "index", "alternative", "found"] "judge_alternatives" (defScope s_judge_alternatives) f cdv A outer s H) (defBody s_judge_alternatives) t_judge_alternatives := by
  have nd := sc_judge_alternatives.nd
  exact ds_cons (ds_set (i := 2) nd (de_lst (da_nil))) (ds_cons (ds_for PassesOwn.never rfl (di_enum m_enumerate (da_cons (de_var 0) (da_nil))) (dg_tp rfl (dgs_cons (dg_nm 3 nd) (dgs_cons (dg_nm 4 nd) (dgs_nil)))) (ds_cons (ds_set (i := 5) nd (de_call k_first_break (hr.mono (by decide)) hgd (da_cons (de_var 4) (da_cons (de_var 1) (da_nil))))) (ds_cons (ds_if (dt_isN (de_var 5)) (ds_one (ds_ret (de_tup (da_cons (de_str) (da_cons (de_var 3) (da_nil)))))) (ds_nil)) (ds_one (ds_expr (de_meth PySem.F.plainAttrs_list PySem.F.slot_list_append PySem.F.type_list_append md_append ty_lst (de_var 2) (da_cons (de_var 5) (da_nil)))))))) (ds_one (ds_ret (de_tup (da_cons (de_str) (da_cons (de_callTy cd_tuple m_tuple (da_cons (de_var 2) (da_nil))) (da_nil)))))))
theorem kn_judge_alternatives {P : Program} {w : World} {K : PySem.W.Frag} {mg : Str → Option Value} {base : Heap} (m_enumerate : mg "enumerate" = none) (m_tuple : mg "tuple" = none) (k_first_break : Known P w K mg base L_first_break "first_break" sp_first_break) {f : Addr} {fd : FuncData} (F : Fun K "judge_alternatives" "judge_alternatives" s_judge_alternatives f fd) (hm : mg "judge_alternatives" = some (.ref f)) : Known P w K mg base L_judge_alternatives "judge_alternatives" sp_judge_alternatives :=
  .of F hm (keeps_of F sc_judge_alternatives (F.binds (ps := ["alternatives", "timeline"]) fun _ _ _ _ _ _ us hl => match us, hl with | [_, _], _ => rfl) (dr_judge_alternatives m_enumerate m_tuple k_first_break f) ok_judge_alternatives)
abbrev s_denials_of : Stmt := top 4
abbrev L_denials_of : Nat := 0 + 1
theorem sc_denials_of : FnScope ["difference", "a", "b", "low", "high", "found"] ["difference"] (defScope s_denials_of) := ⟨rfl, rfl, rfl, by decide +kernel, rfl, by decide +kernel, by decide +kernel⟩
theorem dr_denials_of {P : Program} {w : World} {K : PySem.W.Frag} {mg : Str → Option Value} {base : Heap} (f : Addr) (cdv : Value) (A : Around) (outer : List Env) (s : Shared) (H : Hp)
    (hr : Room 0 (A.deeper (envOfC "denials_of" (defScope s_denials_of) s.heap.objs.size f cdv))) (hgd : (A.deeper (envOfC "denials_of" (defScope s_denials_of) s.heap.objs.size f cdv)).guards = some []) :
    PSsd (Xf P w K mg base ["difference", "a", "b", "low", "high", "found"] "denials_of" (defScope s_denials_of) f cdv A outer s H) (defBody s_denials_of) t_denials_of := by
  have nd := sc_denials_of.nd
  exact ds_cons (ds_asg (de_var 0) (dg_tp rfl (dgs_cons (dg_nm 1 nd) (dgs_cons (dg_nm 2 nd) (dgs_cons (dg_nm 3 nd) (dgs_cons (dg_nm 4 nd) (dgs_nil))))))) (ds_cons (ds_set (i := 5) nd (de_lst (da_nil))) (ds_cut (ds_if (dt_notN (de_var 3)) (ds_one (ds_expr (de_meth PySem.F.plainAttrs_list PySem.F.slot_list_append PySem.F.type_list_append md_append ty_lst (de_var 5) (da_cons (de_tup (da_cons (de_var 1) (da_cons (de_var 2) (da_cons (de_non) (da_cons (de_op od_sub (de_var 3) (de_int)) (da_nil)))))) (da_nil))))) (ds_nil)) (ds_cut (ds_if (dt_notN (de_var 4)) (ds_one (ds_expr (de_meth PySem.F.plainAttrs_list PySem.F.slot_list_append PySem.F.type_list_append md_append ty_lst (de_var 5) (da_cons (de_tup (da_cons (de_var 1) (da_cons (de_var 2) (da_cons (de_op od_plus (de_var 4) (de_int)) (da_cons (de_non) (da_nil)))))) (da_nil))))) (ds_nil)) (ds_one (ds_ret (de_var 5))))))
theorem kn_denials_of {P : Program} {w : World} {K : PySem.W.Frag} {mg : Str → Option Value} {base : Heap} {f : Addr} {fd : FuncData} (F : Fun K "denials_of" "denials_of" s_denials_of f fd) (hm : mg "denials_of" = some (.ref f)) : Known P w K mg base L_denials_of "denials_of" sp_denials_of :=
  .of F hm (keeps_of F sc_denials_of (F.binds (ps := ["difference"]) fun _ _ _ _ _ _ us hl => match us, hl with | [_], _ => rfl) (dr_denials_of f) ok_denials_of)
abbrev s_denials : Stmt := top 5
abbrev L_denials : Nat := L_denials_of + 1
theorem sc_denials : FnScope ["alternatives", "found", "alternative", "denied", "difference", "turned"] ["alternatives"] (defScope s_denials) := ⟨rfl, rfl, rfl, by decide +kernel, rfl, by decide +kernel, by decide +kernel⟩
theorem dr_denials {P : Program} {w : World} {K : PySem.W.Frag} {mg : Str → Option Value} {base : Heap} (m_tuple : mg "tuple" = none) (k_denials_of : Known P w K mg base L_denials_of "denials_of" sp_denials_of) (f : Addr) (cdv : Value) (A : Around) (outer : List Env) (s : Shared) (H : Hp)
    (hr : Room L_denials_of (A.deeper (envOfC "denials" (defScope s_denials) s.heap.objs.size f cdv))) (hgd : (A.deeper (envOfC "denials" (defScope s_denials) s.heap.objs.size f cdv)).guards = some []) :
    PSsd (Xf P w K mg base ["alternatives", "found", "alternative", "denied", "difference", "turned"] "denials" (defScope s_denials) f cdv A outer s H) (defBody s_denials) t_denials := by
  have nd := sc_denials.nd
  exact ds_cons (ds_set (i := 1) nd (de_lst (da_nil))) (ds_cons (ds_for PassesOwn.never rfl (di_seq (de_var 0)) (dg_nm 2 nd) (ds_cons (ds_set (i := 3) nd (de_lst (da_nil))) (ds_cons (ds_for PassesOwn.never rfl (di_seq (de_var 2)) (dg_nm 4 nd) (ds_one (ds_expr (de_meth PySem.F.plainAttrs_list PySem.F.slot_list_extend PySem.F.type_list_extend md_extend ty_lst (de_var 3) (da_cons (de_lc rfl nd (own := [("turned", 5)]) (di_seq (de_call k_denials_of (hr.mono (by decide)) hgd (da_cons (de_var 4) (da_nil)))) (blkC_by (N' := ["alternatives", "found", "alternative", "denied", "difference", "turned"]) (sc' := defScope s_denials) rfl rfl (by decide +kernel)) (fun _ _ _ _ _ => dg_nm 5 nd) (fun _ _ _ _ _ => dts_nil) (fun _ _ _ _ _ => de_tup (da_cons (de_var 5) (da_nil)))) (da_nil)))))) (ds_one (ds_expr (de_meth PySem.F.plainAttrs_list PySem.F.slot_list_append PySem.F.type_list_append md_append ty_lst (de_var 1) (da_cons (de_callTy cd_tuple m_tuple (da_cons (de_var 3) (da_nil))) (da_nil)))))))) (ds_one (ds_ret (de_callTy cd_tuple m_tuple (da_cons (de_var 1) (da_nil))))))
theorem kn_denials {P : Program} {w : World} {K : PySem.W.Frag} {mg : Str → Option Value} {base : Heap} (m_tuple : mg "tuple" = none) (k_denials_of : Known P w K mg base L_denials_of "denials_of" sp_denials_of) {f : Addr} {fd : FuncData} (F : Fun K "denials" "denials" s_denials f fd) (hm : mg "denials" = some (.ref f)) : Known P w K mg base L_denials "denials" sp_denials :=
  .of F hm (keeps_of F sc_denials (F.binds (ps := ["alternatives"]) fun _ _ _ _ _ _ us hl => match us, hl with | [_], _ => rfl) (dr_denials m_tuple k_denials_of f) ok_denials)
abbrev s_way_count : Stmt := top 6
abbrev L_way_count : Nat := L_denials + 1
theorem sc_way_count : FnScope ["alternatives", "count", "denied"] ["alternatives"] (defScope s_way_count) := ⟨rfl, rfl, rfl, by decide +kernel, rfl, by decide +kernel, by decide +kernel⟩
theorem dr_way_count {P : Program} {w : World} {K : PySem.W.Frag} {mg : Str → Option Value} {base : Heap} (m_len : mg "len" = none) (k_denials : Known P w K mg base L_denials "denials" sp_denials) (f : Addr) (cdv : Value) (A : Around) (outer : List Env) (s : Shared) (H : Hp)
    (hr : Room L_denials (A.deeper (envOfC "way_count" (defScope s_way_count) s.heap.objs.size f cdv))) (hgd : (A.deeper (envOfC "way_count" (defScope s_way_count) s.heap.objs.size f cdv)).guards = some []) :
    PSsd (Xf P w K mg base ["alternatives", "count", "denied"] "way_count" (defScope s_way_count) f cdv A outer s H) (defBody s_way_count) t_way_count := by
  have nd := sc_way_count.nd
  exact ds_cons (ds_set (i := 1) nd (de_int)) (ds_cons (ds_for PassesOwn.never rfl (di_seq (de_call k_denials (hr.mono (by decide)) hgd (da_cons (de_var 0) (da_nil)))) (dg_nm 2 nd) (ds_one (ds_aug (i := 1) nd pd_mul (de_callB (cd_len) m_len (da_cons (de_var 2) (da_nil)))))) (ds_one (ds_ret (de_var 1))))
theorem kn_way_count {P : Program} {w : World} {K : PySem.W.Frag} {mg : Str → Option Value} {base : Heap} (m_len : mg "len" = none) (k_denials : Known P w K mg base L_denials "denials" sp_denials) {f : Addr} {fd : FuncData} (F : Fun K "way_count" "way_count" s_way_count f fd) (hm : mg "way_count" = some (.ref f)) : Known P w K mg base L_way_count "way_count" sp_way_count :=
  .of F hm (keeps_of F sc_way_count (F.binds (ps := ["alternatives"]) fun _ _ _ _ _ _ us hl => match us, hl with | [_], _ => rfl) (dr_way_count m_len k_denials f) ok_way_count)
abbrev s_f_law_pen : Stmt := top 8
abbrev L_f_law_pen : Nat := 0 + 1
theorem sc_f_law_pen : FnScope ["_law_script"] ["_law_script"] (defScope s_f_law_pen) := ⟨rfl, rfl, rfl, by decide +kernel, rfl, by decide +kernel, by decide +kernel⟩
theorem dr_f_law_pen {P : Program} {w : World} {K : PySem.W.Frag} {mg : Str → Option Value} {base : Heap} (m_list : mg "list" = none) (f : Addr) (cdv : Value) (A : Around) (outer : List Env) (s : Shared) (H : Hp)
    (hr : Room 0 (A.deeper (envOfC "_law_pen" (defScope s_f_law_pen) s.heap.objs.size f cdv))) (hgd : (A.deeper (envOfC "_law_pen" (defScope s_f_law_pen) s.heap.objs.size f cdv)).guards = some []) :
    PSsd (Xf P w K mg base ["_law_script"] "_law_pen" (defScope s_f_law_pen) f cdv A outer s H) (defBody s_f_law_pen) t_f_law_pen := by
  have nd := sc_f_law_pen.nd
  exact ds_one (ds_ret (de_lst (da_cons (de_callTy cd_list m_list (da_cons (de_slice (de_var 0) do_none (do_some (de_int))) (da_nil))) (da_cons (de_int) (da_cons (de_int) (da_nil))))))
theorem kn_f_law_pen {P : Program} {w : World} {K : PySem.W.Frag} {mg : Str → Option Value} {base : Heap} (m_list : mg "list" = none) {f : Addr} {fd : FuncData} (F : Fun K "_law_pen" "_law_pen" s_f_law_pen f fd) (hm : mg "_law_pen" = some (.ref f)) : Known P w K mg base L_f_law_pen "_law_pen" sp_f_law_pen :=
  .of F hm (keeps_of F sc_f_law_pen (F.binds (ps := ["_law_script"]) fun _ _ _ _ _ _ us hl => match us, hl with | [_], _ => rfl) (dr_f_law_pen m_list f) ok_f_law_pen)
abbrev s_f_law_fresh : Stmt := top 9
abbrev L_f_law_fresh : Nat := 0 + 1
theorem sc_f_law_fresh : FnScope ["_law_pen_here", "_law_at", "_law_cell", "_law_p", "_law_state", "_law_found", "_law_turn"] ["_law_pen_here"] (defScope s_f_law_fresh) := ⟨rfl, rfl, rfl, by decide +kernel, rfl, by decide +kernel, by decide +kernel⟩
theorem dr_f_law_fresh {P : Program} {w : World} {K : PySem.W.Frag} {mg : Str → Option Value} {base : Heap} (m_len : mg "len" = none) (m_range : mg "range" = none) (f : Addr) (cdv : Value) (A : Around) (outer : List Env) (s : Shared) (H : Hp)
    (hr : Room 0 (A.deeper (envOfC "_law_fresh" (defScope s_f_law_fresh) s.heap.objs.size f cdv))) (hgd : (A.deeper (envOfC "_law_fresh" (defScope s_f_law_fresh) s.heap.objs.size f cdv)).guards = some []) :
    PSsd (Xf P w K mg base ["_law_pen_here", "_law_at", "_law_cell", "_law_p", "_law_state", "_law_found", "_law_turn"] "_law_fresh" (defScope s_f_law_fresh) f cdv A outer s H) (defBody s_f_law_fresh) t_f_law_fresh := by
  have nd := sc_f_law_fresh.nd
  exact ds_cons (ds_set (i := 1) nd (de_ix (xd_any (hu_of hr)) (de_var 0) (de_int))) (ds_cons (ds_setIx (de_op od_plus (de_var 1) (de_int)) (de_var 0) (de_int)) (ds_cons (ds_set (i := 2) nd (de_int)) (ds_cut (ds_if (dt_cmp (od_ne hr.units) (de_ix (xd_any (hu_of hr)) (de_var 0) (de_int)) (de_lst (da_nil))) (ds_one (ds_set (i := 2) nd (de_ix (xd_any (hu_of hr)) (de_ix (xd_any (hu_of hr)) (de_var 0) (de_int)) (de_op od_mod (de_var 1) (de_callB (cd_len) m_len (da_cons (de_ix (xd_any (hu_of hr)) (de_var 0) (de_int)) (da_nil))))))) (ds_nil)) (ds_cons (ds_if (dt_bool (dw_and (dt_cmp od_lt (de_var 1) (de_callB (cd_len) m_len (da_cons (de_ix (xd_any (hu_of hr)) (de_var 0) (de_int)) (da_nil)))) (dw_and1 (dt_cmp od_ge (de_var 2) (de_op od_pow (de_int) (de_int)))))) (ds_one (ds_ret (de_op od_sub (de_var 2) (de_op od_pow (de_int) (de_int))))) (ds_nil)) (ds_cons (ds_set (i := 3) nd (de_int)) (ds_cons (ds_set (i := 4) nd (de_op od_mod (de_op od_plus (de_op od_plus (de_op od_mul (de_var 2) (de_int)) (de_op od_mul (de_int) (de_var 1))) (de_int)) (de_var 3))) (ds_cons (ds_set (i := 5) nd (de_var 4)) (ds_cons (ds_for PassesOwn.never rfl (di_range1 m_range (da_cons (de_int) (da_nil))) (dg_nm 6 nd) (ds_cons (ds_set (i := 4) nd (de_op od_mod (de_op od_plus (de_op od_plus (de_op od_mul (de_var 4) (de_var 4)) (de_op od_mul (de_op od_mul (de_int) (de_op od_plus (de_var 6) (de_int))) (de_op od_plus (de_var 1) (de_int)))) (de_var 2)) (de_var 3))) (ds_one (ds_set (i := 5) nd (de_op od_plus (de_op od_mul (de_var 5) (de_var 3)) (de_var 4)))))) (ds_one (ds_ret (de_var 5)))))))))))
theorem kn_f_law_fresh {P : Program} {w : World} {K : PySem.W.Frag} {mg : Str → Option Value} {base : Heap} (m_len : mg "len" = none) (m_range : mg "range" = none) {f : Addr} {fd : FuncData} (F : Fun K "_law_fresh" "_law_fresh" s_f_law_fresh f fd) (hm : mg "_law_fresh" = some (.ref f)) : Known P w K mg base L_f_law_fresh "_law_fresh" sp_f_law_fresh :=
  .of F hm (keeps_of F sc_f_law_fresh (F.binds (ps := ["_law_pen_here"]) fun _ _ _ _ _ _ us hl => match us, hl with | [_], _ => rfl) (dr_f_law_fresh m_len m_range f) ok_f_law_fresh)
abbrev s_f_law_draw : Stmt := top 10
abbrev L_f_law_draw : Nat := L_f_law_fresh + 1
theorem sc_f_law_draw : FnScope ["_law_pen_here", "_law_many", "_law_digit"] ["_law_pen_here", "_law_many"] (defScope s_f_law_draw) := ⟨rfl, rfl, rfl, by decide +kernel, rfl, by decide +kernel, by decide +kernel⟩
theorem dr_f_law_draw {P : Program} {w : World} {K : PySem.W.Frag} {mg : Str → Option Value} {base : Heap} (k_f_law_fresh : Known P w K mg base L_f_law_fresh "_law_fresh" sp_f_law_fresh) (f : Addr) (cdv : Value) (A : Around) (outer : List Env) (s : Shared) (H : Hp)
    (hr : Room L_f_law_fresh (A.deeper (envOfC "_law_draw" (defScope s_f_law_draw) s.heap.objs.size f cdv))) (hgd : (A.deeper (envOfC "_law_draw" (defScope s_f_law_draw) s.heap.objs.size f cdv)).guards = some []) :
    PSsd (Xf P w K mg base ["_law_pen_here", "_law_many", "_law_digit"] "_law_draw" (defScope s_f_law_draw) f cdv A outer s H) (defBody s_f_law_draw) t_f_law_draw := by
  have nd := sc_f_law_draw.nd
  exact ds_cut (ds_if (dt_cmp od_lt (de_ix (xd_any (hu_of hr)) (de_var 0) (de_int)) (de_var 1)) (ds_one (ds_setIx (de_call k_f_law_fresh (hr.mono (by decide)) hgd (da_cons (de_var 0) (da_nil))) (de_var 0) (de_int))) (ds_nil)) (ds_cons (ds_set (i := 2) nd (de_op od_mod (de_ix (xd_any (hu_of hr)) (de_var 0) (de_int)) (de_var 1))) (ds_cons (ds_setIx (de_op od_div (de_ix (xd_any (hu_of hr)) (de_var 0) (de_int)) (de_var 1)) (de_var 0) (de_int)) (ds_one (ds_ret (de_var 2)))))
theorem kn_f_law_draw {P : Program} {w : World} {K : PySem.W.Frag} {mg : Str → Option Value} {base : Heap} (k_f_law_fresh : Known P w K mg base L_f_law_fresh "_law_fresh" sp_f_law_fresh) {f : Addr} {fd : FuncData} (F : Fun K "_law_draw" "_law_draw" s_f_law_draw f fd) (hm : mg "_law_draw" = some (.ref f)) : Known P w K mg base L_f_law_draw "_law_draw" sp_f_law_draw :=
  .of F hm (keeps_of F sc_f_law_draw (F.binds (ps := ["_law_pen_here", "_law_many"]) fun _ _ _ _ _ _ us hl => match us, hl with | [_, _], _ => rfl) (dr_f_law_draw k_f_law_fresh f) ok_f_law_draw)
abbrev s_f_law_bound : Stmt := top 11
abbrev L_f_law_bound : Nat := L_f_law_draw + 1
theorem sc_f_law_bound : FnScope ["_law_pen_here", "_law_option"] ["_law_pen_here"] (defScope s_f_law_bound) := ⟨rfl, rfl, rfl, by decide +kernel, rfl, by decide +kernel, by decide +kernel⟩
theorem dr_f_law_bound {P : Program} {w : World} {K : PySem.W.Frag} {mg : Str → Option Value} {base : Heap} (k_f_law_draw : Known P w K mg base L_f_law_draw "_law_draw" sp_f_law_draw) (f : Addr) (cdv : Value) (A : Around) (outer : List Env) (s : Shared) (H : Hp)
    (hr : Room L_f_law_draw (A.deeper (envOfC "_law_bound" (defScope s_f_law_bound) s.heap.objs.size f cdv))) (hgd : (A.deeper (envOfC "_law_bound" (defScope s_f_law_bound) s.heap.objs.size f cdv)).guards = some []) :
    PSsd (Xf P w K mg base ["_law_pen_here", "_law_option"] "_law_bound" (defScope s_f_law_bound) f cdv A outer s H) (defBody s_f_law_bound) t_f_law_bound := by
  have nd := sc_f_law_bound.nd
  exact ds_cons (ds_set (i := 1) nd (de_call k_f_law_draw (hr.mono (by decide)) hgd (da_cons (de_var 0) (da_cons (de_int) (da_nil))))) (ds_cons (ds_if (dt_cmp (od_eq hr.units) (de_var 1) (de_int)) (ds_one (ds_ret (de_non))) (ds_nil)) (ds_cons (ds_if (dt_cmp (od_eq hr.units) (de_var 1) (de_int)) (ds_one (ds_ret (de_op od_mul (de_op od_sub (de_call k_f_law_draw (hr.mono (by decide)) hgd (da_cons (de_var 0) (da_cons (de_int) (da_nil)))) (de_int)) (de_op od_plus (de_op od_pow (de_int) (de_int)) (de_call k_f_law_draw (hr.mono (by decide)) hgd (da_cons (de_var 0) (da_cons (de_op od_pow (de_int) (de_int)) (da_nil)))))))) (ds_nil)) (ds_cons (ds_if (dt_bool (dw_and (dt_cmp (od_eq hr.units) (de_var 1) (de_int)) (dw_and1 (dt_cmp (od_eq hr.units) (de_call k_f_law_draw (hr.mono (by decide)) hgd (da_cons (de_var 0) (da_cons (de_int) (da_nil)))) (de_int))))) (ds_one (ds_ret (de_op od_mul (de_op od_sub (de_call k_f_law_draw (hr.mono (by decide)) hgd (da_cons (de_var 0) (da_cons (de_int) (da_nil)))) (de_int)) (de_op od_sub (de_op od_sub (de_op od_pow (de_int) (de_int)) (de_int)) (de_call k_f_law_draw (hr.mono (by decide)) hgd (da_cons (de_var 0) (da_cons (de_int) (da_nil)))))))) (ds_nil)) (ds_one (ds_ret (de_op od_sub (de_call k_f_law_draw (hr.mono (by decide)) hgd (da_cons (de_var 0) (da_cons (de_int) (da_nil)))) (de_int)))))))
theorem kn_f_law_bound {P : Program} {w : World} {K : PySem.W.Frag} {mg : Str → Option Value} {base : Heap} (k_f_law_draw : Known P w K mg base L_f_law_draw "_law_draw" sp_f_law_draw) {f : Addr} {fd : FuncData} (F : Fun K "_law_bound" "_law_bound" s_f_law_bound f fd) (hm : mg "_law_bound" = some (.ref f)) : Known P w K mg base L_f_law_bound "_law_bound" sp_f_law_bound :=
  .of F hm (keeps_of F sc_f_law_bound (F.binds (ps := ["_law_pen_here"]) fun _ _ _ _ _ _ us hl => match us, hl with | [_], _ => rfl) (dr_f_law_bound k_f_law_draw f) ok_f_law_bound)
abbrev s_f_law_difference : Stmt := top 12
abbrev L_f_law_difference : Nat := (Nat.max L_f_law_draw L_f_law_bound) + 1
theorem sc_f_law_difference : FnScope ["_law_pen_here", "_law_points", "_law_a", "_law_b", "_law_low", "_law_high"] ["_law_pen_here", "_law_points"] (defScope s_f_law_difference) := ⟨rfl, rfl, rfl, by decide +kernel, rfl, by decide +kernel, by decide +kernel⟩
theorem dr_f_law_difference {P : Program} {w : World} {K : PySem.W.Frag} {mg : Str → Option Value} {base : Heap} (k_f_law_draw : Known P w K mg base L_f_law_draw "_law_draw" sp_f_law_draw) (k_f_law_bound : Known P w K mg base L_f_law_bound "_law_bound" sp_f_law_bound) (f : Addr) (cdv : Value) (A : Around) (outer : List Env) (s : Shared) (H : Hp)
    (hr : Room (Nat.max L_f_law_draw L_f_law_bound) (A.deeper (envOfC "_law_difference" (defScope s_f_law_difference) s.heap.objs.size f cdv))) (hgd : (A.deeper (envOfC "_law_difference" (defScope s_f_law_difference) s.heap.objs.size f cdv)).guards = some []) :
    PSsd (Xf P w K mg base ["_law_pen_here", "_law_points", "_law_a", "_law_b", "_law_low", "_law_high"] "_law_difference" (defScope s_f_law_difference) f cdv A outer s H) (defBody s_f_law_difference) t_f_law_difference := by
  have nd := sc_f_law_difference.nd
  exact ds_cons (ds_set (i := 2) nd (de_call k_f_law_draw (hr.mono (by decide)) hgd (da_cons (de_var 0) (da_cons (de_var 1) (da_nil))))) (ds_cons (ds_set (i := 3) nd (de_op od_mod (de_op od_plus (de_op od_plus (de_var 2) (de_int)) (de_call k_f_law_draw (hr.mono (by decide)) hgd (da_cons (de_var 0) (da_cons (de_op od_sub (de_var 1) (de_int)) (da_nil))))) (de_var 1))) (ds_cons (ds_par (i := 4) (j := 5) rfl nd (da_cons (de_call k_f_law_bound (hr.mono (by decide)) hgd (da_cons (de_var 0) (da_nil))) (da_cons (de_call k_f_law_bound (hr.mono (by decide)) hgd (da_cons (de_var 0) (da_nil))) (da_nil)))) (ds_cut (ds_if (dt_bool (dw_and (dt_isN (de_var 4)) (dw_and1 (dt_isN (de_var 5))))) (ds_one (ds_set (i := 4) nd (de_op od_sub (de_call k_f_law_draw (hr.mono (by decide)) hgd (da_cons (de_var 0) (da_cons (de_int) (da_nil)))) (de_int)))) (ds_nil)) (ds_cut (ds_if (dt_bool (dw_and (dt_notN (de_var 4)) (dw_and (dt_notN (de_var 5)) (dw_and (dt_cmp od_gt (de_var 4) (de_var 5)) (dw_and1 (dt_cmp od_gt (de_call k_f_law_draw (hr.mono (by decide)) hgd (da_cons (de_var 0) (da_cons (de_int) (da_nil)))) (de_int))))))) (ds_one (ds_par (i := 4) (j := 5) rfl nd (da_cons (de_var 5) (da_cons (de_var 4) (da_nil))))) (ds_nil)) (ds_one (ds_ret (de_tup (da_cons (de_var 2) (da_cons (de_var 3) (da_cons (de_var 4) (da_cons (de_var 5) (da_nil))))))))))))
theorem kn_f_law_difference {P : Program} {w : World} {K : PySem.W.Frag} {mg : Str → Option Value} {base : Heap} (k_f_law_draw : Known P w K mg base L_f_law_draw "_law_draw" sp_f_law_draw) (k_f_law_bound : Known P w K mg base L_f_law_bound "_law_bound" sp_f_law_bound) {f : Addr} {fd : FuncData} (F : Fun K "_law_difference" "_law_difference" s_f_law_difference f fd) (hm : mg "_law_difference" = some (.ref f)) : Known P w K mg base L_f_law_difference "_law_difference" sp_f_law_difference :=
  .of F hm (keeps_of F sc_f_law_difference (F.binds (ps := ["_law_pen_here", "_law_points"]) fun _ _ _ _ _ _ us hl => match us, hl with | [_, _], _ => rfl) (dr_f_law_difference k_f_law_draw k_f_law_bound f) ok_f_law_difference)
abbrev s_f_law_alternatives : Stmt := top 13
abbrev L_f_law_alternatives : Nat := (Nat.max L_f_law_draw L_f_law_difference) + 1
theorem sc_f_law_alternatives : FnScope ["_law_pen_here", "_law_points", "_law_most", "_law_many", "_law_found", "_law_k", "_law_j"] ["_law_pen_here", "_law_points", "_law_most"] (defScope s_f_law_alternatives) := ⟨rfl, rfl, rfl, by decide +kernel, rfl, by decide +kernel, by decide +kernel⟩
theorem dr_f_law_alternatives {P : Program} {w : World} {K : PySem.W.Frag} {mg : Str → Option Value} {base : Heap} (m_int : mg "int" = none) (m_range : mg "range" = none) (m_tuple : mg "tuple" = none) (k_f_law_draw : Known P w K mg base L_f_law_draw "_law_draw" sp_f_law_draw) (k_f_law_difference : Known P w K mg base L_f_law_difference "_law_difference" sp_f_law_difference) (f : Addr) (cdv : Value) (A : Around) (outer : List Env) (s : Shared) (H : Hp)
    (hr : Room (Nat.max L_f_law_draw L_f_law_difference) (A.deeper (envOfC "_law_alternatives" (defScope s_f_law_alternatives) s.heap.objs.size f cdv))) (hgd : (A.deeper (envOfC "_law_alternatives" (defScope s_f_law_alternatives) s.heap.objs.size f cdv)).guards = some []) :
    PSsd (Xf P w K mg base ["_law_pen_here", "_law_points", "_law_most", "_law_many", "_law_found", "_law_k", "_law_j"] "_law_alternatives" (defScope s_f_law_alternatives) f cdv A outer s H) (defBody s_f_law_alternatives) t_f_law_alternatives := by
  have nd := sc_f_law_alternatives.nd
  exact ds_cons (ds_set (i := 3) nd (de_int)) (ds_cut (ds_if (dt_cmp (od_eq hr.units) (de_call k_f_law_draw (hr.mono (by decide)) hgd (da_cons (de_var 0) (da_cons (de_int) (da_nil)))) (de_int)) (ds_one (ds_set (i := 3) nd (de_op od_plus (de_int) (de_call k_f_law_draw (hr.mono (by decide)) hgd (da_cons (de_var 0) (da_cons (de_var 2) (da_nil))))))) (ds_nil)) (ds_cons (ds_set (i := 4) nd (de_lst (da_nil))) (ds_cons (ds_for PassesOwn.never rfl (di_range1 m_range (da_cons (de_var 3) (da_nil))) (dg_nm 5 nd) (ds_one (ds_expr (de_meth PySem.F.plainAttrs_list PySem.F.slot_list_append PySem.F.type_list_append md_append ty_lst (de_var 4) (da_cons (de_callTy cd_tuple m_tuple (da_cons (de_lc rfl nd (own := [("_law_j", 6)]) (di_range1 m_range (da_cons (de_op od_plus (de_int) (de_callTy cd_int m_int (da_cons (de_cmp (od_eq hr.units) (de_call k_f_law_draw (hr.mono (by decide)) hgd (da_cons (de_var 0) (da_cons (de_int) (da_nil)))) (de_int)) (da_nil)))) (da_nil))) (blkC_by (N' := ["_law_pen_here", "_law_points", "_law_most", "_law_many", "_law_found", "_law_k", "_law_j"]) (sc' := defScope s_f_law_alternatives) rfl rfl (by decide +kernel)) (fun _ _ _ _ _ => dg_nm 6 nd) (fun _ _ _ _ _ => dts_nil) (fun _ _ _ _ _ => de_call k_f_law_difference (hr.mono (by decide)) hgd (da_cons (de_var 0) (da_cons (de_var 1) (da_nil))))) (da_nil))) (da_nil)))))) (ds_one (ds_ret (de_callTy cd_tuple m_tuple (da_cons (de_var 4) (da_nil))))))))
theorem kn_f_law_alternatives {P : Program} {w : World} {K : PySem.W.Frag} {mg : Str → Option Value} {base : Heap} (m_int : mg "int" = none) (m_range : mg "range" = none) (m_tuple : mg "tuple" = none) (k_f_law_draw : Known P w K mg base L_f_law_draw "_law_draw" sp_f_law_draw) (k_f_law_difference : Known P w K mg base L_f_law_difference "_law_difference" sp_f_law_difference) {f : Addr} {fd : FuncData} (F : Fun K "_law_alternatives" "_law_alternatives" s_f_law_alternatives f fd) (hm : mg "_law_alternatives" = some (.ref f)) : Known P w K mg base L_f_law_alternatives "_law_alternatives" sp_f_law_alternatives :=
  .of F hm (keeps_of F sc_f_law_alternatives (F.binds (ps := ["_law_pen_here", "_law_points", "_law_most"]) fun _ _ _ _ _ _ us hl => match us, hl with | [_, _, _], _ => rfl) (dr_f_law_alternatives m_int m_range m_tuple k_f_law_draw k_f_law_difference f) ok_f_law_alternatives)
abbrev s_f_law_times : Stmt := top 14
abbrev L_f_law_times : Nat := L_f_law_draw + 1
theorem sc_f_law_times : FnScope ["_law_pen_here", "_law_points", "_law_size", "_law_point"] ["_law_pen_here", "_law_points"] (defScope s_f_law_times) := ⟨rfl, rfl, rfl, by decide +kernel, rfl, by decide +kernel, by decide +kernel⟩
theorem dr_f_law_times {P : Program} {w : World} {K : PySem.W.Frag} {mg : Str → Option Value} {base : Heap} (m_range : mg "range" = none) (m_tuple : mg "tuple" = none) (k_f_law_draw : Known P w K mg base L_f_law_draw "_law_draw" sp_f_law_draw) (f : Addr) (cdv : Value) (A : Around) (outer : List Env) (s : Shared) (H : Hp)
    (hr : Room L_f_law_draw (A.deeper (envOfC "_law_times" (defScope s_f_law_times) s.heap.objs.size f cdv))) (hgd : (A.deeper (envOfC "_law_times" (defScope s_f_law_times) s.heap.objs.size f cdv)).guards = some []) :
    PSsd (Xf P w K mg base ["_law_pen_here", "_law_points", "_law_size", "_law_point"] "_law_times" (defScope s_f_law_times) f cdv A outer s H) (defBody s_f_law_times) t_f_law_times := by
  have nd := sc_f_law_times.nd
  exact ds_cons (ds_set (i := 2) nd (de_ix (xd_any (hu_of hr)) (de_lst (da_cons (de_int) (da_cons (de_int) (da_cons (de_int) (da_cons (de_op od_pow (de_int) (de_int)) (da_nil)))))) (de_call k_f_law_draw (hr.mono (by decide)) hgd (da_cons (de_var 0) (da_cons (de_int) (da_nil)))))) (ds_one (ds_ret (de_callTy cd_tuple m_tuple (da_cons (de_lc rfl nd (own := [("_law_point", 3)]) (di_range1 m_range (da_cons (de_var 1) (da_nil))) (blkC_by (N' := ["_law_pen_here", "_law_points", "_law_size", "_law_point"]) (sc' := defScope s_f_law_times) rfl rfl (by decide +kernel)) (fun _ _ _ _ _ => dg_nm 3 nd) (fun _ _ _ _ _ => dts_nil) (fun _ _ _ _ _ => de_op od_sub (de_call k_f_law_draw (hr.mono (by decide)) hgd (da_cons (de_var 0) (da_cons (de_op od_plus (de_op od_mul (de_int) (de_var 2)) (de_int)) (da_nil)))) (de_var 2))) (da_nil)))))
theorem kn_f_law_times {P : Program} {w : World} {K : PySem.W.Frag} {mg : Str → Option Value} {base : Heap} (m_range : mg "range" = none) (m_tuple : mg "tuple" = none) (k_f_law_draw : Known P w K mg base L_f_law_draw "_law_draw" sp_f_law_draw) {f : Addr} {fd : FuncData} (F : Fun K "_law_times" "_law_times" s_f_law_times f fd) (hm : mg "_law_times" = some (.ref f)) : Known P w K mg base L_f_law_times "_law_times" sp_f_law_times :=
  .of F hm (keeps_of F sc_f_law_times (F.binds (ps := ["_law_pen_here", "_law_points"]) fun _ _ _ _ _ _ us hl => match us, hl with | [_, _], _ => rfl) (dr_f_law_times m_range m_tuple k_f_law_draw f) ok_f_law_times)
abbrev s_f_law_side : Stmt := top 15
abbrev L_f_law_side : Nat := 0 + 1
theorem sc_f_law_side : FnScope ["_law_difference_here", "_law_times_here", "_law_a", "_law_b", "_law_low", "_law_high", "_law_apart"] ["_law_difference_here", "_law_times_here"] (defScope s_f_law_side) := ⟨rfl, rfl, rfl, by decide +kernel, rfl, by decide +kernel, by decide +kernel⟩
theorem dr_f_law_side {P : Program} {w : World} {K : PySem.W.Frag} {mg : Str → Option Value} {base : Heap} (f : Addr) (cdv : Value) (A : Around) (outer : List Env) (s : Shared) (H : Hp)
    (hr : Room 0 (A.deeper (envOfC "_law_side" (defScope s_f_law_side) s.heap.objs.size f cdv))) (hgd : (A.deeper (envOfC "_law_side" (defScope s_f_law_side) s.heap.objs.size f cdv)).guards = some []) :
    PSsd (Xf P w K mg base ["_law_difference_here", "_law_times_here", "_law_a", "_law_b", "_law_low", "_law_high", "_law_apart"] "_law_side" (defScope s_f_law_side) f cdv A outer s H) (defBody s_f_law_side) t_f_law_side := by
  have nd := sc_f_law_side.nd
  exact ds_cons (ds_asg (de_var 0) (dg_tp rfl (dgs_cons (dg_nm 2 nd) (dgs_cons (dg_nm 3 nd) (dgs_cons (dg_nm 4 nd) (dgs_cons (dg_nm 5 nd) (dgs_nil))))))) (ds_cons (ds_set (i := 6) nd (de_op od_sub (de_ix (xd_any (hu_of hr)) (de_var 1) (de_var 3)) (de_ix (xd_any (hu_of hr)) (de_var 1) (de_var 2)))) (ds_cons (ds_if (dt_bool (dw_and (dt_notN (de_var 4)) (dw_and1 (dt_cmp od_lt (de_var 6) (de_var 4))))) (ds_one (ds_ret (de_str))) (ds_nil)) (ds_one (ds_ret (de_ifExp (dt_bool (dw_and (dt_notN (de_var 5)) (dw_and1 (dt_cmp od_gt (de_var 6) (de_var 5))))) (de_str) (de_non))))))
theorem kn_f_law_side {P : Program} {w : World} {K : PySem.W.Frag} {mg : Str → Option Value} {base : Heap} {f : Addr} {fd : FuncData} (F : Fun K "_law_side" "_law_side" s_f_law_side f fd) (hm : mg "_law_side" = some (.ref f)) : Known P w K mg base L_f_law_side "_law_side" sp_f_law_side :=
  .of F hm (keeps_of F sc_f_law_side (F.binds (ps := ["_law_difference_here", "_law_times_here"]) fun _ _ _ _ _ _ us hl => match us, hl with | [_, _], _ => rfl) (dr_f_law_side f) ok_f_law_side)
abbrev s_f_law_alternative_holds : Stmt := top 16
abbrev L_f_law_alternative_holds : Nat := L_f_law_side + 1
theorem sc_f_law_alternative_holds : FnScope ["_law_alternative", "_law_times_here", "_law_difference_here"] ["_law_alternative", "_law_times_here"] (defScope s_f_law_alternative_holds) := ⟨rfl, rfl, rfl, by decide +kernel, rfl, by decide +kernel, by decide +kernel⟩
theorem dr_f_law_alternative_holds {P : Program} {w : World} {K : PySem.W.Frag} {mg : Str → Option Value} {base : Heap} (k_f_law_side : Known P w K mg base L_f_law_side "_law_side" sp_f_law_side) (f : Addr) (cdv : Value) (A : Around) (outer : List Env) (s : Shared) (H : Hp)
    (hr : Room L_f_law_side (A.deeper (envOfC "_law_alternative_holds" (defScope s_f_law_alternative_holds) s.heap.objs.size f cdv))) (hgd : (A.deeper (envOfC "_law_alternative_holds" (defScope s_f_law_alternative_holds) s.heap.objs.size f cdv)).guards = some []) :
    PSsd (Xf P w K mg base ["_law_alternative", "_law_times_here", "_law_difference_here"] "_law_alternative_holds" (defScope s_f_law_alternative_holds) f cdv A outer s H) (defBody s_f_law_alternative_holds) t_f_law_alternative_holds := by
  have nd := sc_f_law_alternative_holds.nd
  exact ds_one (ds_ret (de_cmp (od_eq hr.units) (de_lc rfl nd (own := [("_law_difference_here", 2)]) (di_seq (de_var 0)) (blkC_by (N' := ["_law_alternative", "_law_times_here", "_law_difference_here"]) (sc' := defScope s_f_law_alternative_holds) rfl rfl (by decide +kernel)) (fun _ _ _ _ _ => dg_nm 2 nd) (fun _ _ _ _ _ => dts_one (dt_notN (de_call k_f_law_side (hr.mono (by decide)) hgd (da_cons (de_var 2) (da_cons (de_var 1) (da_nil)))))) (fun _ _ _ _ _ => de_int)) (de_lst (da_nil))))
theorem kn_f_law_alternative_holds {P : Program} {w : World} {K : PySem.W.Frag} {mg : Str → Option Value} {base : Heap} (k_f_law_side : Known P w K mg base L_f_law_side "_law_side" sp_f_law_side) {f : Addr} {fd : FuncData} (F : Fun K "_law_alternative_holds" "_law_alternative_holds" s_f_law_alternative_holds f fd) (hm : mg "_law_alternative_holds" = some (.ref f)) : Known P w K mg base L_f_law_alternative_holds "_law_alternative_holds" sp_f_law_alternative_holds :=
  .of F hm (keeps_of F sc_f_law_alternative_holds (F.binds (ps := ["_law_alternative", "_law_times_here"]) fun _ _ _ _ _ _ us hl => match us, hl with | [_, _], _ => rfl) (dr_f_law_alternative_holds k_f_law_side f) ok_f_law_alternative_holds)
abbrev s_law : Stmt := top 17
abbrev L_law : Nat := (Nat.max (Nat.max (Nat.max (Nat.max (Nat.max (Nat.max (Nat.max L_f_law_pen L_denials) L_f_law_draw) L_f_law_times) L_f_law_alternatives) L_way_count) L_f_law_alternative_holds) L_judge_alternatives) + 1
theorem sc_law : FnScope ["_law_script", "_law_pen_here", "_law_most", "_law_turn", "_law_times_here", "_law_alternatives_here", "_law_due", "_law_count", "_law_alternative", "_law_found", "_law_denied", "_law_a", "_law_b", "_law_low", "_law_high"] ["_law_script"] (defScope s_law) := ⟨rfl, rfl, rfl, by decide +kernel, rfl, by decide +kernel, by decide +kernel⟩
theorem dr_law {P : Program} {w : World} {K : PySem.W.Frag} {mg : Str → Option Value} {base : Heap} (m_len : mg "len" = none) (m_range : mg "range" = none) (m_repr : mg "repr" = none) (m_tuple : mg "tuple" = none) (m_zip : mg "zip" = none) (k_f_law_pen : Known P w K mg base L_f_law_pen "_law_pen" sp_f_law_pen) (k_denials : Known P w K mg base L_denials "denials" sp_denials) (k_f_law_draw : Known P w K mg base L_f_law_draw "_law_draw" sp_f_law_draw) (k_f_law_times : Known P w K mg base L_f_law_times "_law_times" sp_f_law_times) (k_f_law_alternatives : Known P w K mg base L_f_law_alternatives "_law_alternatives" sp_f_law_alternatives) (k_way_count : Known P w K mg base L_way_count "way_count" sp_way_count) (k_f_law_alternative_holds : Known P w K mg base L_f_law_alternative_holds "_law_alternative_holds" sp_f_law_alternative_holds) (k_judge_alternatives : Known P w K mg base L_judge_alternatives "judge_alternatives" sp_judge_alternatives) (f : Addr) (cdv : Value) (A : Around) (outer : List Env) (s : Shared) (H : Hp)
    (hr : Room (Nat.max (Nat.max (Nat.max (Nat.max (Nat.max (Nat.max (Nat.max L_f_law_pen L_denials) L_f_law_draw) L_f_law_times) L_f_law_alternatives) L_way_count) L_f_law_alternative_holds) L_judge_alternatives) (A.deeper (envOfC "law" (defScope s_law) s.heap.objs.size f cdv))) (hgd : (A.deeper (envOfC "law" (defScope s_law) s.heap.objs.size f cdv)).guards = some []) :
    PSsd (Xf P w K mg base ["_law_script", "_law_pen_here", "_law_most", "_law_turn", "_law_times_here", "_law_alternatives_here", "_law_due", "_law_count", "_law_alternative", "_law_found", "_law_denied", "_law_a", "_law_b", "_law_low", "_law_high"] "law" (defScope s_law) f cdv A outer s H) (defBody s_law) t_law := by
  have nd := sc_law.nd
  exact ds_cons (ds_set (i := 1) nd (de_call k_f_law_pen (hr.mono (by decide)) hgd (da_cons (de_var 0) (da_nil)))) (ds_cons (ds_set (i := 2) nd (de_op od_sub (de_op od_pow (de_int) (de_int)) (de_int))) (ds_cons (ds_if (dt_cmp (od_ne hr.units) (de_call k_denials (hr.mono (by decide)) hgd (da_cons (de_tup (da_cons (de_tup (da_cons (de_tup (da_cons (de_int) (da_cons (de_int) (da_cons (de_un ud_neg (de_var 2)) (da_cons (de_var 2) (da_nil)))))) (da_nil))) (da_nil))) (da_nil))) (de_tup (da_cons (de_tup (da_cons (de_tup (da_cons (de_tup (da_cons (de_int) (da_cons (de_int) (da_cons (de_non) (da_cons (de_op od_sub (de_un ud_neg (de_var 2)) (de_int)) (da_nil)))))) (da_nil))) (da_cons (de_tup (da_cons (de_tup (da_cons (de_int) (da_cons (de_int) (da_cons (de_op od_plus (de_var 2) (de_int)) (da_cons (de_non) (da_nil)))))) (da_nil))) (da_nil)))) (da_nil)))) (ds_one (ds_ret (de_bl))) (ds_nil)) (ds_cons (ds_for PassesOwn.never rfl (di_range1 m_range (da_cons (de_int) (da_nil))) (dg_nm 3 nd) (ds_cons (ds_set (i := 4) nd (de_call k_f_law_times (hr.mono (by decide)) hgd (da_cons (de_var 1) (da_cons (de_op od_plus (de_int) (de_call k_f_law_draw (hr.mono (by decide)) hgd (da_cons (de_var 1) (da_cons (de_int) (da_nil))))) (da_nil))))) (ds_cons (ds_set (i := 5) nd (de_call k_f_law_alternatives (hr.mono (by decide)) hgd (da_cons (de_var 1) (da_cons (de_callB (cd_len) m_len (da_cons (de_var 4) (da_nil))) (da_cons (de_int) (da_nil)))))) (ds_cons (ds_par (i := 6) (j := 7) rfl nd (da_cons (de_lst (da_nil)) (da_cons (de_int) (da_nil)))) (ds_cons (ds_for PassesOwn.never rfl (di_seq (de_var 5)) (dg_nm 8 nd) (ds_cons (ds_set (i := 10) nd (de_lst (da_nil))) (ds_cons (ds_for PassesOwn.never rfl (di_seq (de_var 8)) (dg_tp rfl (dgs_cons (dg_nm 11 nd) (dgs_cons (dg_nm 12 nd) (dgs_cons (dg_nm 13 nd) (dgs_cons (dg_nm 14 nd) (dgs_nil)))))) (ds_cut (ds_if (dt_notN (de_var 13)) (ds_one (ds_expr (de_meth PySem.F.plainAttrs_list PySem.F.slot_list_append PySem.F.type_list_append md_append ty_lst (de_var 10) (da_cons (de_tup (da_cons (de_tup (da_cons (de_var 11) (da_cons (de_var 12) (da_cons (de_non) (da_cons (de_op od_sub (de_var 13) (de_int)) (da_nil)))))) (da_nil))) (da_nil))))) (ds_nil)) (ds_one (ds_if (dt_notN (de_var 14)) (ds_one (ds_expr (de_meth PySem.F.plainAttrs_list PySem.F.slot_list_append PySem.F.type_list_append md_append ty_lst (de_var 10) (da_cons (de_tup (da_cons (de_tup (da_cons (de_var 11) (da_cons (de_var 12) (da_cons (de_op od_plus (de_var 14) (de_int)) (da_cons (de_non) (da_nil)))))) (da_nil))) (da_nil))))) (ds_nil))))) (ds_cons (ds_expr (de_meth PySem.F.plainAttrs_list PySem.F.slot_list_append PySem.F.type_list_append md_append ty_lst (de_var 6) (da_cons (de_callTy cd_tuple m_tuple (da_cons (de_var 10) (da_nil))) (da_nil)))) (ds_one (ds_set (i := 7) nd (de_op od_mul (de_var 7) (de_callB (cd_len) m_len (da_cons (de_var 10) (da_nil)))))))))) (ds_cons (ds_set (i := 9) nd (de_call k_denials (hr.mono (by decide)) hgd (da_cons (de_var 5) (da_nil)))) (ds_cons (ds_if (dt_bool (dw_or (dt_cmp (od_ne hr.units) (de_callB (cd_repr hgd hr.units) m_repr (da_cons (de_var 9) (da_nil))) (de_callB (cd_repr hgd hr.units) m_repr (da_cons (de_callTy cd_tuple m_tuple (da_cons (de_var 6) (da_nil))) (da_nil)))) (dw_or1 (dt_cmp (od_ne hr.units) (de_call k_way_count (hr.mono (by decide)) hgd (da_cons (de_var 5) (da_nil))) (de_var 7))))) (ds_one (ds_ret (de_bl))) (ds_nil)) (ds_one (ds_for PassesOwn.never rfl (di_zip m_zip (da_cons (de_var 5) (da_cons (de_var 9) (da_nil)))) (dg_tp rfl (dgs_cons (dg_nm 8 nd) (dgs_cons (dg_nm 10 nd) (dgs_nil)))) (ds_one (ds_if (dt_cmp (od_eq hr.units) (de_call k_f_law_alternative_holds (hr.mono (by decide)) hgd (da_cons (de_var 8) (da_cons (de_var 4) (da_nil)))) (de_cmp (od_eq hr.units) (de_ix (xd_any (hu_of hr)) (de_call k_judge_alternatives (hr.mono (by decide)) hgd (da_cons (de_var 10) (da_cons (de_var 4) (da_nil)))) (de_int)) (de_str))) (ds_one (ds_ret (de_bl))) (ds_nil)))))))))))) (ds_one (ds_ret (de_bl))))))
theorem kn_law {P : Program} {w : World} {K : PySem.W.Frag} {mg : Str → Option Value} {base : Heap} (m_len : mg "len" = none) (m_range : mg "range" = none) (m_repr : mg "repr" = none) (m_tuple : mg "tuple" = none) (m_zip : mg "zip" = none) (k_f_law_pen : Known P w K mg base L_f_law_pen "_law_pen" sp_f_law_pen) (k_denials : Known P w K mg base L_denials "denials" sp_denials) (k_f_law_draw : Known P w K mg base L_f_law_draw "_law_draw" sp_f_law_draw) (k_f_law_times : Known P w K mg base L_f_law_times "_law_times" sp_f_law_times) (k_f_law_alternatives : Known P w K mg base L_f_law_alternatives "_law_alternatives" sp_f_law_alternatives) (k_way_count : Known P w K mg base L_way_count "way_count" sp_way_count) (k_f_law_alternative_holds : Known P w K mg base L_f_law_alternative_holds "_law_alternative_holds" sp_f_law_alternative_holds) (k_judge_alternatives : Known P w K mg base L_judge_alternatives "judge_alternatives" sp_judge_alternatives) {f : Addr} {fd : FuncData} (F : Fun K "law" "law" s_law f fd) (hm : mg "law" = some (.ref f)) : Known P w K mg base L_law "law" sp_law :=
  .of F hm (keeps_of F sc_law (F.binds (ps := ["_law_script"]) fun _ _ _ _ _ _ us hl => match us, hl with | [_], _ => rfl) (dr_law m_len m_range m_repr m_tuple m_zip k_f_law_pen k_denials k_f_law_draw k_f_law_times k_f_law_alternatives k_way_count k_f_law_alternative_holds k_judge_alternatives f) ok_law)

/-! ### the head -/
def d_broken_side : He.DefD := ⟨("broken_side", none), "broken_side", "broken_side", defArgs s_broken_side, defBody s_broken_side, defScope s_broken_side, [], []⟩
def d_first_break : He.DefD := ⟨("first_break", none), "first_break", "first_break", defArgs s_first_break, defBody s_first_break, defScope s_first_break, [], []⟩
def d_judge_alternatives : He.DefD := ⟨("judge_alternatives", none), "judge_alternatives", "judge_alternatives", defArgs s_judge_alternatives, defBody s_judge_alternatives, defScope s_judge_alternatives, [], []⟩
def d_denials_of : He.DefD := ⟨("denials_of", none), "denials_of", "denials_of", defArgs s_denials_of, defBody s_denials_of, defScope s_denials_of, [], []⟩
def d_denials : He.DefD := ⟨("denials", none), "denials", "denials", defArgs s_denials, defBody s_denials, defScope s_denials, [], []⟩
def d_way_count : He.DefD := ⟨("way_count", none), "way_count", "way_count", defArgs s_way_count, defBody s_way_count, defScope s_way_count, [], []⟩
def d_f_law_pen : He.DefD := ⟨("_law_pen", none), "_law_pen", "_law_pen", defArgs s_f_law_pen, defBody s_f_law_pen, defScope s_f_law_pen, [], []⟩
def d_f_law_fresh : He.DefD := ⟨("_law_fresh", none), "_law_fresh", "_law_fresh", defArgs s_f_law_fresh, defBody s_f_law_fresh, defScope s_f_law_fresh, [], []⟩
def d_f_law_draw : He.DefD := ⟨("_law_draw", none), "_law_draw", "_law_draw", defArgs s_f_law_draw, defBody s_f_law_draw, defScope s_f_law_draw, [], []⟩
def d_f_law_bound : He.DefD := ⟨("_law_bound", none), "_law_bound", "_law_bound", defArgs s_f_law_bound, defBody s_f_law_bound, defScope s_f_law_bound, [], []⟩
def d_f_law_difference : He.DefD := ⟨("_law_difference", none), "_law_difference", "_law_difference", defArgs s_f_law_difference, defBody s_f_law_difference, defScope s_f_law_difference, [], []⟩
def d_f_law_alternatives : He.DefD := ⟨("_law_alternatives", none), "_law_alternatives", "_law_alternatives", defArgs s_f_law_alternatives, defBody s_f_law_alternatives, defScope s_f_law_alternatives, [], []⟩
def d_f_law_times : He.DefD := ⟨("_law_times", none), "_law_times", "_law_times", defArgs s_f_law_times, defBody s_f_law_times, defScope s_f_law_times, [], []⟩
def d_f_law_side : He.DefD := ⟨("_law_side", none), "_law_side", "_law_side", defArgs s_f_law_side, defBody s_f_law_side, defScope s_f_law_side, [], []⟩
def d_f_law_alternative_holds : He.DefD := ⟨("_law_alternative_holds", none), "_law_alternative_holds", "_law_alternative_holds", defArgs s_f_law_alternative_holds, defBody s_f_law_alternative_holds, defScope s_f_law_alternative_holds, [], []⟩
def d_law : He.DefD := ⟨("law", none), "law", "law", defArgs s_law, defBody s_law, defScope s_law, [], []⟩
def fnl : List He.DefD := [d_broken_side, d_first_break, d_judge_alternatives, d_denials_of, d_denials, d_way_count, d_f_law_pen, d_f_law_fresh, d_f_law_draw, d_f_law_bound, d_f_law_difference, d_f_law_alternatives, d_f_law_times, d_f_law_side, d_f_law_alternative_holds, d_law]
def fal : List He.Fa := [.glo "broken_side", .glo "first_break", .glo "judge_alternatives", .glo "denials_of", .glo "denials", .glo "way_count", .glo "_law_pen", .glo "_law_fresh", .glo "_law_draw", .glo "_law_bound", .glo "_law_difference", .glo "_law_alternatives", .glo "_law_times", .glo "_law_side", .glo "_law_alternative_holds", .glo "law", .free "enumerate", .free "tuple", .free "len", .free "list", .free "range", .free "int", .free "repr", .free "zip"]
abbrev R : PySem.W.OpenRow := PySem.W.OpenLaw.row PySem.Challenge.rw_whenline_k04_denials
abbrev hk : PySem.W.Hook := He.hookD 4 fal fnl
def ob (s : PySem.W.SharedT) : He.AlD := He.obsDG 4 fal fnl (HandSHeadRun.getT s)
theorem ob_eq (s : PySem.W.SharedT) : ob s = hk.obs s.abs := He.obsDG_eq (HandSHeadRun.getT_eq s)
def loose : List Str := (["broken_side", "first_break", "judge_alternatives", "denials_of", "denials", "way_count", "_law_pen", "_law_fresh", "_law_draw", "_law_bound", "_law_difference", "_law_alternatives", "_law_times", "_law_side", "_law_alternative_holds"] : List Str)
theorem run (w : World) : HandSHeadRun.RunEq R (PySem.W.view R.prog [17]) hk ob 4000 loose w := by
  intro os
  kernel_rfl
theorem facts {P : Program} {w : World} {K : PySem.W.Frag} {h : Heap} {mg : Str → Option Value} {f : Addr} (X : K.In h) (G : h.Ns mainGlobals mg) (hfa : mg ("law" : Str) = some (.ref f)) (c : He.SaysD fal fnl K) (base : Heap) : Keeps P w K mg base L_law f (spLaw 63) := by
  obtain ⟨fd0, F0⟩ := c.def_ 0 (d := d_broken_side) rfl
  have g0 : mg "broken_side" = _ := He.glo_ok X G (c.fact 0 (f := .glo "broken_side") rfl)
  obtain ⟨fd1, F1⟩ := c.def_ 1 (d := d_first_break) rfl
  have g1 : mg "first_break" = _ := He.glo_ok X G (c.fact 1 (f := .glo "first_break") rfl)
  obtain ⟨fd2, F2⟩ := c.def_ 2 (d := d_judge_alternatives) rfl
  have g2 : mg "judge_alternatives" = _ := He.glo_ok X G (c.fact 2 (f := .glo "judge_alternatives") rfl)
  obtain ⟨fd3, F3⟩ := c.def_ 3 (d := d_denials_of) rfl
  have g3 : mg "denials_of" = _ := He.glo_ok X G (c.fact 3 (f := .glo "denials_of") rfl)
  obtain ⟨fd4, F4⟩ := c.def_ 4 (d := d_denials) rfl
  have g4 : mg "denials" = _ := He.glo_ok X G (c.fact 4 (f := .glo "denials") rfl)
  obtain ⟨fd5, F5⟩ := c.def_ 5 (d := d_way_count) rfl
  have g5 : mg "way_count" = _ := He.glo_ok X G (c.fact 5 (f := .glo "way_count") rfl)
  obtain ⟨fd6, F6⟩ := c.def_ 6 (d := d_f_law_pen) rfl
  have g6 : mg "_law_pen" = _ := He.glo_ok X G (c.fact 6 (f := .glo "_law_pen") rfl)
  obtain ⟨fd7, F7⟩ := c.def_ 7 (d := d_f_law_fresh) rfl
  have g7 : mg "_law_fresh" = _ := He.glo_ok X G (c.fact 7 (f := .glo "_law_fresh") rfl)
  obtain ⟨fd8, F8⟩ := c.def_ 8 (d := d_f_law_draw) rfl
  have g8 : mg "_law_draw" = _ := He.glo_ok X G (c.fact 8 (f := .glo "_law_draw") rfl)
  obtain ⟨fd9, F9⟩ := c.def_ 9 (d := d_f_law_bound) rfl
  have g9 : mg "_law_bound" = _ := He.glo_ok X G (c.fact 9 (f := .glo "_law_bound") rfl)
  obtain ⟨fd10, F10⟩ := c.def_ 10 (d := d_f_law_difference) rfl
  have g10 : mg "_law_difference" = _ := He.glo_ok X G (c.fact 10 (f := .glo "_law_difference") rfl)
  obtain ⟨fd11, F11⟩ := c.def_ 11 (d := d_f_law_alternatives) rfl
  have g11 : mg "_law_alternatives" = _ := He.glo_ok X G (c.fact 11 (f := .glo "_law_alternatives") rfl)
  obtain ⟨fd12, F12⟩ := c.def_ 12 (d := d_f_law_times) rfl
  have g12 : mg "_law_times" = _ := He.glo_ok X G (c.fact 12 (f := .glo "_law_times") rfl)
  obtain ⟨fd13, F13⟩ := c.def_ 13 (d := d_f_law_side) rfl
  have g13 : mg "_law_side" = _ := He.glo_ok X G (c.fact 13 (f := .glo "_law_side") rfl)
  obtain ⟨fd14, F14⟩ := c.def_ 14 (d := d_f_law_alternative_holds) rfl
  have g14 : mg "_law_alternative_holds" = _ := He.glo_ok X G (c.fact 14 (f := .glo "_law_alternative_holds") rfl)
  obtain ⟨fd15, F15⟩ := c.def_ 15 (d := d_law) rfl
  have g15 : mg "law" = _ := He.glo_ok X G (c.fact 15 (f := .glo "law") rfl)
  have m_enumerate : mg "enumerate" = none := He.free_ok X G (c.fact 16 (f := .free "enumerate") rfl)
  have m_tuple : mg "tuple" = none := He.free_ok X G (c.fact 17 (f := .free "tuple") rfl)
  have m_len : mg "len" = none := He.free_ok X G (c.fact 18 (f := .free "len") rfl)
  have m_list : mg "list" = none := He.free_ok X G (c.fact 19 (f := .free "list") rfl)
  have m_range : mg "range" = none := He.free_ok X G (c.fact 20 (f := .free "range") rfl)
  have m_int : mg "int" = none := He.free_ok X G (c.fact 21 (f := .free "int") rfl)
  have m_repr : mg "repr" = none := He.free_ok X G (c.fact 22 (f := .free "repr") rfl)
  have m_zip : mg "zip" = none := He.free_ok X G (c.fact 23 (f := .free "zip") rfl)
  have k_broken_side : Known P w K mg base L_broken_side "broken_side" sp_broken_side := kn_broken_side (fun_of F0) g0
  have k_first_break : Known P w K mg base L_first_break "first_break" sp_first_break := kn_first_break m_enumerate k_broken_side (fun_of F1) g1
  have k_judge_alternatives : Known P w K mg base L_judge_alternatives "judge_alternatives" sp_judge_alternatives := kn_judge_alternatives m_enumerate m_tuple k_first_break (fun_of F2) g2
  have k_denials_of : Known P w K mg base L_denials_of "denials_of" sp_denials_of := kn_denials_of (fun_of F3) g3
  have k_denials : Known P w K mg base L_denials "denials" sp_denials := kn_denials m_tuple k_denials_of (fun_of F4) g4
  have k_way_count : Known P w K mg base L_way_count "way_count" sp_way_count := kn_way_count m_len k_denials (fun_of F5) g5
  have k_f_law_pen : Known P w K mg base L_f_law_pen "_law_pen" sp_f_law_pen := kn_f_law_pen m_list (fun_of F6) g6
  have k_f_law_fresh : Known P w K mg base L_f_law_fresh "_law_fresh" sp_f_law_fresh := kn_f_law_fresh m_len m_range (fun_of F7) g7
  have k_f_law_draw : Known P w K mg base L_f_law_draw "_law_draw" sp_f_law_draw := kn_f_law_draw k_f_law_fresh (fun_of F8) g8
  have k_f_law_bound : Known P w K mg base L_f_law_bound "_law_bound" sp_f_law_bound := kn_f_law_bound k_f_law_draw (fun_of F9) g9
  have k_f_law_difference : Known P w K mg base L_f_law_difference "_law_difference" sp_f_law_difference := kn_f_law_difference k_f_law_draw k_f_law_bound (fun_of F10) g10
  have k_f_law_alternatives : Known P w K mg base L_f_law_alternatives "_law_alternatives" sp_f_law_alternatives := kn_f_law_alternatives m_int m_range m_tuple k_f_law_draw k_f_law_difference (fun_of F11) g11
  have k_f_law_times : Known P w K mg base L_f_law_times "_law_times" sp_f_law_times := kn_f_law_times m_range m_tuple k_f_law_draw (fun_of F12) g12
  have k_f_law_side : Known P w K mg base L_f_law_side "_law_side" sp_f_law_side := kn_f_law_side (fun_of F13) g13
  have k_f_law_alternative_holds : Known P w K mg base L_f_law_alternative_holds "_law_alternative_holds" sp_f_law_alternative_holds := kn_f_law_alternative_holds k_f_law_side (fun_of F14) g14
  have k_law : Known P w K mg base L_law "law" sp_law := kn_law m_len m_range m_repr m_tuple m_zip k_f_law_pen k_denials k_f_law_draw k_f_law_times k_f_law_alternatives k_way_count k_f_law_alternative_holds k_judge_alternatives (fun_of F15) g15
  obtain ⟨fz, h1, _, h2⟩ := k_law.ex
  rw [hfa] at h1
  cases h1
  exact h2

end K04
open PySem PySem.W PySem.Calls PyProof.Rows
theorem PySem.Challenge.cw_whenline_k04_denials_holds : PySem.Challenge.rw_whenline_k04_denials.Holds := by
  w_on; o_law
  refine HandSHeadRun.head_any (r := OpenLaw.row PySem.Challenge.rw_whenline_k04_denials) (q := view (OpenLaw.row PySem.Challenge.rw_whenline_k04_denials).prog [17]) (H := K04.hk) (ob := K04.ob) (M := 4000) (loose := K04.loose) (d := HandSHeadRun.topDef (OpenLaw.row PySem.Challenge.rw_whenline_k04_denials).prog 17) (kwd := []) K04.ob_eq
    (by kernel_rfl) (fun s => by kernel_rfl) K04.run (by kernel_rfl) (by kernel_rfl) (by kernel_rfl) (by rfl) (by first | assumption | decide +kernel) (by decide +kernel) ⟨rfl, rfl, rfl, rfl, rfl, by decide +kernel⟩ ?hw ?hc
  case hw => w_witness2
  case hc =>
    refine DL.walk_D (l := PySem.Challenge.rw_whenline_k04_denials) (n := 63) (k := K04.L_law) rfl (by decide) (by kernel_rfl) ⟨rfl, by decide, by decide⟩ ?F
    intro w mg fa h Y G hmg0
    obtain ⟨K, KX, c⟩ := Y
    have hmg : mg ("law" : PySem.Str) = some (.ref fa) := by
      have e : (HandSHeadRun.topDef (OpenLaw.row PySem.Challenge.rw_whenline_k04_denials).prog 17).name = ("law" : PySem.Str) := by kernel_rfl
      rw [← e]
      exact hmg0
    exact ⟨K, KX, fun base _ _ => K04.facts KX G hmg c base⟩

